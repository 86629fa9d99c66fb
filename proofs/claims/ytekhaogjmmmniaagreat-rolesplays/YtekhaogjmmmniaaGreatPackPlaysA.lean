/- Part 1 of the proof of RolesPlaysSaid: what the functions reached compute, in plain words and by walks through their code. No statement of the rows is proved here. -/
import Derived.Test.YtekhaogjmmmniaaGreatProg
import Derived.Below
import Derived.OrdersHeld
import Derived.Laws.Rows
import Derived.Tactics2
import Derived.KernelRfl
import Derived.Laws.NewBlocks
import Derived.IntWalk
import Derived.ChangeKeysEq
import Derived.Lib.Bytealg
import Derived.Laws.AppendOwnNone
import Derived.Great.BuildSlice
import Derived.WideKeyRuns
import Derived.Sort.Walk0
import Derived.Laws.Cover3
namespace Go.Proofs.YtekhaogjmmmniaaGreat
open Go Go.RowKit

/-- What a slot is known to hold. -/
def lk : List (Nat × Value) → Nat → Option Value
  | [], _ => none
  | (s, v) :: r, t => cond (Nat.beq s t) (some v) (lk r t)

def ev (env : List (Nat × Value)) : Operand → Option Value
  | .tmp t => lk env t
  | .const v => some v
  | .global g => some (.pointer (some ⟨g, 0, none⟩))
  | .func f => some (.func (.func f) #[] #[])

/-- The frame has n slots, nothing is deferred, and the slots named hold what is said. -/
structure Kn (n : Nat) (env : List (Nat × Value)) (a : Act) : Prop where
  dn : a.defers = []
  sz : a.tmps.size = n
  kn : ∀ t v, lk env t = some v → a.tmps.getD t undef = v

theorem Kn.eval {n : Nat} {env : List (Nat × Value)} {a : Act} (h : Kn n env a) {x : Operand} {v : Value} (hx : ev env x = some v) : a.eval x = v := by
  cases x with
  | tmp t => exact h.kn t v hx
  | const c => exact Option.some.inj hx
  | global g => exact Option.some.inj hx
  | func f => exact Option.some.inj hx

theorem lk_cons (d : Nat) (v : Value) (env : List (Nat × Value)) (t : Nat) : lk ((d, v) :: env) t = if d = t then some v else lk env t := by
  show cond (Nat.beq d t) (some v) (lk env t) = _
  by_cases h : d = t
  · subst h; simp
  · have : Nat.beq d t = false := by
      cases hb : Nat.beq d t with
      | false => rfl
      | true => exact absurd (Nat.eq_of_beq_eq_true hb) h
    rw [this, if_neg h]; rfl

theorem Kn.put {n : Nat} {env : List (Nat × Value)} {a : Act} (h : Kn n env a) {d : Nat} (hd : d < n) (v : Value) : Kn n ((d, v) :: env) (a.put (some d) v) := by
  refine ⟨h.dn, by simp [Act.put, h.sz], fun t u hu => ?_⟩
  rw [lk_cons] at hu
  simp only [Act.put, Array.getD_eq_getD_getElem?, Array.getElem?_setIfInBounds]
  by_cases e : d = t
  · subst e
    simp only [↓reduceIte] at hu ⊢
    have : d < a.tmps.size := by rw [h.sz]; exact hd
    simp [this, Option.some.inj hu]
  · simp only [e, ↓reduceIte] at hu ⊢
    have := h.kn t u hu
    simpa [Array.getD_eq_getD_getElem?] using this

/-- Fewer things known. -/
def subEnv (big : List (Nat × Value)) : List (Nat × Value) → Prop
  | [] => True
  | (s, v) :: r => lk big s = some v ∧ subEnv big r

theorem lk_mem {env : List (Nat × Value)} {t : Nat} {v : Value} (h : lk env t = some v) : (t, v) ∈ env := by
  induction env with
  | nil => cases h
  | cons p r ih =>
    obtain ⟨d, u⟩ := p
    rw [lk_cons] at h
    by_cases e : d = t
    · subst e; simp at h; subst h; exact List.mem_cons_self
    · rw [if_neg e] at h; exact List.mem_cons_of_mem _ (ih h)

theorem subEnv_mem {big env : List (Nat × Value)} (h : subEnv big env) {p : Nat × Value} (hp : p ∈ env) : lk big p.1 = some p.2 := by
  induction env with
  | nil => cases hp
  | cons q r ih =>
    cases hp with
    | head => exact h.1
    | tail _ hp => exact ih h.2 hp

theorem Kn.sub {n : Nat} {big env : List (Nat × Value)} {a : Act} (h : Kn n big a) (hs : subEnv big env) : Kn n env a :=
  ⟨h.dn, h.sz, fun _ _ hu => h.kn _ _ (subEnv_mem hs (lk_mem hu))⟩

/-! ### Posts -/
abbrev Pst := Act → World → Prop

def lkE : List (Nat × Pst) → Nat → Option Pst
  | [], _ => none
  | p :: r, t => cond (Nat.beq p.1 t) (some p.2) (lkE r t)

/-- What is to hold at the normal end (N), at the exits of blocks (E), at a return (R); no other way out is allowed. -/
def mkQ (N : Pst) (E : List (Nat × Pst)) (R : Pst) : Exit → Act → World → Prop
  | .normal, a, w => N a w
  | .exit id, a, w => match lkE E id with | some K => K a w | none => False
  | .ret, a, w => R a w
  | _, _, _ => False

/-- Whatever frame of which env is known. -/
def AT (n : Nat) (env : List (Nat × Value)) (w : World) (K : Pst) : Prop := ∀ a, Kn n env a → K a w

def CW (c : Code) (N : Pst) (E : List (Nat × Pst)) (R : Pst) : Pst := fun a w => c.wp Tryz.prog (mkQ N E R) a w

section rules
variable {n : Nat} {env : List (Nat × Value)} {w : World} {N : Pst} {E : List (Nat × Pst)} {R : Pst}

theorem AT.sub {K : Pst} {env' : List (Nat × Value)} (hs : subEnv env env') (h : AT n env' w K) : AT n env w K := fun a ha => h a (ha.sub hs)

theorem c_seq {x y : Code} (h : AT n env w (CW x (CW y N E R) E R)) : AT n env w (CW (.seq x y) N E R) := fun a ha =>
  wp_seq (wp_mono (h a ha) fun e a' w' q => by cases e <;> exact q)

theorem c_skip (h : AT n env w N) : AT n env w (CW .skip N E R) := fun a ha => wp_skip (h a ha)
theorem c_ret (h : AT n env w R) : AT n env w (CW .ret N E R) := fun a ha => wp_ret (h a ha)
theorem c_exit {id : Nat} {K : Pst} (hE : lkE E id = some K) (h : AT n env w K) : AT n env w (CW (.exit id) N E R) := fun a ha => wp_exit (by
  show (match lkE E id with | some K => K a w | none => False)
  rw [hE]; exact h a ha)

theorem lkE_cons (d : Nat) (v : Pst) (E : List (Nat × Pst)) (t : Nat) : lkE ((d, v) :: E) t = if d = t then some v else lkE E t := by
  show cond (Nat.beq d t) (some v) (lkE E t) = _
  by_cases h : d = t
  · subst h; simp
  · have : Nat.beq d t = false := by
      cases hb : Nat.beq d t with
      | false => rfl
      | true => exact absurd (Nat.eq_of_beq_eq_true hb) h
    rw [this, if_neg h]; rfl

theorem c_block {id : Nat} {c : Code} (h : AT n env w (CW c N ((id, N) :: E) R)) : AT n env w (CW (.block id c) N E R) := fun a ha =>
  wp_block (wp_mono (h a ha) fun e a' w' q => by
    cases e with
    | exit id' =>
      change (match lkE ((id, N) :: E) id' with | some K => K a' w' | none => False) at q
      rw [lkE_cons] at q
      show if id' = id then N a' w' else _
      by_cases hi : id = id'
      · subst hi; simpa using q
      · rw [if_neg (Ne.symm hi)]; rw [if_neg hi] at q; exact q
    | normal => exact q
    | ret => exact q
    | goto l => exact q
    | panic c => exact q
    | outgrown => exact q)

theorem c_condT {c : Operand} {x y : Code} {b : Bool} (hc : ev env c = some (.bool b)) (hb : b = true) (ht : AT n env w (CW x N E R)) : AT n env w (CW (.cond c x y) N E R) := fun a ha => by subst hb; exact wp_cond_true (ha.eval hc) (ht a ha)
theorem c_condF {c : Operand} {x y : Code} {b : Bool} (hc : ev env c = some (.bool b)) (hb : b = false) (hf : AT n env w (CW y N E R)) : AT n env w (CW (.cond c x y) N E R) := fun a ha => by subst hb; exact wp_cond_false (ha.eval hc) (hf a ha)
/-- A loop: whatever i, the slots of 'en i' and 'Inv i' hold at a round's head; a round lowers 'mu'. -/
theorem c_loop {ι : Type} {c : Code} (Inv : ι → World → Prop) (en : ι → List (Nat × Value)) (mu : ι → Nat) (i0 : ι) (h0 : Inv i0 w) (hs : subEnv env (en i0))
    (round : ∀ i w, Inv i w → AT n (en i) w (CW c (fun a' w' => ∃ i', Inv i' w' ∧ mu i' < mu i ∧ Kn n (en i') a') E R)) : AT n env w (CW (.loop c) N E R) := by
  intro a ha b k cs
  have key : ∀ m i, mu i = m → ∀ a w, Inv i w → Kn n (en i) a →
      ∃ e a' w', mkQ N E R e a' w' ∧ Arrives Tryz.prog (lone (b.at a (.code c :: .inLoop c :: k)) cs w) b k cs e a' w' := by
    intro m
    induction m using Nat.strongRecOn with
    | _ m ih =>
      intro i hi a w hI hK
      obtain ⟨e, a₁, w₁, hq, harr⟩ := round i w hI a hK b (.inLoop c :: k) cs
      cases e with
      | normal =>
        obtain ⟨i', hI', hlt, hK'⟩ := hq
        obtain ⟨e₂, a₂, w₂, hq₂, harr₂⟩ := ih (mu i') (hi ▸ hlt) i' rfl a₁ w₁ hI' hK'
        exact ⟨e₂, a₂, w₂, hq₂, .of_steps (Steps.trans harr (.one step_inLoop)) harr₂⟩
      | exit id => exact ⟨.exit id, a₁, w₁, hq, .pass (x := .inLoop c) rfl (fun _ _ => .inl (by simp)) harr⟩
      | goto l => exact (hq : False).elim
      | ret => exact ⟨.ret, a₁, w₁, hq, .pass (x := .inLoop c) rfl (fun _ _ => .inl (by simp)) harr⟩
      | panic ch => exact (hq : False).elim
      | outgrown => exact (hq : False).elim
  obtain ⟨e, a', w', hq, harr⟩ := key _ i0 rfl a w h0 (ha.sub hs)
  exact ⟨e, a', w', hq, .of_steps (.one step_loop) harr⟩
end rules
end Go.Proofs.YtekhaogjmmmniaaGreat
namespace Go.Proofs.YtekhaogjmmmniaaGreat
open Go Go.RowKit

/-- Operation o, run in w over whatever frame of which env is known, comes to r in w'. -/
def Run (n : Nat) (env : List (Nat × Value)) (w : World) (o : Oper) (r : Next) (w' : World) : Prop :=
  ∀ a, Kn n env a → (execOp a.eval o).run Tryz.prog w = .ok r w'

def LW (ops : Array Oper) (rest : List Oper) (N : Pst) (E : List (Nat × Pst)) (R : Pst) : Pst := fun a w => wpList Tryz.prog ops (mkQ N E R) rest a w

section rules
variable {n : Nat} {env : List (Nat × Value)} {w w' : World} {N : Pst} {E : List (Nat × Pst)} {R : Pst} {ops : Array Oper} {rest : List Oper} {o : Oper}

theorem c_reg {id : Nat} {l : List Oper} (h : AT n env w (LW l.toArray l N E R)) : AT n env w (CW (.region id l.toArray false) N E R) := fun a ha => wp_region_lit (h a ha)

theorem l_nil (h : AT n env w N) : AT n env w (LW ops [] N E R) := fun a ha => wpList_nil (h a ha)

/-- The guard lets o run; it does not. -/
def GOn (n : Nat) (env : List (Nat × Value)) (ops : Array Oper) (o : Oper) : Prop := ∀ a, Kn n env a → Region.wanted o (yielded ops a.tmps) = true
def GOff (n : Nat) (env : List (Nat × Value)) (ops : Array Oper) (o : Oper) : Prop := ∀ a, Kn n env a → Region.wanted o (yielded ops a.tmps) = false

theorem yielded_of {a : Act} (ha : Kn n env a) {j dj : Nat} {oj : Oper} {b : Bool} (hj : ops[j]? = some oj) (hdj : oj.dst = some dj) (hb : lk env dj = some (.bool b)) : yielded ops a.tmps j = some b := by
  have h1 := ha.kn dj _ hb
  have h2 : a.tmps[dj]? = some (.bool b) := by
    rw [Array.getD_eq_getD_getElem?] at h1
    cases hq : a.tmps[dj]? with
    | none => rw [hq] at h1; cases h1
    | some v => rw [hq] at h1; rw [show v = Value.bool b from h1]
  simp [yielded, hj, hdj, h2]

theorem yielded_undef {a : Act} (ha : Kn n env a) {j dj : Nat} {oj : Oper} (hj : ops[j]? = some oj) (hdj : oj.dst = some dj) (hb : lk env dj = some undef) : yielded ops a.tmps j = none := by
  have h1 := ha.kn dj _ hb
  rw [Array.getD_eq_getD_getElem?] at h1
  simp only [yielded, hj, hdj, Option.bind_some]
  cases hq : a.tmps[dj]? with
  | none => rfl
  | some v => rw [hq] at h1; rw [show v = undef from h1]; rfl

theorem gn (hg : o.guard = none) : GOn n env ops o := fun _ _ => by simp [Region.wanted, hg]
theorem gy {j dj : Nat} {b b' : Bool} {oj : Oper} (hg : o.guard = some (j, b)) (hj : ops[j]? = some oj) (hdj : oj.dst = some dj) (hb : lk env dj = some (.bool b')) (he : b' = b) : GOn n env ops o := fun a ha => by
  subst he; simp [Region.wanted, hg, yielded_of ha hj hdj hb]
theorem gno {j dj : Nat} {b b' : Bool} {oj : Oper} (hg : o.guard = some (j, b)) (hj : ops[j]? = some oj) (hdj : oj.dst = some dj) (hb : lk env dj = some (.bool b')) (he : b' = !b) : GOff n env ops o := fun a ha => by
  subst he; simp [Region.wanted, hg, yielded_of ha hj hdj hb]
theorem gnu {j dj : Nat} {b : Bool} {oj : Oper} (hg : o.guard = some (j, b)) (hj : ops[j]? = some oj) (hdj : oj.dst = some dj) (hb : lk env dj = some undef) : GOff n env ops o := fun a ha => by
  simp [Region.wanted, hg, yielded_undef ha hj hdj hb]

theorem list_on {K : Act → World → Prop} {a : Act} (hw : Region.wanted o (yielded ops a.tmps) = true) (h : o.wp Tryz.prog a w K (mkQ N E R)) (hK : ∀ a w, K a w → wpList Tryz.prog ops (mkQ N E R) rest a w) :
    wpList Tryz.prog ops (mkQ N E R) (o :: rest) a w := by
  unfold wpList
  rw [if_pos hw]
  exact .inl (Oper.wp_mono hK h)

theorem l_val {d : Nat} {v : Value} (hg : GOn n env ops o) (hd : o.dst = some d) (hn : Nat.blt d n = true) (hr : Run n env w o (.value v) w')
    (h : AT n ((d, v) :: env) w' (LW ops rest N E R)) : AT n env w (LW ops (o :: rest) N E R) := fun a ha => by
  refine list_on (hg a ha) (K := fun a w => wpList Tryz.prog ops (mkQ N E R) rest a w) ?_ (fun _ _ h => h)
  unfold Oper.wp
  rw [hr a ha, Oper.upon_value, hd]
  exact h _ (ha.put (Nat.le_of_ble_eq_true hn) v)

theorem l_vnone {v : Value} (hg : GOn n env ops o) (hd : o.dst = none) (hr : Run n env w o (.value v) w')
    (h : AT n env w' (LW ops rest N E R)) : AT n env w (LW ops (o :: rest) N E R) := fun a ha => by
  refine list_on (hg a ha) (K := fun a w => wpList Tryz.prog ops (mkQ N E R) rest a w) ?_ (fun _ _ h => h)
  unfold Oper.wp
  rw [hr a ha, Oper.upon_value, hd]
  exact h _ ha

theorem l_skip (hg : GOn n env ops o) (hd : o.dst = none) (hr : Run n env w o .skip w')
    (h : AT n env w' (LW ops rest N E R)) : AT n env w (LW ops (o :: rest) N E R) := fun a ha => by
  refine list_on (hg a ha) (K := fun a w => wpList Tryz.prog ops (mkQ N E R) rest a w) ?_ (fun _ _ h => h)
  unfold Oper.wp
  rw [hr a ha, Oper.upon_skip, hd]
  exact h _ ha

/-- A call that returns: R tells of the value and the world. -/
def Ret (f : FuncId) (args : Array Value) (w : World) (Rc : Value → World → Prop) : Prop :=
  Calls Tryz.prog f args w fun e w' => match e with | .returned v => Rc v w' | _ => False

theorem Ret.mono {f : FuncId} {args : Array Value} {Rc Rc' : Value → World → Prop} (h : Ret f args w Rc) (hm : ∀ v w', Rc v w' → Rc' v w') : Ret f args w Rc' :=
  Calls.mono h fun e w' he => by cases e with
    | returned v => exact hm v w' he
    | panicked c => exact he
    | outgrown => exact he

theorem l_call {d : Nat} {f : FuncId} {args : Array Value} {Rc : Value → World → Prop} (hg : GOn n env ops o) (hd : o.dst = some d) (hn : Nat.blt d n = true)
    (hr : Run n env w o (.enter f args) w) (hc : Ret f args w Rc) (h : ∀ v w', Rc v w' → AT n ((d, v) :: env) w' (LW ops rest N E R)) : AT n env w (LW ops (o :: rest) N E R) := fun a ha => by
  refine list_on (hg a ha) (K := fun a w => wpList Tryz.prog ops (mkQ N E R) rest a w) ?_ (fun _ _ h => h)
  unfold Oper.wp
  rw [hr a ha, Oper.upon_enter, hd]
  refine Calls.mono hc fun e w' he => ?_
  cases e with
  | returned v => exact h v w' he _ (ha.put (Nat.le_of_ble_eq_true hn) v)
  | panicked c => exact he.elim
  | outgrown => exact he.elim

/-- The guard does not let it run. -/
theorem l_off {d : Nat} (hg : GOff n env ops o) (hd : o.dst = some d) (hn : Nat.blt d n = true)
    (h : AT n ((d, undef) :: env) w (LW ops rest N E R)) : AT n env w (LW ops (o :: rest) N E R) := fun a ha => by
  refine wpList_skip (hg a ha) ?_
  rw [hd]
  exact h _ (ha.put (Nat.le_of_ble_eq_true hn) undef)
theorem l_v {d : Nat} {v : Value} {op : Op} {ty : TypeId} {pos : String} {af : Array Edge} (hn : Nat.blt d n = true) (hr : Run n env w ⟨some d, op, ty, pos, af, none⟩ (.value v) w')
    (h : AT n ((d, v) :: env) w' (LW ops rest N E R)) : AT n env w (LW ops (⟨some d, op, ty, pos, af, none⟩ :: rest) N E R) := l_val (gn rfl) rfl hn hr h
theorem c_sr {id : Nat} {l : List Oper} {y : Code} (h : AT n env w (LW l.toArray l (CW y N E R) E R)) : AT n env w (CW (.seq (.region id l.toArray false) y) N E R) := c_seq (c_reg h)
end rules

/-! ### A region that draws its order -/
/-- op j waits, through others, for op i. -/
def waitsFor (ops : Array Oper) : Nat → Nat → Nat → Bool
  | 0, _, _ => false
  | f + 1, j, i => match ops[j]? with
    | some oj => oj.after.any fun e => Region.binds .any e && (Nat.beq e.on i || waitsFor ops f e.on i)
    | none => false

/-- Whoever is listed has those listed for whom it waits. -/
def closedL (ops : Array Oper) (listed : Array Bool) : Prop :=
  ∀ j oj, ops[j]? = some oj → listed.getD j false = true → ∀ e ∈ oj.after, Region.binds .any e = true → listed.getD e.on false = true

theorem waits_listed {ops : Array Oper} {listed : Array Bool} (hc : closedL ops listed) : ∀ f j i, waitsFor ops f j i = true → listed.getD j false = true → listed.getD i false = true
  | 0, _, _, h, _ => by cases h
  | f + 1, j, i, h, hl => by
    unfold waitsFor at h
    cases hj : ops[j]? with
    | none => rw [hj] at h; cases h
    | some oj =>
      rw [hj] at h
      obtain ⟨e, he, hb⟩ : ∃ e ∈ oj.after, (Region.binds .any e && (Nat.beq e.on i || waitsFor ops f e.on i)) = true := by
        obtain ⟨k, hk, hb⟩ := Array.any_eq_true.1 h
        exact ⟨_, Array.getElem_mem hk, hb⟩
      rw [Bool.and_eq_true, Bool.or_eq_true] at hb
      have hle := hc j oj hj hl e he hb.1
      rcases hb.2 with h1 | h1
      · rw [← Nat.eq_of_beq_eq_true h1]; exact hle
      · exact waits_listed hc f e.on i h1 hle

/-- Was one of the late ones carried out? -/
def lateIn (late : List Nat) (listed : Array Bool) : Bool := late.any fun j => listed.getD j false

/-- Whatever order is picked; behind each operation S holds, till one of the late ones has been carried out. -/
def AnyL (ops : Array Oper) (Q : Exit → Act → World → Prop) (S : World → Prop) (late : List Nat) : Nat → Array Bool → Act → World → Prop
  | 0, listed, a, w => Region.ready .any ops listed = [] ∧ Q .normal a w
  | fuel + 1, listed, a, w =>
    (Region.ready .any ops listed = [] → Q .normal a w) ∧
    ∀ i ∈ Region.ready .any ops listed, wpOp Tryz.prog ops Q i (fun a' w' => (lateIn late (listed.setIfInBounds i true) = true ∨ S w') ∧ AnyL ops Q S late fuel (listed.setIfInBounds i true) a' w') a w

section draws
variable {ops : Array Oper} {Q : Exit → Act → World → Prop} {S : World → Prop} {late : List Nat}

theorem any_of_L : ∀ (fuel : Nat) (listed : Array Bool) (a : Act) (w : World), AnyL ops Q S late fuel listed a w → wpAny Tryz.prog .any ops Q fuel listed a w
  | 0, _, _, _, h => h
  | fuel + 1, _, _, _, h => ⟨h.1, fun i hi => wpOp_mono (fun a' w' h' => any_of_L fuel _ a' w' h'.2) (h.2 i hi)⟩

theorem getD_set (listed : Array Bool) (i k : Nat) (h : i ≠ k) (d : Bool) : (listed.setIfInBounds i true).getD k d = listed.getD k d := getD_set_ne d h

theorem closed_set {listed : Array Bool} {j : Nat} (hc : closedL ops listed) (hj : j ∈ Region.ready .any ops listed) : closedL ops (listed.setIfInBounds j true) := by
  intro k ok hk hl e he hb
  by_cases hkj : j = k
  · subst hkj
    obtain ⟨_, o, ho, hall⟩ := mem_ready.1 hj
    rw [hk] at ho; cases ho
    exact getD_set_true (hall e he hb)
  · rw [getD_set listed j k hkj] at hl
    exact getD_set_true (hc k ok hk hl e he hb)

/-- An operation that may come up, and yields its value in every world that meets S, may be taken first. -/
theorem L_first {i : Nat} {oi : Oper} {v : Value} (hi : ops[i]? = some oi) (hsel : ∀ (j : Nat) (o : Oper) cs b, ops[j]? = some o → o.op ≠ .select cs b)
    (hQ : ∀ c a w, Q (.panic c) (a.put oi.dst v) w → Q (.panic c) a w) (hil : i ∉ late) (hwl : ∀ l ∈ late, waitsFor ops ops.size l i = true) :
    ∀ (fuel : Nat) (listed : Array Bool) (a : Act) (w : World), closedL ops listed →
      (∀ j oj, ops[j]? = some oj → j ≠ i → listed.getD j true = false → (∀ e ∈ oj.after, Region.binds .any e = true → e.on ≠ i) → oi.apart ops oj = true) →
      i ∈ Region.ready .any ops listed → YieldsIf Tryz.prog ops S oi v a → S w →
      AnyL ops Q S late fuel (listed.setIfInBounds i true) (a.put oi.dst v) w → AnyL ops Q S late (fuel + 1) listed a w := by
  -- no late one is listed while i is not
  have hnl : ∀ listed : Array Bool, closedL ops listed → listed.getD i true = false → ∀ l ∈ late, listed.getD l false = false := by
    intro listed hc hli l hl
    cases hq : listed.getD l false with
    | false => rfl
    | true =>
      have h1 := waits_listed hc _ _ _ (hwl l hl) hq
      exfalso
      rcases Nat.lt_or_ge i listed.size with h' | h'
      · simp [h'] at h1 hli; rw [hli] at h1; cases h1
      · simp [Array.getElem?_eq_none h'] at h1
  intro fuel
  induction fuel with
  | zero =>
    intro listed a w hc _ hr hy hS H
    refine ⟨fun h => (by rw [h] at hr; cases hr), fun j hj => ?_⟩
    by_cases hji : j = i
    · subst hji; exact hy.wpOp hi hS ⟨.inr hS, H⟩
    · have := ready_mono hj hji
      rw [H.1] at this
      cases this
  | succ fuel ih =>
    intro listed a w hc hfree hr hy hS H
    refine ⟨fun h => (by rw [h] at hr; cases hr), fun j hj => ?_⟩
    by_cases hji : j = i
    · subst hji; exact hy.wpOp hi hS ⟨.inr hS, H⟩
    · have h1 := H.2 j (ready_mono hj hji)
      have hli := (mem_ready.1 hr).1
      obtain ⟨hjun, oj, hoj, hall⟩ := mem_ready.1 hj
      have hnot : ∀ e ∈ oj.after, Region.binds .any e = true → e.on ≠ i := fun e he hb heq => by
        have h1 := hall e he hb
        have h0 := (mem_ready.1 hr).1
        rw [heq] at h1
        rcases Nat.lt_or_ge i listed.size with h' | h'
        · simp [h'] at h0 h1; rw [h0] at h1; cases h1
        · simp [Array.getElem?_eq_none h'] at h1
      have hcj := closed_set hc hj
      have hlij : (listed.setIfInBounds j true).getD i true = false := by rw [getD_set_ne true hji]; exact hli
      have hnlj := hnl _ hcj hlij
      -- so behind j S holds
      have hSj : ∀ w', (lateIn late ((listed.setIfInBounds i true).setIfInBounds j true) = true ∨ S w') → S w' := by
        intro w' h
        rcases h with h | h
        · exfalso
          obtain ⟨l, hl, hq⟩ := List.any_eq_true.1 h
          rw [Array.setIfInBounds_comm _ _ (Ne.symm hji)] at hq
          have : i ≠ l := fun e => hil (e ▸ hl)
          rw [getD_set_ne false this, hnlj l hl] at hq
          cases hq
        · exact h
      have h2 := wpOp_putIf hoj (hfree j oj hoj hji hjun hnot) (fun cs b => hsel i oi cs b hi) (fun cs b => hsel j oj cs b hoj) hQ hy h1
      have hfree' : ∀ k ok, ops[k]? = some ok → k ≠ i → (listed.setIfInBounds j true).getD k true = false →
          (∀ e ∈ ok.after, Region.binds .any e = true → e.on ≠ i) → oi.apart ops ok = true := fun k ok hk hki hun hno => by
        refine hfree k ok hk hki ?_ hno
        by_cases hjk : j = k
        · subst hjk; exact hjun
        · rw [getD_set_ne true hjk] at hun; exact hun
      refine wpOp_mono (fun a' w' h3 => ⟨.inr (hSj w' h3.2.1), ih (listed.setIfInBounds j true) a' w' hcj hfree' (ready_mono hr (Ne.symm hji)) h3.1 (hSj w' h3.2.1) ?_⟩) h2
      rw [Array.setIfInBounds_comm _ _ hji]
      exact h3.2.2

/-- The order, as it is taken: each number with 'taken first' (true) or 'the only one that may come up' (false). -/
def orderOk (ops : Array Oper) (late : List Nat) : List (Nat × Bool) → Array Bool → Bool
  | [], listed => (Region.ready .any ops listed).isEmpty
  | (i, true) :: r, listed => !late.contains i && late.all (fun l => waitsFor ops ops.size l i) && Region.free .any ops listed i && (Region.ready .any ops listed).contains i && orderOk ops late r (listed.setIfInBounds i true)
  | (i, false) :: r, listed => (Region.ready .any ops listed == [i]) && orderOk ops late r (listed.setIfInBounds i true)

/-- What is to be shown along that order. -/
def SQ (ops : Array Oper) (Q : Exit → Act → World → Prop) (S : World → Prop) (late : List Nat) : List (Nat × Bool) → Bool → Act → World → Prop
  | [], _, a, w => Q .normal a w
  | (i, true) :: r, ld, a, w => S w ∧ ∃ oi v, ops[i]? = some oi ∧ YieldsIf Tryz.prog ops S oi v a ∧ SQ ops Q S late r ld (a.put oi.dst v) w
  | (i, false) :: r, ld, a, w => wpOp Tryz.prog ops Q i (fun a' w' => ((ld || late.contains i) = true ∨ S w') ∧ SQ ops Q S late r (ld || late.contains i) a' w') a w

theorem L_of_SQ (hsel : Region.noSelect ops = true) (hQ : ∀ c a w, ¬ Q (.panic c) a w) :
    ∀ (order : List (Nat × Bool)) (listed : Array Bool) (fuel : Nat) (ld : Bool) (a : Act) (w : World), order.length ≤ fuel → closedL ops listed → orderOk ops late order listed = true →
      (ld = true → lateIn late listed = true) → (∀ i ∈ order.map (·.1), i < listed.size) → SQ ops Q S late order ld a w → AnyL ops Q S late fuel listed a w
  | [], listed, fuel, ld, a, w, _, _, hok, _, _, h => by
    have hr : Region.ready .any ops listed = [] := by simpa [orderOk] using hok
    cases fuel with
    | zero => exact ⟨hr, h⟩
    | succ f => exact ⟨fun _ => h, by rw [hr]; intro i hi; cases hi⟩
  | (i, true) :: r, listed, 0, ld, a, w, hf, _, _, _, _, _ => by simp at hf
  | (i, false) :: r, listed, 0, ld, a, w, hf, _, _, _, _, _ => by simp at hf
  | (i, true) :: r, listed, fuel + 1, ld, a, w, hf, hc, hok, hld, hsz, h => by
    obtain ⟨hS, oi, v, hi, hy, h⟩ := h
    simp only [orderOk, Bool.and_eq_true] at hok
    obtain ⟨⟨⟨⟨h1, h2⟩, h3⟩, h4⟩, h5⟩ := hok
    have hmem : i ∈ Region.ready .any ops listed := by simpa using h4
    refine L_first hi (Region.noSelect_spec hsel) (fun c a w hq => (hQ c _ w hq).elim) (by simpa using h1) (List.all_eq_true.1 h2) fuel listed a w hc (Region.free_spec hi h3) hmem hy hS ?_
    refine L_of_SQ hsel hQ r _ fuel ld _ w (by simp at hf; exact hf) (closed_set hc hmem) h5 (fun e => ?_) (fun k hk => by simpa using hsz k (by simp at hk ⊢; exact Or.inr hk)) h
    obtain ⟨l, hl, hq⟩ := List.any_eq_true.1 (hld e)
    exact List.any_eq_true.2 ⟨l, hl, getD_set_true hq⟩
  | (i, false) :: r, listed, fuel + 1, ld, a, w, hf, hc, hok, hld, hsz, h => by
    simp only [orderOk, Bool.and_eq_true] at hok
    obtain ⟨h1, h5⟩ := hok
    have hr : Region.ready .any ops listed = [i] := by simpa using h1
    have hmem : i ∈ Region.ready .any ops listed := by rw [hr]; exact List.mem_singleton.2 rfl
    refine ⟨fun e => (by rw [hr] at e; cases e), fun k hk => ?_⟩
    rw [hr] at hk
    obtain rfl := List.mem_singleton.1 hk
    have hlt : k < listed.size := hsz k (by simp)
    have hldk : (ld || late.contains k) = true → lateIn late (listed.setIfInBounds k true) = true := by
      intro e
      rw [Bool.or_eq_true] at e
      rcases e with e | e
      · obtain ⟨l, hl, hq⟩ := List.any_eq_true.1 (hld e)
        exact List.any_eq_true.2 ⟨l, hl, getD_set_true hq⟩
      · refine List.any_eq_true.2 ⟨k, by simpa using e, ?_⟩
        simp [hlt]
    refine wpOp_mono (fun a' w' h3 => ⟨h3.1.imp hldk id, ?_⟩) h
    exact L_of_SQ hsel hQ r _ fuel _ a' w' (by simp at hf; exact hf) (closed_set hc hmem) h5 hldk (fun k hk => by simpa using hsz k (by simp at hk ⊢; exact Or.inr hk)) h3.2

/-- All that is asked of the region itself, as one Bool. -/
def regOk (ops : Array Oper) (late : List Nat) (order : List (Nat × Bool)) : Bool :=
  Region.noSelect ops && orderOk ops late order (Array.replicate ops.size false) && Nat.ble order.length ops.size && order.all (fun p => Nat.blt p.1 ops.size)
end draws

def SW (ops : Array Oper) (S : World → Prop) (late : List Nat) (order : List (Nat × Bool)) (ld : Bool) (N : Pst) (E : List (Nat × Pst)) (R : Pst) : Pst := fun a w => SQ ops (mkQ N E R) S late order ld a w

theorem mixed : Tryz.prog.follows .mixedOrders = true := by kernel_rfl

section rules
variable {n : Nat} {env : List (Nat × Value)} {w w' : World} {N : Pst} {E : List (Nat × Pst)} {R : Pst} {ops : Array Oper} {S : World → Prop} {late : List Nat} {r : List (Nat × Bool)} {ld : Bool} {i : Nat} {o : Oper}

theorem c_regD {id : Nat} (S : World → Prop) (late : List Nat) (order : List (Nat × Bool)) (hok : regOk ops late order = true) (h : AT n env w.drew (SW ops S late order false N E R)) :
    AT n env w (CW (.region id ops true) N E R) := fun a ha => by
  simp only [regOk, Bool.and_eq_true] at hok
  obtain ⟨⟨⟨h1, h2⟩, h3⟩, h4⟩ := hok
  refine wp_region_any mixed (any_of_L _ _ _ _ (L_of_SQ (S := S) (late := late) h1 (fun c a w hq => hq) order _ _ false a _ (Nat.le_of_ble_eq_true h3) ?_ h2 (by simp) ?_ (h a ha)))
  · intro j oj _ hl
    exfalso
    simp only [Array.getD_eq_getD_getElem?, Array.getElem?_replicate] at hl
    split at hl <;> simp at hl
  · intro k hk
    obtain ⟨p, hp, rfl⟩ := List.mem_map.1 hk
    have := List.all_eq_true.1 h4 p hp
    have h5 := Nat.le_of_ble_eq_true this
    simp only [Array.size_replicate]
    omega

theorem s_nil (h : AT n env w N) : AT n env w (SW ops S late [] ld N E R) := fun a ha => h a ha

theorem s_take {d : Nat} {v : Value} (hS : S w) (hi : ops[i]? = some o) (hg : GOn n env ops o) (hd : o.dst = some d) (hn : Nat.blt d n = true) (hr : ∀ w, S w → Run n env w o (.value v) w)
    (h : AT n ((d, v) :: env) w (SW ops S late r ld N E R)) : AT n env w (SW ops S late ((i, true) :: r) ld N E R) := fun a ha =>
  ⟨hS, o, v, hi, .inl ⟨hg a ha, fun w hw => hr w hw a ha⟩, by rw [hd]; exact h _ (ha.put (Nat.le_of_ble_eq_true hn) v)⟩

theorem s_off {d : Nat} (hS : S w) (hi : ops[i]? = some o) (hg : GOff n env ops o) (hd : o.dst = some d) (hn : Nat.blt d n = true)
    (h : AT n ((d, undef) :: env) w (SW ops S late r ld N E R)) : AT n env w (SW ops S late ((i, true) :: r) ld N E R) := fun a ha =>
  ⟨hS, o, undef, hi, .inr ⟨hg a ha, rfl⟩, by rw [hd]; exact h _ (ha.put (Nat.le_of_ble_eq_true hn) undef)⟩

theorem s_offx {d : Nat} (hS : (ld || late.contains i) = true ∨ S w) (hi : ops[i]? = some o) (hg : GOff n env ops o) (hd : o.dst = some d) (hn : Nat.blt d n = true)
    (h : AT n ((d, undef) :: env) w (SW ops S late r (ld || late.contains i) N E R)) : AT n env w (SW ops S late ((i, false) :: r) ld N E R) := fun a ha => by
  unfold SW SQ wpOp
  simp only [hi, hg a ha, Bool.false_eq_true, if_false]
  rw [hd]
  exact ⟨hS, h _ (ha.put (Nat.le_of_ble_eq_true hn) undef)⟩

theorem s_val {d : Nat} {v : Value} (hi : ops[i]? = some o) (hg : GOn n env ops o) (hd : o.dst = some d) (hn : Nat.blt d n = true) (hr : Run n env w o (.value v) w')
    (hS : (ld || late.contains i) = true ∨ S w') (h : AT n ((d, v) :: env) w' (SW ops S late r (ld || late.contains i) N E R)) : AT n env w (SW ops S late ((i, false) :: r) ld N E R) := fun a ha => by
  unfold SW SQ wpOp
  simp only [hi, hg a ha, if_true]
  refine .inl ?_
  unfold Oper.wp
  rw [hr a ha, Oper.upon_value, hd]
  exact ⟨hS, h _ (ha.put (Nat.le_of_ble_eq_true hn) v)⟩

theorem s_skip (hi : ops[i]? = some o) (hg : GOn n env ops o) (hd : o.dst = none) (hr : Run n env w o .skip w')
    (hS : (ld || late.contains i) = true ∨ S w') (h : AT n env w' (SW ops S late r (ld || late.contains i) N E R)) : AT n env w (SW ops S late ((i, false) :: r) ld N E R) := fun a ha => by
  unfold SW SQ wpOp
  simp only [hi, hg a ha, if_true]
  refine .inl ?_
  unfold Oper.wp
  rw [hr a ha, Oper.upon_skip, hd]
  exact ⟨hS, h _ ha⟩

theorem s_call {d : Nat} {f : FuncId} {args : Array Value} {Rc : Value → World → Prop} (hi : ops[i]? = some o) (hg : GOn n env ops o) (hd : o.dst = some d) (hn : Nat.blt d n = true)
    (hr : Run n env w o (.enter f args) w) (hc : Ret f args w Rc)
    (h : ∀ v w', Rc v w' → ((ld || late.contains i) = true ∨ S w') ∧ AT n ((d, v) :: env) w' (SW ops S late r (ld || late.contains i) N E R)) : AT n env w (SW ops S late ((i, false) :: r) ld N E R) := fun a ha => by
  unfold SW SQ wpOp
  simp only [hi, hg a ha, if_true]
  refine .inl ?_
  unfold Oper.wp
  rw [hr a ha, Oper.upon_enter, hd]
  refine Calls.mono hc fun e w' he => ?_
  cases e with
  | returned v => exact ⟨(h v w' he).1, (h v w' he).2 _ (ha.put (Nat.le_of_ble_eq_true hn) v)⟩
  | panicked c => exact he.elim
  | outgrown => exact he.elim

end rules

/-- Two ways, by a Bool. -/
theorem ways (b : Bool) {G : Prop} (ht : b = true → G) (hf : b = false → G) : G := by cases b; exact hf rfl; exact ht rfl

/-! ### Entering a function, and leaving it -/
def retPost (fn : Func) (Rc : Value → World → Prop) : Pst := fun a w => a.defers = [] ∧ ∃ v, (results fn a.tmps).run Tryz.prog w = .ok v w ∧ Rc v w

def argsEnv : Nat → List Value → List (Nat × Value)
  | _, [] => []
  | k, v :: r => (k, v) :: argsEnv (k + 1) r

theorem lk_argsEnv : ∀ (l : List Value) (k t : Nat) (v : Value), lk (argsEnv k l) t = some v → k ≤ t ∧ l[t - k]? = some v
  | [], _, _, _, h => by cases h
  | u :: r, k, t, v, h => by
    rw [argsEnv, lk_cons] at h
    by_cases e : k = t
    · subst e; simp at h; subst h; simp
    · rw [if_neg e] at h
      obtain ⟨h1, h2⟩ := lk_argsEnv r (k + 1) t v h
      refine ⟨by omega, ?_⟩
      rw [show t - k = (t - (k + 1)) + 1 by omega, List.getElem?_cons_succ]; exact h2

theorem enter {f : FuncId} {fn : Func} {c : Code} {l : List Value} {w : World} {Rc : Value → World → Prop} (hf : Tryz.prog.funcs[f]? = some fn) (hb : fn.body = some c) (hl : Nat.ble l.length fn.ntmps = true)
    (h : AT fn.ntmps (argsEnv 0 l) w (CW c (retPost fn Rc) [] (retPost fn Rc))) : Ret f l.toArray w Rc := by
  refine calls_of_wp hf hb (wp_mono (h _ ?_) ?_)
  · refine ⟨rfl, ?_, fun t v hv => ?_⟩
    · have := Nat.le_of_ble_eq_true hl
      simp; omega
    · obtain ⟨_, h2⟩ := lk_argsEnv l 0 t v hv
      have hlt : t < l.length := (List.getElem?_eq_some_iff.1 (by simpa using h2)).1
      simp only [Array.getD_eq_getD_getElem?]
      rw [Array.getElem?_append_left (by simpa using hlt)]
      simp at h2
      simp [h2]
  · intro e a w hq
    cases e with
    | normal => exact hq
    | ret => exact hq
    | exit id => exact (hq : False).elim
    | goto l => exact (hq : False).elim
    | panic c => exact (hq : False).elim
    | outgrown => exact (hq : False).elim

section leave
variable {n : Nat} {env : List (Nat × Value)} {w : World} {fn : Func} {Rc : Value → World → Prop}

/-- One result, in a slot. -/
theorem ret1 {t : Tmp} {v : Value} (hr : fn.results = #[.tmp t]) (ht : lk env t = some v) (h : Rc v w) : AT n env w (retPost fn Rc) := fun a ha =>
  ⟨ha.dn, v, by rw [results_tmp hr, ha.kn t v ht], h⟩
theorem ret0 (hr : fn.results = #[]) (h : Rc (.tuple #[]) w) : AT n env w (retPost fn Rc) := fun _ ha => ⟨ha.dn, _, results_none hr _ _ _, h⟩
end leave
end Go.Proofs.YtekhaogjmmmniaaGreat
namespace Go.Proofs.YtekhaogjmmmniaaGreat
open Go Go.RowKit

/-- Of what was there nothing has turned but, maybe, the blocks X. -/
structure Keeps (X : List Nat) (w w' : World) : Prop where
  os : w'.os = w.os
  tape : w'.tape = w.tape
  output : w'.output = w.output
  size : w.heap.size ≤ w'.heap.size
  block : ∀ k, k < w.heap.size → k ∉ X → w'.heap[k]? = w.heap[k]?

theorem Keeps.refl (X : List Nat) (w : World) : Keeps X w w := ⟨rfl, rfl, rfl, Nat.le_refl _, fun _ _ _ => rfl⟩
theorem Keeps.trans {X : List Nat} {a b c : World} (h : Keeps X a b) (k : Keeps X b c) : Keeps X a c :=
  ⟨k.os.trans h.os, k.tape.trans h.tape, k.output.trans h.output, Nat.le_trans h.size k.size, fun i hi hx => (k.block i (Nat.lt_of_lt_of_le hi h.size) hx).trans (h.block i hi hx)⟩
/-- Behind a callee that may have turned Y. -/
theorem Keeps.then {X Y : List Nat} {W w w' : World} (h : Keeps X W w) (k : Keeps Y w w') (hy : ∀ y ∈ Y, y ∈ X ∨ W.heap.size ≤ y) : Keeps X W w' :=
  ⟨k.os.trans h.os, k.tape.trans h.tape, k.output.trans h.output, Nat.le_trans h.size k.size, fun i hi hx =>
    (k.block i (Nat.lt_of_lt_of_le hi h.size) (fun hm => (hy i hm).elim hx (fun h => by omega))).trans (h.block i hi hx)⟩
theorem Keeps.then0 {X : List Nat} {W w w' : World} (h : Keeps X W w) (k : Keeps [] w w') : Keeps X W w' := h.then k (fun _ h => by cases h)
theorem Keeps.mono {X Y : List Nat} {w w' : World} (h : Keeps X w w') (hs : ∀ x ∈ X, x ∈ Y) : Keeps Y w w' :=
  ⟨h.os, h.tape, h.output, h.size, fun k hk hx => h.block k hk (fun hm => hx (hs k hm))⟩
theorem Keeps.alloc (w : World) (o : Obj) : Keeps [] w (w.alloc o) := ⟨rfl, rfl, rfl, by simp, fun k hk _ => Below.heap_alloc _ _ _ hk⟩
theorem Keeps.drew (w : World) : Keeps [] w w.drew := ⟨rfl, rfl, rfl, Nat.le_refl _, fun _ _ _ => rfl⟩
theorem Keeps.setRow (w : World) (b : Nat) (cs : Array Value) : Keeps [b] w (w.setRow b cs) :=
  ⟨rfl, rfl, rfl, by simp, fun k _ hx => setRow_other w b k cs (fun e => hx (by simp [e]))⟩
theorem Keeps.below {w w' : World} (h : Keeps [] w w') : Below w.heap.size w w' := ⟨h.os, h.tape, h.output, h.size, fun k hk => h.block k hk (by simp)⟩
/-- Block b is a row of cells cs, none frozen. -/
abbrev Blk (w : World) (b : Nat) (cs : Array Value) (t : TypeId) : Prop := w.heap[b]? = some (.cells cs t (0, 0))
theorem Blk.lt {w : World} {b : Nat} {cs : Array Value} {t : TypeId} (h : Blk w b cs t) : b < w.heap.size := (Array.getElem?_eq_some_iff.1 h).1
theorem Blk.keep {X : List Nat} {w w' : World} {b : Nat} {cs : Array Value} {t : TypeId} (h : Blk w b cs t) (k : Keeps X w w') (hb : b ∉ X) : Blk w' b cs t := by
  have hlt := Blk.lt h
  unfold Blk at *; rw [k.block b hlt hb]; exact h

abbrev Ent := Nat × Array Value × TypeId

/-- Since world W the blocks X alone may have turned of what was there; the blocks of L are rows that are known whole; each is new, or one of X; no two are one. -/
structure Mem (W : World) (X : List Nat) (L : List Ent) (w : World) : Prop where
  kp : Keeps X W w
  has : ∀ e ∈ L, Blk w e.1 e.2.1 e.2.2
  own : ∀ e ∈ L, e.1 ∈ X ∨ W.heap.size ≤ e.1
  nd : (L.map Prod.fst).Nodup

theorem Mem.start (W : World) : Mem W [] [] W := ⟨Keeps.refl _ _, by simp, by simp, by simp⟩

section mem
variable {W w w' : World} {X : List Nat} {L : List Ent}

theorem Mem.blk (h : Mem W X L w) {i : Nat} {b : Nat} {cs : Array Value} {t : TypeId} (hi : L[i]? = some (b, cs, t)) : Blk w b cs t := h.has _ (List.mem_of_getElem? hi)

theorem Mem.keep (h : Mem W X L w) (k : Keeps [] w w') : Mem W X L w' :=
  ⟨h.kp.then0 k, fun e he => (h.has e he).keep k (by simp), h.own, h.nd⟩

theorem Mem.drew (h : Mem W X L w) : Mem W X L w.drew := h.keep (Keeps.drew w)

/-- A new block. -/
theorem Mem.alloc (h : Mem W X L w) (cs : Array Value) (t : TypeId) : Mem W X ((w.heap.size, cs, t) :: L) (w.alloc (.cells cs t)) := by
  refine ⟨h.kp.then0 (Keeps.alloc _ _), ?_, ?_, ?_⟩
  · intro e he
    cases he with
    | head => exact heap_alloc_new w _
    | tail _ he => exact (h.has e he).keep (Keeps.alloc _ _) (by simp)
  · intro e he
    cases he with
    | head => exact Or.inr h.kp.size
    | tail _ he => exact h.own e he
  · simp only [List.map_cons, List.nodup_cons]
    refine ⟨fun hm => ?_, h.nd⟩
    obtain ⟨e, he, heq⟩ := List.mem_map.1 hm
    have := (h.has e he).lt
    omega

/-- Some of the entries forgotten. -/
theorem Mem.forget (h : Mem W X L w) {L' : List Ent} (hs : L'.Sublist L) : Mem W X L' w :=
  ⟨h.kp, fun e he => h.has e (hs.subset he), fun e he => h.own e (hs.subset he), h.nd.sublist (hs.map _)⟩

theorem nodup_get {l : List Nat} (hnd : l.Nodup) {i j : Nat} {b : Nat} (hi : l[i]? = some b) (hj : l[j]? = some b) : i = j := by
  obtain ⟨h1, e1⟩ := List.getElem?_eq_some_iff.1 hi
  obtain ⟨h2, e2⟩ := List.getElem?_eq_some_iff.1 hj
  rcases Nat.lt_trichotomy i j with h | h | h
  · exact absurd (e1.trans e2.symm) (List.pairwise_iff_getElem.1 hnd i j h1 h2 h)
  · exact h
  · exact absurd (e2.trans e1.symm) (List.pairwise_iff_getElem.1 hnd j i h2 h1 h)

/-- Behind what has turned block number i of L alone, of all that was there: it holds cs' now. -/
theorem Mem.turned (h : Mem W X L w) {i : Nat} {b : Nat} {cs cs' : Array Value} {t : TypeId} (hi : L[i]? = some (b, cs, t)) (k : Keeps [b] w w') (hb : Blk w' b cs' t) : Mem W X (L.set i (b, cs', t)) w' := by
  have hil : i < L.length := (List.getElem?_eq_some_iff.1 hi).1
  have hfst : (L.set i (b, cs', t)).map Prod.fst = L.map Prod.fst := by
    apply List.ext_getElem?
    intro j
    rw [List.getElem?_map, List.getElem?_map]
    by_cases hji : i = j
    · subst hji
      rw [List.getElem?_set_self hil, hi]; rfl
    · rw [List.getElem?_set_ne hji]
  refine ⟨h.kp.then k (fun y hy => ?_), ?_, ?_, by rw [hfst]; exact h.nd⟩
  · simp at hy; subst hy
    exact h.own _ (List.mem_of_getElem? hi)
  · intro e he
    obtain ⟨j, hj⟩ := List.mem_iff_getElem?.1 he
    by_cases hji : i = j
    · subst hji
      rw [List.getElem?_set_self hil] at hj
      cases hj
      exact hb
    · rw [List.getElem?_set_ne hji] at hj
      refine (h.has e (List.mem_of_getElem? hj)).keep k (fun hm => hji ?_)
      simp at hm
      exact nodup_get h.nd (by rw [List.getElem?_map, hi]; rfl) (by rw [List.getElem?_map, hj, ← hm]; rfl)
  · intro e he
    have : e.1 ∈ L.map Prod.fst := by rw [← hfst]; exact List.mem_map_of_mem he
    obtain ⟨e', he', heq⟩ := List.mem_map.1 this
    rw [← heq]; exact h.own e' he'

theorem Mem.setRow (h : Mem W X L w) {i : Nat} {b : Nat} {cs : Array Value} {t : TypeId} (hi : L[i]? = some (b, cs, t)) (cs' : Array Value) : Mem W X (L.set i (b, cs', t)) (w.setRow b cs') :=
  h.turned hi (Keeps.setRow w b cs') (setRow_heap w b cs cs' t _ (h.blk hi))

end mem

/-! ### What lies at an address -/
/-- From address p on lie the cells cs. -/
def Holds (w : World) (b off : Nat) (cs : Array Value) : Prop := ∀ j, j < cs.size → w.cell? ⟨b, off + j, none⟩ = cs[j]?

/-- From place off of cs on lie the cells ds. -/
def Sub (cs : Array Value) (off : Nat) (ds : Array Value) : Prop := ∀ j, j < ds.size → cs[off + j]? = ds[j]?

theorem Sub.refl (cs : Array Value) : Sub cs 0 cs := fun j _ => by rw [Nat.zero_add]
theorem Sub.trans {cs ds es : Array Value} {o1 o2 : Nat} (h : Sub cs o1 ds) (k : Sub ds o2 es) : Sub cs (o1 + o2) es := fun j hj => by
  have h1 := k j hj
  have h2 : o2 + j < ds.size := by
    rw [Array.getElem?_eq_getElem hj] at h1
    exact (Array.getElem?_eq_some_iff.1 h1).1
  rw [Nat.add_assoc, h _ h2, h1]
theorem Sub.fit {cs ds : Array Value} {o : Nat} (h : Sub cs o ds) : ds.size = 0 ∨ o + ds.size ≤ cs.size := by
  rcases Nat.eq_zero_or_pos ds.size with h0 | h0
  · exact Or.inl h0
  · refine Or.inr ?_
    have h1 := h (ds.size - 1) (by omega)
    rw [Array.getElem?_eq_getElem (xs := ds) (i := ds.size - 1) (by omega)] at h1
    have h2 : o + (ds.size - 1) < cs.size := (Array.getElem?_eq_some_iff.1 h1).1
    clear h1
    omega

theorem Blk.holds {w : World} {b : Nat} {cs ds : Array Value} {t : TypeId} {off : Nat} (h : Blk w b cs t) (hs : Sub cs off ds) : Holds w b off ds := fun j hj => by
  rw [cell_of_row w b (off + j) cs t (0, 0) h]; exact hs j hj
theorem Mem.holds {W w : World} {X : List Nat} {L : List Ent} (h : Mem W X L w) {i : Nat} {b : Nat} {cs ds : Array Value} {t : TypeId} {off : Nat} (hi : L[i]? = some (b, cs, t)) (hs : Sub cs off ds) : Holds w b off ds := (h.blk hi).holds hs
theorem Holds.sub {w : World} {b off o : Nat} {cs ds : Array Value} (h : Holds w b off cs) (hs : Sub cs o ds) : Holds w b (off + o) ds := fun j hj => by
  have h1 := hs j hj
  have h2 : o + j < cs.size := by
    rw [Array.getElem?_eq_getElem hj] at h1
    exact (Array.getElem?_eq_some_iff.1 h1).1
  rw [Nat.add_assoc, h _ h2, h1]
theorem Holds.keep {X : List Nat} {w w' : World} {b off : Nat} {cs : Array Value} (h : Holds w b off cs) (k : Keeps X w w') (hb : b ∉ X) : Holds w' b off cs := fun j hj => by
  have h1 := h j hj
  have hlt : b < w.heap.size := by
    rw [Array.getElem?_eq_getElem hj] at h1
    exact World.block_lt_of_cell? _ ⟨b, off + j, none⟩ h1
  rw [← h1]
  exact World.cell?_of_block (w := w) (k.block b hlt hb)

/-! ### Rows of parts -/
/-- cs with ds in the place of what lies from off on. -/
def put (cs : Array Value) (off : Nat) (ds : Array Value) : Array Value := (cs.toList.take off ++ ds.toList ++ cs.toList.drop (off + ds.size)).toArray

def cat (ps : List (Array Value)) : Array Value := (ps.map Array.toList).flatten.toArray
def offAt (ps : List (Array Value)) (i : Nat) : Nat := ((ps.take i).map Array.size).sum

theorem cat_cons (p : Array Value) (ps : List (Array Value)) : (cat (p :: ps)).toList = p.toList ++ (cat ps).toList := by simp [cat]
theorem cat_size : ∀ ps : List (Array Value), (cat ps).size = (ps.map Array.size).sum
  | [] => rfl
  | p :: ps => by
    have := cat_size ps
    rw [← Array.length_toList] at this
    rw [← Array.length_toList, cat_cons, List.length_append, this]; simp

theorem cat_sub : ∀ (ps : List (Array Value)) (i : Nat) (p : Array Value), ps[i]? = some p → Sub (cat ps) (offAt ps i) p
  | [], i, p, h => by simp at h
  | q :: ps, 0, p, h => by
    simp at h; subst h
    intro j hj
    rw [← Array.getElem?_toList, cat_cons]
    simp only [offAt, List.take_zero, List.map_nil, List.sum_nil, Nat.zero_add]
    rw [List.getElem?_append_left (by simpa using hj), Array.getElem?_toList]
  | q :: ps, i + 1, p, h => by
    intro j hj
    have := cat_sub ps i p (by simpa using h) j hj
    rw [← Array.getElem?_toList, cat_cons]
    simp only [offAt, List.take_succ_cons, List.map_cons, List.sum_cons]
    rw [List.getElem?_append_right (by simp; omega)]
    rw [← Array.getElem?_toList] at this
    rw [show q.size + ((ps.take i).map Array.size).sum + j - q.toList.length = offAt ps i + j by simp [offAt]; omega]
    exact this

theorem cat_put : ∀ (ps : List (Array Value)) (i : Nat) (p d : Array Value), ps[i]? = some p → d.size = p.size → put (cat ps) (offAt ps i) d = cat (ps.set i d)
  | [], i, p, d, h, _ => by simp at h
  | q :: ps, 0, p, d, h, hd => by
    simp at h; subst h
    apply Array.ext'
    simp only [put, offAt, List.take_zero, List.map_nil, List.sum_nil, List.nil_append, Nat.zero_add, List.set_cons_zero, cat_cons]
    rw [hd, ← Array.length_toList, List.drop_left]
  | q :: ps, i + 1, p, d, h, hd => by
    have ih := congrArg Array.toList (cat_put ps i p d (by simpa using h) hd)
    apply Array.ext'
    simp only [put] at ih ⊢
    simp only [List.set_cons_succ, cat_cons, offAt, List.take_succ_cons, List.map_cons, List.sum_cons] at ih ⊢
    rw [← ih, ← Array.length_toList, List.take_length_add_append, Nat.add_assoc, List.drop_length_add_append]
    simp

theorem put_size (cs : Array Value) (off : Nat) (ds : Array Value) (h : off + ds.size ≤ cs.size) : (put cs off ds).size = cs.size := by
  simp [put]; omega
theorem put_getElem? (cs : Array Value) (off : Nat) (ds : Array Value) (h : off + ds.size ≤ cs.size) (j : Nat) : (put cs off ds)[j]? = if off ≤ j ∧ j < off + ds.size then ds[j - off]? else cs[j]? := by
  rw [← Array.getElem?_toList]
  have hl : (cs.toList.take off).length = off := by simp; omega
  simp only [put]
  by_cases h1 : j < off
  · rw [if_neg (by omega), List.append_assoc, List.getElem?_append_left (by omega), List.getElem?_take_of_lt h1, Array.getElem?_toList]
  · rw [List.append_assoc, List.getElem?_append_right (by omega), hl]
    by_cases h2 : j < off + ds.size
    · rw [if_pos ⟨by omega, h2⟩, List.getElem?_append_left (by simp; omega), Array.getElem?_toList]
    · rw [if_neg (by omega), List.getElem?_append_right (by simp; omega), List.getElem?_drop, Array.length_toList, ← Array.getElem?_toList]
      congr 1; omega

end Go.Proofs.YtekhaogjmmmniaaGreat
namespace Go.Proofs.YtekhaogjmmmniaaGreat
open Go Go.RowKit

section ops
variable {n : Nat} {env : List (Nat × Value)} {w : World} {d : Option Nat} {ty : TypeId} {pos : String} {af : Array Edge} {g : Option (Nat × Bool)} {x y z : Operand} {v u : Value}

theorem r_move (hx : ev env x = some v) : Run n env w ⟨d, .move x, ty, pos, af, g⟩ (.value v) w := fun a ha => by simp [execOp, ha.eval hx]
theorem r_assign (hx : ev env x = some v) : Run n env w ⟨d, .assign x, ty, pos, af, g⟩ (.value v) w := fun a ha => by simp [execOp, ha.eval hx]
theorem r_pickT {c : Operand} {b : Bool} (hc : ev env c = some (.bool b)) (hb : b = true) (hx : ev env x = some v) : Run n env w ⟨d, .pick c x y, ty, pos, af, g⟩ (.value v) w := fun a ha => by subst hb; simp [execOp, ha.eval hx, ha.eval hc, asBool]
theorem r_pickF {c : Operand} {b : Bool} (hc : ev env c = some (.bool b)) (hb : b = false) (hy : ev env y = some v) : Run n env w ⟨d, .pick c x y, ty, pos, af, g⟩ (.value v) w := fun a ha => by subst hb; simp [execOp, ha.eval hy, ha.eval hc, asBool]

theorem r_alloc {T : TypeId} (hz : ∀ w, (zeroValue T).run Tryz.prog w = .ok v w) : Run n env w ⟨d, .alloc T, ty, pos, af, g⟩ (.value (.pointer (some ⟨w.heap.size, 0, none⟩))) (w.alloc (.cells v.cells T)) := fun a _ => by
  simp [execOp, Instr.alloc, hz, newVar, newRow]
theorem r_box {T : TypeId} (hx : ev env x = some v) : Run n env w ⟨d, .box T x, ty, pos, af, g⟩ (.value (.pointer (some ⟨w.heap.size, 0, none⟩))) (w.alloc (.cells v.cells T)) := fun a ha => by
  simp [execOp, ha.eval hx, Instr.box, newVar, newRow]

theorem r_nilCheck {p : Addr} (hx : ev env x = some (.pointer (some p))) : Run n env w ⟨d, .nilCheck x, ty, pos, af, g⟩ (.value (.pointer (some p))) w := fun a ha => by simp [execOp, ha.eval hx]
theorem r_extract {vs : Array Value} {k : Nat} (hx : ev env x = some (.tuple vs)) (hv : vs[k]? = some v) : Run n env w ⟨d, .extract x k, ty, pos, af, g⟩ (.value v) w := fun a ha => by
  simp [execOp, ha.eval hx, Instr.extract, hv]

/-- Field f of struct type s lies at place o. -/
def FldAt (s f o : Nat) : Prop := ∃ fs fld k, Tryz.prog.underlying s = some (.struct fs) ∧ fs[f]? = some fld ∧ fld.offset = o ∧ (∀ w, (sizeOf fld.type).run Tryz.prog w = .ok k w) ∧ k ≠ 0

theorem addr_add (b off o : Nat) : (⟨b, off, none⟩ : Addr).add o = ⟨b, off + o, none⟩ := by
  unfold Addr.add; split
  · subst_vars; rfl
  · rfl

theorem r_fieldAddr {s f o b off : Nat} (hf : FldAt s f o) (hx : ev env x = some (.pointer (some ⟨b, off, none⟩))) : Run n env w ⟨d, .fieldAddr s x f, ty, pos, af, g⟩ (.value (.pointer (some ⟨b, off + o, none⟩))) w := fun a ha => by
  obtain ⟨fs, fld, k, h1, h2, h3, h4, h5⟩ := hf
  simp [execOp, ha.eval hx, Instr.fieldAt, run_underlying h1, h2, Instr.sureAddr, fieldPlace, h4, h5, h3, addr_add]

/-- A load of one cell. -/
theorem r_load1 {T b off : Nat} (hT : ∀ w, (isAgg T).run Tryz.prog w = .ok false w) (hx : ev env x = some (.pointer (some ⟨b, off, none⟩))) (hh : Holds w b off #[v]) : Run n env w ⟨d, .load T x, ty, pos, af, g⟩ (.value v) w := fun a ha => by
  have h0 : w.cell? ⟨b, off, none⟩ = some v := by simpa using hh 0 (by simp)
  simp [execOp, ha.eval hx, Instr.loadAt, Instr.sureAddr, loadVar, hT, h0]

/-- A load of a struct or an array. -/
theorem r_loadA {T b off k : Nat} {cs : Array Value} (hT : ∀ w, (isAgg T).run Tryz.prog w = .ok true w) (hs : ∀ w, (sizeOf T).run Tryz.prog w = .ok k w) (hk : cs.size = k)
    (hx : ev env x = some (.pointer (some ⟨b, off, none⟩))) (hh : Holds w b off cs) : Run n env w ⟨d, .load T x, ty, pos, af, g⟩ (.value (.agg cs)) w := fun a ha => by
  have h0 : (loadCells ⟨b, off, none⟩ cs.toList.length).run Tryz.prog w = .ok cs.toList.toArray w := run_loadCells_list w ⟨b, off, none⟩ cs.toList (fun j u hu => by
    rw [addr_add]
    have hj : j < cs.size := by have := (List.getElem?_eq_some_iff.1 hu).1; simpa using this
    rw [hh j hj]; simpa using hu)
  simp only [Array.length_toList, Array.toArray_toList] at h0
  subst hk
  simp [execOp, ha.eval hx, Instr.loadAt, Instr.sureAddr, loadVar, hT, hs, h0]

theorem put_eq (cs : Array Value) (off : Nat) (ds : Array Value) : (cs.toList.take off ++ ds.toList ++ cs.toList.drop (off + ds.toList.length)).toArray = put cs off ds := by simp [put]

theorem run_storeAt {b off : Nat} {t : TypeId} {cur ds : Array Value} (hg : Blk w b cur t) (hl : off + ds.size ≤ cur.size) (h1 : ∀ c ∈ ds, c.oneCell' = true) :
    (storeCells ⟨b, off, none⟩ ds.toList).run Tryz.prog w = .ok () (w.setRow b (put cur off ds)) := by
  have h := run_storeCells_at Tryz.prog b off t ds.toList 0 cur w hg (by simpa using hl) (fun v hv => h1 v (by simpa using hv))
  rw [h, ← put_eq]; simp

/-- A store into a block that is known. -/
theorem r_store {T b off : Nat} {t : TypeId} {k : Nat} {cur : Array Value} (hs : ∀ w, (sizeOf T).run Tryz.prog w = .ok k w) (hx : ev env x = some (.pointer (some ⟨b, off, none⟩))) (hv : ev env y = some v)
    (hk : v.cells.size = k) (hg : Blk w b cur t) (hl : off + v.cells.size ≤ cur.size) (h1 : ∀ c ∈ v.cells, c.oneCell' = true) :
    Run n env w ⟨d, .store T x y, ty, pos, af, g⟩ .skip (w.setRow b (put cur off v.cells)) := fun a ha => by
  subst hk
  simp [execOp, ha.eval hx, ha.eval hv, Instr.storeAt, Instr.sureAddr, storeVar, hs, run_storeAt hg hl h1]

/-! ### Numbers -/
variable {k : IntKind} {p q r : Int} {t t' : TypeId} {b : Bool}
theorem r_lss (hx : ev env x = some (.int k p)) (hy : ev env y = some (.int k q)) (hb : decide (p < q) = b) : Run n env w ⟨d, .binOp .lss t x y t', ty, pos, af, g⟩ (.value (.bool b)) w := fun a ha => by
  subst hb; simp [execOp, ha.eval hx, ha.eval hy, eqGuard, binOp, Op.intCmp]
theorem r_leq (hx : ev env x = some (.int k p)) (hy : ev env y = some (.int k q)) (hb : decide (p ≤ q) = b) : Run n env w ⟨d, .binOp .leq t x y t', ty, pos, af, g⟩ (.value (.bool b)) w := fun a ha => by
  subst hb; simp [execOp, ha.eval hx, ha.eval hy, eqGuard, binOp, Op.intCmp]
theorem r_gtr (hx : ev env x = some (.int k p)) (hy : ev env y = some (.int k q)) (hb : decide (q < p) = b) : Run n env w ⟨d, .binOp .gtr t x y t', ty, pos, af, g⟩ (.value (.bool b)) w := fun a ha => by
  subst hb; simp [execOp, ha.eval hx, ha.eval hy, eqGuard, binOp, Op.intCmp]
theorem r_geq (hx : ev env x = some (.int k p)) (hy : ev env y = some (.int k q)) (hb : decide (q ≤ p) = b) : Run n env w ⟨d, .binOp .geq t x y t', ty, pos, af, g⟩ (.value (.bool b)) w := fun a ha => by
  subst hb; simp [execOp, ha.eval hx, ha.eval hy, eqGuard, binOp, Op.intCmp]
theorem r_eql (hx : ev env x = some (.int k p)) (hy : ev env y = some (.int k q)) (hb : decide (p = q) = b) : Run n env w ⟨d, .binOp .eql t x y t', ty, pos, af, g⟩ (.value (.bool b)) w := fun a ha => by
  subst hb
  have : (p == q) = decide (p = q) := rfl
  simp [execOp, ha.eval hx, ha.eval hy, eqGuard, binOp, Op.intCmp, this]
theorem r_neq (hx : ev env x = some (.int k p)) (hy : ev env y = some (.int k q)) (hb : (!decide (p = q)) = b) : Run n env w ⟨d, .binOp .neq t x y t', ty, pos, af, g⟩ (.value (.bool b)) w := fun a ha => by
  subst hb
  have : (p != q) = !decide (p = q) := rfl
  simp [execOp, ha.eval hx, ha.eval hy, eqGuard, binOp, Op.intCmp, this]
theorem r_add (hx : ev env x = some (.int k p)) (hy : ev env y = some (.int k q)) (hr : k.wrap (p + q) = r) : Run n env w ⟨d, .binOp .add t x y t', ty, pos, af, g⟩ (.value (.int k r)) w := fun a ha => by
  subst hr; simp [execOp, ha.eval hx, ha.eval hy, eqGuard, binOp, Op.intArith]
theorem r_sub (hx : ev env x = some (.int k p)) (hy : ev env y = some (.int k q)) (hr : k.wrap (p - q) = r) : Run n env w ⟨d, .binOp .sub t x y t', ty, pos, af, g⟩ (.value (.int k r)) w := fun a ha => by
  subst hr; simp [execOp, ha.eval hx, ha.eval hy, eqGuard, binOp, Op.intArith]
theorem r_rem (hx : ev env x = some (.int k p)) (hy : ev env y = some (.int k q)) (h0 : q ≠ 0) (hr : p.tmod q = r) : Run n env w ⟨d, .binOp .rem t x y t', ty, pos, af, g⟩ (.value (.int k r)) w := fun a ha => by
  subst hr; simp [execOp, ha.eval hx, ha.eval hy, eqGuard, binOp, Op.intDiv, h0]
theorem r_shl {k' : IntKind} (hx : ev env x = some (.int k p)) (hy : ev env y = some (.int k' q)) (h0 : 0 ≤ q) (hr : k.wrap (p * 2 ^ (min q.toNat k.bits)) = r) : Run n env w ⟨d, .binOp .shl t x y t', ty, pos, af, g⟩ (.value (.int k r)) w := fun a ha => by
  subst hr; simp [execOp, ha.eval hx, ha.eval hy, eqGuard, binOp, Op.shift, show ¬ q < 0 by omega]
theorem r_shr {k' : IntKind} (hx : ev env x = some (.int k p)) (hy : ev env y = some (.int k' q)) (h0 : 0 ≤ q) (hr : p.fdiv (2 ^ (min q.toNat k.bits)) = r) : Run n env w ⟨d, .binOp .shr t x y t', ty, pos, af, g⟩ (.value (.int k r)) w := fun a ha => by
  subst hr; simp [execOp, ha.eval hx, ha.eval hy, eqGuard, binOp, Op.shift, show ¬ q < 0 by omega]
theorem r_not {b : Bool} (hx : ev env x = some (.bool b)) : Run n env w ⟨d, .unOp .not t x, ty, pos, af, g⟩ (.value (.bool (!b))) w := fun a ha => by simp [execOp, ha.eval hx, Op.unary]
/-- A conversion to an integer kind. -/
theorem r_convI {k' : IntKind} {src dst : TypeId} {ds : TypeDesc} (hu : Tryz.prog.underlying src = some ds) (hv : Tryz.prog.underlying dst = some (.int k')) (hx : ev env x = some (.int k p)) (hr : k'.wrap p = r) :
    Run n env w ⟨d, .convert src dst x, ty, pos, af, g⟩ (.value (.int k' r)) w := fun a ha => by
  subst hr; simp [execOp, ha.eval hx, convert, run_underlying hu, run_underlying hv, Conv.intToInt]

/-! ### Slices -/
theorem r_len {T el : TypeId} {a0 : Option Addr} {l c : Nat} (hT : Tryz.prog.underlying T = some (.slice el)) (hx : ev env x = some (.slice a0 l c)) :
    Run n env w ⟨d, .call { callee := .builtin .len, args := #[x], argTypes := #[T] }, ty, pos, af, g⟩ (.value (.int .i64 l)) w := fun a ha => by
  simp [execOp, resolve, ha.eval hx, invoke, builtin, Builtin.len_, run_underlying hT, goInt]
theorem r_cap {T el : TypeId} {a0 : Option Addr} {l c : Nat} (hT : Tryz.prog.underlying T = some (.slice el)) (hx : ev env x = some (.slice a0 l c)) :
    Run n env w ⟨d, .call { callee := .builtin .cap, args := #[x], argTypes := #[T] }, ty, pos, af, g⟩ (.value (.int .i64 c)) w := fun a ha => by
  simp [execOp, resolve, ha.eval hx, invoke, builtin, Builtin.cap_, run_underlying hT, goInt]

theorem r_index {T el : TypeId} {b0 off l c sz i : Nat} (hT : Tryz.prog.underlying T = some (.slice el)) (hs : ∀ w, (sizeOf el).run Tryz.prog w = .ok sz w)
    (hx : ev env x = some (.slice (some ⟨b0, off, none⟩) l c)) (hy : ev env y = some (.int k (i : Int))) (hi : i < l) :
    Run n env w ⟨d, .indexAddr T x y, ty, pos, af, g⟩ (.value (.pointer (some ⟨b0, off + i * sz, none⟩))) w := fun a ha => by
  simp [execOp, ha.eval hx, ha.eval hy, Instr.indexAt, asIntOf, run_underlying hT, hs, hi, addr_add]

/-- An array in memory as a slice: p[:]. -/
theorem r_sliceArr {T el : TypeId} {b0 off m sz : Nat} (hT : Tryz.prog.underlying T = some (.array m el)) (hs : ∀ w, (sizeOf el).run Tryz.prog w = .ok sz w)
    (hx : ev env x = some (.pointer (some ⟨b0, off, none⟩))) : Run n env w ⟨d, .slice T x none none none, ty, pos, af, g⟩ (.value (.slice (some ⟨b0, off, none⟩) m m)) w := fun a ha => by
  simp [execOp, ha.eval hx, Instr.sliceAt, Instr.sureAddr, run_underlying hT, hs, Instr.sliceBounds, addr_add]

/-! ### Functions -/
def evs (env : List (Nat × Value)) : List Operand → Option (List Value)
  | [] => some []
  | x :: r => match ev env x with
    | some v => match evs env r with
      | some l => some (v :: l)
      | none => none
    | none => none

theorem evs_eval {a : Act} (ha : Kn n env a) : ∀ (xs : List Operand) (vs : List Value), evs env xs = some vs → xs.map a.eval = vs
  | [], vs, h => by cases h; rfl
  | x :: r, vs, h => by
    unfold evs at h
    cases hx : ev env x with
    | none => rw [hx] at h; cases h
    | some v =>
      rw [hx] at h
      cases hr : evs env r with
      | none => rw [hr] at h; cases h
      | some l =>
        rw [hr] at h; cases h
        simp [ha.eval hx, evs_eval ha r l hr]

/-- A call of a function that is named. -/
theorem r_call {f : FuncId} {xs : List Operand} {vs : List Value} {at' : Array TypeId} (hc : ∀ args w, (callFunc f args).run Tryz.prog w = .ok (.enter f args) w) (hxs : evs env xs = some vs) :
    Run n env w ⟨d, .call { callee := .value (.func f), args := xs.toArray, argTypes := at' }, ty, pos, af, g⟩ (.enter f vs.toArray) w := fun a ha => by
  have h := evs_eval ha xs vs hxs
  have he : a.eval (.func f) = .func (.func f) #[] #[] := rfl
  have hm : Array.map a.eval xs.toArray = vs.toArray := by simp [h]
  simp [execOp, resolve, Deferred.ofValue, he, h, invoke, hc]

/-- A call of a function value. -/
theorem r_callv {f : FuncId} {xs : List Operand} {vs cap : List Value} {at' : Array TypeId} (hf : ev env x = some (.func (.func f) #[] cap.toArray)) (hc : ∀ args w, (callFunc f args).run Tryz.prog w = .ok (.enter f args) w) (hxs : evs env xs = some vs) :
    Run n env w ⟨d, .call { callee := .value x, args := xs.toArray, argTypes := at' }, ty, pos, af, g⟩ (.enter f (vs ++ cap).toArray) w := fun a ha => by
  have h := evs_eval ha xs vs hxs
  simp [execOp, resolve, Deferred.ofValue, ha.eval hf, h, invoke, hc]

theorem r_makeFunc {fn : Fn} {xs : List Operand} {vs : List Value} (hxs : evs env xs = some vs) : Run n env w ⟨d, .makeFunc fn #[] xs.toArray, ty, pos, af, g⟩ (.value (.func fn #[] vs.toArray)) w := fun a ha => by
  have h := evs_eval ha xs vs hxs
  simp [execOp, Instr.makeFunc, h]

/-- A struct, built. -/
def evp (env : List (Nat × Value)) : List (Nat × Operand) → Option (List (Nat × Value))
  | [] => some []
  | x :: r => match ev env x.2 with
    | some v => match evp env r with
      | some l => some ((x.1, v) :: l)
      | none => none
    | none => none
theorem evp_eval {a : Act} (ha : Kn n env a) : ∀ (xs : List (Nat × Operand)) (vs : List (Nat × Value)), evp env xs = some vs → xs.map (fun (i, x) => (i, a.eval x)) = vs
  | [], vs, h => by cases h; rfl
  | (i, x) :: r, vs, h => by
    unfold evp at h
    cases hx : ev env x with
    | none => simp only [hx] at h; cases h
    | some v =>
      simp only [hx] at h
      cases hr : evp env r with
      | none => rw [hr] at h; cases h
      | some l =>
        rw [hr] at h; cases h
        simp [ha.eval hx, evp_eval ha r l hr]

theorem r_build {T : TypeId} {xs : List (Nat × Operand)} {vs : List (Nat × Value)} {cs : Array Value} (hxs : evp env xs = some vs) (hb : Tryz.prog.built T vs = some cs) :
    Run n env w ⟨d, .build T xs.toArray, ty, pos, af, g⟩ (.value (.agg cs)) w := fun a ha => by
  have h := evp_eval ha xs vs hxs
  have := run_build (P := Tryz.prog) w T (vs.toArray) cs (by simpa using hb)
  simp only [execOp]
  rw [show (xs.toArray.map fun (i, x) => (i, a.eval x)) = vs.toArray by simp [← h]]
  simp [this]
end ops
end Go.Proofs.YtekhaogjmmmniaaGreat
namespace Go.Proofs.YtekhaogjmmmniaaGreat
open Go Go.RowKit

def vU8 (b : UInt8) : Value := .int .u8 (b.toNat : Int)
def vU32 (b : UInt32) : Value := .int .u32 (b.toNat : Int)
/-- A slice's value. -/
structure Sl where
  a : Option Addr
  len : Nat
  cap : Nat
def Sl.val (s : Sl) : Value := .slice s.a s.len s.cap
def Sl.nil : Sl := ⟨none, 0, 0⟩
/-- 32 bytes. -/
abbrev Pt := Vector UInt8 32
def Pt.cells (p : Pt) : Array Value := p.toArray.map vU8
def Pt.zero : Pt := Vector.replicate 32 0
theorem Pt.size (p : Pt) : (Pt.cells p).size = 32 := by simp [Pt.cells]
theorem Pt.one (p : Pt) : ∀ c ∈ Pt.cells p, c.oneCell' = true := by
  intro c hc
  simp only [Pt.cells, Array.mem_map] at hc
  obtain ⟨b, _, rfl⟩ := hc
  rfl
theorem one_one {v : Value} (h : v.oneCell' = true) : ∀ c ∈ #[v], c.oneCell' = true := by
  intro c hc
  simp at hc; subst hc; exact h
theorem cat_one {ps : List (Array Value)} (h : ∀ p ∈ ps, ∀ c ∈ p, c.oneCell' = true) : ∀ c ∈ cat ps, c.oneCell' = true := by
  intro c hc
  simp only [cat, List.mem_toArray, List.mem_flatten, List.mem_map] at hc
  obtain ⟨l, ⟨p, hp, rfl⟩, hcl⟩ := hc
  exact h p hp c (by simpa using hcl)

structure Pub where
  A : Pt
  D : Pt
instance : DecidableEq Pub := fun x y => decidable_of_iff (x.A = y.A ∧ x.D = y.D) (by cases x; cases y; simp)
def Pub.parts (x : Pub) : List (Array Value) := [Pt.cells x.A, Pt.cells x.D]
def Pub.cells (x : Pub) : Array Value := cat x.parts
theorem Pub.size (x : Pub) : x.cells.size = 64 := by simp [Pub.cells, cat_size, Pub.parts, Pt.size]
theorem Pub.one (x : Pub) : ∀ c ∈ x.cells, c.oneCell' = true := cat_one (by
  intro p hp
  simp only [Pub.parts, List.mem_cons, List.not_mem_nil, or_false] at hp
  rcases hp with rfl | rfl
  · exact Pt.one _
  · exact Pt.one _)
theorem Pub.off_A (x : Pub) : offAt x.parts 0 = 0 := by simp [offAt]
theorem Pub.sub_A (x : Pub) : Sub x.cells 0 (Pt.cells x.A) := by have := cat_sub x.parts 0 _ rfl; rw [Pub.off_A] at this; exact this
theorem Pub.off_D (x : Pub) : offAt x.parts 1 = 32 := by simp [offAt, Pub.parts, Pt.size]
theorem Pub.sub_D (x : Pub) : Sub x.cells 32 (Pt.cells x.D) := by have := cat_sub x.parts 1 _ rfl; rw [Pub.off_D] at this; exact this
structure Access where
  title : UInt8
  members : UInt8
  link : UInt8
instance : DecidableEq Access := fun x y => decidable_of_iff (x.title = y.title ∧ x.members = y.members ∧ x.link = y.link) (by cases x; cases y; simp)
def Access.parts (x : Access) : List (Array Value) := [#[vU8 x.title], #[vU8 x.members], #[vU8 x.link]]
def Access.cells (x : Access) : Array Value := cat x.parts
theorem Access.size (x : Access) : x.cells.size = 3 := by simp [Access.cells, cat_size, Access.parts]
theorem Access.one (x : Access) : ∀ c ∈ x.cells, c.oneCell' = true := cat_one (by
  intro p hp
  simp only [Access.parts, List.mem_cons, List.not_mem_nil, or_false] at hp
  rcases hp with rfl | rfl | rfl
  · exact one_one rfl
  · exact one_one rfl
  · exact one_one rfl)
theorem Access.off_title (x : Access) : offAt x.parts 0 = 0 := by simp [offAt]
theorem Access.sub_title (x : Access) : Sub x.cells 0 (#[vU8 x.title]) := by have := cat_sub x.parts 0 _ rfl; rw [Access.off_title] at this; exact this
theorem Access.put_title (x : Access) (y : UInt8) : put x.cells 0 (#[vU8 y]) = { x with title := y }.cells := by
  have := cat_put x.parts 0 _ (#[vU8 y]) rfl rfl; rw [Access.off_title] at this; exact this
theorem Access.fld_title : FldAt 31 0 0 := ⟨_, _, _, Tryz.underlying31, rfl, rfl, Tryz.sizeOf28, by decide⟩
theorem Access.off_members (x : Access) : offAt x.parts 1 = 1 := by simp [offAt, Access.parts]
theorem Access.sub_members (x : Access) : Sub x.cells 1 (#[vU8 x.members]) := by have := cat_sub x.parts 1 _ rfl; rw [Access.off_members] at this; exact this
theorem Access.put_members (x : Access) (y : UInt8) : put x.cells 1 (#[vU8 y]) = { x with members := y }.cells := by
  have := cat_put x.parts 1 _ (#[vU8 y]) rfl rfl; rw [Access.off_members] at this; exact this
theorem Access.fld_members : FldAt 31 1 1 := ⟨_, _, _, Tryz.underlying31, rfl, rfl, Tryz.sizeOf28, by decide⟩
theorem Access.off_link (x : Access) : offAt x.parts 2 = 2 := by simp [offAt, Access.parts]
theorem Access.sub_link (x : Access) : Sub x.cells 2 (#[vU8 x.link]) := by have := cat_sub x.parts 2 _ rfl; rw [Access.off_link] at this; exact this
theorem Access.fld_link : FldAt 31 2 2 := ⟨_, _, _, Tryz.underlying31, rfl, rfl, Tryz.sizeOf29, by decide⟩
structure Cipher where
  E : Pt
  F : Pt
instance : DecidableEq Cipher := fun x y => decidable_of_iff (x.E = y.E ∧ x.F = y.F) (by cases x; cases y; simp)
def Cipher.parts (x : Cipher) : List (Array Value) := [Pt.cells x.E, Pt.cells x.F]
def Cipher.cells (x : Cipher) : Array Value := cat x.parts
theorem Cipher.size (x : Cipher) : x.cells.size = 64 := by simp [Cipher.cells, cat_size, Cipher.parts, Pt.size]
theorem Cipher.one (x : Cipher) : ∀ c ∈ x.cells, c.oneCell' = true := cat_one (by
  intro p hp
  simp only [Cipher.parts, List.mem_cons, List.not_mem_nil, or_false] at hp
  rcases hp with rfl | rfl
  · exact Pt.one _
  · exact Pt.one _)
theorem Cipher.off_E (x : Cipher) : offAt x.parts 0 = 0 := by simp [offAt]
theorem Cipher.sub_E (x : Cipher) : Sub x.cells 0 (Pt.cells x.E) := by have := cat_sub x.parts 0 _ rfl; rw [Cipher.off_E] at this; exact this
theorem Cipher.fld_E : FldAt 40 0 0 := ⟨_, _, _, Tryz.underlying40, rfl, rfl, Tryz.sizeOf24, by decide⟩
theorem Cipher.off_F (x : Cipher) : offAt x.parts 1 = 32 := by simp [offAt, Cipher.parts, Pt.size]
theorem Cipher.sub_F (x : Cipher) : Sub x.cells 32 (Pt.cells x.F) := by have := cat_sub x.parts 1 _ rfl; rw [Cipher.off_F] at this; exact this
theorem Cipher.fld_F : FldAt 40 1 32 := ⟨_, _, _, Tryz.underlying40, rfl, rfl, Tryz.sizeOf24, by decide⟩
structure Seat where
  who : Cipher
  role : UInt8
  joined : UInt32
instance : DecidableEq Seat := fun x y => decidable_of_iff (x.who = y.who ∧ x.role = y.role ∧ x.joined = y.joined) (by cases x; cases y; simp)
def Seat.parts (x : Seat) : List (Array Value) := [Cipher.cells x.who, #[vU8 x.role], #[vU32 x.joined]]
def Seat.cells (x : Seat) : Array Value := cat x.parts
theorem Seat.size (x : Seat) : x.cells.size = 66 := by simp [Seat.cells, cat_size, Seat.parts, Cipher.size]
theorem Seat.one (x : Seat) : ∀ c ∈ x.cells, c.oneCell' = true := cat_one (by
  intro p hp
  simp only [Seat.parts, List.mem_cons, List.not_mem_nil, or_false] at hp
  rcases hp with rfl | rfl | rfl
  · exact Cipher.one _
  · exact one_one rfl
  · exact one_one rfl)
theorem Seat.off_who (x : Seat) : offAt x.parts 0 = 0 := by simp [offAt]
theorem Seat.sub_who (x : Seat) : Sub x.cells 0 (Cipher.cells x.who) := by have := cat_sub x.parts 0 _ rfl; rw [Seat.off_who] at this; exact this
theorem Seat.put_who (x : Seat) (y : Cipher) : put x.cells 0 (Cipher.cells y) = { x with who := y }.cells := by
  have := cat_put x.parts 0 _ (Cipher.cells y) rfl (by rw [Cipher.size, Cipher.size]); rw [Seat.off_who] at this; exact this
theorem Seat.fld_who : FldAt 73 0 0 := ⟨_, _, _, Tryz.underlying73, rfl, rfl, Tryz.sizeOf40, by decide⟩
theorem Seat.off_role (x : Seat) : offAt x.parts 1 = 64 := by simp [offAt, Seat.parts, Cipher.size]
theorem Seat.sub_role (x : Seat) : Sub x.cells 64 (#[vU8 x.role]) := by have := cat_sub x.parts 1 _ rfl; rw [Seat.off_role] at this; exact this
theorem Seat.put_role (x : Seat) (y : UInt8) : put x.cells 64 (#[vU8 y]) = { x with role := y }.cells := by
  have := cat_put x.parts 1 _ (#[vU8 y]) rfl rfl; rw [Seat.off_role] at this; exact this
theorem Seat.fld_role : FldAt 73 1 64 := ⟨_, _, _, Tryz.underlying73, rfl, rfl, Tryz.sizeOf28, by decide⟩
theorem Seat.off_joined (x : Seat) : offAt x.parts 2 = 65 := by simp [offAt, Seat.parts, Cipher.size]
theorem Seat.sub_joined (x : Seat) : Sub x.cells 65 (#[vU32 x.joined]) := by have := cat_sub x.parts 2 _ rfl; rw [Seat.off_joined] at this; exact this
theorem Seat.put_joined (x : Seat) (y : UInt32) : put x.cells 65 (#[vU32 y]) = { x with joined := y }.cells := by
  have := cat_put x.parts 2 _ (#[vU32 y]) rfl rfl; rw [Seat.off_joined] at this; exact this
theorem Seat.fld_joined : FldAt 73 2 65 := ⟨_, _, _, Tryz.underlying73, rfl, rfl, Tryz.sizeOf22, by decide⟩
structure Invite where
  who : Cipher
  role : UInt8
  by_ : Cipher
instance : DecidableEq Invite := fun x y => decidable_of_iff (x.who = y.who ∧ x.role = y.role ∧ x.by_ = y.by_) (by cases x; cases y; simp)
def Invite.parts (x : Invite) : List (Array Value) := [Cipher.cells x.who, #[vU8 x.role], Cipher.cells x.by_]
def Invite.cells (x : Invite) : Array Value := cat x.parts
theorem Invite.size (x : Invite) : x.cells.size = 129 := by simp [Invite.cells, cat_size, Invite.parts, Cipher.size]
theorem Invite.one (x : Invite) : ∀ c ∈ x.cells, c.oneCell' = true := cat_one (by
  intro p hp
  simp only [Invite.parts, List.mem_cons, List.not_mem_nil, or_false] at hp
  rcases hp with rfl | rfl | rfl
  · exact Cipher.one _
  · exact one_one rfl
  · exact Cipher.one _)
theorem Invite.off_who (x : Invite) : offAt x.parts 0 = 0 := by simp [offAt]
theorem Invite.sub_who (x : Invite) : Sub x.cells 0 (Cipher.cells x.who) := by have := cat_sub x.parts 0 _ rfl; rw [Invite.off_who] at this; exact this
theorem Invite.put_who (x : Invite) (y : Cipher) : put x.cells 0 (Cipher.cells y) = { x with who := y }.cells := by
  have := cat_put x.parts 0 _ (Cipher.cells y) rfl (by rw [Cipher.size, Cipher.size]); rw [Invite.off_who] at this; exact this
theorem Invite.fld_who : FldAt 82 0 0 := ⟨_, _, _, Tryz.underlying82, rfl, rfl, Tryz.sizeOf40, by decide⟩
theorem Invite.off_role (x : Invite) : offAt x.parts 1 = 64 := by simp [offAt, Invite.parts, Cipher.size]
theorem Invite.sub_role (x : Invite) : Sub x.cells 64 (#[vU8 x.role]) := by have := cat_sub x.parts 1 _ rfl; rw [Invite.off_role] at this; exact this
theorem Invite.put_role (x : Invite) (y : UInt8) : put x.cells 64 (#[vU8 y]) = { x with role := y }.cells := by
  have := cat_put x.parts 1 _ (#[vU8 y]) rfl rfl; rw [Invite.off_role] at this; exact this
theorem Invite.fld_role : FldAt 82 1 64 := ⟨_, _, _, Tryz.underlying82, rfl, rfl, Tryz.sizeOf28, by decide⟩
theorem Invite.off_by_ (x : Invite) : offAt x.parts 2 = 65 := by simp [offAt, Invite.parts, Cipher.size]
theorem Invite.sub_by_ (x : Invite) : Sub x.cells 65 (Cipher.cells x.by_) := by have := cat_sub x.parts 2 _ rfl; rw [Invite.off_by_] at this; exact this
theorem Invite.put_by_ (x : Invite) (y : Cipher) : put x.cells 65 (Cipher.cells y) = { x with by_ := y }.cells := by
  have := cat_put x.parts 2 _ (Cipher.cells y) rfl (by rw [Cipher.size, Cipher.size]); rw [Invite.off_by_] at this; exact this
theorem Invite.fld_by_ : FldAt 82 2 65 := ⟨_, _, _, Tryz.underlying82, rfl, rfl, Tryz.sizeOf40, by decide⟩
structure Ask where
  who : Cipher
  at_ : UInt32
instance : DecidableEq Ask := fun x y => decidable_of_iff (x.who = y.who ∧ x.at_ = y.at_) (by cases x; cases y; simp)
def Ask.parts (x : Ask) : List (Array Value) := [Cipher.cells x.who, #[vU32 x.at_]]
def Ask.cells (x : Ask) : Array Value := cat x.parts
theorem Ask.size (x : Ask) : x.cells.size = 65 := by simp [Ask.cells, cat_size, Ask.parts, Cipher.size]
theorem Ask.one (x : Ask) : ∀ c ∈ x.cells, c.oneCell' = true := cat_one (by
  intro p hp
  simp only [Ask.parts, List.mem_cons, List.not_mem_nil, or_false] at hp
  rcases hp with rfl | rfl
  · exact Cipher.one _
  · exact one_one rfl)
theorem Ask.off_who (x : Ask) : offAt x.parts 0 = 0 := by simp [offAt]
theorem Ask.sub_who (x : Ask) : Sub x.cells 0 (Cipher.cells x.who) := by have := cat_sub x.parts 0 _ rfl; rw [Ask.off_who] at this; exact this
theorem Ask.put_who (x : Ask) (y : Cipher) : put x.cells 0 (Cipher.cells y) = { x with who := y }.cells := by
  have := cat_put x.parts 0 _ (Cipher.cells y) rfl (by rw [Cipher.size, Cipher.size]); rw [Ask.off_who] at this; exact this
theorem Ask.fld_who : FldAt 84 0 0 := ⟨_, _, _, Tryz.underlying84, rfl, rfl, Tryz.sizeOf40, by decide⟩
theorem Ask.off_at_ (x : Ask) : offAt x.parts 1 = 64 := by simp [offAt, Ask.parts, Cipher.size]
theorem Ask.sub_at_ (x : Ask) : Sub x.cells 64 (#[vU32 x.at_]) := by have := cat_sub x.parts 1 _ rfl; rw [Ask.off_at_] at this; exact this
theorem Ask.put_at_ (x : Ask) (y : UInt32) : put x.cells 64 (#[vU32 y]) = { x with at_ := y }.cells := by
  have := cat_put x.parts 1 _ (#[vU32 y]) rfl rfl; rw [Ask.off_at_] at this; exact this
theorem Ask.fld_at_ : FldAt 84 1 64 := ⟨_, _, _, Tryz.underlying84, rfl, rfl, Tryz.sizeOf22, by decide⟩
structure Ban where
  who : Cipher
  by_ : Cipher
instance : DecidableEq Ban := fun x y => decidable_of_iff (x.who = y.who ∧ x.by_ = y.by_) (by cases x; cases y; simp)
def Ban.parts (x : Ban) : List (Array Value) := [Cipher.cells x.who, Cipher.cells x.by_]
def Ban.cells (x : Ban) : Array Value := cat x.parts
theorem Ban.size (x : Ban) : x.cells.size = 128 := by simp [Ban.cells, cat_size, Ban.parts, Cipher.size]
theorem Ban.one (x : Ban) : ∀ c ∈ x.cells, c.oneCell' = true := cat_one (by
  intro p hp
  simp only [Ban.parts, List.mem_cons, List.not_mem_nil, or_false] at hp
  rcases hp with rfl | rfl
  · exact Cipher.one _
  · exact Cipher.one _)
theorem Ban.off_who (x : Ban) : offAt x.parts 0 = 0 := by simp [offAt]
theorem Ban.sub_who (x : Ban) : Sub x.cells 0 (Cipher.cells x.who) := by have := cat_sub x.parts 0 _ rfl; rw [Ban.off_who] at this; exact this
theorem Ban.put_who (x : Ban) (y : Cipher) : put x.cells 0 (Cipher.cells y) = { x with who := y }.cells := by
  have := cat_put x.parts 0 _ (Cipher.cells y) rfl (by rw [Cipher.size, Cipher.size]); rw [Ban.off_who] at this; exact this
theorem Ban.fld_who : FldAt 86 0 0 := ⟨_, _, _, Tryz.underlying86, rfl, rfl, Tryz.sizeOf40, by decide⟩
theorem Ban.off_by_ (x : Ban) : offAt x.parts 1 = 64 := by simp [offAt, Ban.parts, Cipher.size]
theorem Ban.sub_by_ (x : Ban) : Sub x.cells 64 (Cipher.cells x.by_) := by have := cat_sub x.parts 1 _ rfl; rw [Ban.off_by_] at this; exact this
theorem Ban.put_by_ (x : Ban) (y : Cipher) : put x.cells 64 (Cipher.cells y) = { x with by_ := y }.cells := by
  have := cat_put x.parts 1 _ (Cipher.cells y) rfl (by rw [Cipher.size, Cipher.size]); rw [Ban.off_by_] at this; exact this
theorem Ban.fld_by_ : FldAt 86 1 64 := ⟨_, _, _, Tryz.underlying86, rfl, rfl, Tryz.sizeOf40, by decide⟩
structure SRep where
  ver : UInt32
  key : Pub
  title : Sl
  acc : Access
  pass : Sl
  seats : Sl
  invites : Sl
  asks : Sl
  bans : Sl
def SRep.parts (x : SRep) : List (Array Value) := [#[vU32 x.ver], Pub.cells x.key, #[Sl.val x.title], Access.cells x.acc, #[Sl.val x.pass], #[Sl.val x.seats], #[Sl.val x.invites], #[Sl.val x.asks], #[Sl.val x.bans]]
def SRep.cells (x : SRep) : Array Value := cat x.parts
theorem SRep.size (x : SRep) : x.cells.size = 74 := by simp [SRep.cells, cat_size, SRep.parts, Access.size, Pub.size]
theorem SRep.one (x : SRep) : ∀ c ∈ x.cells, c.oneCell' = true := cat_one (by
  intro p hp
  simp only [SRep.parts, List.mem_cons, List.not_mem_nil, or_false] at hp
  rcases hp with rfl | rfl | rfl | rfl | rfl | rfl | rfl | rfl | rfl
  · exact one_one rfl
  · exact Pub.one _
  · exact one_one rfl
  · exact Access.one _
  · exact one_one rfl
  · exact one_one rfl
  · exact one_one rfl
  · exact one_one rfl
  · exact one_one rfl)
theorem SRep.off_ver (x : SRep) : offAt x.parts 0 = 0 := by simp [offAt]
theorem SRep.sub_ver (x : SRep) : Sub x.cells 0 (#[vU32 x.ver]) := by have := cat_sub x.parts 0 _ rfl; rw [SRep.off_ver] at this; exact this
theorem SRep.put_ver (x : SRep) (y : UInt32) : put x.cells 0 (#[vU32 y]) = { x with ver := y }.cells := by
  have := cat_put x.parts 0 _ (#[vU32 y]) rfl rfl; rw [SRep.off_ver] at this; exact this
theorem SRep.fld_ver : FldAt 37 0 0 := ⟨_, _, _, Tryz.underlying37, rfl, rfl, Tryz.sizeOf22, by decide⟩
theorem SRep.off_key (x : SRep) : offAt x.parts 1 = 1 := by simp [offAt, SRep.parts]
theorem SRep.sub_key (x : SRep) : Sub x.cells 1 (Pub.cells x.key) := by have := cat_sub x.parts 1 _ rfl; rw [SRep.off_key] at this; exact this
theorem SRep.put_key (x : SRep) (y : Pub) : put x.cells 1 (Pub.cells y) = { x with key := y }.cells := by
  have := cat_put x.parts 1 _ (Pub.cells y) rfl (by rw [Pub.size, Pub.size]); rw [SRep.off_key] at this; exact this
theorem SRep.fld_key : FldAt 37 1 1 := ⟨_, _, _, Tryz.underlying37, rfl, rfl, Tryz.sizeOf26, by decide⟩
theorem SRep.off_title (x : SRep) : offAt x.parts 2 = 65 := by simp [offAt, SRep.parts, Pub.size]
theorem SRep.sub_title (x : SRep) : Sub x.cells 65 (#[Sl.val x.title]) := by have := cat_sub x.parts 2 _ rfl; rw [SRep.off_title] at this; exact this
theorem SRep.put_title (x : SRep) (y : Sl) : put x.cells 65 (#[Sl.val y]) = { x with title := y }.cells := by
  have := cat_put x.parts 2 _ (#[Sl.val y]) rfl rfl; rw [SRep.off_title] at this; exact this
theorem SRep.fld_title : FldAt 37 2 65 := ⟨_, _, _, Tryz.underlying37, rfl, rfl, Tryz.sizeOf27, by decide⟩
theorem SRep.off_acc (x : SRep) : offAt x.parts 3 = 66 := by simp [offAt, SRep.parts, Pub.size]
theorem SRep.sub_acc (x : SRep) : Sub x.cells 66 (Access.cells x.acc) := by have := cat_sub x.parts 3 _ rfl; rw [SRep.off_acc] at this; exact this
theorem SRep.put_acc (x : SRep) (y : Access) : put x.cells 66 (Access.cells y) = { x with acc := y }.cells := by
  have := cat_put x.parts 3 _ (Access.cells y) rfl (by rw [Access.size, Access.size]); rw [SRep.off_acc] at this; exact this
theorem SRep.fld_acc : FldAt 37 3 66 := ⟨_, _, _, Tryz.underlying37, rfl, rfl, Tryz.sizeOf31, by decide⟩
theorem SRep.off_pass (x : SRep) : offAt x.parts 4 = 69 := by simp [offAt, SRep.parts, Access.size, Pub.size]
theorem SRep.sub_pass (x : SRep) : Sub x.cells 69 (#[Sl.val x.pass]) := by have := cat_sub x.parts 4 _ rfl; rw [SRep.off_pass] at this; exact this
theorem SRep.put_pass (x : SRep) (y : Sl) : put x.cells 69 (#[Sl.val y]) = { x with pass := y }.cells := by
  have := cat_put x.parts 4 _ (#[Sl.val y]) rfl rfl; rw [SRep.off_pass] at this; exact this
theorem SRep.fld_pass : FldAt 37 4 69 := ⟨_, _, _, Tryz.underlying37, rfl, rfl, Tryz.sizeOf27, by decide⟩
theorem SRep.off_seats (x : SRep) : offAt x.parts 5 = 70 := by simp [offAt, SRep.parts, Access.size, Pub.size]
theorem SRep.sub_seats (x : SRep) : Sub x.cells 70 (#[Sl.val x.seats]) := by have := cat_sub x.parts 5 _ rfl; rw [SRep.off_seats] at this; exact this
theorem SRep.put_seats (x : SRep) (y : Sl) : put x.cells 70 (#[Sl.val y]) = { x with seats := y }.cells := by
  have := cat_put x.parts 5 _ (#[Sl.val y]) rfl rfl; rw [SRep.off_seats] at this; exact this
theorem SRep.fld_seats : FldAt 37 5 70 := ⟨_, _, _, Tryz.underlying37, rfl, rfl, Tryz.sizeOf32, by decide⟩
theorem SRep.off_invites (x : SRep) : offAt x.parts 6 = 71 := by simp [offAt, SRep.parts, Access.size, Pub.size]
theorem SRep.sub_invites (x : SRep) : Sub x.cells 71 (#[Sl.val x.invites]) := by have := cat_sub x.parts 6 _ rfl; rw [SRep.off_invites] at this; exact this
theorem SRep.put_invites (x : SRep) (y : Sl) : put x.cells 71 (#[Sl.val y]) = { x with invites := y }.cells := by
  have := cat_put x.parts 6 _ (#[Sl.val y]) rfl rfl; rw [SRep.off_invites] at this; exact this
theorem SRep.fld_invites : FldAt 37 6 71 := ⟨_, _, _, Tryz.underlying37, rfl, rfl, Tryz.sizeOf33, by decide⟩
theorem SRep.off_asks (x : SRep) : offAt x.parts 7 = 72 := by simp [offAt, SRep.parts, Access.size, Pub.size]
theorem SRep.sub_asks (x : SRep) : Sub x.cells 72 (#[Sl.val x.asks]) := by have := cat_sub x.parts 7 _ rfl; rw [SRep.off_asks] at this; exact this
theorem SRep.put_asks (x : SRep) (y : Sl) : put x.cells 72 (#[Sl.val y]) = { x with asks := y }.cells := by
  have := cat_put x.parts 7 _ (#[Sl.val y]) rfl rfl; rw [SRep.off_asks] at this; exact this
theorem SRep.fld_asks : FldAt 37 7 72 := ⟨_, _, _, Tryz.underlying37, rfl, rfl, Tryz.sizeOf34, by decide⟩
theorem SRep.off_bans (x : SRep) : offAt x.parts 8 = 73 := by simp [offAt, SRep.parts, Access.size, Pub.size]
theorem SRep.sub_bans (x : SRep) : Sub x.cells 73 (#[Sl.val x.bans]) := by have := cat_sub x.parts 8 _ rfl; rw [SRep.off_bans] at this; exact this
theorem SRep.put_bans (x : SRep) (y : Sl) : put x.cells 73 (#[Sl.val y]) = { x with bans := y }.cells := by
  have := cat_put x.parts 8 _ (#[Sl.val y]) rfl rfl; rw [SRep.off_bans] at this; exact this
theorem SRep.fld_bans : FldAt 37 8 73 := ⟨_, _, _, Tryz.underlying37, rfl, rfl, Tryz.sizeOf35, by decide⟩
structure ARep where
  ver : UInt32
  kind : UInt8
  who : Cipher
  E : Pt
  role : UInt8
  title : Sl
  acc : Access
  pass : Sl
def ARep.parts (x : ARep) : List (Array Value) := [#[vU32 x.ver], #[vU8 x.kind], Cipher.cells x.who, Pt.cells x.E, #[vU8 x.role], #[Sl.val x.title], Access.cells x.acc, #[Sl.val x.pass]]
def ARep.cells (x : ARep) : Array Value := cat x.parts
theorem ARep.size (x : ARep) : x.cells.size = 104 := by simp [ARep.cells, cat_size, ARep.parts, Access.size, Cipher.size, Pt.size]
theorem ARep.one (x : ARep) : ∀ c ∈ x.cells, c.oneCell' = true := cat_one (by
  intro p hp
  simp only [ARep.parts, List.mem_cons, List.not_mem_nil, or_false] at hp
  rcases hp with rfl | rfl | rfl | rfl | rfl | rfl | rfl | rfl
  · exact one_one rfl
  · exact one_one rfl
  · exact Cipher.one _
  · exact Pt.one _
  · exact one_one rfl
  · exact one_one rfl
  · exact Access.one _
  · exact one_one rfl)
theorem ARep.off_ver (x : ARep) : offAt x.parts 0 = 0 := by simp [offAt]
theorem ARep.sub_ver (x : ARep) : Sub x.cells 0 (#[vU32 x.ver]) := by have := cat_sub x.parts 0 _ rfl; rw [ARep.off_ver] at this; exact this
theorem ARep.put_ver (x : ARep) (y : UInt32) : put x.cells 0 (#[vU32 y]) = { x with ver := y }.cells := by
  have := cat_put x.parts 0 _ (#[vU32 y]) rfl rfl; rw [ARep.off_ver] at this; exact this
theorem ARep.fld_ver : FldAt 42 0 0 := ⟨_, _, _, Tryz.underlying42, rfl, rfl, Tryz.sizeOf22, by decide⟩
theorem ARep.off_kind (x : ARep) : offAt x.parts 1 = 1 := by simp [offAt, ARep.parts]
theorem ARep.sub_kind (x : ARep) : Sub x.cells 1 (#[vU8 x.kind]) := by have := cat_sub x.parts 1 _ rfl; rw [ARep.off_kind] at this; exact this
theorem ARep.put_kind (x : ARep) (y : UInt8) : put x.cells 1 (#[vU8 y]) = { x with kind := y }.cells := by
  have := cat_put x.parts 1 _ (#[vU8 y]) rfl rfl; rw [ARep.off_kind] at this; exact this
theorem ARep.fld_kind : FldAt 42 1 1 := ⟨_, _, _, Tryz.underlying42, rfl, rfl, Tryz.sizeOf38, by decide⟩
theorem ARep.off_who (x : ARep) : offAt x.parts 2 = 2 := by simp [offAt, ARep.parts]
theorem ARep.sub_who (x : ARep) : Sub x.cells 2 (Cipher.cells x.who) := by have := cat_sub x.parts 2 _ rfl; rw [ARep.off_who] at this; exact this
theorem ARep.put_who (x : ARep) (y : Cipher) : put x.cells 2 (Cipher.cells y) = { x with who := y }.cells := by
  have := cat_put x.parts 2 _ (Cipher.cells y) rfl (by rw [Cipher.size, Cipher.size]); rw [ARep.off_who] at this; exact this
theorem ARep.fld_who : FldAt 42 2 2 := ⟨_, _, _, Tryz.underlying42, rfl, rfl, Tryz.sizeOf40, by decide⟩
theorem ARep.off_E (x : ARep) : offAt x.parts 3 = 66 := by simp [offAt, ARep.parts, Cipher.size]
theorem ARep.sub_E (x : ARep) : Sub x.cells 66 (Pt.cells x.E) := by have := cat_sub x.parts 3 _ rfl; rw [ARep.off_E] at this; exact this
theorem ARep.fld_E : FldAt 42 3 66 := ⟨_, _, _, Tryz.underlying42, rfl, rfl, Tryz.sizeOf24, by decide⟩
theorem ARep.off_role (x : ARep) : offAt x.parts 4 = 98 := by simp [offAt, ARep.parts, Cipher.size, Pt.size]
theorem ARep.sub_role (x : ARep) : Sub x.cells 98 (#[vU8 x.role]) := by have := cat_sub x.parts 4 _ rfl; rw [ARep.off_role] at this; exact this
theorem ARep.put_role (x : ARep) (y : UInt8) : put x.cells 98 (#[vU8 y]) = { x with role := y }.cells := by
  have := cat_put x.parts 4 _ (#[vU8 y]) rfl rfl; rw [ARep.off_role] at this; exact this
theorem ARep.fld_role : FldAt 42 4 98 := ⟨_, _, _, Tryz.underlying42, rfl, rfl, Tryz.sizeOf28, by decide⟩
theorem ARep.off_title (x : ARep) : offAt x.parts 5 = 99 := by simp [offAt, ARep.parts, Cipher.size, Pt.size]
theorem ARep.sub_title (x : ARep) : Sub x.cells 99 (#[Sl.val x.title]) := by have := cat_sub x.parts 5 _ rfl; rw [ARep.off_title] at this; exact this
theorem ARep.put_title (x : ARep) (y : Sl) : put x.cells 99 (#[Sl.val y]) = { x with title := y }.cells := by
  have := cat_put x.parts 5 _ (#[Sl.val y]) rfl rfl; rw [ARep.off_title] at this; exact this
theorem ARep.fld_title : FldAt 42 5 99 := ⟨_, _, _, Tryz.underlying42, rfl, rfl, Tryz.sizeOf27, by decide⟩
theorem ARep.off_acc (x : ARep) : offAt x.parts 6 = 100 := by simp [offAt, ARep.parts, Cipher.size, Pt.size]
theorem ARep.sub_acc (x : ARep) : Sub x.cells 100 (Access.cells x.acc) := by have := cat_sub x.parts 6 _ rfl; rw [ARep.off_acc] at this; exact this
theorem ARep.put_acc (x : ARep) (y : Access) : put x.cells 100 (Access.cells y) = { x with acc := y }.cells := by
  have := cat_put x.parts 6 _ (Access.cells y) rfl (by rw [Access.size, Access.size]); rw [ARep.off_acc] at this; exact this
theorem ARep.fld_acc : FldAt 42 6 100 := ⟨_, _, _, Tryz.underlying42, rfl, rfl, Tryz.sizeOf31, by decide⟩
theorem ARep.off_pass (x : ARep) : offAt x.parts 7 = 103 := by simp [offAt, ARep.parts, Access.size, Cipher.size, Pt.size]
theorem ARep.sub_pass (x : ARep) : Sub x.cells 103 (#[Sl.val x.pass]) := by have := cat_sub x.parts 7 _ rfl; rw [ARep.off_pass] at this; exact this
theorem ARep.put_pass (x : ARep) (y : Sl) : put x.cells 103 (#[Sl.val y]) = { x with pass := y }.cells := by
  have := cat_put x.parts 7 _ (#[Sl.val y]) rfl rfl; rw [ARep.off_pass] at this; exact this
theorem ARep.fld_pass : FldAt 42 7 103 := ⟨_, _, _, Tryz.underlying42, rfl, rfl, Tryz.sizeOf27, by decide⟩
structure Hs where
  who : Bool
  e : Bool
  role : Bool
  title : Bool
  access : Bool
  password : Bool
def Hs.parts (x : Hs) : List (Array Value) := [#[.bool x.who], #[.bool x.e], #[.bool x.role], #[.bool x.title], #[.bool x.access], #[.bool x.password]]
def Hs.cells (x : Hs) : Array Value := cat x.parts
theorem Hs.size (x : Hs) : x.cells.size = 6 := by simp [Hs.cells, cat_size, Hs.parts]
theorem Hs.one (x : Hs) : ∀ c ∈ x.cells, c.oneCell' = true := cat_one (by
  intro p hp
  simp only [Hs.parts, List.mem_cons, List.not_mem_nil, or_false] at hp
  rcases hp with rfl | rfl | rfl | rfl | rfl | rfl
  · exact one_one rfl
  · exact one_one rfl
  · exact one_one rfl
  · exact one_one rfl
  · exact one_one rfl
  · exact one_one rfl)
theorem Hs.off_who (x : Hs) : offAt x.parts 0 = 0 := by simp [offAt]
theorem Hs.sub_who (x : Hs) : Sub x.cells 0 (#[.bool x.who]) := by have := cat_sub x.parts 0 _ rfl; rw [Hs.off_who] at this; exact this
theorem Hs.put_who (x : Hs) (y : Bool) : put x.cells 0 (#[.bool y]) = { x with who := y }.cells := by
  have := cat_put x.parts 0 _ (#[.bool y]) rfl rfl; rw [Hs.off_who] at this; exact this
theorem Hs.fld_who : FldAt 106 0 0 := ⟨_, _, _, Tryz.underlying106, rfl, rfl, Tryz.sizeOf4, by decide⟩
theorem Hs.off_e (x : Hs) : offAt x.parts 1 = 1 := by simp [offAt, Hs.parts]
theorem Hs.sub_e (x : Hs) : Sub x.cells 1 (#[.bool x.e]) := by have := cat_sub x.parts 1 _ rfl; rw [Hs.off_e] at this; exact this
theorem Hs.put_e (x : Hs) (y : Bool) : put x.cells 1 (#[.bool y]) = { x with e := y }.cells := by
  have := cat_put x.parts 1 _ (#[.bool y]) rfl rfl; rw [Hs.off_e] at this; exact this
theorem Hs.fld_e : FldAt 106 1 1 := ⟨_, _, _, Tryz.underlying106, rfl, rfl, Tryz.sizeOf4, by decide⟩
theorem Hs.off_role (x : Hs) : offAt x.parts 2 = 2 := by simp [offAt, Hs.parts]
theorem Hs.sub_role (x : Hs) : Sub x.cells 2 (#[.bool x.role]) := by have := cat_sub x.parts 2 _ rfl; rw [Hs.off_role] at this; exact this
theorem Hs.put_role (x : Hs) (y : Bool) : put x.cells 2 (#[.bool y]) = { x with role := y }.cells := by
  have := cat_put x.parts 2 _ (#[.bool y]) rfl rfl; rw [Hs.off_role] at this; exact this
theorem Hs.fld_role : FldAt 106 2 2 := ⟨_, _, _, Tryz.underlying106, rfl, rfl, Tryz.sizeOf4, by decide⟩
theorem Hs.off_title (x : Hs) : offAt x.parts 3 = 3 := by simp [offAt, Hs.parts]
theorem Hs.sub_title (x : Hs) : Sub x.cells 3 (#[.bool x.title]) := by have := cat_sub x.parts 3 _ rfl; rw [Hs.off_title] at this; exact this
theorem Hs.put_title (x : Hs) (y : Bool) : put x.cells 3 (#[.bool y]) = { x with title := y }.cells := by
  have := cat_put x.parts 3 _ (#[.bool y]) rfl rfl; rw [Hs.off_title] at this; exact this
theorem Hs.fld_title : FldAt 106 3 3 := ⟨_, _, _, Tryz.underlying106, rfl, rfl, Tryz.sizeOf4, by decide⟩
theorem Hs.off_access (x : Hs) : offAt x.parts 4 = 4 := by simp [offAt, Hs.parts]
theorem Hs.sub_access (x : Hs) : Sub x.cells 4 (#[.bool x.access]) := by have := cat_sub x.parts 4 _ rfl; rw [Hs.off_access] at this; exact this
theorem Hs.put_access (x : Hs) (y : Bool) : put x.cells 4 (#[.bool y]) = { x with access := y }.cells := by
  have := cat_put x.parts 4 _ (#[.bool y]) rfl rfl; rw [Hs.off_access] at this; exact this
theorem Hs.fld_access : FldAt 106 4 4 := ⟨_, _, _, Tryz.underlying106, rfl, rfl, Tryz.sizeOf4, by decide⟩
theorem Hs.off_password (x : Hs) : offAt x.parts 5 = 5 := by simp [offAt, Hs.parts]
theorem Hs.sub_password (x : Hs) : Sub x.cells 5 (#[.bool x.password]) := by have := cat_sub x.parts 5 _ rfl; rw [Hs.off_password] at this; exact this
theorem Hs.put_password (x : Hs) (y : Bool) : put x.cells 5 (#[.bool y]) = { x with password := y }.cells := by
  have := cat_put x.parts 5 _ (#[.bool y]) rfl rfl; rw [Hs.off_password] at this; exact this
theorem Hs.fld_password : FldAt 106 5 5 := ⟨_, _, _, Tryz.underlying106, rfl, rfl, Tryz.sizeOf4, by decide⟩
end Go.Proofs.YtekhaogjmmmniaaGreat
namespace Go.Proofs.YtekhaogjmmmniaaGreat
open Go Go.RowKit

/-- The slice s reads as l: element i lies, as 'enc' says, at place i; its block is one of A. -/
structure Row {α : Type} (A : Nat → Prop) (w : World) (s : Sl) (sz : Nat) (enc : α → Array Value) (l : List α) : Prop where
  len : s.len = l.length
  cap : s.len ≤ s.cap
  big : s.len ≤ 140737488355328
  nil0 : s.a = none → s.cap = 0
  at_ : ∀ (i : Nat) (e : α), l[i]? = some e → ∃ b off, s.a = some ⟨b, off, none⟩ ∧ A b ∧ Holds w b (off + i * sz) (enc e)

section row
variable {α : Type} {A B : Nat → Prop} {w w' : World} {s : Sl} {sz : Nat} {enc : α → Array Value} {l : List α} {X : List Nat}
theorem Row.keep (h : Row A w s sz enc l) (k : Keeps X w w') (hx : ∀ x ∈ X, ¬ A x) : Row A w' s sz enc l :=
  ⟨h.len, h.cap, h.big, h.nil0, fun i e hi => by
    obtain ⟨b, off, h1, h2, h3⟩ := h.at_ i e hi
    exact ⟨b, off, h1, h2, h3.keep k (fun hm => hx b hm h2)⟩⟩
theorem Row.keep0 (h : Row A w s sz enc l) (k : Keeps [] w w') : Row A w' s sz enc l := h.keep k (by simp)
theorem Row.imp (h : Row A w s sz enc l) (hab : ∀ b, A b → B b) : Row B w s sz enc l :=
  ⟨h.len, h.cap, h.big, h.nil0, fun i e hi => by
    obtain ⟨b, off, h1, h2, h3⟩ := h.at_ i e hi
    exact ⟨b, off, h1, hab b h2, h3⟩⟩
/-- The blocks of what can be read lie below the heap's end (where an element has a cell). -/
theorem Row.lt (h : Row A w s sz enc l) (hz : ∀ e, 0 < (enc e).size) : Row (fun b => A b ∧ b < w.heap.size) w s sz enc l :=
  ⟨h.len, h.cap, h.big, h.nil0, fun i e hi => by
    obtain ⟨b, off, h1, h2, h3⟩ := h.at_ i e hi
    refine ⟨b, off, h1, ⟨h2, ?_⟩, h3⟩
    have h4 := h3 0 (hz e)
    rw [Array.getElem?_eq_getElem (hz e)] at h4
    exact World.block_lt_of_cell? _ ⟨b, _, none⟩ h4⟩
theorem Row.nil : Row A w Sl.nil sz enc ([] : List α) := ⟨rfl, Nat.le_refl _, by decide, fun _ => rfl, fun i e h => by simp at h⟩
end row

def encB (b : UInt8) : Array Value := #[vU8 b]

/-- A state, as it is meant. -/
structure State where
  ver : UInt32
  key : Pub
  title : List UInt8
  acc : Access
  pass : List UInt8
  seats : List Seat
  invites : List Invite
  asks : List Ask
  bans : List Ban

/-- The slices of a state's lists. -/
structure Six where
  t : Sl
  p : Sl
  s : Sl
  i : Sl
  a : Sl
  b : Sl
def State.rep (S : State) (q : Six) : SRep := ⟨S.ver, S.key, q.t, S.acc, q.p, q.s, q.i, q.a, q.b⟩

structure StV (A : Nat → Prop) (w : World) (q : Six) (S : State) : Prop where
  title : Row A w q.t 1 encB S.title
  pass : Row A w q.p 1 encB S.pass
  seats : Row A w q.s 66 Seat.cells S.seats
  invites : Row A w q.i 129 Invite.cells S.invites
  asks : Row A w q.a 65 Ask.cells S.asks
  bans : Row A w q.b 128 Ban.cells S.bans

structure Action where
  ver : UInt32
  kind : UInt8
  who : Cipher
  E : Pt
  role : UInt8
  title : List UInt8
  acc : Access
  pass : List UInt8

structure Two where
  t : Sl
  p : Sl
def Action.rep (a : Action) (q : Two) : ARep := ⟨a.ver, a.kind, a.who, a.E, a.role, q.t, a.acc, q.p⟩

structure AcV (A : Nat → Prop) (w : World) (q : Two) (a : Action) : Prop where
  title : Row A w q.t 1 encB a.title
  pass : Row A w q.p 1 encB a.pass

section stv
variable {A B : Nat → Prop} {w w' : World} {q : Six} {S : State} {qa : Two} {a : Action} {X : List Nat}
theorem StV.keep (h : StV A w q S) (k : Keeps X w w') (hx : ∀ x ∈ X, ¬ A x) : StV A w' q S :=
  ⟨h.title.keep k hx, h.pass.keep k hx, h.seats.keep k hx, h.invites.keep k hx, h.asks.keep k hx, h.bans.keep k hx⟩
theorem StV.keep0 (h : StV A w q S) (k : Keeps [] w w') : StV A w' q S := h.keep k (by simp)
theorem StV.imp (h : StV A w q S) (hab : ∀ b, A b → B b) : StV B w q S :=
  ⟨h.title.imp hab, h.pass.imp hab, h.seats.imp hab, h.invites.imp hab, h.asks.imp hab, h.bans.imp hab⟩
theorem AcV.keep (h : AcV A w qa a) (k : Keeps X w w') (hx : ∀ x ∈ X, ¬ A x) : AcV A w' qa a :=
  ⟨h.title.keep k hx, h.pass.keep k hx⟩
theorem AcV.keep0 (h : AcV A w qa a) (k : Keeps [] w w') : AcV A w' qa a := h.keep k (by simp)
theorem AcV.imp (h : AcV A w qa a) (hab : ∀ b, A b → B b) : AcV B w qa a :=
  ⟨h.title.imp hab, h.pass.imp hab⟩
end stv

/-! ### Equality -/
theorem vU8_inj {a b : UInt8} : ((a.toNat : Int) = (b.toNat : Int)) ↔ a = b := by
  rw [Int.ofNat_inj]; exact UInt8.toNat_inj
theorem vU32_inj {a b : UInt32} : ((a.toNat : Int) = (b.toNat : Int)) ↔ a = b := by
  rw [Int.ofNat_inj]; exact UInt32.toNat_inj

theorem Pt.get (p : Pt) (i : Nat) (h : i < 32) : (Pt.cells p)[i]? = some (vU8 p[i]) := by
  simp [Pt.cells, h]
theorem Pt.ext' {p q : Pt} (h : ∀ i (hi : i < 32), p[i] = q[i]) : p = q := Vector.ext h
section eqs
variable (w : World) (d : Nat)

theorem part1 {t off : Nat} {cs : Array Value} {v : Value} (hT : ∀ w, (isAgg t).run Tryz.prog w = .ok false w) (hs : Sub cs off #[v]) : (part t cs off).run Tryz.prog w = .ok v w := by
  have h0 : cs[off]? = some v := by simpa using hs 0 (by simp)
  simp [part, hT, h0]
theorem Sub.extract {off : Nat} {cs ds : Array Value} (hs : Sub cs off ds) : cs.extract off (off + ds.size) = ds := by
  apply Array.ext_getElem?
  intro j
  rw [Array.getElem?_extract]
  rcases Nat.eq_zero_or_pos ds.size with h0 | h0
  · rw [if_neg (by omega), Array.getElem?_eq_none (by omega)]
  · have hf : off + ds.size ≤ cs.size := by rcases hs.fit with h | h <;> omega
    by_cases hj : j < ds.size
    · rw [if_pos (by omega), hs j hj]
    · rw [if_neg (by omega), Array.getElem?_eq_none (by omega)]
theorem partA {t off k : Nat} {cs ds : Array Value} (hT : ∀ w, (isAgg t).run Tryz.prog w = .ok true w) (hz : ∀ w, (sizeOf t).run Tryz.prog w = .ok k w) (hk : ds.size = k) (hs : Sub cs off ds) : (part t cs off).run Tryz.prog w = .ok (.agg ds) w := by
  subst hk
  simp [part, hT, hz, hs.extract]

theorem eq_int {t : TypeId} {k : IntKind} {k' : IntKind} (h : Tryz.prog.underlying t = some (.int k')) (a b : Int) : (Op.equalIn (d + 1) t (.int k a) (.int k b)).run Tryz.prog w = .ok (decide (a = b)) w := by
  have : (a == b) = decide (a = b) := rfl
  rw [run_equalIn_int w d t k k' a b h, this]
theorem eq_u8 {t : TypeId} {k' : IntKind} (h : Tryz.prog.underlying t = some (.int k')) (a b : UInt8) : (Op.equalIn (d + 1) t (vU8 a) (vU8 b)).run Tryz.prog w = .ok (decide (a = b)) w := by
  rw [vU8, vU8, eq_int w d h, decide_eq_decide.2 vU8_inj]
theorem eq_u32 {t : TypeId} {k' : IntKind} (h : Tryz.prog.underlying t = some (.int k')) (a b : UInt32) : (Op.equalIn (d + 1) t (vU32 a) (vU32 b)).run Tryz.prog w = .ok (decide (a = b)) w := by
  rw [vU32, vU32, eq_int w d h, decide_eq_decide.2 vU32_inj]

theorem sub_at {p : Pt} {i : Nat} (hi : i < 32) : Sub p.cells i #[vU8 p[i]] := fun j hj => by
  have : j = 0 := by simpa using hj
  subst this
  simp [Pt.get p i hi]

theorem eqItems_pt (p q : Pt) : ∀ is : List Nat, (∀ i ∈ is, i < 32) → (Op.eqItems (d + 1) 5 1 p.cells q.cells is).run Tryz.prog w = .ok (decide (∀ i ∈ is, p[i]? = q[i]?)) w
  | [], _ => by simp [Op.eqItems]
  | i :: is, h => by
    have hi : i < 32 := h i (by simp)
    have ih := eqItems_pt p q is (fun j hj => h j (by simp [hj]))
    simp only [Op.eqItems, Sem.run_bind, Nat.mul_one, part1 w Tryz.isAgg5 (sub_at (p := p) hi), part1 w Tryz.isAgg5 (sub_at (p := q) hi), Result.andThen_ok, eq_u8 w d Tryz.underlying5]
    by_cases he : p[i] = q[i]
    · simp only [he, decide_true, Bool.not_true, Bool.false_eq_true, if_false, ih]
      simp [he, hi]
    · simp only [he, decide_false, Bool.not_false, if_true, Sem.run_pure]
      simp [he, hi]

theorem pt_all (p q : Pt) : (∀ i ∈ List.range 32, p[i]? = q[i]?) ↔ p = q := ⟨fun h => Pt.ext' fun i hi => by
    have := h i (by simpa using hi)
    simpa [hi] using this, fun h => by subst h; simp⟩

theorem eq_pt {t : TypeId} (ht : Tryz.prog.underlying t = some (.array 32 5)) (p q : Pt) : (Op.equalIn (d + 2) t (.agg p.cells) (.agg q.cells)).run Tryz.prog w = .ok (decide (p = q)) w := by
  rw [run_equalIn_array w (d + 1) _ _ ht (i := Tryz.t5) (by kernel_rfl), show Tryz.prog.cellsOf 5 = 1 by kernel_rfl, eqItems_pt w d p q _ (fun i hi => by simpa using hi)]
  rw [decide_eq_decide.2 (pt_all p q)]

end eqs
end Go.Proofs.YtekhaogjmmmniaaGreat
namespace Go.Proofs.YtekhaogjmmmniaaGreat
open Go Go.RowKit
section
variable (w : World) (d : Nat)
theorem eqf {fs : List Field} {f : Field} {xs ys : Array Value} {a b : Value} {r s : Bool} {dd : Nat} (hn : (f.name == "_") = false) (ha : (part f.type xs f.offset).run Tryz.prog w = .ok a w) (hb : (part f.type ys f.offset).run Tryz.prog w = .ok b w)
    (he : (Op.equalIn dd f.type a b).run Tryz.prog w = .ok r w) (hr : (Op.eqFields dd xs ys fs).run Tryz.prog w = .ok s w) : (Op.eqFields dd xs ys (f :: fs)).run Tryz.prog w = .ok (r && s) w := by
  have hn' : f.name ≠ "_" := by simpa using hn
  rw [Op.eqFields]
  simp only [if_pos hn', Sem.run_bind, ha, hb, he, Result.andThen_ok]
  cases r
  · simp
  · simpa using hr
theorem eqf_nil {xs ys : Array Value} {dd : Nat} : (Op.eqFields dd xs ys []).run Tryz.prog w = .ok true w := by simp [Op.eqFields]
theorem eqs_of {t dd : Nat} {fs : Array Field} {xs ys : Array Value} {r r' : Bool} (hu : Tryz.prog.underlying t = some (.struct fs)) (hp : Tryz.prog.stoodInHeld t = false) (h : (Op.eqFields dd xs ys fs.toList).run Tryz.prog w = .ok r w) (hr : r = r') :
    (Op.equalIn (dd + 1) t (.agg xs) (.agg ys)).run Tryz.prog w = .ok r' w := by
  have hf : Tryz.prog.fieldsOf t = fs := by simp [Program.fieldsOf, hu]
  rw [run_equalIn_struct (P := Tryz.prog) w dd t xs ys (by rw [hf]; exact hu) hp, hf, ← hr]
  exact h
theorem eq_Pub (x y : Pub) : (Op.equalIn (d + 3) 26 (.agg x.cells) (.agg y.cells)).run Tryz.prog w = .ok (decide (x = y)) w :=
  eqs_of w Tryz.underlying26 Tryz.stoodInHeld26 (eqf w rfl (partA w Tryz.isAgg24 Tryz.sizeOf24 (Pt.size _) (Pub.sub_A _)) (partA w Tryz.isAgg24 Tryz.sizeOf24 (Pt.size _) (Pub.sub_A _)) (eq_pt w (d + 0) Tryz.underlying24 _ _) (eqf w rfl (partA w Tryz.isAgg24 Tryz.sizeOf24 (Pt.size _) (Pub.sub_D _)) (partA w Tryz.isAgg24 Tryz.sizeOf24 (Pt.size _) (Pub.sub_D _)) (eq_pt w (d + 0) Tryz.underlying24 _ _) (eqf_nil w))) (by cases x; cases y; simp)
theorem eq_Access (x y : Access) : (Op.equalIn (d + 2) 31 (.agg x.cells) (.agg y.cells)).run Tryz.prog w = .ok (decide (x = y)) w :=
  eqs_of w Tryz.underlying31 Tryz.stoodInHeld31 (eqf w rfl (part1 w Tryz.isAgg28 (Access.sub_title _)) (part1 w Tryz.isAgg28 (Access.sub_title _)) (eq_u8 w (d + 0) Tryz.underlying28 _ _) (eqf w rfl (part1 w Tryz.isAgg28 (Access.sub_members _)) (part1 w Tryz.isAgg28 (Access.sub_members _)) (eq_u8 w (d + 0) Tryz.underlying28 _ _) (eqf w rfl (part1 w Tryz.isAgg29 (Access.sub_link _)) (part1 w Tryz.isAgg29 (Access.sub_link _)) (eq_u8 w (d + 0) Tryz.underlying29 _ _) (eqf_nil w)))) (by cases x; cases y; simp)
theorem eq_Cipher (x y : Cipher) : (Op.equalIn (d + 3) 40 (.agg x.cells) (.agg y.cells)).run Tryz.prog w = .ok (decide (x = y)) w :=
  eqs_of w Tryz.underlying40 Tryz.stoodInHeld40 (eqf w rfl (partA w Tryz.isAgg24 Tryz.sizeOf24 (Pt.size _) (Cipher.sub_E _)) (partA w Tryz.isAgg24 Tryz.sizeOf24 (Pt.size _) (Cipher.sub_E _)) (eq_pt w (d + 0) Tryz.underlying24 _ _) (eqf w rfl (partA w Tryz.isAgg24 Tryz.sizeOf24 (Pt.size _) (Cipher.sub_F _)) (partA w Tryz.isAgg24 Tryz.sizeOf24 (Pt.size _) (Cipher.sub_F _)) (eq_pt w (d + 0) Tryz.underlying24 _ _) (eqf_nil w))) (by cases x; cases y; simp)
theorem eq_Seat (x y : Seat) : (Op.equalIn (d + 4) 73 (.agg x.cells) (.agg y.cells)).run Tryz.prog w = .ok (decide (x = y)) w :=
  eqs_of w Tryz.underlying73 Tryz.stoodInHeld73 (eqf w rfl (partA w Tryz.isAgg40 Tryz.sizeOf40 (Cipher.size _) (Seat.sub_who _)) (partA w Tryz.isAgg40 Tryz.sizeOf40 (Cipher.size _) (Seat.sub_who _)) (eq_Cipher w (d + 0) _ _) (eqf w rfl (part1 w Tryz.isAgg28 (Seat.sub_role _)) (part1 w Tryz.isAgg28 (Seat.sub_role _)) (eq_u8 w (d + 2) Tryz.underlying28 _ _) (eqf w rfl (part1 w Tryz.isAgg22 (Seat.sub_joined _)) (part1 w Tryz.isAgg22 (Seat.sub_joined _)) (eq_u32 w (d + 2) Tryz.underlying22 _ _) (eqf_nil w)))) (by cases x; cases y; simp)
theorem eq_Invite (x y : Invite) : (Op.equalIn (d + 4) 82 (.agg x.cells) (.agg y.cells)).run Tryz.prog w = .ok (decide (x = y)) w :=
  eqs_of w Tryz.underlying82 Tryz.stoodInHeld82 (eqf w rfl (partA w Tryz.isAgg40 Tryz.sizeOf40 (Cipher.size _) (Invite.sub_who _)) (partA w Tryz.isAgg40 Tryz.sizeOf40 (Cipher.size _) (Invite.sub_who _)) (eq_Cipher w (d + 0) _ _) (eqf w rfl (part1 w Tryz.isAgg28 (Invite.sub_role _)) (part1 w Tryz.isAgg28 (Invite.sub_role _)) (eq_u8 w (d + 2) Tryz.underlying28 _ _) (eqf w rfl (partA w Tryz.isAgg40 Tryz.sizeOf40 (Cipher.size _) (Invite.sub_by_ _)) (partA w Tryz.isAgg40 Tryz.sizeOf40 (Cipher.size _) (Invite.sub_by_ _)) (eq_Cipher w (d + 0) _ _) (eqf_nil w)))) (by cases x; cases y; simp)
theorem eq_Ask (x y : Ask) : (Op.equalIn (d + 4) 84 (.agg x.cells) (.agg y.cells)).run Tryz.prog w = .ok (decide (x = y)) w :=
  eqs_of w Tryz.underlying84 Tryz.stoodInHeld84 (eqf w rfl (partA w Tryz.isAgg40 Tryz.sizeOf40 (Cipher.size _) (Ask.sub_who _)) (partA w Tryz.isAgg40 Tryz.sizeOf40 (Cipher.size _) (Ask.sub_who _)) (eq_Cipher w (d + 0) _ _) (eqf w rfl (part1 w Tryz.isAgg22 (Ask.sub_at_ _)) (part1 w Tryz.isAgg22 (Ask.sub_at_ _)) (eq_u32 w (d + 2) Tryz.underlying22 _ _) (eqf_nil w))) (by cases x; cases y; simp)
theorem eq_Ban (x y : Ban) : (Op.equalIn (d + 4) 86 (.agg x.cells) (.agg y.cells)).run Tryz.prog w = .ok (decide (x = y)) w :=
  eqs_of w Tryz.underlying86 Tryz.stoodInHeld86 (eqf w rfl (partA w Tryz.isAgg40 Tryz.sizeOf40 (Cipher.size _) (Ban.sub_who _)) (partA w Tryz.isAgg40 Tryz.sizeOf40 (Cipher.size _) (Ban.sub_who _)) (eq_Cipher w (d + 0) _ _) (eqf w rfl (partA w Tryz.isAgg40 Tryz.sizeOf40 (Cipher.size _) (Ban.sub_by_ _)) (partA w Tryz.isAgg40 Tryz.sizeOf40 (Cipher.size _) (Ban.sub_by_ _)) (eq_Cipher w (d + 0) _ _) (eqf_nil w))) (by cases x; cases y; simp)

theorem guardF (op : BinOp) (t : TypeId) (x y : Operand) (xs ys : Array Value) (hm : Tryz.prog.eqGuardType Tryz.prog.depth t = false) : (eqGuard op t x y (.agg xs) (.agg ys)).run Tryz.prog w = .ok () w := run_eqGuard_agg w op t x y xs ys hm
end
section ops
variable {n : Nat} {env : List (Nat × Value)} {w : World} {d : Option Nat} {ty : TypeId} {pos : String} {af : Array Edge} {g : Option (Nat × Bool)} {x y : Operand}
theorem r_eqA {t t' : TypeId} {xs ys : Array Value} {b : Bool} (hm : Tryz.prog.eqGuardType Tryz.prog.depth t = false) (hx : ev env x = some (.agg xs)) (hy : ev env y = some (.agg ys))
    (he : (Op.equalIn 10000 t (.agg xs) (.agg ys)).run Tryz.prog w = .ok b w) : Run n env w ⟨d, .binOp .eql t x y t', ty, pos, af, g⟩ (.value (.bool b)) w := fun a ha => by
  simp [execOp, ha.eval hx, ha.eval hy, guardF w _ t x y xs ys hm, run_eql_struct, he]
theorem r_neA {t t' : TypeId} {xs ys : Array Value} {b : Bool} (hm : Tryz.prog.eqGuardType Tryz.prog.depth t = false) (hx : ev env x = some (.agg xs)) (hy : ev env y = some (.agg ys))
    (he : (Op.equalIn 10000 t (.agg xs) (.agg ys)).run Tryz.prog w = .ok b w) : Run n env w ⟨d, .binOp .neq t x y t', ty, pos, af, g⟩ (.value (.bool (!b))) w := fun a ha => by
  simp [execOp, ha.eval hx, ha.eval hy, guardF w _ t x y xs ys hm, run_neq_struct, he]
theorem r_eqPt {t t' : TypeId} {p q : Pt} (hm : Tryz.prog.eqGuardType Tryz.prog.depth t = false) (ht : Tryz.prog.underlying t = some (.array 32 5)) (hx : ev env x = some (.agg p.cells)) (hy : ev env y = some (.agg q.cells)) :
    Run n env w ⟨d, .binOp .eql t x y t', ty, pos, af, g⟩ (.value (.bool (decide (p = q)))) w := r_eqA hm hx hy (eq_pt w 9998 ht p q)
theorem r_nePt {t t' : TypeId} {p q : Pt} (hm : Tryz.prog.eqGuardType Tryz.prog.depth t = false) (ht : Tryz.prog.underlying t = some (.array 32 5)) (hx : ev env x = some (.agg p.cells)) (hy : ev env y = some (.agg q.cells)) :
    Run n env w ⟨d, .binOp .neq t x y t', ty, pos, af, g⟩ (.value (.bool (!decide (p = q)))) w := r_neA hm hx hy (eq_pt w 9998 ht p q)
theorem r_nePub {t' : TypeId} {p q : Pub} (hx : ev env x = some (.agg p.cells)) (hy : ev env y = some (.agg q.cells)) : Run n env w ⟨d, .binOp .neq 26 x y t', ty, pos, af, g⟩ (.value (.bool (!decide (p = q)))) w := r_neA Tryz.eqGuardType26 hx hy (eq_Pub w 9997 p q)
theorem r_neAccess {t' : TypeId} {p q : Access} (hx : ev env x = some (.agg p.cells)) (hy : ev env y = some (.agg q.cells)) : Run n env w ⟨d, .binOp .neq 31 x y t', ty, pos, af, g⟩ (.value (.bool (!decide (p = q)))) w := r_neA Tryz.eqGuardType31 hx hy (eq_Access w 9998 p q)
theorem r_neCipher {t' : TypeId} {p q : Cipher} (hx : ev env x = some (.agg p.cells)) (hy : ev env y = some (.agg q.cells)) : Run n env w ⟨d, .binOp .neq 40 x y t', ty, pos, af, g⟩ (.value (.bool (!decide (p = q)))) w := r_neA Tryz.eqGuardType40 hx hy (eq_Cipher w 9997 p q)
theorem r_neSeat {t' : TypeId} {p q : Seat} (hx : ev env x = some (.agg p.cells)) (hy : ev env y = some (.agg q.cells)) : Run n env w ⟨d, .binOp .neq 73 x y t', ty, pos, af, g⟩ (.value (.bool (!decide (p = q)))) w := r_neA Tryz.eqGuardType73 hx hy (eq_Seat w 9996 p q)
theorem r_neInvite {t' : TypeId} {p q : Invite} (hx : ev env x = some (.agg p.cells)) (hy : ev env y = some (.agg q.cells)) : Run n env w ⟨d, .binOp .neq 82 x y t', ty, pos, af, g⟩ (.value (.bool (!decide (p = q)))) w := r_neA Tryz.eqGuardType82 hx hy (eq_Invite w 9996 p q)
theorem r_neAsk {t' : TypeId} {p q : Ask} (hx : ev env x = some (.agg p.cells)) (hy : ev env y = some (.agg q.cells)) : Run n env w ⟨d, .binOp .neq 84 x y t', ty, pos, af, g⟩ (.value (.bool (!decide (p = q)))) w := r_neA Tryz.eqGuardType84 hx hy (eq_Ask w 9996 p q)
theorem r_neBan {t' : TypeId} {p q : Ban} (hx : ev env x = some (.agg p.cells)) (hy : ev env y = some (.agg q.cells)) : Run n env w ⟨d, .binOp .neq 86 x y t', ty, pos, af, g⟩ (.value (.bool (!decide (p = q)))) w := r_neA Tryz.eqGuardType86 hx hy (eq_Ban w 9996 p q)
end ops
end Go.Proofs.YtekhaogjmmmniaaGreat
namespace Go.Proofs.YtekhaogjmmmniaaGreat
open Go Go.RowKit

section steps
variable {n : Nat} {env : List (Nat × Value)} {W w : World} {X : List Nat} {L : List Ent} {N : Pst} {E : List (Nat × Pst)} {R : Pst} {ops : Array Oper} {rest : List Oper}
variable {d : Nat} {ty : TypeId} {pos : String} {af : Array Edge} {x y : Operand} {v : Value} {T : TypeId}

theorem l_box (hM : Mem W X L w) (hn : Nat.blt d n = true) (hx : ev env x = some v)
    (h : ∀ b w', Mem W X ((b, v.cells, T) :: L) w' → Keeps [] w w' → w.heap.size ≤ b → AT n ((d, .pointer (some ⟨b, 0, none⟩)) :: env) w' (LW ops rest N E R)) :
    AT n env w (LW ops (⟨some d, .box T x, ty, pos, af, none⟩ :: rest) N E R) :=
  l_val (gn rfl) rfl hn (r_box hx) (h _ _ (hM.alloc _ _) (Keeps.alloc _ _) (Nat.le_refl _))

theorem l_alloc (hM : Mem W X L w) (hn : Nat.blt d n = true) (hz : ∀ w, (zeroValue T).run Tryz.prog w = .ok v w)
    (h : ∀ b w', Mem W X ((b, v.cells, T) :: L) w' → Keeps [] w w' → w.heap.size ≤ b → AT n ((d, .pointer (some ⟨b, 0, none⟩)) :: env) w' (LW ops rest N E R)) :
    AT n env w (LW ops (⟨some d, .alloc T, ty, pos, af, none⟩ :: rest) N E R) :=
  l_val (gn rfl) rfl hn (r_alloc hz) (h _ _ (hM.alloc _ _) (Keeps.alloc _ _) (Nat.le_refl _))

theorem l_store {i b off k : Nat} {cs cs' : Array Value} {t : TypeId} (hM : Mem W X L w) (hi : L[i]? = some (b, cs, t)) (hs : ∀ w, (sizeOf T).run Tryz.prog w = .ok k w)
    (hx : ev env x = some (.pointer (some ⟨b, off, none⟩))) (hv : ev env y = some v) (hk : v.cells.size = k) (hl : off + k ≤ cs.size) (h1 : ∀ c ∈ v.cells, c.oneCell' = true) (hp : put cs off v.cells = cs')
    (h : ∀ w', Mem W X (L.set i (b, cs', t)) w' → Keeps [b] w w' → AT n env w' (LW ops rest N E R)) :
    AT n env w (LW ops (⟨none, .store T x y, ty, pos, af, none⟩ :: rest) N E R) := by
  subst hp
  exact l_skip (gn rfl) rfl (r_store hs hx hv hk (hM.blk hi) (by omega) h1) (h _ (hM.setRow hi _) (Keeps.setRow _ _ _))

variable {S : World → Prop} {late : List Nat} {r : List (Nat × Bool)} {ld : Bool} {i : Nat}

theorem s_box (hM : Mem W X L w) (hi : ops[i]? = some ⟨some d, .box T x, ty, pos, af, none⟩) (hn : Nat.blt d n = true) (hx : ev env x = some v)
    (h : ∀ b w', Mem W X ((b, v.cells, T) :: L) w' → Keeps [] w w' → w.heap.size ≤ b → ((ld || late.contains i) = true ∨ S w') ∧ AT n ((d, .pointer (some ⟨b, 0, none⟩)) :: env) w' (SW ops S late r (ld || late.contains i) N E R)) :
    AT n env w (SW ops S late ((i, false) :: r) ld N E R) :=
  have h' := h _ _ (hM.alloc _ _) (Keeps.alloc _ _) (Nat.le_refl _)
  s_val hi (gn rfl) rfl hn (r_box hx) h'.1 h'.2

theorem s_store {j b off k : Nat} {cs cs' : Array Value} {t : TypeId} (hM : Mem W X L w) (hj : L[j]? = some (b, cs, t)) (hi : ops[i]? = some ⟨none, .store T x y, ty, pos, af, none⟩) (hs : ∀ w, (sizeOf T).run Tryz.prog w = .ok k w)
    (hx : ev env x = some (.pointer (some ⟨b, off, none⟩))) (hv : ev env y = some v) (hk : v.cells.size = k) (hl : off + k ≤ cs.size) (h1 : ∀ c ∈ v.cells, c.oneCell' = true) (hp : put cs off v.cells = cs')
    (h : ∀ w', Mem W X (L.set j (b, cs', t)) w' → Keeps [b] w w' → ((ld || late.contains i) = true ∨ S w') ∧ AT n env w' (SW ops S late r (ld || late.contains i) N E R)) :
    AT n env w (SW ops S late ((i, false) :: r) ld N E R) := by
  subst hp
  have h' := h _ (hM.setRow hj _) (Keeps.setRow _ _ _)
  exact s_skip hi (gn rfl) rfl (r_store hs hx hv hk (hM.blk hj) (by omega) h1) h'.1 h'.2
end steps

/-! ### Loads, in the form of a chain: where the base lies, then field by field -/
section loads
variable {n : Nat} {env : List (Nat × Value)} {w : World} {d : Option Nat} {ty : TypeId} {pos : String} {af : Array Edge} {g : Option (Nat × Bool)} {x y : Operand} {v : Value}
theorem Mem.base {W w : World} {X : List Nat} {L : List Ent} (h : Mem W X L w) {i : Nat} {b : Nat} {cs : Array Value} {t : TypeId} (hi : L[i]? = some (b, cs, t)) : Holds w b 0 cs := h.holds hi (Sub.refl _)
theorem Row.ix {α : Type} {A : Nat → Prop} {s : Sl} {sz : Nat} {enc : α → Array Value} {l : List α} (h : Row A w s sz enc l) {i : Nat} {e : α} (hi : l[i]? = some e) {b off : Nat} (ha : s.a = some ⟨b, off, none⟩) : Holds w b (off + i * sz) (enc e) := by
  obtain ⟨b', off', h1, _, h3⟩ := h.at_ i e hi
  rw [h1] at ha; cases ha; exact h3
theorem r_lenR {T el : TypeId} {s : Sl} {k : Nat} (hT : Tryz.prog.underlying T = some (.slice el)) (hx : ev env x = some s.val) (hl : s.len = k) :
    Run n env w ⟨d, .call { callee := .builtin .len, args := #[x], argTypes := #[T] }, ty, pos, af, g⟩ (.value (.int .i64 k)) w := by
  subst hl; exact r_len hT hx
theorem r_indexR {α : Type} {A : Nat → Prop} {enc : α → Array Value} {l : List α} {T el : TypeId} {s : Sl} {b0 off sz i : Nat} {k : IntKind} (hT : Tryz.prog.underlying T = some (.slice el)) (hs : ∀ w, (sizeOf el).run Tryz.prog w = .ok sz w)
    (hr : ∃ w, Row A w s sz enc l) (hx : ev env x = some s.val) (ha : s.a = some ⟨b0, off, none⟩) (hy : ev env y = some (.int k (i : Int))) (hi : i < l.length) :
    Run n env w ⟨d, .indexAddr T x y, ty, pos, af, g⟩ (.value (.pointer (some ⟨b0, off + i * sz, none⟩))) w := by
  obtain ⟨w', hr⟩ := hr
  refine r_index hT hs (l := s.len) (c := s.cap) ?_ hy (by rw [hr.len]; exact hi)
  rw [hx, Sl.val, ha]
end loads

/-! ### Numbers, as the walks say them -/
theorem nlt (i k : Nat) : decide ((i : Int) < (k : Int)) = decide (i < k) := by simp
theorem nle (i k : Nat) : decide ((i : Int) ≤ (k : Int)) = decide (i ≤ k) := by simp
theorem neq' (i k : Nat) : decide ((i : Int) = (k : Int)) = decide (i = k) := by simp [Int.ofNat_inj]
theorem u8eq (a b : UInt8) : decide ((a.toNat : Int) = (b.toNat : Int)) = decide (a = b) := decide_eq_decide.2 vU8_inj
theorem u8lt (a b : UInt8) : decide ((a.toNat : Int) < (b.toNat : Int)) = decide (a < b) := by simp [UInt8.lt_iff_toNat_lt]
theorem u8le (a b : UInt8) : decide ((a.toNat : Int) ≤ (b.toNat : Int)) = decide (a ≤ b) := by simp [UInt8.le_iff_toNat_le]
theorem u32eq (a b : UInt32) : decide ((a.toNat : Int) = (b.toNat : Int)) = decide (a = b) := decide_eq_decide.2 vU32_inj
theorem nadd {i k m : Nat} (h : i + k = m) (hm : m ≤ 9223372036854775807) : IntKind.i64.wrap ((i : Int) + (k : Int)) = (m : Int) := by
  rw [IntWalk.i64_in _ (by omega)]; omega
theorem nsub {i k m : Nat} (h : m + k = i) (hm : i ≤ 9223372036854775807) : IntKind.i64.wrap ((i : Int) - (k : Int)) = (m : Int) := by
  rw [IntWalk.i64_in _ (by omega)]; omega
end Go.Proofs.YtekhaogjmmmniaaGreat
namespace Go.Proofs.YtekhaogjmmmniaaGreat
open Go Go.RowKit
theorem zero_Pt : Pt.cells Pt.zero = #[vU8 0, vU8 0, vU8 0, vU8 0, vU8 0, vU8 0, vU8 0, vU8 0, vU8 0, vU8 0, vU8 0, vU8 0, vU8 0, vU8 0, vU8 0, vU8 0, vU8 0, vU8 0, vU8 0, vU8 0, vU8 0, vU8 0, vU8 0, vU8 0, vU8 0, vU8 0, vU8 0, vU8 0, vU8 0, vU8 0, vU8 0, vU8 0] := by kernel_rfl
theorem zv_Pt : ∀ w, (zeroValue 24).run Tryz.prog w = .ok (.agg (Pt.cells Pt.zero)) w := fun w => by rw [Tryz.zeroValue24, zero_Pt]; rfl
theorem fill_nil {place : Nat → Option (Nat × Nat)} {cs : Array Value} : Instr.fill place cs [] = some cs := rfl
theorem foldl_put (v : List Value) : ∀ (off j : Nat) (cs : Array Value), off + j + v.length ≤ cs.size → (v.zipIdx j).foldl (fun cs (c, j) => cs.setIfInBounds (off + j) c) cs = put cs (off + j) v.toArray := by
  induction v with
  | nil =>
    intro off j cs h
    apply Array.ext'
    simp [put]
  | cons c v ih =>
    intro off j cs h
    simp only [List.length_cons] at h
    have h5 := ih off (j + 1) (cs.setIfInBounds (off + j) c) (by simp; omega)
    rw [List.zipIdx_cons, List.foldl_cons, h5, ← Nat.add_assoc]
    clear h5
    apply Array.ext_getElem?
    intro k
    rw [put_getElem? _ _ _ (by simp; omega), put_getElem? _ _ _ (by simp; omega), Array.getElem?_setIfInBounds]
    simp only [List.size_toArray, List.length_cons]
    by_cases h1 : off + j ≤ k ∧ k < off + j + (v.length + 1)
    · rw [if_pos h1]
      by_cases h2 : k = off + j
      · subst h2
        rw [if_neg (by omega), if_pos rfl, if_pos (by omega)]; simp
      · rw [if_pos (by omega)]
        simp only [List.getElem?_toArray]
        rw [show k - (off + j) = (k - (off + j + 1)) + 1 by omega, List.getElem?_cons_succ]
    · rw [if_neg h1, if_neg (by omega), if_neg (by omega)]
theorem fill_cons {place : Nat → Option (Nat × Nat)} {cs cs' r : Array Value} {i off size : Nat} {v : Value} {rest : List (Nat × Value)} (hp : place i = some (off, size)) (hs : v.cells.size = size) (hl : off + size ≤ cs.size)
    (hput : put cs off v.cells = cs') (h : Instr.fill place cs' rest = some r) : Instr.fill place cs ((i, v) :: rest) = some r := by
  subst hs
  rw [Instr.fill]
  simp only [hp]
  rw [if_neg (by simpa using hl), ← h, ← hput]
  congr 1
  have := foldl_put v.cells.toList off 0 cs (by simpa using hl)
  simp only [Nat.add_zero, Array.toArray_toList] at this
  rw [← this, ← Array.foldl_toList, Array.toList_zipIdx]
def Pub.zero : Pub := ⟨Pt.zero, Pt.zero⟩
theorem Pub.zv : ∀ w, (zeroValue 26).run Tryz.prog w = .ok (.agg Pub.zero.cells) w := fun w => by rw [Tryz.zeroValue26]; congr 2 <;> kernel_rfl
def Pub.places : Array (Nat × Nat) := #[(0, 32), (32, 32)]
theorem Pub.built (vs : List (Nat × Value)) : Tryz.prog.built 26 vs = Instr.fill (Pub.places[·]?) Pub.zero.cells vs := by kernel_rfl
def Access.zero : Access := ⟨0, 0, 0⟩
theorem Access.zv : ∀ w, (zeroValue 31).run Tryz.prog w = .ok (.agg Access.zero.cells) w := fun w => by rw [Tryz.zeroValue31]; congr 2 <;> kernel_rfl
def Access.places : Array (Nat × Nat) := #[(0, 1), (1, 1), (2, 1)]
theorem Access.built (vs : List (Nat × Value)) : Tryz.prog.built 31 vs = Instr.fill (Access.places[·]?) Access.zero.cells vs := by kernel_rfl
def Cipher.zero : Cipher := ⟨Pt.zero, Pt.zero⟩
theorem Cipher.zv : ∀ w, (zeroValue 40).run Tryz.prog w = .ok (.agg Cipher.zero.cells) w := fun w => by rw [Tryz.zeroValue40]; congr 2 <;> kernel_rfl
def Cipher.places : Array (Nat × Nat) := #[(0, 32), (32, 32)]
theorem Cipher.built (vs : List (Nat × Value)) : Tryz.prog.built 40 vs = Instr.fill (Cipher.places[·]?) Cipher.zero.cells vs := by kernel_rfl
def Seat.zero : Seat := ⟨Cipher.zero, 0, 0⟩
theorem Seat.zc : Tryz.zeroCells73 = Seat.zero.cells := by kernel_rfl
theorem Seat.zv : ∀ w, (zeroValue 73).run Tryz.prog w = .ok (.agg Seat.zero.cells) w := fun w => by rw [Tryz.zeroValue73, Seat.zc]
def Seat.places : Array (Nat × Nat) := #[(0, 64), (64, 1), (65, 1)]
theorem Seat.built (vs : List (Nat × Value)) : Tryz.prog.built 73 vs = Instr.fill (Seat.places[·]?) Seat.zero.cells vs := by kernel_rfl
def Invite.zero : Invite := ⟨Cipher.zero, 0, Cipher.zero⟩
theorem Invite.zc : Tryz.zeroCells82 = Invite.zero.cells := by kernel_rfl
theorem Invite.zv : ∀ w, (zeroValue 82).run Tryz.prog w = .ok (.agg Invite.zero.cells) w := fun w => by rw [Tryz.zeroValue82, Invite.zc]
def Invite.places : Array (Nat × Nat) := #[(0, 64), (64, 1), (65, 64)]
theorem Invite.built (vs : List (Nat × Value)) : Tryz.prog.built 82 vs = Instr.fill (Invite.places[·]?) Invite.zero.cells vs := by kernel_rfl
def Ask.zero : Ask := ⟨Cipher.zero, 0⟩
theorem Ask.zc : Tryz.zeroCells84 = Ask.zero.cells := by kernel_rfl
theorem Ask.zv : ∀ w, (zeroValue 84).run Tryz.prog w = .ok (.agg Ask.zero.cells) w := fun w => by rw [Tryz.zeroValue84, Ask.zc]
def Ask.places : Array (Nat × Nat) := #[(0, 64), (64, 1)]
theorem Ask.built (vs : List (Nat × Value)) : Tryz.prog.built 84 vs = Instr.fill (Ask.places[·]?) Ask.zero.cells vs := by kernel_rfl
def Ban.zero : Ban := ⟨Cipher.zero, Cipher.zero⟩
theorem Ban.zc : Tryz.zeroCells86 = Ban.zero.cells := by kernel_rfl
theorem Ban.zv : ∀ w, (zeroValue 86).run Tryz.prog w = .ok (.agg Ban.zero.cells) w := fun w => by rw [Tryz.zeroValue86, Ban.zc]
def Ban.places : Array (Nat × Nat) := #[(0, 64), (64, 64)]
theorem Ban.built (vs : List (Nat × Value)) : Tryz.prog.built 86 vs = Instr.fill (Ban.places[·]?) Ban.zero.cells vs := by kernel_rfl
def SRep.zero : SRep := ⟨0, Pub.zero, Sl.nil, Access.zero, Sl.nil, Sl.nil, Sl.nil, Sl.nil, Sl.nil⟩
theorem SRep.zc : Tryz.zeroCells37 = SRep.zero.cells := by kernel_rfl
theorem SRep.zv : ∀ w, (zeroValue 37).run Tryz.prog w = .ok (.agg SRep.zero.cells) w := fun w => by rw [Tryz.zeroValue37, SRep.zc]
def SRep.places : Array (Nat × Nat) := #[(0, 1), (1, 64), (65, 1), (66, 3), (69, 1), (70, 1), (71, 1), (72, 1), (73, 1)]
theorem SRep.built (vs : List (Nat × Value)) : Tryz.prog.built 37 vs = Instr.fill (SRep.places[·]?) SRep.zero.cells vs := by kernel_rfl
def ARep.zero : ARep := ⟨0, 0, Cipher.zero, Pt.zero, 0, Sl.nil, Access.zero, Sl.nil⟩
theorem ARep.zc : Tryz.zeroCells42 = ARep.zero.cells := by kernel_rfl
theorem ARep.zv : ∀ w, (zeroValue 42).run Tryz.prog w = .ok (.agg ARep.zero.cells) w := fun w => by rw [Tryz.zeroValue42, ARep.zc]
def ARep.places : Array (Nat × Nat) := #[(0, 1), (1, 1), (2, 64), (66, 32), (98, 1), (99, 1), (100, 3), (103, 1)]
theorem ARep.built (vs : List (Nat × Value)) : Tryz.prog.built 42 vs = Instr.fill (ARep.places[·]?) ARep.zero.cells vs := by kernel_rfl
def Hs.zero : Hs := ⟨false, false, false, false, false, false⟩
theorem Hs.zv : ∀ w, (zeroValue 106).run Tryz.prog w = .ok (.agg Hs.zero.cells) w := fun w => by rw [Tryz.zeroValue106]; congr 2 <;> kernel_rfl
def Hs.places : Array (Nat × Nat) := #[(0, 1), (1, 1), (2, 1), (3, 1), (4, 1), (5, 1)]
theorem Hs.built (vs : List (Nat × Value)) : Tryz.prog.built 106 vs = Instr.fill (Hs.places[·]?) Hs.zero.cells vs := by kernel_rfl

theorem Pt.built : Tryz.prog.built 24 [] = some (Pt.cells Pt.zero) := by kernel_rfl

section results
variable {n : Nat} {env : List (Nat × Value)} {w : World} {fn : Func} {Rc : Value → World → Prop}
theorem loadVarA {T b off k : Nat} {cs : Array Value} (hT : ∀ w, (isAgg T).run Tryz.prog w = .ok true w) (hs : ∀ w, (sizeOf T).run Tryz.prog w = .ok k w) (hk : cs.size = k) (hh : Holds w b off cs) :
    (loadVar T ⟨b, off, none⟩).run Tryz.prog w = .ok (.agg cs) w := by
  have h0 : (loadCells ⟨b, off, none⟩ cs.toList.length).run Tryz.prog w = .ok cs.toList.toArray w := run_loadCells_list w ⟨b, off, none⟩ cs.toList (fun j u hu => by
    rw [addr_add]
    have hj : j < cs.size := by have := (List.getElem?_eq_some_iff.1 hu).1; simpa using this
    rw [hh j hj]; simpa using hu)
  simp only [Array.length_toList, Array.toArray_toList] at h0
  subst hk
  simp [loadVar, hT, hs, h0]
theorem getD_of {a : Act} (ha : Kn n env a) {t : Nat} {v : Value} (ht : lk env t = some v) : a.tmps[t]?.getD undef = v := by
  have := ha.kn t v ht
  rwa [Array.getD_eq_getD_getElem?] at this
theorem ret2 {t u : Tmp} {v v' : Value} (hr : fn.results = #[.tmp t, .tmp u]) (ht : lk env t = some v) (hu : lk env u = some v') (h : Rc (.tuple #[v, v']) w) : AT n env w (retPost fn Rc) := fun a ha =>
  ⟨ha.dn, _, by simp [results, hr, getD_of ha ht, getD_of ha hu], h⟩
theorem retC {t : Tmp} {T b off k : Nat} {cs : Array Value} (hr : fn.results = #[.cell t T]) (hT : ∀ w, (isAgg T).run Tryz.prog w = .ok true w) (hs : ∀ w, (sizeOf T).run Tryz.prog w = .ok k w) (hk : cs.size = k)
    (ht : lk env t = some (.pointer (some ⟨b, off, none⟩))) (hh : Holds w b off cs) (h : Rc (.agg cs) w) : AT n env w (retPost fn Rc) := fun a ha =>
  ⟨ha.dn, _, by simp [results, hr, getD_of ha ht, asAddr, loadVarA hT hs hk hh], h⟩
theorem retCT {t u : Tmp} {T b off k : Nat} {cs : Array Value} {v : Value} (hr : fn.results = #[.cell t T, .tmp u]) (hT : ∀ w, (isAgg T).run Tryz.prog w = .ok true w) (hs : ∀ w, (sizeOf T).run Tryz.prog w = .ok k w) (hk : cs.size = k)
    (ht : lk env t = some (.pointer (some ⟨b, off, none⟩))) (hh : Holds w b off cs) (hu : lk env u = some v) (h : Rc (.tuple #[.agg cs, v]) w) : AT n env w (retPost fn Rc) := fun a ha =>
  ⟨ha.dn, _, by simp [results, hr, getD_of ha ht, getD_of ha hu, asAddr, loadVarA hT hs hk hh], h⟩
theorem retTTC {t1 t2 t : Tmp} {T b off k : Nat} {cs : Array Value} {v1 v2 : Value} (hr : fn.results = #[.tmp t1, .tmp t2, .cell t T]) (hT : ∀ w, (isAgg T).run Tryz.prog w = .ok true w) (hs : ∀ w, (sizeOf T).run Tryz.prog w = .ok k w) (hk : cs.size = k)
    (h1 : lk env t1 = some v1) (h2 : lk env t2 = some v2) (ht : lk env t = some (.pointer (some ⟨b, off, none⟩))) (hh : Holds w b off cs) (h : Rc (.tuple #[v1, v2, .agg cs]) w) : AT n env w (retPost fn Rc) := fun a ha =>
  ⟨ha.dn, _, by simp [results, hr, getD_of ha ht, getD_of ha h1, getD_of ha h2, asAddr, loadVarA hT hs hk hh], h⟩
end results
end Go.Proofs.YtekhaogjmmmniaaGreat
namespace Go.Proofs.YtekhaogjmmmniaaGreat
open Go Go.RowKit
theorem put_whole (cs ds : Array Value) (h : cs.size = ds.size) : put cs 0 ds = ds := by
  apply Array.ext'
  simp [put, ← h]
/-- The place of the first element of which p holds; -1: there is none. -/
def idxOf {α : Type} (p : α → Bool) (l : List α) : Int := match l.findIdx? p with | some i => (i : Int) | none => -1
theorem findIdx_at {α : Type} {p : α → Bool} {l : List α} {k : Nat} {x : α} (hx : l[k]? = some x) (hp : p x = true) (hno : ∀ j y, j < k → l[j]? = some y → p y = false) : l.findIdx? p = some k := by
  rw [List.findIdx?_eq_some_iff_getElem]
  obtain ⟨hk, e⟩ := List.getElem?_eq_some_iff.1 hx
  refine ⟨hk, by rw [e]; exact hp, fun j hj => ?_⟩
  have := hno j _ hj (List.getElem?_eq_getElem (by omega))
  simpa using this
theorem findIdx_no {α : Type} {p : α → Bool} {l : List α} (hno : ∀ j y, j < l.length → l[j]? = some y → p y = false) : l.findIdx? p = none := by
  rw [List.findIdx?_eq_none_iff]
  intro x hx
  obtain ⟨j, hj, e⟩ := List.mem_iff_getElem.1 hx
  exact hno j x hj (by rw [List.getElem?_eq_getElem hj, e])
theorem idxOf_at {α : Type} {p : α → Bool} {l : List α} {k : Nat} {x : α} (hx : l[k]? = some x) (hp : p x = true) (hno : ∀ j y, j < k → l[j]? = some y → p y = false) : idxOf p l = (k : Int) := by
  simp [idxOf, findIdx_at hx hp hno]
theorem idxOf_no {α : Type} {p : α → Bool} {l : List α} (hno : ∀ j y, j < l.length → l[j]? = some y → p y = false) : idxOf p l = -1 := by
  simp [idxOf, findIdx_no hno]
theorem no_step {α : Type} {p : α → Bool} {l : List α} {k : Nat} {x : α} (hx : l[k]? = some x) (hp : p x = false) (hno : ∀ j y, j < k → l[j]? = some y → p y = false) : ∀ j y, j < k + 1 → l[j]? = some y → p y = false := by
  intro j y hj hy
  by_cases e : j = k
  · subst e; rw [hx] at hy; cases hy; exact hp
  · exact hno j y (by omega) hy
theorem find_at {α : Type} {p : α → Bool} : ∀ {l : List α} {k : Nat} {x : α}, l[k]? = some x → p x = true → (∀ j y, j < k → l[j]? = some y → p y = false) → l.find? p = some x
  | [], k, x, hx, _, _ => by simp at hx
  | y :: l, 0, x, hx, hp, _ => by simp at hx; subst hx; simp [hp]
  | y :: l, k + 1, x, hx, hp, hno => by
    have h0 := hno 0 y (by omega) (by simp)
    rw [List.find?_cons, h0]
    exact find_at (by simpa using hx) hp (fun j z hj hz => hno (j + 1) z (by omega) (by simpa using hz))
theorem find_no {α : Type} {p : α → Bool} {l : List α} (hno : ∀ j y, j < l.length → l[j]? = some y → p y = false) : l.find? p = none := by
  rw [List.find?_eq_none]
  intro x hx
  obtain ⟨j, hj, e⟩ := List.mem_iff_getElem.1 hx
  simp [hno j x hj (by rw [List.getElem?_eq_getElem hj, e])]
/-- There is none; or it is found. -/
theorem idxOf_cases {α : Type} (p : α → Bool) (l : List α) : (idxOf p l = -1 ∧ l.find? p = none) ∨ ∃ k x, idxOf p l = ((k : Nat) : Int) ∧ l[k]? = some x ∧ p x = true ∧ l.find? p = some x := by
  cases h : l.findIdx? p with
  | none =>
    refine .inl ⟨by simp [idxOf, h], ?_⟩
    rw [List.findIdx?_eq_none_iff] at h
    rw [List.find?_eq_none]
    intro x hx; simp [h x hx]
  | some k =>
    obtain ⟨hk, h1, h2⟩ := List.findIdx?_eq_some_iff_getElem.1 h
    refine .inr ⟨k, l[k], by simp [idxOf, h], List.getElem?_eq_getElem hk, h1, find_at (List.getElem?_eq_getElem hk) h1 (fun j y hj hy => ?_)⟩
    obtain ⟨hj', e⟩ := List.getElem?_eq_some_iff.1 hy
    have := h2 j hj
    rw [← e]; simpa using this

/-! ### Bounds -/
section bounds
variable {A : Nat → Prop} {w : World} {q : Six} {S : State} {qa : Two} {a : Action}
theorem Row.bd {α : Type} {s : Sl} {sz : Nat} {enc : α → Array Value} {l : List α} (h : Row A w s sz enc l) : l.length ≤ 140737488355328 := by
  have h1 := h.len; have h2 := h.cap; have h3 := h.big; omega
theorem StV.bd (h : StV A w q S) : S.title.length ≤ 140737488355328 ∧ S.pass.length ≤ 140737488355328 ∧ S.seats.length ≤ 140737488355328 ∧ S.invites.length ≤ 140737488355328 ∧ S.asks.length ≤ 140737488355328 ∧ S.bans.length ≤ 140737488355328 :=
  ⟨h.title.bd, h.pass.bd, h.seats.bd, h.invites.bd, h.asks.bd, h.bans.bd⟩
theorem AcV.bd (h : AcV A w qa a) : a.title.length ≤ 140737488355328 ∧ a.pass.length ≤ 140737488355328 := ⟨h.title.bd, h.pass.bd⟩
end bounds

/-! ### Bytes as strings -/
def strB (l : List UInt8) : Value := .string ⟨l.toArray⟩
def Pt.bytes (p : Pt) : List UInt8 := p.toList
theorem Pt.bytes_length (p : Pt) : p.bytes.length = 32 := by simp [Pt.bytes]
theorem Pt.cells_eq (p : Pt) : p.cells = (p.bytes.map vU8).toArray := by
  apply Array.ext'
  simp [Pt.cells, Pt.bytes, Vector.toList]

/-- What a row of bytes holds, one behind the other. -/
theorem Row.bytes {A : Nat → Prop} {w : World} {s : Sl} {l : List UInt8} (h : Row A w s 1 encB l) {b off : Nat} (ha : s.a = some ⟨b, off, none⟩) : Holds w b off (l.map vU8).toArray := by
  intro j hj
  have hj' : j < l.length := by simpa using hj
  have := h.ix (List.getElem?_eq_getElem hj') ha 0 (by simp [encB])
  simp only [Nat.mul_one, Nat.add_zero] at this
  rw [this]; simp [encB, hj']

theorem loop_push {f : Value → ByteArray → Sem (ForInStep ByteArray)} (hf : ∀ (b : UInt8) r, f (vU8 b) r = pure (.yield (r.push b))) (l : List UInt8) : ∀ (acc : ByteArray), forIn (m := Sem) ((l.map vU8).toArray) acc f = pure (l.foldl (fun r b => r.push b) acc) := by
  intro acc
  rw [← Array.forIn_toList]
  simp only
  induction l generalizing acc with
  | nil => simp
  | cons b l ih =>
    simp only [List.map_cons, List.forIn_cons, hf, pure_bind]
    exact ih _
theorem foldl_push (l : List UInt8) : ∀ acc : ByteArray, l.foldl (fun r b => r.push b) acc = ⟨acc.data ++ l.toArray⟩ := by
  induction l with
  | nil => intro acc; simp
  | cons b l ih =>
    intro acc
    rw [List.foldl_cons, ih]
    congr 1
    apply Array.ext'
    simp [ByteArray.push]

theorem run_bstr {w : World} {b off len cap : Nat} {l : List UInt8} (hl : len = l.length) (hh : Holds w b off (l.map vU8).toArray) : (Conv.bytesToString (.slice (some ⟨b, off, none⟩) len cap)).run Tryz.prog w = .ok (strB l) w := by
  have h0 : (loadCells ⟨b, off, none⟩ (l.map vU8).length).run Tryz.prog w = .ok (l.map vU8).toArray w := run_loadCells_list w ⟨b, off, none⟩ (l.map vU8) (fun j u hu => by
    rw [addr_add]
    have hj : j < ((l.map vU8).toArray).size := by have := (List.getElem?_eq_some_iff.1 hu).1; simpa using this
    rw [hh j hj]; simpa using hu)
  rw [List.length_map, ← hl] at h0
  simp only [Conv.bytesToString, Sem.run_bind, h0, Result.andThen_ok]
  refine (congrArg (fun r : Result ByteArray => r.andThen fun a w' => (pure (Value.string a) : Sem Value).run Tryz.prog w') (congrArg (fun (s : Sem ByteArray) => s.run Tryz.prog w) (loop_push (fun b r => ?_) l ByteArray.empty))).trans ?_
  · have : UInt8.ofNat ((b.toNat : Int).toNat) = b := by simp
    simp only [vU8, this]
  simp only [Sem.run_pure, Result.andThen_ok, foldl_push, strB]
  simp

section ops
variable {n : Nat} {env : List (Nat × Value)} {w : World} {d : Option Nat} {ty : TypeId} {pos : String} {af : Array Edge} {g : Option (Nat × Bool)} {x y : Operand}
theorem conv_run (v : Value) {r : Value} (h : (Conv.bytesToString v).run Tryz.prog w = .ok r w) (hv : ∃ a l c, v = .slice a l c) : (convert 27 9 v).run Tryz.prog w = .ok r w := by
  obtain ⟨a, l, c, rfl⟩ := hv
  simp [convert, run_underlying Tryz.underlying27, run_underlying Tryz.underlying9, run_underlying Tryz.underlying5, h]
theorem run_bstrR {A : Nat → Prop} {s : Sl} {l : List UInt8} (hr : Row A w s 1 encB l) : (Conv.bytesToString s.val).run Tryz.prog w = .ok (strB l) w := by
  cases l with
  | nil =>
    have hl : s.len = 0 := hr.len
    unfold Sl.val
    rw [hl]
    cases s.a with
    | none => rfl
    | some a =>
      simp only [Conv.bytesToString, Sem.run_bind]
      rfl
  | cons b0 l =>
    obtain ⟨b, off, ha, _, _⟩ := hr.at_ 0 b0 rfl
    unfold Sl.val
    rw [ha]
    exact run_bstr hr.len (hr.bytes ha)
/-- string(s) of a slice of bytes. -/
theorem r_bstrR {A : Nat → Prop} {s : Sl} {l : List UInt8} (hx : ev env x = some s.val) (hr : Row A w s 1 encB l) : Run n env w ⟨d, .convert 27 9 x, ty, pos, af, g⟩ (.value (strB l)) w := fun a ha => by
  simp [execOp, ha.eval hx, conv_run s.val (run_bstrR hr) ⟨_, _, _, rfl⟩]
/-- string(p[:]) of 32 bytes in memory. -/
theorem r_bstrP {p : Pt} {b off : Nat} (hx : ev env x = some (.slice (some ⟨b, off, none⟩) 32 32)) (hh : Holds w b off p.cells) : Run n env w ⟨d, .convert 27 9 x, ty, pos, af, g⟩ (.value (strB p.bytes)) w := fun a ha => by
  simp [execOp, ha.eval hx, conv_run _ (run_bstr (by rw [p.bytes_length]) (by rw [← p.cells_eq]; exact hh)) ⟨_, _, _, rfl⟩]
theorem r_streq {l l' : List UInt8} {t t' : TypeId} (hx : ev env x = some (strB l)) (hy : ev env y = some (strB l')) : Run n env w ⟨d, .binOp .eql t x y t', ty, pos, af, g⟩ (.value (.bool (decide (l = l')))) w := fun a ha => by
  have : (l == l') = decide (l = l') := by by_cases h : l = l' <;> simp [h]
  simp [execOp, ha.eval hx, ha.eval hy, eqGuard, binOp, Op.stringOp, strB, this]
theorem r_strne {l l' : List UInt8} {t t' : TypeId} (hx : ev env x = some (strB l)) (hy : ev env y = some (strB l')) : Run n env w ⟨d, .binOp .neq t x y t', ty, pos, af, g⟩ (.value (.bool (!decide (l = l')))) w := fun a ha => by
  have : (l == l') = decide (l = l') := by by_cases h : l = l' <;> simp [h]
  simp [execOp, ha.eval hx, ha.eval hy, eqGuard, binOp, Op.stringOp, strB, this]
theorem r_strlt {l l' : List UInt8} {t t' : TypeId} (hx : ev env x = some (strB l)) (hy : ev env y = some (strB l')) : Run n env w ⟨d, .binOp .lss t x y t', ty, pos, af, g⟩ (.value (.bool (Op.bytesLess l l'))) w := fun a ha => by
  simp [execOp, ha.eval hx, ha.eval hy, eqGuard, binOp, Op.stringOp, strB]
end ops
end Go.Proofs.YtekhaogjmmmniaaGreat
namespace Go.Proofs.YtekhaogjmmmniaaGreat
open Go Go.RowKit

def isRole (r : UInt8) : Bool := decide (r = 1) || decide (r = 2)
def okAccess (a : Access) : Bool := isRole a.title && isRole a.members && decide (a.link ≤ 2)
/-- the elements' handle is e -/
def seatIs (e : Pt) (x : Seat) : Bool := decide (x.who.E = e)
def inviteIs (e : Pt) (x : Invite) : Bool := decide (x.who.E = e)
def askIs (e : Pt) (x : Ask) : Bool := decide (x.who.E = e)
def banIs (e : Pt) (x : Ban) : Bool := decide (x.who.E = e)
def roleOf (l : List Seat) (e : Pt) : UInt8 := match l.find? (seatIs e) with | some x => x.role | none => 0
def isAdmin (x : Seat) : Bool := decide (x.role = 2)
def admins (l : List Seat) : Nat := l.countP isAdmin
def hasAdmin (S : State) : Bool := decide (S.seats.length = 0) || decide (0 < admins S.seats)
def largeB (S : State) (a : Action) : Bool := decide (400 < S.seats.length + S.invites.length + S.asks.length + S.bans.length) || decide (20000 < S.title.length + S.pass.length + a.title.length + a.pass.length)

theorem wu64_32 (x : UInt32) : IntKind.u64.wrap (x.toNat : Int) = (x.toNat : Int) := by
  have := x.toNat_lt
  simp [IntKind.wrap, IntKind.bits, IntKind.signed]; omega
theorem wu64_8 (x : UInt8) : IntKind.u64.wrap (x.toNat : Int) = (x.toNat : Int) := by
  have := x.toNat_lt
  simp [IntKind.wrap, IntKind.bits, IntKind.signed]; omega
theorem admins_step {l : List Seat} {k : Nat} {x : Seat} (hx : l[k]? = some x) : admins (l.take (k + 1)) = admins (l.take k) + if isAdmin x then 1 else 0 := by
  obtain ⟨hk, e⟩ := List.getElem?_eq_some_iff.1 hx
  rw [admins, admins, List.take_succ_eq_append_getElem hk, List.countP_append, e]
  simp [List.countP_cons, List.countP_nil]
theorem u64add (i k : Nat) (h : i + k < 18446744073709551616) : IntKind.u64.wrap ((i : Int) + (k : Int)) = ((i + k : Nat) : Int) := by
  simp [IntKind.wrap, IntKind.bits, IntKind.signed]; omega
theorem u64shl (i : Nat) (h : i * 4294967296 < 18446744073709551616) : IntKind.u64.wrap ((i : Int) * 2 ^ (min (32 : Int).toNat IntKind.u64.bits)) = ((i * 4294967296 : Nat) : Int) := by
  have : (2 : Int) ^ (min (32 : Int).toNat IntKind.u64.bits) = 4294967296 := by decide
  rw [this]
  simp [IntKind.wrap, IntKind.bits, IntKind.signed]; omega
theorem u64rem (i k : Nat) : (i : Int).tmod (k : Int) = ((i % k : Nat) : Int) := by simp [Int.tmod]

/-- In which list somebody stands, and their element's other fields as a number and a handle. -/
def placeOf (S : State) (e : Pt) : Nat × Nat × Pt :=
  match S.seats.find? (seatIs e) with
  | some x => (1, x.role.toNat * 4294967296 + x.joined.toNat, Pt.zero)
  | none => match S.invites.find? (inviteIs e) with
    | some x => (2, x.role.toNat, x.by_.E)
    | none => match S.asks.find? (askIs e) with
      | some x => (3, x.at_.toNat, Pt.zero)
      | none => match S.bans.find? (banIs e) with
        | some x => (4, 0, x.by_.E)
        | none => (0, 0, Pt.zero)

def ptLt (a b : Pt) : Bool := Op.bytesLess a.bytes b.bytes
def ptCmp (a b : Pt) : Int := Lib.compareBytes a.bytes b.bytes

/-- Which fields a kind of action has. -/
def hsOf (k : UInt8) : Hs :=
  ⟨decide (k = 1) || decide (k = 5) || decide (k = 9) || decide (k = 10),
   decide (k = 2) || decide (k = 3) || decide (k = 6) || decide (k = 12) || decide (k = 13) || decide (k = 14) || decide (k = 15),
   decide (k = 1) || decide (k = 3) || decide (k = 5) || decide (k = 12), decide (k = 16), decide (k = 17), decide (k = 9) || decide (k = 10) || decide (k = 18)⟩
theorem kinds (k : UInt8) : k = 1 ∨ k = 2 ∨ k = 3 ∨ k = 4 ∨ k = 5 ∨ k = 6 ∨ k = 7 ∨ k = 8 ∨ k = 9 ∨ k = 10 ∨ k = 11 ∨ k = 12 ∨ k = 13 ∨ k = 14 ∨ k = 15 ∨ k = 16 ∨ k = 17 ∨ k = 18 ∨ (k.toNat = 0 ∨ 18 < k.toNat) := by
  simp only [← UInt8.toNat_inj]
  have := k.toNat_lt
  simp
  omega
section native
variable {n : Nat} {env : List (Nat × Value)} {w : World} {d : Option Nat} {ty : TypeId} {pos : String} {af : Array Edge} {g : Option (Nat × Bool)} {x y : Operand}
theorem run_loadB {b : Nat} : ∀ (l : List UInt8) (off : Nat) (acc : ByteArray), Holds w b off (l.map vU8).toArray → (Extern.Bytes.loadBytes ⟨b, off, none⟩ l.length acc).run Tryz.prog w = .ok ⟨acc.data ++ l.toArray⟩ w
  | [], off, acc, _ => by simp [Extern.Bytes.loadBytes]
  | c :: l, off, acc, h => by
    have h0 : w.cell? ⟨b, off, none⟩ = some (vU8 c) := by simpa using h 0 (by simp)
    have h1 : Holds w b (off + 1) (l.map vU8).toArray := fun j hj => by
      have := h (j + 1) (by simpa using hj)
      rw [show off + 1 + j = off + (j + 1) by omega, this]; simp
    have ih := run_loadB l (off + 1) (acc.push c) h1
    have e : ((c.toNat : Int).toNat).toUInt8 = c := by simp
    simp only [Extern.Bytes.loadBytes, List.length_cons, Sem.run_bind, run_load, h0, vU8, Result.andThen_ok, addr_add, e, ih]
    congr 2
    apply Array.ext'
    simp [ByteArray.push]
/-- bytes.Compare's own core, at two arrays in memory. -/
theorem r_cmp {p q : Pt} {b1 o1 b2 o2 : Nat} {at' : Array TypeId} (hx : ev env x = some (.slice (some ⟨b1, o1, none⟩) 32 32)) (hy : ev env y = some (.slice (some ⟨b2, o2, none⟩) 32 32)) (h1 : Holds w b1 o1 p.cells) (h2 : Holds w b2 o2 q.cells) :
    Run n env w ⟨d, .call { callee := .value (.func 116), args := #[x, y], argTypes := at' }, ty, pos, af, g⟩ (.value (.int .i64 (ptCmp p q))) w := fun a ha => by
  have e1 : (Extern.Bytes.bytesOf (.slice (some ⟨b1, o1, none⟩) 32 32)).run Tryz.prog w = .ok ⟨p.bytes.toArray⟩ w := by
    have := run_loadB (w := w) (b := b1) p.bytes o1 ByteArray.empty (by rw [← p.cells_eq]; exact h1)
    rw [p.bytes_length] at this
    simpa [Extern.Bytes.bytesOf] using this
  have e2 : (Extern.Bytes.bytesOf (.slice (some ⟨b2, o2, none⟩) 32 32)).run Tryz.prog w = .ok ⟨q.bytes.toArray⟩ w := by
    have := run_loadB (w := w) (b := b2) q.bytes o2 ByteArray.empty (by rw [← q.cells_eq]; exact h2)
    rw [q.bytes_length] at this
    simpa [Extern.Bytes.bytesOf] using this
  have hf : Tryz.prog.funcs[116]? = some Tryz.f116 := Tryz.func116
  have hn : Extern.findNext Tryz.f116 = none := by kernel_rfl
  have hfind : Extern.find Tryz.f116 = some Extern.BytealgCompare.compare := by kernel_rfl
  have hb : Tryz.f116.body = none := by kernel_rfl
  have hname : Tryz.f116.name = "internal/bytealg.Compare" := by kernel_rfl
  have he : a.eval (.func 116) = .func (.func 116) #[] #[] := rfl
  have hc : (Extern.BytealgCompare.compare #[.slice (some ⟨b1, o1, none⟩) 32 32, .slice (some ⟨b2, o2, none⟩) 32 32]).run Tryz.prog w = .ok (.int .i64 (ptCmp p q)) w := by
    show ((do pure (goInt (Extern.BytealgCompare.cmp (← Extern.Bytes.bytesOf (.slice (some ⟨b1, o1, none⟩) 32 32)) (← Extern.Bytes.bytesOf (.slice (some ⟨b2, o2, none⟩) 32 32)))) : Sem Value)).run Tryz.prog w = _
    simp [e1, e2, goInt, Lib.cmp_eq, ptCmp]
  simp [execOp, resolve, Deferred.ofValue, he, ha.eval hx, ha.eval hy, invoke, callFunc, hf, hn, hfind, hb, hname, hc]
end native
end Go.Proofs.YtekhaogjmmmniaaGreat
namespace Go.Proofs.YtekhaogjmmmniaaGreat
open Go Go.RowKit

/-- What is kept where ways meet: for some i, the slots named and the world are as said. -/
def Jn {ι : Type} (n : Nat) (I : ι → World → Prop) (en : ι → List (Nat × Value)) : Pst := fun a w => ∃ i, I i w ∧ Kn n (en i) a

section rules
variable {n : Nat} {env : List (Nat × Value)} {w : World} {N : Pst} {E : List (Nat × Pst)} {R : Pst}

theorem c_join {ι : Type} {x : Code} (I : ι → World → Prop) (en : ι → List (Nat × Value)) (h : AT n env w (CW x (Jn n I en) E R)) (hk : ∀ i w', I i w' → AT n (en i) w' N) :
    AT n env w (CW x N E R) := fun a ha =>
  wp_mono (h a ha) fun e a' w' q => by
    cases e with
    | normal => obtain ⟨i, hi, hn⟩ := q; exact hk i w' hi a' hn
    | exit id => exact q
    | ret => exact q
    | goto l => exact q
    | panic c => exact q
    | outgrown => exact q

theorem jn {ι : Type} {I : ι → World → Prop} {en : ι → List (Nat × Value)} (i : ι) (hI : I i w) (hs : subEnv env (en i)) : AT n env w (Jn n I en) := fun _ ha =>
  ⟨i, hI, ha.sub hs⟩
end rules

section ops
variable {n : Nat} {env : List (Nat × Value)} {w : World} {d : Option Nat} {t t' : TypeId} {ty : TypeId} {pos : String} {af : Array Edge} {g : Option (Nat × Bool)} {x y : Operand}
theorem r_neBool {b c : Bool} (hx : ev env x = some (.bool b)) (hy : ev env y = some (.bool c)) : Run n env w ⟨d, .binOp .neq 4 x y t', ty, pos, af, g⟩ (.value (.bool (!decide (b = c)))) w := fun a ha => by
  have h := run_neq_bool (P := Tryz.prog) w 4 b c Tryz.underlying4
  rw [show (b == c) = decide (b = c) from rfl] at h
  simp [execOp, ha.eval hx, ha.eval hy, eqGuard, h]
end ops

/-- Which fields an action has: as the document says. -/
def okAct (a : Action) : Bool :=
  decide (1 ≤ a.kind) && decide (a.kind ≤ 18) && decide (a.title.length ≤ 200) && ((hsOf a.kind).who || decide (a.who = Cipher.zero)) && ((hsOf a.kind).e || decide (a.E = Pt.zero)) &&
  cond (hsOf a.kind).role (isRole a.role) (decide (a.role = 0)) && ((hsOf a.kind).title || decide (a.title = [])) && cond (hsOf a.kind).access (okAccess a.acc) (decide (a.acc = Access.zero)) &&
  cond (hsOf a.kind).password (decide (a.pass.length = 16) || (decide (a.kind = 18) && decide (a.pass.length = 0))) (decide (a.pass.length = 0))
/-- A truth told as a value. -/
theorem okB {b c : Bool} (h : b = c) : some (Value.bool b) = some (Value.bool c) := by rw [h]
end Go.Proofs.YtekhaogjmmmniaaGreat
namespace Go.Proofs.YtekhaogjmmmniaaGreat
open Go Go.RowKit

theorem isRole0 : isRole 0 = false := by decide
theorem dec_lt (a b : UInt8) : decide (a < b) = !decide (b ≤ a) := by
  by_cases h : a < b
  · simp [h, UInt8.not_le.2 h]
  · simp [h, UInt8.not_lt.1 h]
theorem dec_lt_nat (a b : Nat) : decide (a < b) = !decide (b ≤ a) := by
  by_cases h : a < b
  · simp [h]
  · simp [h]; omega
theorem len0 {α : Type} [DecidableEq α] (l : List α) : decide (l = []) = decide (l.length = 0) := by cases l <;> simp
theorem okAct29 (a : Action) : okAct a = (!(decide (a.kind < 1)) && !(decide (18 < a.kind)) && !(decide (200 < a.title.length)) &&
    !((!(hsOf a.kind).who && !decide (a.who = Cipher.zero)) || (!(hsOf a.kind).e && !decide (a.E = Pt.zero)) || (!decide ((hsOf a.kind).role = isRole a.role)) || (!(hsOf a.kind).role && !decide (a.role = 0))) &&
    !((!(hsOf a.kind).title && decide (0 < a.title.length)) || ((hsOf a.kind).access && !okAccess a.acc) || (!(hsOf a.kind).access && !decide (a.acc = Access.zero))) &&
    ((decide (a.pass.length = 0) && (!(hsOf a.kind).password || decide (a.kind = 18))) || (decide (a.pass.length = 16) && (hsOf a.kind).password))) := by
  have h9 : decide (a.role = 0) = true → isRole a.role = false := fun h => by rw [of_decide_eq_true h]; exact isRole0
  rw [okAct, dec_lt, dec_lt, dec_lt_nat, len0 a.title, show decide (0 < a.title.length) = !decide (a.title.length = 0) from by rw [dec_lt_nat]; simp]
  revert h9
  generalize decide (1 ≤ a.kind) = a1, decide (a.kind ≤ 18) = a2, (hsOf a.kind).who = a3, decide (a.who = Cipher.zero) = a4, (hsOf a.kind).e = a5, decide (a.E = Pt.zero) = a6, (hsOf a.kind).role = a7, isRole a.role = a8, decide (a.role = 0) = a9
  generalize (hsOf a.kind).title = b1, decide (a.title.length = 0) = b2, (hsOf a.kind).access = b3, okAccess a.acc = b4, decide (a.acc = Access.zero) = b5, (hsOf a.kind).password = b6, decide (a.pass.length = 16) = b7, decide (a.kind = 18) = b8, decide (a.pass.length = 0) = b9, decide (a.title.length ≤ 200) = b10
  intro h9
  cases a1 <;> cases a2 <;> cases b10 <;> simp
  cases a7 <;> cases a8 <;> cases a9 <;> simp at h9 ⊢ <;> cases b3 <;> simp <;> cases b4 <;> cases b5 <;> simp <;> cases b6 <;> simp <;> cases b9 <;> simp [Bool.or_comm b8 b7]
end Go.Proofs.YtekhaogjmmmniaaGreat
namespace Go.Proofs.YtekhaogjmmmniaaGreat
open Go Go.RowKit

/-- T is the slices of e; an e is sz cells, and bs bytes. -/
structure ElT (T e : TypeId) (sz bs : Nat) : Prop where
  und : Tryz.prog.underlying T = some (.slice e)
  inf : (Tryz.prog.info? e).map (fun i => (i.size, i.bytes, i.zero.map (·.cells.size))) = some (sz, bs, some sz)
  pos : 0 < sz
  pb : 0 < bs
theorem ElT.get {T e : TypeId} {sz bs : Nat} (h : ElT T e sz bs) : ∃ i z, Tryz.prog.info? e = some i ∧ i.zero = some z ∧ i.size = sz ∧ i.bytes = bs ∧ z.cells.size = sz := by
  have h1 := h.inf
  cases hi : Tryz.prog.info? e with
  | none => rw [hi] at h1; cases h1
  | some i =>
    rw [hi] at h1
    simp only [Option.map_some, Option.some.injEq, Prod.mk.injEq] at h1
    obtain ⟨h2, h3, h4⟩ := h1
    cases hz : i.zero with
    | none => rw [hz] at h4; cases h4
    | some z => rw [hz] at h4; exact ⟨i, z, rfl, hz, h2, h3, by simpa using h4⟩

/-- How elements lie in cells. -/
structure EncT {α : Type} (sz : Nat) (enc : α → Array Value) : Prop where
  size : ∀ x, (enc x).size = sz
  one : ∀ x, ∀ c ∈ enc x, c.oneCell' = true

section rows
variable {α : Type} {sz bs base : Nat} {enc : α → Array Value} {l m : List α} {e T : TypeId} {w w' : World} {s s2 : Sl} {A : Nat → Prop} {X : List Nat}

def flat (enc : α → Array Value) (l : List α) : List Value := l.flatMap fun x => (enc x).toList
theorem flat_nil : flat enc [] = [] := rfl
theorem flat_cons (x : α) : flat enc (x :: l) = (enc x).toList ++ flat enc l := by simp [flat]
theorem flat_append : flat enc (l ++ m) = flat enc l ++ flat enc m := by simp [flat]
theorem flat_length (hE : EncT sz enc) : (flat enc l).length = l.length * sz := by
  induction l with
  | nil => simp [flat]
  | cons x l ih => rw [flat_cons, List.length_append, ih, List.length_cons, Array.length_toList, hE.size, Nat.succ_mul]; omega
theorem flat_at (hE : EncT sz enc) : ∀ {l : List α} {i j : Nat} {x : α}, l[i]? = some x → j < sz → (flat enc l)[i * sz + j]? = (enc x)[j]?
  | [], i, j, x, h, _ => by simp at h
  | y :: l, 0, j, x, h, hj => by
    simp at h; subst h
    rw [flat_cons, Nat.zero_mul, Nat.zero_add, List.getElem?_append_left (by simp [hE.size]; exact hj), Array.getElem?_toList]
  | y :: l, i + 1, j, x, h, hj => by
    rw [flat_cons, List.getElem?_append_right (by simp [hE.size, Nat.succ_mul]; omega), Array.length_toList, hE.size, Nat.succ_mul, show i * sz + sz + j - sz = i * sz + j by omega]
    exact flat_at hE (by simpa using h) hj
theorem flat_one (hE : EncT sz enc) : ∀ c ∈ flat enc l, c.oneCell' = true := fun c hc => by
  obtain ⟨x, _, h⟩ := List.mem_flatMap.1 hc
  exact hE.one x c (by simpa using h)

theorem addr_off (b off j : Nat) : (⟨b, off, none⟩ : Addr).add j = ⟨b, off + j, none⟩ := by unfold Addr.add; split <;> simp_all

theorem Row.cells (h : Row A w s sz enc l) (hE : EncT sz enc) {a : Addr} (ha : s.a = some a) : ∀ j u, (flat enc l)[j]? = some u → w.cell? (a.add j) = some u := by
  intro j u hu
  have hj : j < l.length * sz := by rw [← flat_length hE]; exact (List.getElem?_eq_some_iff.1 hu).1
  have hsz : 0 < sz := by
    rcases Nat.eq_zero_or_pos sz with h0 | h0
    · subst h0; simp at hj
    · exact h0
  have hi : j / sz < l.length := (Nat.div_lt_iff_lt_mul hsz).2 hj
  obtain ⟨b, off, h1, _, h3⟩ := h.at_ (j / sz) l[j / sz] (List.getElem?_eq_getElem hi)
  rw [h1] at ha; cases ha
  rw [addr_off]
  have hm : j % sz < sz := Nat.mod_lt _ hsz
  have h4 := h3 (j % sz) (by rw [hE.size]; exact hm)
  have h5 := flat_at hE (List.getElem?_eq_getElem hi) hm
  have h6 : j / sz * sz + j % sz = j := by rw [Nat.mul_comm]; exact Nat.div_add_mod j sz
  rw [h6] at h5
  rw [Nat.add_assoc, h6] at h4
  rw [h4, ← h5, hu]

/-- The slice s is one's own (its block is new since the heap had 'base' blocks), and reads as l. -/
structure Own (base : Nat) (e : TypeId) (w : World) (s : Sl) (sz : Nat) (enc : α → Array Value) (l : List α) : Prop where
  own : w.ownsRow base e sz s.val l.length (flat enc l)
  big : l.length ≤ 140737488355328

theorem Own.nil (base : Nat) (e : TypeId) (w : World) : Own base e w Sl.nil sz enc ([] : List α) := ⟨World.ownsRow_nil w base e sz, by simp⟩

theorem Own.row (h : Own base e w s sz enc l) (hE : EncT sz enc) : Row (fun b => base ≤ b) w s sz enc l := by
  rcases h.own.2 with ⟨h1, h2⟩ | ⟨g, cap, cur, h1, hb, hg, hnc, _, hcs, htake⟩
  · have hl : l = [] := List.eq_nil_of_length_eq_zero h2
    subst hl
    simp only [Sl.val, Value.slice.injEq] at h1
    exact ⟨h1.2.1, by omega, by omega, fun _ => h1.2.2, fun i x hi => by simp at hi⟩
  · simp only [Sl.val, Value.slice.injEq] at h1
    refine ⟨h1.2.1, by omega, by rw [h1.2.1]; exact h.big, fun h0 => (by rw [h1.1] at h0; cases h0), fun i x hi => ⟨g, 0, h1.1, hb, fun j hj => ?_⟩⟩
    rw [hE.size] at hj
    have h5 := flat_at hE hi hj
    rw [Nat.zero_add, cell_of_row w g _ cur e (0, 0) hg, ← h5, ← htake, List.getElem?_take_of_lt, Array.getElem?_toList]
    have := (List.getElem?_eq_some_iff.1 hi).1
    have : (i + 1) * sz ≤ l.length * sz := Nat.mul_le_mul_right _ this
    rw [Nat.succ_mul] at this; omega

theorem Own.keep (h : Own base e w s sz enc l) (k : Keeps X w w') (hx : ∀ x ∈ X, s.val.ownBlock ≠ some x) : Own base e w' s sz enc l := by
  refine ⟨⟨h.own.1, ?_⟩, h.big⟩
  rcases h.own.2 with hn | ⟨g, cap, cur, h1, hb, hg, rest⟩
  · exact .inl hn
  · refine .inr ⟨g, cap, cur, h1, hb, ?_, rest⟩
    rw [k.block g (Array.getElem?_eq_some_iff.1 hg).1 (fun hm => hx g hm (by rw [h1]; rfl))]
    exact hg
theorem Own.keepL (h : Own base e w s sz enc l) (k : Keeps X w w') (hx : ∀ x ∈ X, x < base) : Own base e w' s sz enc l :=
  h.keep k fun x hm hc => by
    have h1 := hx x hm
    have h2 := (h.own.lt x hc).1
    omega
theorem Own.keep0 (h : Own base e w s sz enc l) (k : Keeps [] w w') : Own base e w' s sz enc l := h.keep k (by simp)
theorem Own.lower {base' : Nat} (h : Own base e w s sz enc l) (hb : base' ≤ base) : Own base' e w s sz enc l := ⟨⟨h.own.1, by
  rcases h.own.2 with hn | ⟨g, cap, cur, h1, h2, rest⟩
  · exact .inl hn
  · exact .inr ⟨g, cap, cur, h1, by omega, rest⟩⟩, h.big⟩

/-- What turned is one's own. -/
def New (base : Nat) (Y : List Nat) : Prop := ∀ y ∈ Y, base ≤ y

theorem run_appendR (hT : ElT T e sz bs) (hE : EncT sz enc) (ho : Own base e w s sz enc l) (hr : Row A w s2 sz enc m) (hb : (l.length + m.length) * bs ≤ 140737488355328) (hw : base ≤ w.heap.size) (ty : TypeId) :
    ∃ s' w' Y, (Builtin.append_ #[T, T] ty #[s.val, s2.val]).run Tryz.prog w = .ok s'.val w' ∧ Own base e w' s' sz enc (l ++ m) ∧ Keeps Y w w' ∧ New base Y := by
  obtain ⟨i, z, hi, hz, h1, h2, h3⟩ := hT.get
  have hbig : (l ++ m).length ≤ 140737488355328 := by
    rw [List.length_append]
    exact Nat.le_trans (Nat.le_mul_of_pos_right _ hT.pb) hb
  cases ha : s2.a with
  | none =>
    have hm : m = [] := by
      cases m with
      | nil => rfl
      | cons x m => obtain ⟨b, off, h4, _⟩ := hr.at_ 0 x (by simp); rw [ha] at h4; cases h4
    subst hm
    have hv : s2.val = .slice none 0 0 := by
      unfold Sl.val
      rw [ha, hr.len, hr.nil0 ha]; rfl
    rw [hv]
    refine ⟨s, w, [], run_append_owned_none (P := Tryz.prog) (w := w) base T ty e i sz hT.und hi s.val _ _ ho.own, by simpa using ho, Keeps.refl _ _, fun _ h => by cases h⟩
  | some a =>
    have hl := hr.len
    have h63 : l.length + m.length ≤ maxLen := by rw [List.length_append] at hbig; simp only [maxLen]; omega
    obtain ⟨v', w', r1, r2, r3, _⟩ := run_append_own (P := Tryz.prog) w base T ty e i z sz bs hT.und hi hz h1 h2 h3 hT.pos s.val l.length (flat enc l) ho.own a m.length s2.cap (flat enc m) (flat_length hE)
      (hr.cells hE ha) (flat_one hE) h63 hb hw
    have hv : s2.val = .slice (some a) m.length s2.cap := by unfold Sl.val; rw [ha, hl]
    rw [hv]
    rw [← flat_append, ← List.length_append] at r2
    have hs : ∃ s' : Sl, v' = s'.val := by
      rcases r2.2 with ⟨h4, _⟩ | ⟨g, cap, cur, h4, _⟩
      · exact ⟨Sl.nil, h4⟩
      · exact ⟨⟨_, _, _⟩, h4⟩
    obtain ⟨s', rfl⟩ := hs
    refine ⟨s', w', s.val.ownBlock.toList, r1, ⟨r2, hbig⟩, ⟨r3.os, r3.tape, r3.output, r3.size, fun k hk hx => r3.block k hk (fun hc => hx (by rw [← hc]; simp))⟩, fun y hy => ?_⟩
    exact (ho.own.lt y (by simpa using hy)).1

theorem Mem.newer {W : World} {L : List Ent} {Y : List Nat} (h : Mem W X L w) (k : Keeps Y w w') (hY : New base Y) (hW : W.heap.size ≤ base) (hL : ∀ e ∈ L, e.1 < base) : Mem W X L w' :=
  ⟨h.kp.then k (fun y hy => .inr (Nat.le_trans hW (hY y hy))), fun e he => (h.has e he).keep k (fun hm => by have h1 := hL e he; have h2 := hY _ hm; omega), h.own, h.nd⟩
end rows

section steps
variable {n : Nat} {env : List (Nat × Value)} {W w : World} {X : List Nat} {L : List Ent} {N : Pst} {E : List (Nat × Pst)} {R : Pst} {ops : Array Oper} {rest : List Oper}
variable {d : Nat} {ty : TypeId} {pos : String} {af : Array Edge} {x y : Operand} {T e : TypeId} {g : Option (Nat × Bool)}
variable {α : Type} {sz bs base : Nat} {enc : α → Array Value} {l m : List α} {s s2 : Sl} {A : Nat → Prop}

theorem r_append {v : Value} {w' : World} (hx : ev env x = some s.val) (hy : ev env y = some s2.val) (h : (Builtin.append_ #[T, T] ty #[s.val, s2.val]).run Tryz.prog w = .ok v w') {d : Option Nat} :
    Run n env w ⟨d, .call { callee := .builtin .append, args := #[x, y], argTypes := #[T, T] }, ty, pos, af, g⟩ (.value v) w' := fun a ha => by
  unfold execOp
  simp only [resolve, invoke, builtin, Sem.run_bind, Sem.run_pure, Result.andThen_ok, List.map_toArray, List.map_cons, List.map_nil, ha.eval hx, ha.eval hy, h]

theorem l_append (hM : Mem W X L w) (hT : ElT T e sz bs) (hE : EncT sz enc) (hn : Nat.blt d n = true) (hg : GOn n env ops ⟨some d, .call { callee := .builtin .append, args := #[x, y], argTypes := #[T, T] }, ty, pos, af, g⟩)
    (hx : ev env x = some s.val) (hy : ev env y = some s2.val)
    (ho : Own base e w s sz enc l) (hr : Row A w s2 sz enc m) (hb : (l.length + m.length) * bs ≤ 140737488355328) (hw : base ≤ w.heap.size) (hW : W.heap.size ≤ base) (hL : ∀ e ∈ L, e.1 < base)
    (h : ∀ s' w' Y, Mem W X L w' → Keeps Y w w' → New base Y → Own base e w' s' sz enc (l ++ m) → AT n ((d, s'.val) :: env) w' (LW ops rest N E R)) :
    AT n env w (LW ops (⟨some d, .call { callee := .builtin .append, args := #[x, y], argTypes := #[T, T] }, ty, pos, af, g⟩ :: rest) N E R) := by
  obtain ⟨s', w', Y, r1, r2, r3, r4⟩ := run_appendR hT hE ho hr hb hw ty
  exact l_val hg rfl hn (r_append hx hy r1) (h s' w' Y (hM.newer r3 r4 hW hL) r3 r4 r2)
end steps

/-! ### A slice literal -/
section lits
variable {n : Nat} {env : List (Nat × Value)} {W w : World} {X : List Nat} {L : List Ent} {N : Pst} {E : List (Nat × Pst)} {R : Pst} {ops : Array Oper} {rest : List Oper}
variable {d : Nat} {ty : TypeId} {pos : String} {af : Array Edge} {x y : Operand} {T e : TypeId} {g : Option (Nat × Bool)}
variable {α : Type} {sz bs base : Nat} {enc : α → Array Value} {l m : List α} {s s2 : Sl} {A : Nat → Prop}

/-- A new slice of one element, of none. -/
theorem r_slice1 {v : Value} {cs : Array Value} (hT : ElT T e sz bs) (hx : ev env x = some v) (hv : v.cells = cs) (hs : cs.size = sz) (hsm : sz ≤ 16777216) {d : Option Nat} :
    Run n env w ⟨d, .buildSlice T 1 #[(0, x)], ty, pos, af, g⟩ (.value (.slice (some ⟨w.heap.size, 0, none⟩) 1 1)) (w.alloc (.cells cs e)) := fun a ha => by
  obtain ⟨i, z, hi, hz, h1, h2, h3⟩ := hT.get
  have hp := hT.pos
  have hf : Instr.fill (fun k => some (k * i.size, i.size)) ((Array.range (1 * i.size)).map (z.cells[· % z.cells.size]!)) [(0, v)] = some cs := by
    refine fill_cons (off := 0) (size := sz) (cs' := cs) (by simp [h1]) (by rw [hv, hs]) (by simp [h1]) ?_ rfl
    rw [hv]
    apply Array.ext'
    simp [put, h1, hs]
  have h := run_buildSlice w T e 1 #[(0, v)] cs i z hT.und hi hz (by rw [h1]; omega) (by rw [h1]; omega) hf
  simp only [execOp]
  rw [show ((#[(0, x)] : Array (Nat × Operand)).map fun (i, x) => (i, a.eval x)) = #[(0, v)] by simp [ha.eval hx]]
  simp [h]
theorem r_slice0 (hT : ElT T e sz bs) {d : Option Nat} :
    Run n env w ⟨d, .buildSlice T 0 #[], ty, pos, af, g⟩ (.value (.slice (some ⟨w.heap.size, 0, none⟩) 0 0)) (w.alloc (.cells #[] e)) := fun a ha => by
  obtain ⟨i, z, hi, hz, h1, h2, h3⟩ := hT.get
  have h0 (f : Nat → Value) : Array.map f (Array.range 0) = #[] := Array.eq_empty_of_size_eq_zero (by simp)
  simp [execOp, Instr.buildSlice, run_underlying hT.und, sizeOf, typeInfo, hi, Instr.fill, newRow, h0]

theorem own1 {x : α} (hE : EncT sz enc) (hb : base ≤ w.heap.size) : Own base e (w.alloc (.cells (enc x) e)) ⟨some ⟨w.heap.size, 0, none⟩, 1, 1⟩ sz enc [x] :=
  ⟨⟨by simp [flat, hE.size], .inr ⟨w.heap.size, 1, enc x, rfl, hb, heap_alloc_new w _, Nat.le_refl _, by decide, by simp [hE.size], by
    rw [flat_cons, flat_nil, List.append_nil, List.take_of_length_le (by simp [hE.size])]⟩⟩, by simp⟩
theorem own0 (hb : base ≤ w.heap.size) : Own base e (w.alloc (.cells #[] e)) ⟨some ⟨w.heap.size, 0, none⟩, 0, 0⟩ sz enc ([] : List α) :=
  ⟨⟨by simp [flat], .inr ⟨w.heap.size, 0, #[], rfl, hb, heap_alloc_new w _, Nat.le_refl _, by decide, by simp, by simp [flat]⟩⟩, by simp⟩

theorem l_slice1 {o : α} {v : Value} (hM : Mem W X L w) (hT : ElT T e sz bs) (hE : EncT sz enc) (hn : Nat.blt d n = true) (hx : ev env x = some v) (hv : v.cells = enc o) (hsm : sz ≤ 16777216) (hb : base ≤ w.heap.size)
    (h : ∀ s' w', Mem W X L w' → Keeps [] w w' → Own base e w' s' sz enc [o] → AT n ((d, s'.val) :: env) w' (LW ops rest N E R)) :
    AT n env w (LW ops (⟨some d, .buildSlice T 1 #[(0, x)], ty, pos, af, none⟩ :: rest) N E R) :=
  l_val (gn rfl) rfl hn (r_slice1 hT hx hv (hE.size o) hsm) (h ⟨some ⟨w.heap.size, 0, none⟩, 1, 1⟩ _ (hM.keep (Keeps.alloc _ _)) (Keeps.alloc _ _) (own1 hE hb))
theorem l_slice0 (hM : Mem W X L w) (hT : ElT T e sz bs) (hn : Nat.blt d n = true) (hb : base ≤ w.heap.size)
    (h : ∀ s' w', Mem W X L w' → Keeps [] w w' → Own base e w' s' sz enc ([] : List α) → AT n ((d, s'.val) :: env) w' (LW ops rest N E R)) :
    AT n env w (LW ops (⟨some d, .buildSlice T 0 #[], ty, pos, af, none⟩ :: rest) N E R) :=
  l_val (gn rfl) rfl hn (r_slice0 hT) (h ⟨some ⟨w.heap.size, 0, none⟩, 0, 0⟩ _ (hM.keep (Keeps.alloc _ _)) (Keeps.alloc _ _) (own0 hb))
end lits

theorem elSeat : ElT 32 73 66 72 := ⟨Tryz.underlying32, by kernel_rfl, by decide, by decide⟩
theorem elInvite : ElT 33 82 129 129 := ⟨Tryz.underlying33, by kernel_rfl, by decide, by decide⟩
theorem elAsk : ElT 34 84 65 68 := ⟨Tryz.underlying34, by kernel_rfl, by decide, by decide⟩
theorem elBan : ElT 35 86 128 128 := ⟨Tryz.underlying35, by kernel_rfl, by decide, by decide⟩
theorem elCipher : ElT 63 40 64 64 := ⟨Tryz.underlying63, by kernel_rfl, by decide, by decide⟩
theorem elB : ElT 27 5 1 1 := ⟨Tryz.underlying27, by kernel_rfl, by decide, by decide⟩
theorem enSeat : EncT 66 Seat.cells := ⟨Seat.size, Seat.one⟩
theorem enInvite : EncT 129 Invite.cells := ⟨Invite.size, Invite.one⟩
theorem enAsk : EncT 65 Ask.cells := ⟨Ask.size, Ask.one⟩
theorem enBan : EncT 128 Ban.cells := ⟨Ban.size, Ban.one⟩
theorem enCipher : EncT 64 Cipher.cells := ⟨Cipher.size, Cipher.one⟩
theorem enB : EncT 1 encB := ⟨fun _ => rfl, fun _ => one_one rfl⟩
end Go.Proofs.YtekhaogjmmmniaaGreat
namespace Go.Proofs.YtekhaogjmmmniaaGreat
open Go Go.RowKit

/-- A variable that is made: operation i, to slot d: cells cs of type T. -/
structure Al where
  i : Nat
  d : Nat
  cs : Array Value
  T : TypeId

/-- Alike but for the slots ds. -/
def Agr (ds : List Nat) (a b : Act) : Prop := b.defers = a.defers ∧ b.tmps.size = a.tmps.size ∧ ∀ t, t ∉ ds → b.tmps.getD t undef = a.tmps.getD t undef

section agr
variable {ds : List Nat} {a b : Act} {n : Nat} {env : List (Nat × Value)}
theorem Agr.refl (ds : List Nat) (a : Act) : Agr ds a a := ⟨rfl, rfl, fun _ _ => rfl⟩
theorem Kn.agr (h : Kn n env a) (hd : ∀ d ∈ ds, lk env d = none) (g : Agr ds a b) : Kn n env b :=
  ⟨g.1.trans h.dn, g.2.1.trans h.sz, fun t v hv => by rw [g.2.2 t (fun hm => by rw [hd t hm] at hv; cases hv)]; exact h.kn t v hv⟩
theorem put_getD (a : Act) (d t : Nat) (v : Value) : (a.put (some d) v).tmps.getD t undef = if d = t ∧ t < a.tmps.size then v else a.tmps.getD t undef := by
  simp only [Act.put, Array.getD_eq_getD_getElem?, Array.getElem?_setIfInBounds]
  by_cases e : d = t
  · subst e
    by_cases h : d < a.tmps.size <;> simp [h]
  · simp [e]
theorem Agr.put (g : Agr ds a b) (o : Option Nat) (v : Value) : Agr ds (a.put o v) (b.put o v) := by
  cases o with
  | none => exact g
  | some d =>
    refine ⟨g.1, by simp [Act.put, g.2.1], fun t ht => ?_⟩
    rw [put_getD, put_getD, g.2.1, g.2.2 t ht]
theorem Agr.putd (g : Agr ds a b) {d : Nat} (hd : d ∈ ds) (v : Value) : Agr ds a (b.put (some d) v) := by
  refine ⟨g.1, by simp [Act.put, g.2.1], fun t ht => ?_⟩
  have h1 : ¬ (d = t ∧ t < b.tmps.size) := fun h => ht (h.1 ▸ hd)
  rw [put_getD, if_neg h1]; exact g.2.2 t ht
end agr

section draws
variable (ops : Array Oper) (Q : Exit → Act → World → Prop) (S : World → Prop) (late : List Nat) (al : List Al) (Xs : List Nat) (z0 : Nat) (ord2 : List (Nat × Bool))

def dsOf : List Nat := al.map Al.d
def isAl (k : Nat) : Bool := al.any fun p => Nat.beq p.i k

/-- What is to be shown once all those variables are there. -/
def FA (a : Act) (w : World) : Prop := ∀ b w1, Agr (dsOf al) a b → Keeps [] w w1 → ∀ g : Nat → Nat,
  (∀ p ∈ al, b.tmps.getD p.d undef = .pointer (some ⟨g p.i, 0, none⟩) ∧ z0 ≤ g p.i ∧ Blk w1 (g p.i) p.cs p.T) → (∀ p ∈ al, ∀ q ∈ al, g p.i = g q.i → p.i = q.i) → SQ ops Q S late ord2 false b w1

/-- What is to be shown along the order of the others: each of them in whatever world a few more variables may have made. -/
def SA : List (Nat × Bool) → Act → World → Prop
  | [], a, w => FA ops Q S late al z0 ord2 a w
  | (i, true) :: r, a, w => S w ∧ ∃ oi v, ops[i]? = some oi ∧ (∀ b, Agr (dsOf al) a b → YieldsIf Tryz.prog ops S oi v b) ∧ SA r (a.put oi.dst v) w
  | (i, false) :: r, a, w => ∀ b w1, Agr (dsOf al) a b → Keeps [] w w1 →
      wpOp Tryz.prog ops Q i (fun b' w' => S w' ∧ Keeps Xs w1 w' ∧ (∀ d ∈ dsOf al, b'.tmps.getD d undef = b.tmps.getD d undef) ∧ b'.tmps.size = b.tmps.size ∧ SA r b' w') b w1

def mark (listed : Array Bool) : Array Bool := al.foldl (fun l p => l.setIfInBounds p.i true) listed

/-- All that is asked of the region itself. -/
def ordA : List (Nat × Bool) → Array Bool → Bool
  | [], listed => (List.range ops.size).all (fun k => listed.getD k true || isAl al k || al.all (fun p => match ops[k]? with | some o => o.after.any (fun e => Region.binds .any e && Nat.beq e.on p.i) | none => false)) &&
      orderOk ops late ord2 (mark al listed)
  | (i, true) :: r, listed => !late.contains i && late.all (fun l => waitsFor ops ops.size l i) && Region.free .any ops listed i && (Region.ready .any ops listed).contains i && !isAl al i &&
      (match ops[i]? with | some o => (match o.dst with | some d => !(dsOf al).contains d | none => true) | none => false) && ordA r (listed.setIfInBounds i true)
  | (i, false) :: r, listed => (Region.ready .any ops (mark al listed) == [i]) && (Region.ready .any ops listed).contains i && !isAl al i && ordA r (listed.setIfInBounds i true)

def alOk : Bool := al.all fun p => Nat.blt p.i ops.size && (match ops[p.i]? with | some o => o.after.all (fun e => !Region.binds .any e) | none => false)

variable {ops Q S late al Xs z0 ord2}

theorem set_getD {l : Array Bool} {i k : Nat} (hk : k < l.size) (d : Bool) : (l.setIfInBounds i true).getD k d = (Nat.beq i k || l.getD k d) := by
  by_cases e : i = k
  · subst e; simp [hk]
  · rw [getD_set_ne d e]
    have : Nat.beq i k = false := by
      cases hb : Nat.beq i k with
      | false => rfl
      | true => exact absurd (Nat.eq_of_beq_eq_true hb) e
    rw [this, Bool.false_or]
theorem mark_size : ∀ (al : List Al) (l : Array Bool), (mark al l).size = l.size
  | [], _ => rfl
  | p :: al, l => by
    have := mark_size al (l.setIfInBounds p.i true)
    simp only [mark, List.foldl_cons] at this ⊢
    rw [this]; simp
theorem mark_getD : ∀ (al : List Al) (l : Array Bool) (k : Nat), k < l.size → ∀ d, (mark al l).getD k d = (isAl al k || l.getD k d)
  | [], l, k, _, d => by simp [mark, isAl]
  | p :: al, l, k, hk, d => by
    have := mark_getD al (l.setIfInBounds p.i true) k (by simpa using hk) d
    simp only [mark, List.foldl_cons] at this ⊢
    rw [this, set_getD hk]
    simp only [isAl, List.any_cons]
    cases Nat.beq p.i k <;> simp
theorem getD_out {l : Array Bool} {k : Nat} (h : ¬ k < l.size) (d : Bool) : l.getD k d = d := by
  simp [Array.getD_eq_getD_getElem?, Array.getElem?_eq_none (Nat.le_of_not_lt h)]
theorem getD_in {l : Array Bool} {k : Nat} (h : k < l.size) (d e : Bool) : l.getD k d = l.getD k e := by
  simp [h]

/-- listed' is listed, and those of al that f tells a block of. -/
def Rel (al : List Al) (listed : Array Bool) (f : Nat → Option Nat) (listed' : Array Bool) : Prop :=
  listed'.size = listed.size ∧ ∀ k, k < listed.size → listed'.getD k false = (listed.getD k false || (isAl al k && (f k).isSome))

theorem isAl_mem {k : Nat} (h : isAl al k = true) : ∃ p ∈ al, p.i = k := by
  obtain ⟨p, hp, e⟩ := List.any_eq_true.1 h
  exact ⟨p, hp, Nat.eq_of_beq_eq_true e⟩
theorem mem_isAl {p : Al} (h : p ∈ al) : isAl al p.i = true := List.any_eq_true.2 ⟨p, h, Nat.beq_refl _⟩

theorem Rel.set {listed listed' : Array Bool} {f : Nat → Option Nat} (h : Rel al listed f listed') (i : Nat) : Rel al (listed.setIfInBounds i true) f (listed'.setIfInBounds i true) :=
  ⟨by simp [h.1], fun k hk => by
    simp only [Array.size_setIfInBounds] at hk
    rw [set_getD hk, set_getD (by rw [h.1]; exact hk), h.2 k hk, Bool.or_assoc]⟩
theorem Rel.add {listed listed' : Array Bool} {f : Nat → Option Nat} (h : Rel al listed f listed') {i b : Nat} (hi : isAl al i = true) :
    Rel al listed (fun k => if k = i then some b else f k) (listed'.setIfInBounds i true) :=
  ⟨by simp [h.1], fun k hk => by
    rw [set_getD (by rw [h.1]; exact hk), h.2 k hk]
    by_cases e : k = i
    · subst e; simp [hi]
    · have : Nat.beq i k = false := by
        cases hb : Nat.beq i k with
        | false => rfl
        | true => exact absurd (Nat.eq_of_beq_eq_true hb).symm e
      simp [e, this]⟩
theorem Rel.true_of {listed listed' : Array Bool} {f : Nat → Option Nat} (h : Rel al listed f listed') {k : Nat} (hk : listed.getD k false = true) : listed'.getD k false = true := by
  by_cases hs : k < listed.size
  · rw [h.2 k hs, hk]; rfl
  · rw [getD_out hs] at hk; cases hk
theorem Rel.false_of {listed listed' : Array Bool} {f : Nat → Option Nat} (h : Rel al listed f listed') {k : Nat} (hk : listed'.getD k true = false) : listed.getD k true = false := by
  by_cases hs : k < listed.size
  · have hs' : k < listed'.size := by rw [h.1]; exact hs
    rw [getD_in hs' true false, h.2 k hs, Bool.or_eq_false_iff] at hk
    rw [getD_in hs true false]; exact hk.1
  · rw [getD_out (by rw [h.1]; exact hs)] at hk; cases hk
theorem Rel.all {listed listed' : Array Bool} {f : Nat → Option Nat} (h : Rel al listed f listed') (hf : ∀ p ∈ al, (f p.i).isSome = true) : listed' = mark al listed := by
  apply Array.ext
  · rw [mark_size, h.1]
  · intro k hk hk2
    have hs : k < listed.size := by rw [← h.1]; exact hk
    have h1 := h.2 k hs
    have h2 := mark_getD al listed k hs false
    have h3 : (isAl al k && (f k).isSome) = isAl al k := by
      cases hb : isAl al k with
      | false => rfl
      | true =>
        obtain ⟨p, hp, e⟩ := isAl_mem hb
        rw [← e, hf p hp]; rfl
    rw [h3, Bool.or_comm, ← h2] at h1
    simpa [hk, hk2] using h1

/-- What is known of those that are there. -/
def DF (al : List Al) (z0 : Nat) (f : Nat → Option Nat) (a : Act) (w : World) : Prop :=
  (∀ p ∈ al, ∀ k, f p.i = some k → a.tmps.getD p.d undef = .pointer (some ⟨k, 0, none⟩) ∧ z0 ≤ k ∧ Blk w k p.cs p.T) ∧ (∀ p ∈ al, ∀ q ∈ al, ∀ k, f p.i = some k → f q.i = some k → p.i = q.i)

theorem ready_al {p : Al} (hok : alOk ops al = true) (hp : p ∈ al) {listed' : Array Bool} (hl : listed'.getD p.i true = false) : p.i ∈ Region.ready .any ops listed' := by
  have h := List.all_eq_true.1 hok p hp
  rw [Bool.and_eq_true] at h
  cases ho : ops[p.i]? with
  | none => rw [ho] at h; cases h.2
  | some o =>
    rw [ho] at h
    refine mem_ready.2 ⟨hl, o, ho, fun e he hb => ?_⟩
    obtain ⟨k, hk, rfl⟩ := Array.mem_iff_getElem.1 he
    have := Array.all_eq_true.1 h.2 k hk
    rw [hb] at this; cases this

theorem L_of_SA (hsel : Region.noSelect ops = true) (hQ : ∀ c a w, ¬ Q (.panic c) a w) (hok : alOk ops al = true)
    (hal : ∀ p ∈ al, ∃ ty pos af, ops[p.i]? = some ⟨some p.d, .alloc p.T, ty, pos, af, none⟩ ∧ ∃ v, (∀ w, (zeroValue p.T).run Tryz.prog w = .ok v w) ∧ v.cells = p.cs)
    (hinj : ∀ p ∈ al, ∀ q ∈ al, p.d = q.d → p = q) (hinj2 : ∀ p ∈ al, ∀ q ∈ al, p.i = q.i → p = q) (hXs : ∀ x ∈ Xs, x < z0) (hSm : ∀ w w1, Keeps [] w w1 → S w → S w1)
    (nn : Nat) (hdn : ∀ p ∈ al, p.d < nn) (ho2 : ∀ i ∈ ord2.map (·.1), i < ops.size) :
    ∀ (order : List (Nat × Bool)) (listed : Array Bool), closedL ops listed → ordA ops late al ord2 order listed = true → (∀ p ∈ al, listed.getD p.i true = false) → listed.size = ops.size →
    ∀ (m : Nat) (rem : List Nat), rem.length = m → ∀ (fuel : Nat) (listed' : Array Bool) (f : Nat → Option Nat) (a0 : Act) (w0 : World) (a : Act) (w : World), rem.Nodup → (∀ k ∈ rem, isAl al k = true) → (∀ p ∈ al, (f p.i = none ↔ p.i ∈ rem)) →
      Rel al listed f listed' → closedL ops listed' → order.length + ord2.length + m ≤ fuel → SA ops Q S late al Xs z0 ord2 order a0 w0 → Agr (dsOf al) a0 a → a.tmps.size = nn → Keeps [] w0 w → DF al z0 f a w → z0 ≤ w.heap.size → S w →
      AnyL ops Q S late fuel listed' a w := by
  -- a variable comes up
  have hAlloc : ∀ (order : List (Nat × Bool)) (listed : Array Bool), (∀ p ∈ al, listed.getD p.i true = false) → ∀ (m : Nat),
      (∀ (rem : List Nat), rem.length = m → ∀ (fuel : Nat) (listed' : Array Bool) (f : Nat → Option Nat) (a0 : Act) (w0 : World) (a : Act) (w : World), rem.Nodup → (∀ k ∈ rem, isAl al k = true) → (∀ p ∈ al, (f p.i = none ↔ p.i ∈ rem)) →
        Rel al listed f listed' → closedL ops listed' → order.length + ord2.length + m ≤ fuel → SA ops Q S late al Xs z0 ord2 order a0 w0 → Agr (dsOf al) a0 a → a.tmps.size = nn → Keeps [] w0 w → DF al z0 f a w → z0 ≤ w.heap.size → S w →
        AnyL ops Q S late fuel listed' a w) →
      ∀ (rem : List Nat), rem.length = m + 1 → ∀ (fuel : Nat) (listed' : Array Bool) (f : Nat → Option Nat) (a0 : Act) (w0 : World) (a : Act) (w : World), rem.Nodup → (∀ k ∈ rem, isAl al k = true) → (∀ p ∈ al, (f p.i = none ↔ p.i ∈ rem)) →
        Rel al listed f listed' → closedL ops listed' → order.length + ord2.length + m ≤ fuel → SA ops Q S late al Xs z0 ord2 order a0 w0 → Agr (dsOf al) a0 a → a.tmps.size = nn → Keeps [] w0 w → DF al z0 f a w → z0 ≤ w.heap.size → S w →
        ∀ p ∈ al, p.i ∈ rem → p.i ∈ Region.ready .any ops listed' →
          wpOp Tryz.prog ops Q p.i (fun a' w' => (lateIn late (listed'.setIfInBounds p.i true) = true ∨ S w') ∧ AnyL ops Q S late fuel (listed'.setIfInBounds p.i true) a' w') a w := by
    intro order listed hun m ih rem hrem fuel listed' f a0 w0 a w hnd hra hf hRel hc hfuel hSA hA hsz hK hD hz hS p hp hpr hready
    obtain ⟨ty, pos, af, hop, v, hv, hcs⟩ := hal p hp
    have hrun : (execOp a.eval ⟨some p.d, .alloc p.T, ty, pos, af, none⟩).run Tryz.prog w = .ok (.value (.pointer (some ⟨w.heap.size, 0, none⟩))) (w.alloc (.cells v.cells p.T)) := by
      simp [execOp, Instr.alloc, hv, newVar, newRow]
    unfold wpOp
    simp only [hop, Region.wanted, if_true]
    refine .inl ?_
    unfold Oper.wp
    rw [hrun, Oper.upon_value]
    have hKa : Keeps [] w (w.alloc (.cells v.cells p.T)) := Keeps.alloc _ _
    have hds : p.d ∈ dsOf al := List.mem_map_of_mem hp
    refine ⟨.inr (hSm _ _ hKa hS), ih (rem.erase p.i) (by rw [List.length_erase_of_mem hpr, hrem]; rfl) fuel _ (fun k => if k = p.i then some w.heap.size else f k) a0 w0 _ _ (hnd.erase _) (fun k hk => hra k (List.mem_of_mem_erase hk)) (fun q hq => ?_)
      (hRel.add (mem_isAl hp)) (closed_set hc hready) hfuel hSA (hA.putd hds _) (by simp [Act.put, hsz]) (hK.then0 hKa) ⟨fun q hq k hk => ?_, fun q hq q' hq' k hk hk' => ?_⟩ (Nat.le_trans hz hKa.size) (hSm _ _ hKa hS)⟩
    · by_cases e : q.i = p.i
      · simp only [e, if_true]
        exact ⟨fun h => (by cases h), fun h => absurd rfl ((List.Nodup.mem_erase_iff hnd).1 h).1⟩
      · simp only [e, if_false]
        rw [hf q hq, List.mem_erase_of_ne e]
    · by_cases e : q.i = p.i
      · have := hinj2 q hq p hp e; subst this
        simp only [if_true, Option.some.injEq] at hk
        subst hk
        refine ⟨by rw [put_getD, if_pos ⟨rfl, by rw [hsz]; exact hdn q hq⟩], hz, ?_⟩
        rw [hcs]; exact heap_alloc_new w _
      · simp only [e, if_false] at hk
        obtain ⟨h1, h2, h3⟩ := hD.1 q hq k hk
        refine ⟨?_, h2, h3.keep hKa (by simp)⟩
        rw [put_getD, if_neg (fun h => e (by rw [hinj p hp q hq h.1])), h1]
    · have hlt : ∀ q ∈ al, ∀ k, f q.i = some k → k < w.heap.size := fun q hq k hk => (hD.1 q hq k hk).2.2.lt
      by_cases e : q.i = p.i
      · by_cases e' : q'.i = p.i
        · rw [e, e']
        · simp only [e, e', if_true, if_false, Option.some.injEq] at hk hk'
          have := hlt q' hq' k hk'; omega
      · by_cases e' : q'.i = p.i
        · simp only [e, e', if_true, if_false, Option.some.injEq] at hk hk'
          have := hlt q hq k hk; omega
        · simp only [e, e', if_false] at hk hk'
          exact hD.2 q hq q' hq' k hk hk'
  -- with none left, f tells of all
  have hAll : ∀ (f : Nat → Option Nat), (∀ p ∈ al, (f p.i = none ↔ p.i ∈ ([] : List Nat))) → ∀ p ∈ al, (f p.i).isSome = true := fun f hf p hp => by
    cases h : f p.i with
    | none => have := (hf p hp).1 h; cases this
    | some k => rfl
  have hlt : ∀ p ∈ al, p.i < ops.size := fun p hp => by
    have h := List.all_eq_true.1 hok p hp
    rw [Bool.and_eq_true] at h
    exact Nat.le_of_ble_eq_true h.1
  -- one that is not there yet may come up
  have hLeft : ∀ {listed listed' : Array Bool} {f : Nat → Option Nat}, (∀ p ∈ al, listed.getD p.i true = false) → listed.size = ops.size → Rel al listed f listed' → ∀ p ∈ al, f p.i = none → listed'.getD p.i true = false := by
    intro listed listed' f hun hls hRel p hp hn
    have h1 : p.i < listed.size := by rw [hls]; exact hlt p hp
    rw [getD_in (by rw [hRel.1]; exact h1) true false, hRel.2 _ h1, hn, getD_in h1 false true, hun p hp]
    simp
  have hIs : ∀ {listed listed' : Array Bool} {f : Nat → Option Nat}, listed.size = ops.size → Rel al listed f listed' → ∀ j, isAl al j = true → j ∈ Region.ready .any ops listed' → ∃ p ∈ al, p.i = j ∧ f p.i = none := by
    intro listed listed' f hls hRel j hj hr
    obtain ⟨p, hp, rfl⟩ := isAl_mem hj
    refine ⟨p, hp, rfl, ?_⟩
    have h1 : p.i < listed.size := by rw [hls]; exact hlt p hp
    have h2 := (mem_ready.1 hr).1
    rw [getD_in (by rw [hRel.1]; exact h1) true false, hRel.2 _ h1, hj] at h2
    cases h : f p.i with
    | none => rfl
    | some k => rw [h] at h2; simp at h2
  intro order
  induction order with
  | nil =>
    intro listed hcl hord hun hls m
    simp only [ordA, Bool.and_eq_true] at hord
    induction m with
    | zero =>
      intro rem hrem fuel listed' f a0 w0 a w hnd hra hf hRel hc hfuel hSA hA hsz hK hD hz hS
      have hr0 : rem = [] := List.eq_nil_of_length_eq_zero hrem
      subst hr0
      have hall := hAll f hf
      have heq := hRel.all hall
      subst heq
      let g : Nat → Nat := fun k => (f k).getD 0
      have hg : ∀ p ∈ al, f p.i = some (g p.i) := fun p hp => by
        have := hall p hp
        cases h : f p.i with
        | none => rw [h] at this; cases this
        | some k => simp [g, h]
      have hsq := hSA a w hA hK g (fun p hp => hD.1 p hp _ (hg p hp)) (fun p hp q hq e => hD.2 p hp q hq _ (hg p hp) (by rw [e]; exact hg q hq))
      exact L_of_SQ hsel hQ ord2 _ fuel false a w (by simp at hfuel; omega) hc hord.2 (by simp) (fun i hi => by rw [mark_size, hls]; exact ho2 i hi) hsq
    | succ m ihm =>
      intro rem hrem fuel listed' f a0 w0 a w hnd hra hf hRel hc hfuel hSA hA hsz hK hD hz hS
      cases fuel with
      | zero => simp at hfuel
      | succ fuel =>
        obtain ⟨k, hk⟩ : ∃ k, k ∈ rem := by
          cases rem with
          | nil => simp at hrem
          | cons k _ => exact ⟨k, by simp⟩
        obtain ⟨p, hp, rfl⟩ := isAl_mem (hra k hk)
        have hpn := hLeft hun hls hRel p hp ((hf p hp).2 hk)
        refine ⟨fun e => ?_, fun j hj => ?_⟩
        · have := ready_al hok hp hpn
          rw [e] at this; cases this
        · have hja : isAl al j = true := by
            obtain ⟨hjn, oj, hoj, hall⟩ := mem_ready.1 hj
            have h1 := hRel.false_of hjn
            have hjs : j < ops.size := (Array.getElem?_eq_some_iff.1 hoj).1
            have h2 := List.all_eq_true.1 hord.1 j (List.mem_range.2 hjs)
            rw [h1, Bool.false_or, Bool.or_eq_true] at h2
            rcases h2 with h2 | h2
            · exact h2
            · exfalso
              have h3 := List.all_eq_true.1 h2 p hp
              rw [hoj] at h3
              obtain ⟨t, ht, hb⟩ := Array.any_eq_true.1 h3
              rw [Bool.and_eq_true] at hb
              have h4 := hall _ (Array.getElem_mem ht) hb.1
              rw [Nat.eq_of_beq_eq_true hb.2] at h4
              have h5 : p.i < listed'.size := by rw [hRel.1, hls]; exact hlt p hp
              rw [getD_in h5 false true, hpn] at h4; cases h4
          obtain ⟨q, hq, rfl, hqn⟩ := hIs hls hRel j hja hj
          exact hAlloc [] listed hun m ihm rem hrem fuel listed' f a0 w0 a w hnd hra hf hRel hc (by simp at hfuel ⊢; omega) hSA hA hsz hK hD hz hS q hq ((hf q hq).1 hqn) hj
  | cons s r ih =>
    obtain ⟨i, b⟩ := s
    cases b with
    | true =>
      intro listed hcl hord hun hls m rem hrem fuel listed' f a0 w0 a w hnd hra hf hRel hc hfuel hSA hA hsz hK hD hz hS
      simp only [ordA, Bool.and_eq_true] at hord
      obtain ⟨⟨⟨⟨⟨⟨h1, h2⟩, h3⟩, h4⟩, h5⟩, h6⟩, h7⟩ := hord
      obtain ⟨hS0, oi, v, hi, hy, hSA⟩ := hSA
      cases fuel with
      | zero => simp at hfuel
      | succ fuel =>
        have hmem : i ∈ Region.ready .any ops listed := by simpa using h4
        have hia : isAl al i = false := by simpa using h5
        have hmem' : i ∈ Region.ready .any ops listed' := by
          obtain ⟨g1, o, g2, g3⟩ := mem_ready.1 hmem
          refine mem_ready.2 ⟨?_, o, g2, fun e he hb => hRel.true_of (g3 e he hb)⟩
          have hs : i < listed.size := by rw [hls]; exact (Array.getElem?_eq_some_iff.1 g2).1
          rw [getD_in (by rw [hRel.1]; exact hs) true false, hRel.2 i hs, hia, getD_in hs false true, g1]; rfl
        refine L_first hi (Region.noSelect_spec hsel) (fun c a w hq => (hQ c _ w hq).elim) (by simpa using h1) (List.all_eq_true.1 h2) fuel listed' a w hc
          (fun j oj hoj hji hun' hno => Region.free_spec hi h3 j oj hoj hji (hRel.false_of hun') hno) hmem' (hy a hA) hS ?_
        refine ih (listed.setIfInBounds i true) (closed_set hcl hmem) h7 (fun p hp => ?_) (by simp [hls]) m rem hrem fuel _ f (a0.put oi.dst v) w0 _ w hnd hra hf (hRel.set i) (closed_set hc hmem') (by simp at hfuel ⊢; omega) hSA
          (hA.put _ _) ?_ hK ⟨fun p hp k hk => ?_, hD.2⟩ hz hS
        · have : i ≠ p.i := fun e => by rw [e, mem_isAl hp] at hia; cases hia
          rw [getD_set_ne true this]; exact hun p hp
        · cases oi.dst <;> simp [Act.put, hsz]
        · obtain ⟨g1, g2⟩ := hD.1 p hp k hk
          refine ⟨?_, g2⟩
          rw [hi] at h6
          cases hd : oi.dst with
          | none => exact g1
          | some d =>
            simp only [hd] at h6
            have hne : d ≠ p.d := fun e => by
              have : d ∈ dsOf al := by rw [e]; exact List.mem_map_of_mem hp
              simp [this] at h6
            rw [put_getD, if_neg (fun h => hne h.1)]; exact g1
    | false =>
      intro listed hcl hord hun hls m
      simp only [ordA, Bool.and_eq_true] at hord
      obtain ⟨⟨⟨h1, h4⟩, h2⟩, h3⟩ := hord
      have hia : isAl al i = false := by simpa using h2
      have hmem0 : i ∈ Region.ready .any ops listed := by simpa using h4
      have hr : Region.ready .any ops (mark al listed) = [i] := by simpa using h1
      -- the one of the order that comes up
      have hOne : ∀ (m : Nat) (rem : List Nat), rem.length = m → ∀ (fuel : Nat) (listed' : Array Bool) (f : Nat → Option Nat) (a0 : Act) (w0 : World) (a : Act) (w : World), rem.Nodup → (∀ k ∈ rem, isAl al k = true) → (∀ p ∈ al, (f p.i = none ↔ p.i ∈ rem)) → Rel al listed f listed' → closedL ops listed' →
          r.length + ord2.length + m ≤ fuel → SA ops Q S late al Xs z0 ord2 ((i, false) :: r) a0 w0 → Agr (dsOf al) a0 a → a.tmps.size = nn → Keeps [] w0 w → DF al z0 f a w → z0 ≤ w.heap.size → S w →
          ∀ j ∈ Region.ready .any ops listed', isAl al j = false →
          wpOp Tryz.prog ops Q j (fun a' w' => (lateIn late (listed'.setIfInBounds j true) = true ∨ S w') ∧ AnyL ops Q S late fuel (listed'.setIfInBounds j true) a' w') a w := by
        intro m rem hrem fuel listed' f a0 w0 a w hnd hra hf hRel hc hfuel hSA hA hsz hK hD hz hS j hj hja
        have hji : j = i := by
          have : j ∈ Region.ready .any ops (mark al listed) := by
            obtain ⟨g1, o, g2, g3⟩ := mem_ready.1 hj
            have hs : j < listed.size := by rw [hls]; exact (Array.getElem?_eq_some_iff.1 g2).1
            refine mem_ready.2 ⟨?_, o, g2, fun e he hb => ?_⟩
            · rw [mark_getD al listed j hs, hja, hRel.false_of g1]; rfl
            · have g4 := g3 e he hb
              by_cases hs' : e.on < listed.size
              · rw [mark_getD al listed _ hs']
                rw [hRel.2 _ hs', Bool.or_eq_true, Bool.and_eq_true] at g4
                rcases g4 with g4 | g4
                · rw [g4]; simp
                · rw [g4.1]; rfl
              · rw [getD_out (by rw [hRel.1]; exact hs')] at g4; cases g4
          rw [hr] at this
          exact List.mem_singleton.1 this
        subst hji
        have hmem : j ∈ Region.ready .any ops (mark al listed) := by rw [hr]; exact List.mem_singleton.2 rfl
        refine wpOp_mono (fun a' w' h => ?_) (hSA a w hA hK)
        obtain ⟨g1, g2, g3, g4, g5⟩ := h
        have hKx : ∀ p ∈ al, ∀ k, f p.i = some k → k ∉ Xs := fun p hp k hk hm => by
          have := hXs k hm
          have := (hD.1 p hp k hk).2.1
          omega
        refine ⟨.inr g1, ih (listed.setIfInBounds j true) ?_ h3 (fun p hp => ?_) (by simp [hls]) m rem hrem fuel _ f a' w' a' w' hnd hra hf (hRel.set j) (closed_set hc hj) hfuel g5 (Agr.refl _ _) (by rw [g4, hsz]) (Keeps.refl _ _)
          ⟨fun p hp k hk => ?_, hD.2⟩ (Nat.le_trans hz g2.size) g1⟩
        · exact closed_set hcl hmem0
        · have : j ≠ p.i := fun e => by rw [e, mem_isAl hp] at hia; cases hia
          rw [getD_set_ne true this]; exact hun p hp
        · obtain ⟨q1, q2, q3⟩ := hD.1 p hp k hk
          exact ⟨by rw [g3 p.d (List.mem_map_of_mem hp)]; exact q1, q2, q3.keep g2 (hKx p hp k hk)⟩
      induction m with
      | zero =>
        intro rem hrem fuel listed' f a0 w0 a w hnd hra hf hRel hc hfuel hSA hA hsz hK hD hz hS
        cases fuel with
        | zero => simp at hfuel
        | succ fuel =>
          have hr0 : rem = [] := List.eq_nil_of_length_eq_zero hrem
          have hall := hAll f (hr0 ▸ hf)
          have heq := hRel.all hall
          refine ⟨fun e => ?_, fun j hj => ?_⟩
          · rw [heq, hr] at e; cases e
          · refine hOne 0 rem hrem fuel listed' f a0 w0 a w hnd hra hf hRel hc (by simp at hfuel ⊢; omega) hSA hA hsz hK hD hz hS j hj ?_
            rw [heq, hr] at hj
            rw [List.mem_singleton.1 hj]; exact hia
      | succ m ihm =>
        intro rem hrem fuel listed' f a0 w0 a w hnd hra hf hRel hc hfuel hSA hA hsz hK hD hz hS
        cases fuel with
        | zero => simp at hfuel
        | succ fuel =>
          obtain ⟨k, hk⟩ : ∃ k, k ∈ rem := by
            cases rem with
            | nil => simp at hrem
            | cons k _ => exact ⟨k, by simp⟩
          obtain ⟨p, hp, rfl⟩ := isAl_mem (hra k hk)
          have hpn := hLeft hun hls hRel p hp ((hf p hp).2 hk)
          refine ⟨fun e => ?_, fun j hj => ?_⟩
          · have := ready_al hok hp hpn
            rw [e] at this; cases this
          · cases hja : isAl al j with
            | true =>
              obtain ⟨q, hq, rfl, hqn⟩ := hIs hls hRel j hja hj
              exact hAlloc ((i, false) :: r) listed hun m ihm rem hrem fuel listed' f a0 w0 a w hnd hra hf hRel hc (by simp at hfuel ⊢; omega) hSA hA hsz hK hD hz hS q hq ((hf q hq).1 hqn) hj
            | false => exact hOne (m + 1) rem hrem fuel listed' f a0 w0 a w hnd hra hf hRel hc (by simp at hfuel ⊢; omega) hSA hA hsz hK hD hz hS j hj hja
end draws
end Go.Proofs.YtekhaogjmmmniaaGreat
namespace Go.Proofs.YtekhaogjmmmniaaGreat
open Go Go.RowKit

def AlL (ops : Array Oper) : List Al → Prop
  | [] => True
  | p :: r => (∃ ty pos af, ops[p.i]? = some ⟨some p.d, .alloc p.T, ty, pos, af, none⟩ ∧ ∃ v, (∀ w, (zeroValue p.T).run Tryz.prog w = .ok v w) ∧ v.cells = p.cs) ∧ AlL ops r
theorem AlL.mem {ops : Array Oper} : ∀ {al : List Al}, AlL ops al → ∀ p ∈ al, ∃ ty pos af, ops[p.i]? = some ⟨some p.d, .alloc p.T, ty, pos, af, none⟩ ∧ ∃ v, (∀ w, (zeroValue p.T).run Tryz.prog w = .ok v w) ∧ v.cells = p.cs
  | [], _, p, hp => by cases hp
  | q :: r, h, p, hp => by
    cases hp with
    | head => exact h.1
    | tail _ hp => exact h.2.mem p hp

def noRep : List Nat → Bool
  | [] => true
  | x :: r => !r.contains x && noRep r
theorem noRep_inj {α : Type} (f : α → Nat) : ∀ {l : List α}, noRep (l.map f) = true → ∀ a ∈ l, ∀ b ∈ l, f a = f b → a = b
  | [], _, a, ha, _, _, _ => by cases ha
  | x :: l, h, a, ha, b, hb, e => by
    simp only [List.map_cons, noRep, Bool.and_eq_true] at h
    have h1 : f x ∉ l.map f := by simpa using h.1
    cases ha with
    | head =>
      cases hb with
      | head => rfl
      | tail _ hb => exact absurd (e ▸ List.mem_map_of_mem hb) h1
    | tail _ ha =>
      cases hb with
      | head => exact absurd (e ▸ List.mem_map_of_mem ha) h1
      | tail _ hb => exact noRep_inj f h.2 a ha b hb e

theorem noRep_nodup : ∀ l : List Nat, noRep l = true → l.Nodup
  | [], _ => by simp
  | x :: l, h => by
    simp only [noRep, Bool.and_eq_true] at h
    exact List.nodup_cons.2 ⟨by simpa using h.1, noRep_nodup l h.2⟩
theorem lk_append (x y : List (Nat × Value)) (t : Nat) : lk (x ++ y) t = (lk x t).or (lk y t) := by
  induction x with
  | nil => rfl
  | cons p x ih =>
    obtain ⟨d, v⟩ := p
    rw [List.cons_append, lk_cons, lk_cons, ih]
    split <;> simp

def regOkA (ops : Array Oper) (late : List Nat) (al : List Al) (order ord2 : List (Nat × Bool)) (n : Nat) : Bool :=
  Region.noSelect ops && alOk ops al && ordA ops late al ord2 order (Array.replicate ops.size false) && Nat.ble (order.length + ord2.length + al.length) ops.size && ord2.all (fun p => Nat.blt p.1 ops.size) &&
    noRep (al.map Al.d) && noRep (al.map Al.i) && al.all (fun p => Nat.blt p.d n)

def AW (ops : Array Oper) (S : World → Prop) (late : List Nat) (al : List Al) (Xs : List Nat) (z0 : Nat) (ord2 order : List (Nat × Bool)) (N : Pst) (E : List (Nat × Pst)) (R : Pst) : Pst := fun a w =>
  SA ops (mkQ N E R) S late al Xs z0 ord2 order a w

def noneOf (env : List (Nat × Value)) (ds : List Nat) : Bool := ds.all fun d => (lk env d).isNone
theorem noneOf_spec {env : List (Nat × Value)} {ds : List Nat} (h : noneOf env ds = true) : ∀ d ∈ ds, lk env d = none := fun d hd => by
  have := List.all_eq_true.1 h d hd
  simpa using this

section rules
variable {n : Nat} {env : List (Nat × Value)} {W w w' : World} {X : List Nat} {L : List Ent} {N : Pst} {E : List (Nat × Pst)} {R : Pst} {ops : Array Oper} {S : World → Prop} {late : List Nat} {al : List Al} {Xs : List Nat} {z0 : Nat}
variable {ord2 r : List (Nat × Bool)} {i : Nat} {o : Oper}

theorem Mem.lt (h : Mem W X L w) : ∀ e ∈ L, e.1 < w.heap.size := fun e he => (h.has e he).lt

theorem c_regA {id : Nat} (S : World → Prop) (late : List Nat) (al : List Al) (Xs : List Nat) (order ord2 : List (Nat × Bool)) (hok : regOkA ops late al order ord2 n = true) (hal : AlL ops al) (hXs : ∀ x ∈ Xs, x < w.drew.heap.size)
    (hSm : ∀ w w1, Keeps [] w w1 → S w → S w1) (hS : S w.drew) (h : AT n env w.drew (AW ops S late al Xs w.drew.heap.size ord2 order N E R)) : AT n env w (CW (.region id ops true) N E R) := fun a ha => by
  simp only [regOkA, Bool.and_eq_true] at hok
  obtain ⟨⟨⟨⟨⟨⟨⟨h1, h2⟩, h3⟩, h4⟩, h5⟩, h6⟩, h7⟩, h8⟩ := hok
  have hz : ∀ j, (Array.replicate ops.size false).getD j false = false := fun j => by
    simp only [Array.getD_eq_getD_getElem?, Array.getElem?_replicate]
    split <;> rfl
  have hcl : closedL ops (Array.replicate ops.size false) := fun j oj _ hl => by rw [hz j] at hl; cases hl
  have hlt : ∀ p ∈ al, p.i < ops.size := fun p hp => by
    have h := List.all_eq_true.1 h2 p hp
    rw [Bool.and_eq_true] at h
    exact Nat.le_of_ble_eq_true h.1
  refine wp_region_any mixed (any_of_L _ _ _ _ (L_of_SA h1 (fun c a w hq => hq) h2 hal.mem (noRep_inj Al.d h6) (noRep_inj Al.i h7) hXs hSm n (fun p hp => Nat.le_of_ble_eq_true (List.all_eq_true.1 h8 p hp))
    (fun k hk => by obtain ⟨p, hp, rfl⟩ := List.mem_map.1 hk; exact Nat.le_of_ble_eq_true (List.all_eq_true.1 h5 p hp)) order _ hcl h3 (fun p hp => ?_) (by simp) al.length (al.map Al.i) (by simp) _ _ (fun _ => none) a w.drew a w.drew ?_ ?_ ?_ ?_ hcl
    (Nat.le_of_ble_eq_true h4) (h a ha) (Agr.refl _ _) ha.sz (Keeps.refl _ _) ⟨fun p hp k hk => (by cases hk), fun p hp q hq k hk => (by cases hk)⟩ (Nat.le_refl _) hS))
  · have := hlt p hp
    rw [getD_in (by simpa using this) true false]; exact hz _
  · exact noRep_nodup _ h7
  · intro k hk
    obtain ⟨p, hp, rfl⟩ := List.mem_map.1 hk
    exact mem_isAl hp
  · intro p hp
    exact ⟨fun _ => List.mem_map_of_mem hp, fun _ => rfl⟩
  · exact ⟨rfl, fun k _ => by simp⟩

theorem a_take {d : Nat} {v : Value} (hS : S w) (hi : ops[i]? = some o) (hds : noneOf env (dsOf al) = true) (hg : GOn n env ops o) (hd : o.dst = some d) (hn : Nat.blt d n = true) (hr : ∀ w, S w → Run n env w o (.value v) w)
    (h : AT n ((d, v) :: env) w (AW ops S late al Xs z0 ord2 r N E R)) : AT n env w (AW ops S late al Xs z0 ord2 ((i, true) :: r) N E R) := fun a ha =>
  ⟨hS, o, v, hi, fun b hb => .inl ⟨hg b (ha.agr (noneOf_spec hds) hb), fun w hw => hr w hw b (ha.agr (noneOf_spec hds) hb)⟩, by rw [hd]; exact h _ (ha.put (Nat.le_of_ble_eq_true hn) v)⟩
theorem a_call {d : Nat} (hi : ops[i]? = some o) (hds : noneOf env (dsOf al) = true) (hg : GOn n env ops o) (hd : o.dst = some d) (hn : Nat.blt d n = true) (hdd : (dsOf al).contains d = false)
    (h : ∀ w1, Keeps [] w w1 → ∃ f args Rc, Run n env w1 o (.enter f args) w1 ∧ Ret f args w1 Rc ∧ ∀ v w', Rc v w' → S w' ∧ Keeps Xs w1 w' ∧ AT n ((d, v) :: env) w' (AW ops S late al Xs z0 ord2 r N E R)) :
    AT n env w (AW ops S late al Xs z0 ord2 ((i, false) :: r) N E R) := fun a ha b w1 hb hk => by
  obtain ⟨f, args, Rc, hr, hc, h⟩ := h w1 hk
  have hkb := ha.agr (noneOf_spec hds) hb
  unfold wpOp
  simp only [hi, hg b hkb, if_true]
  refine .inl ?_
  unfold Oper.wp
  rw [hr b hkb, Oper.upon_enter, hd]
  refine Calls.mono hc fun e w' he => ?_
  cases e with
  | returned v =>
    obtain ⟨h1, h2, h3⟩ := h v w' he
    refine ⟨h1, h2, fun t ht => ?_, by simp [Act.put], h3 _ (hkb.put (Nat.le_of_ble_eq_true hn) v)⟩
    rw [put_getD, if_neg]
    rintro ⟨rfl, _⟩
    rw [List.contains_iff_mem.2 ht] at hdd; cases hdd
  | _ => exact he.elim

theorem a_nil (hM : Mem W X L w) (hW : W.heap.size ≤ z0) (hL : ∀ e ∈ L, e.1 < z0) (hds : noneOf env (dsOf al) = true) (hnr : noRep (al.map Al.i) = true)
    (h : ∀ w1 (g : Nat → Nat), Keeps [] w w1 → Mem W X (al.map (fun p => (g p.i, p.cs, p.T)) ++ L) w1 → (∀ p ∈ al, z0 ≤ g p.i) →
      AT n (al.map (fun p => (p.d, .pointer (some ⟨g p.i, 0, none⟩))) ++ env) w1 (SW ops S late ord2 false N E R)) :
    AT n env w (AW ops S late al Xs z0 ord2 [] N E R) := fun a ha b w1 hb hk g hg hinj => by
  have hkb := ha.agr (noneOf_spec hds) hb
  refine h w1 g hk ?_ (fun p hp => (hg p hp).2.1) b ⟨hkb.dn, hkb.sz, fun t v hv => ?_⟩
  · have hM' := hM.keep hk
    refine ⟨hM'.kp, fun e he => ?_, fun e he => ?_, ?_⟩
    · rcases List.mem_append.1 he with he | he
      · obtain ⟨p, hp, rfl⟩ := List.mem_map.1 he
        exact (hg p hp).2.2
      · exact hM'.has e he
    · rcases List.mem_append.1 he with he | he
      · obtain ⟨p, hp, rfl⟩ := List.mem_map.1 he
        exact .inr (Nat.le_trans hW (hg p hp).2.1)
      · exact hM'.own e he
    · rw [List.map_append, List.nodup_append]
      refine ⟨?_, hM'.nd, fun x hx y hy e => ?_⟩
      · rw [List.map_map]
        have h1 := List.pairwise_map.1 (noRep_nodup _ hnr)
        exact List.pairwise_map.2 (h1.imp_of_mem fun hp hq hne e => hne (hinj _ hp _ hq e))
      · rw [List.map_map] at hx
        obtain ⟨p, hp, rfl⟩ := List.mem_map.1 hx
        obtain ⟨e', he', rfl⟩ := List.mem_map.1 hy
        have h1 := (hg p hp).2.1
        have h2 := hL e' he'
        simp only [Function.comp_apply] at e
        omega
  · rw [lk_append] at hv
    cases hl : lk (al.map (fun p => (p.d, Value.pointer (some ⟨g p.i, 0, none⟩)))) t with
    | none => rw [hl] at hv; exact hkb.kn t v hv
    | some u =>
      rw [hl] at hv
      have hu : u = v := by simpa using hv
      obtain ⟨p, hp, e⟩ := List.mem_map.1 (lk_mem hl)
      simp only [Prod.mk.injEq] at e
      rw [← e.1, ← hu, ← e.2]; exact (hg p hp).1
end rules
end Go.Proofs.YtekhaogjmmmniaaGreat
namespace Go.Proofs.YtekhaogjmmmniaaGreat
open Go Go.RowKit

def sameState (a b : State) : Bool :=
  decide (a.ver = b.ver) && decide (a.key = b.key) && decide (a.title = b.title) && decide (a.acc = b.acc) && decide (a.pass = b.pass) && decide (a.seats = b.seats) && decide (a.invites = b.invites) && decide (a.asks = b.asks) && decide (a.bans = b.bans)

section lists
variable {α : Type} {l m : List α} {k : Nat} {x y : α}
theorem len_ne [DecidableEq α] (h : decide (l.length = m.length) = false) : decide (l = m) = false := by
  rw [decide_eq_false_iff_not] at h ⊢
  intro e; exact h (by rw [e])
theorem take_step (hx : l[k]? = some x) : l.take (k + 1) = l.take k ++ [x] := by
  obtain ⟨hk, e⟩ := List.getElem?_eq_some_iff.1 hx
  rw [List.take_succ_eq_append_getElem hk, e]
theorem same_step (h : l.take k = m.take k) (hx : l[k]? = some x) (hy : m[k]? = some y) (e : x = y) : l.take (k + 1) = m.take (k + 1) := by
  rw [take_step hx, take_step hy, h, e]
theorem same_end (hl : l.length = m.length) (h : l.take k = m.take k) (hk : ¬ k < l.length) : l = m := by
  rw [List.take_of_length_le (by omega), List.take_of_length_le (by omega)] at h; exact h
theorem same_no [DecidableEq α] (hx : l[k]? = some x) (hy : m[k]? = some y) (e : ¬ x = y) : decide (l = m) = false := by
  rw [decide_eq_false_iff_not]
  rintro rfl
  rw [hx] at hy; exact e (Option.some.inj hy)
theorem map_step {β : Type} (f : α → β) (hx : l[k]? = some x) : (l.take (k + 1)).map f = (l.take k).map f ++ [f x] := by rw [take_step hx]; simp
end lists

def ciphers (S : State) : List Cipher := S.seats.map Seat.who ++ S.invites.map Invite.who ++ S.asks.map Ask.who ++ S.bans.map Ban.who
/-- how many stand in a state's lists -/
def total (S : State) : Nat := S.seats.length + S.invites.length + S.asks.length + S.bans.length
end Go.Proofs.YtekhaogjmmmniaaGreat
namespace Go.Proofs.YtekhaogjmmmniaaGreat
open Go Go.RowKit

/-- The handles from place a on, ahead of b, rise. -/
def RisesAt (l : List Cipher) (a b : Nat) : Prop := ∀ i x y, a < i → i < b → l[i - 1]? = some x → l[i]? = some y → ptLt x.E y.E = true
def Rising (l : List Cipher) : Prop := RisesAt l 0 l.length
/-- No handle is there twice. -/
def Apart (l : List Cipher) : Prop := ∀ (p q : Nat) (x y : Cipher), p < q → l[p]? = some x → l[q]? = some y → ¬ x.E = y.E

structure OkState (S : State) : Prop where
  title : S.title.length ≤ 200
  pass : S.pass.length = 0 ∨ S.pass.length = 16
  acc : okAccess S.acc = true
  l1 : S.seats.length ≤ 40
  l2 : S.invites.length ≤ 40
  l3 : S.asks.length ≤ 40
  l4 : S.bans.length ≤ 40
  u1 : Rising (S.seats.map Seat.who)
  u2 : Rising (S.invites.map Invite.who)
  u3 : Rising (S.asks.map Ask.who)
  u4 : Rising (S.bans.map Ban.who)
  nd : Apart (ciphers S)
  r1 : ∀ x ∈ S.seats, isRole x.role = true
  r2 : ∀ x ∈ S.invites, isRole x.role = true

theorem rises_mid (pre m post : List Cipher) : RisesAt (pre ++ m ++ post) pre.length (pre.length + m.length) ↔ Rising m := by
  have hget : ∀ i, i < m.length → (pre ++ m ++ post)[pre.length + i]? = m[i]? := fun i hi => by
    rw [List.append_assoc, List.getElem?_append_right (by omega), show pre.length + i - pre.length = i by omega, List.getElem?_append_left hi]
  constructor
  · intro h i x y h1 h2 hx hy
    refine h (pre.length + i) x y (by omega) (by omega) ?_ ?_
    · rw [show pre.length + i - 1 = pre.length + (i - 1) by omega, hget _ (by omega)]; exact hx
    · rw [hget _ h2]; exact hy
  · intro h i x y h1 h2 hx hy
    obtain ⟨j, rfl⟩ : ∃ j, i = pre.length + j := ⟨i - pre.length, by omega⟩
    refine h j x y (by omega) (by omega) ?_ ?_
    · rw [show pre.length + j - 1 = pre.length + (j - 1) by omega, hget _ (by omega)] at hx; exact hx
    · rw [hget _ (by omega)] at hy; exact hy
theorem rises1 (S : State) : RisesAt (ciphers S) 0 S.seats.length ↔ Rising (S.seats.map Seat.who) := by
  have := rises_mid [] (S.seats.map Seat.who) (S.invites.map Invite.who ++ S.asks.map Ask.who ++ S.bans.map Ban.who)
  simpa [ciphers] using this
theorem rises2 (S : State) : RisesAt (ciphers S) S.seats.length (S.seats.length + S.invites.length) ↔ Rising (S.invites.map Invite.who) := by
  have := rises_mid (S.seats.map Seat.who) (S.invites.map Invite.who) (S.asks.map Ask.who ++ S.bans.map Ban.who)
  simpa [ciphers] using this
theorem rises3 (S : State) : RisesAt (ciphers S) (S.seats.length + S.invites.length) (S.seats.length + S.invites.length + S.asks.length) ↔ Rising (S.asks.map Ask.who) := by
  have := rises_mid (S.seats.map Seat.who ++ S.invites.map Invite.who) (S.asks.map Ask.who) (S.bans.map Ban.who)
  simpa [ciphers, Nat.add_assoc] using this
theorem rises4 (S : State) : RisesAt (ciphers S) (S.seats.length + S.invites.length + S.asks.length) (S.seats.length + S.invites.length + S.asks.length + S.bans.length) ↔ Rising (S.bans.map Ban.who) := by
  have := rises_mid (S.seats.map Seat.who ++ S.invites.map Invite.who ++ S.asks.map Ask.who) (S.bans.map Ban.who) []
  simpa [ciphers, Nat.add_assoc] using this
theorem ciphers_len (S : State) : (ciphers S).length = S.seats.length + S.invites.length + S.asks.length + S.bans.length := by simp [ciphers, Nat.add_assoc]

/-- what is seen first: the title, the password, the access -/
def badHead (S : State) : Bool := decide (200 < S.title.length) || (!decide (S.pass.length = 0) && !decide (S.pass.length = 16)) || !okAccess S.acc
theorem head_ok {S : State} (h : badHead S = false) : S.title.length ≤ 200 ∧ (S.pass.length = 0 ∨ S.pass.length = 16) ∧ okAccess S.acc = true := by
  simp only [badHead, Bool.or_eq_false_iff, Bool.and_eq_false_iff, Bool.not_eq_false', decide_eq_true_eq, decide_eq_false_iff_not] at h
  exact ⟨by omega, h.1.2, h.2⟩
theorem head_bad {S : State} (h : badHead S = true) : ¬ OkState S := fun ok => by
  have h1 := ok.title; have h2 := ok.acc
  rw [badHead, h2, show decide (200 < S.title.length) = false from by simpa using h1] at h
  rcases ok.pass with h3 | h3 <;> simp [h3] at h

section steps
variable {l : List Cipher} {a b i k : Nat} {x y : Cipher}
theorem rise_no (h1 : a < i) (h2 : i < b) (hx : l[i - 1]? = some x) (hy : l[i]? = some y) (h : ptLt x.E y.E = false) : false = true ↔ RisesAt l a b :=
  ⟨fun e => (by cases e), fun e => by have := e i x y h1 h2 hx hy; rw [h] at this; cases this⟩
theorem rise_step (hx : l[i - 1]? = some x) (hy : l[i]? = some y) (h : ptLt x.E y.E = true) (hi : ∀ j x y, a < j → j < i → l[j - 1]? = some x → l[j]? = some y → ptLt x.E y.E = true) :
    ∀ j x y, a < j → j < i + 1 → l[j - 1]? = some x → l[j]? = some y → ptLt x.E y.E = true := fun j x' y' h1 h2 hx' hy' => by
  by_cases e : j = i
  · subst e
    rw [hx] at hx'; rw [hy] at hy'; cases hx'; cases hy'; exact h
  · exact hi j x' y' h1 (by omega) hx' hy'
theorem in_step (hy : l[i]? = some y) (hx : l[k]? = some x) (h : ¬ y.E = x.E) (hi : ∀ p x y, p < k → l[p]? = some x → l[i]? = some y → ¬ x.E = y.E) :
    ∀ p x y, p < k + 1 → l[p]? = some x → l[i]? = some y → ¬ x.E = y.E := fun p x' y' h1 hx' hy' => by
  by_cases e : p = k
  · subst e
    rw [hx] at hx'; rw [hy] at hy'; cases hx'; cases hy'; exact fun e => h e.symm
  · exact hi p x' y' (by omega) hx' hy'
theorem out_step (hi : ∀ (p q : Nat) (x y : Cipher), p < q → q < i → l[p]? = some x → l[q]? = some y → ¬ x.E = y.E) (hk : ∀ p x y, p < k → l[p]? = some x → l[i]? = some y → ¬ x.E = y.E) (h : ¬ k < i) :
    ∀ (p q : Nat) (x y : Cipher), p < q → q < i + 1 → l[p]? = some x → l[q]? = some y → ¬ x.E = y.E := fun p q x' y' h1 h2 hx' hy' => by
  by_cases e : q = i
  · subst e; exact hk p x' y' (by omega) hx' hy'
  · exact hi p q x' y' h1 (by omega) hx' hy'
theorem out_end (hi : ∀ (p q : Nat) (x y : Cipher), p < q → q < i → l[p]? = some x → l[q]? = some y → ¬ x.E = y.E) (h : ¬ i < l.length) : Apart l := fun p q x y h1 hx hy =>
  hi p q x y h1 (by have := (List.getElem?_eq_some_iff.1 hy).1; omega) hx hy
theorem all_step {α : Type} {P : α → Prop} {l : List α} {x : α} (hx : l[k]? = some x) (h : P x) (hi : ∀ (j : Nat) (x : α), j < k → l[j]? = some x → P x) : ∀ (j : Nat) (x : α), j < k + 1 → l[j]? = some x → P x := fun j y h1 hy => by
  by_cases e : j = k
  · subst e; rw [hx] at hy; cases hy; exact h
  · exact hi j y (by omega) hy
theorem all_end {α : Type} {P : α → Prop} {l : List α} (hi : ∀ (j : Nat) (x : α), j < k → l[j]? = some x → P x) (h : ¬ k < l.length) : ∀ x ∈ l, P x := fun x hx => by
  obtain ⟨j, hj⟩ := List.mem_iff_getElem?.1 hx
  exact hi j x (by have := (List.getElem?_eq_some_iff.1 hj).1; omega) hj
end steps
end Go.Proofs.YtekhaogjmmmniaaGreat
namespace Go.Proofs.YtekhaogjmmmniaaGreat
open Go Go.RowKit

/-- Block b is a map; its keys are the handles ks, each with 1. -/
structure MapB (w : World) (b : Nat) (ks : List Pt) : Prop where
  ex : ∃ es clock, w.heap[b]? = some (.map es clock) ∧ es.toList.map (fun e => (e.key, e.val)) = ks.map (fun p => (Value.agg p.cells, Value.int .i64 1))

theorem MapB.lt {w : World} {b : Nat} {ks : List Pt} (h : MapB w b ks) : b < w.heap.size := by
  obtain ⟨es, c, h1, _⟩ := h.ex
  exact (Array.getElem?_eq_some_iff.1 h1).1
theorem MapB.keep {X : List Nat} {w w' : World} {b : Nat} {ks : List Pt} (h : MapB w b ks) (k : Keeps X w w') (hb : b ∉ X) : MapB w' b ks := by
  obtain ⟨es, c, h1, h2⟩ := h.ex
  exact ⟨es, c, by rw [k.block b h.lt hb]; exact h1, h2⟩
theorem MapB.keep0 {w w' : World} {b : Nat} {ks : List Pt} (h : MapB w b ks) (k : Keeps [] w w') : MapB w' b ks := h.keep k (by simp)

section runs
variable {w : World}
theorem checkPt (em : Bool) (p : Pt) : (Instr.checkKey em 10000 24 (.agg p.cells)).run Tryz.prog w = .ok () w := by
  rw [show (10000 : Nat) = 9999 + 1 from rfl, Instr.checkKey]
  simp only [Sem.run_bind, run_underlying Tryz.underlying24, Result.andThen_ok]
  simp only [Std.Legacy.Range.forIn_eq_forIn_range', Std.Legacy.Range.size, Nat.sub_zero, Nat.add_one_sub_one, Nat.div_one]
  have hl : ∀ i ∈ List.range' 0 32 1, i < 32 := fun i hi => by simp at hi; omega
  generalize List.range' 0 32 1 = l at hl
  induction l with
  | nil => simp
  | cons i l ih =>
    have hi' : i < 32 := hl i List.mem_cons_self
    have hc : p.cells[i]? = some (vU8 p[i]) := by simp [Pt.cells, hi']
    have hp : (part 5 p.cells i).run Tryz.prog w = .ok (vU8 p[i]) w := run_part_plain w (by kernel_rfl) hc
    have hk : (Instr.checkKey em 9999 5 (vU8 p[i])).run Tryz.prog w = .ok () w := by
      rw [show (9999 : Nat) = 9998 + 1 from rfl, Instr.checkKey]
      simp [run_underlying Tryz.underlying5]
    have ih' := ih (fun j hj => hl j (List.mem_cons_of_mem _ hj))
    simp only [List.forIn_cons, Sem.run_bind, Tryz.sizeOf5, Result.andThen_ok, Nat.mul_one, hp, hk, Sem.run_pure] at ih' ⊢
    exact ih'

theorem findPt (p : Pt) : ∀ (es : List MapEntry) (ks : List Pt) (i : Nat), es.map (fun e => (e.key, e.val)) = ks.map (fun p => (Value.agg p.cells, Value.int .i64 1)) →
    (p ∉ ks ∧ (Instr.findAsking 24 (.agg p.cells) es i).run Tryz.prog w = .ok none w) ∨ (p ∈ ks ∧ ∃ j, (Instr.findAsking 24 (.agg p.cells) es i).run Tryz.prog w = .ok (some (j, .int .i64 1)) w)
  | [], ks, i, h => by
    have : ks = [] := by simpa using h.symm
    subst this
    exact .inl ⟨by simp, by simp [Instr.findAsking]⟩
  | e :: es, [], i, h => by simp at h
  | e :: es, q :: ks, i, h => by
    simp only [List.map_cons, List.cons.injEq, Prod.mk.injEq] at h
    obtain ⟨⟨h1, h2⟩, h3⟩ := h
    have he : (Op.equal 24 (.agg p.cells) e.key).run Tryz.prog w = .ok (decide (p = q)) w := by
      rw [h1]; exact eq_pt w 9998 Tryz.underlying24 p q
    unfold Instr.findAsking
    simp only [Sem.run_bind, he, Result.andThen_ok]
    by_cases hpq : p = q
    · subst hpq
      refine .inr ⟨List.mem_cons_self, i, ?_⟩
      simp [h2]
    · rw [decide_eq_false hpq]
      simp only [Bool.false_eq_true, if_false, List.mem_cons, hpq, false_or]
      exact findPt p es ks (i + 1) h3
theorem getM {b : Nat} {es : Array MapEntry} {c : Nat} (h : w.heap[b]? = some (.map es c)) : (getObj b).run Tryz.prog w = .ok (.map es c) w := by
  simp [getObj, Sem.run, h]
theorem setM {b : Nat} {es : Array MapEntry} {c : Nat} (o : Obj) (h : w.heap[b]? = some (.map es c)) : (setObj b o).run Tryz.prog w = .ok () { w with heap := w.heap.setIfInBounds b o } := by
  simp [setObj, Sem.run, h]
theorem run_lookupPt {b : Nat} {ks : List Pt} (hm : MapB w b ks) (p : Pt) : (Instr.lookup 92 (.map (some b)) (.agg p.cells) false).run Tryz.prog w = .ok (.int .i64 ((if p ∈ ks then 1 else 0 : Nat) : Int)) w := by
  obtain ⟨es, c, h1, h2⟩ := hm.ex
  have hf := run_findKey_eq (P := Tryz.prog) w (k := 24) (by rw [Tryz.underlying24]) (.agg p.cells) es.toList
  have hz : (zeroValue 3).run Tryz.prog w = .ok (.int .i64 0) w := Tryz.zeroValue3 w
  unfold Instr.lookup
  simp only [Sem.run_bind, run_underlying Tryz.underlying92, Result.andThen_ok, getM h1, Sem.run_pure, checkPt]
  rcases findPt p es.toList ks 0 h2 with ⟨h3, h4⟩ | ⟨h3, j, h4⟩
  · rw [h4] at hf
    simp [hf, h3, hz]
  · rw [h4] at hf
    simp [hf, h3]

theorem run_mapPt {b : Nat} {ks : List Pt} (hm : MapB w b ks) {p : Pt} (hp : p ∉ ks) : ∃ w', (Instr.mapUpdate 92 (.map (some b)) (.agg p.cells) (.int .i64 1)).run Tryz.prog w = .ok () w' ∧ MapB w' b (ks ++ [p]) ∧ Keeps [b] w w' := by
  obtain ⟨es, c, h1, h2⟩ := hm.ex
  have hf := run_findKey_eq (P := Tryz.prog) w (k := 24) (by rw [Tryz.underlying24]) (.agg p.cells) es.toList
  rcases findPt p es.toList ks 0 h2 with ⟨h3, h4⟩ | ⟨h3, j, h4⟩
  · rw [h4] at hf
    have hs := setM (.map (es.push { key := .agg p.cells, val := .int .i64 1, born := c }) (c + 1)) h1
    refine ⟨{ w with heap := w.heap.setIfInBounds b (.map (es.push { key := .agg p.cells, val := .int .i64 1, born := c }) (c + 1)) }, ?_, ⟨(es.push { key := .agg p.cells, val := .int .i64 1, born := c }), c + 1, ?_, ?_⟩, ?_⟩
    · unfold Instr.mapUpdate
      simp only [Sem.run_bind, run_underlying Tryz.underlying92, Result.andThen_ok, getM h1, checkPt, hf]
      exact hs
    · simp [hm.lt]
    · simp [h2]
    · exact ⟨rfl, rfl, rfl, by simp, fun k _ hk => by simp [Array.getElem?_setIfInBounds_ne (show b ≠ k from fun e => hk (by simp [e]))]⟩
  · exact absurd h3 hp
end runs

def seen (ks : List Pt) (p : Pt) : Nat := if p ∈ ks then 1 else 0
theorem seen_yes {ks : List Pt} {p : Pt} (h : 0 < seen ks p) : p ∈ ks := by
  unfold seen at h; split at h
  · assumption
  · omega
theorem seen_no {ks : List Pt} {p : Pt} (h : ¬ 0 < seen ks p) : p ∉ ks := by
  unfold seen at h; split at h
  · omega
  · assumption

section ops
variable {n : Nat} {env : List (Nat × Value)} {W w : World} {X : List Nat} {L : List Ent} {N : Pst} {E : List (Nat × Pst)} {R : Pst} {ops : Array Oper} {rest : List Oper}
variable {d : Option Nat} {ty : TypeId} {pos : String} {af : Array Edge} {g : Option (Nat × Bool)} {x y z : Operand} {b : Nat} {ks : List Pt} {p : Pt}
theorem r_lookup (hm : MapB w b ks) (hx : ev env x = some (.map (some b))) (hy : ev env y = some (.agg p.cells)) :
    Run n env w ⟨d, .lookup 92 x y false, ty, pos, af, g⟩ (.value (.int .i64 ((seen ks p : Nat) : Int))) w := fun a ha => by
  have h := run_lookupPt hm p
  unfold seen
  simp [execOp, ha.eval hx, ha.eval hy, h]
theorem l_makeMap {d : Nat} (hM : Mem W X L w) (hn : Nat.blt d n = true)
    (h : ∀ b w', Mem W X L w' → Keeps [] w w' → w.heap.size ≤ b → MapB w' b [] → AT n ((d, .map (some b)) :: env) w' (LW ops rest N E R)) : AT n env w (LW ops (⟨some d, .makeMap 92 none, ty, pos, af, none⟩ :: rest) N E R) := by
  have hr : Run n env w ⟨some d, .makeMap 92 none, ty, pos, af, none⟩ (.value (.map (some w.heap.size))) (w.alloc (.map #[] 0)) := fun a ha => by
    simp [execOp, Instr.makeMap, newObj, Sem.run]
  exact l_val (gn rfl) rfl hn hr (h _ _ (hM.keep (Keeps.alloc _ _)) (Keeps.alloc _ _) (Nat.le_refl _) ⟨#[], 0, heap_alloc_new w _, rfl⟩)
theorem l_mapUpdate (hM : Mem W X L w) (hm : MapB w b ks) (hp : p ∉ ks) (hx : ev env x = some (.map (some b))) (hy : ev env y = some (.agg p.cells)) (hz : ev env z = some (.int .i64 1)) (hb : b ∈ X) (hL : ∀ e ∈ L, e.1 ≠ b)
    (h : ∀ w', Mem W X L w' → Keeps [b] w w' → MapB w' b (ks ++ [p]) → AT n env w' (LW ops rest N E R)) : AT n env w (LW ops (⟨none, .mapUpdate 92 x y z, ty, pos, af, none⟩ :: rest) N E R) := by
  obtain ⟨w', h1, h2, h3⟩ := run_mapPt hm hp
  have hr : Run n env w ⟨none, .mapUpdate 92 x y z, ty, pos, af, none⟩ .skip w' := fun a ha => by
    simp [execOp, ha.eval hx, ha.eval hy, ha.eval hz, h1]
  refine l_skip (gn rfl) rfl hr (h w' ⟨hM.kp.then h3 (fun y hy => .inl (by simp at hy; rw [hy]; exact hb)), fun e he => (hM.has e he).keep h3 (by simpa using hL e he), hM.own, hM.nd⟩ h3 h2)
end ops

/-! ### Comparing handles -/
theorem ptLt_eq (a b : Pt) : ptLt a b = decide (a.bytes < b.bytes) := bytesLess_eq _ _
theorem cmp_lt : ∀ (x y : List UInt8), decide (0 ≤ Lib.compareBytes x y) = !Op.bytesLess x y
  | [], [] => by simp [Lib.compareBytes, Op.bytesLess]
  | [], _ :: _ => by simp [Lib.compareBytes, Op.bytesLess]
  | _ :: _, [] => by simp [Lib.compareBytes, Op.bytesLess]
  | a :: x, b :: y => by
    have ih := cmp_lt x y
    simp only [Lib.compareBytes, Op.bytesLess]
    by_cases h : a < b
    · simp [h]
    · by_cases h2 : b < a
      · have : ¬ a = b := fun e => by subst e; exact h h2
        simp [h, h2, this]
      · have : a = b := UInt8.le_antisymm (UInt8.not_lt.1 h2) (UInt8.not_lt.1 h)
        subst this
        simp [h, ih]
theorem ptCmp_ge (a b : Pt) : decide (0 ≤ ptCmp a b) = !ptLt a b := cmp_lt _ _
theorem cmp_yes {a b : Pt} (h : ((0 : Nat) : Int) ≤ ptCmp a b) : ptLt a b = false := by
  have h1 := ptCmp_ge a b
  rw [decide_eq_true (show (0 : Int) ≤ ptCmp a b from h)] at h1
  simpa using h1.symm
theorem cmp_no {a b : Pt} (h : ¬ ((0 : Nat) : Int) ≤ ptCmp a b) : ptLt a b = true := by
  have h1 := ptCmp_ge a b
  rw [decide_eq_false (show ¬ (0 : Int) ≤ ptCmp a b from h)] at h1
  simpa using h1.symm

/-! ### A list that is looked through, its handles noted -/
def OkRoll (ks : List Pt) (m : List Cipher) : Prop := m.length ≤ 40 ∧ Rising m ∧ (∀ (i : Nat) (x : Cipher), m[i]? = some x → x.E ∉ ks) ∧ Apart m
structure RollTo (ks : List Pt) (m : List Cipher) (i : Nat) (t : Pt) : Prop where
  up : ∀ j x y, 0 < j → j < i → m[j - 1]? = some x → m[j]? = some y → ptLt x.E y.E = true
  out : ∀ (j : Nat) (x : Cipher), j < i → m[j]? = some x → x.E ∉ ks
  nd : ∀ (p q : Nat) (x y : Cipher), p < q → q < i → m[p]? = some x → m[q]? = some y → ¬ x.E = y.E
  last : ∀ x, 0 < i → m[i - 1]? = some x → x.E = t
theorem RollTo.start (ks : List Pt) (m : List Cipher) (t : Pt) : RollTo ks m 0 t :=
  ⟨fun j x y h1 h2 => absurd h2 (by omega), fun j x h => absurd h (by omega), fun p q x y h1 h2 => absurd h2 (by omega), fun x h => absurd h (by omega)⟩
theorem RollTo.step {ks : List Pt} {m : List Cipher} {i : Nat} {t : Pt} {c : Cipher} (h : RollTo ks m i t) (hc : m[i]? = some c) (hn : c.E ∉ ks ++ (m.take i).map Cipher.E) (hl : 0 < i → ptLt t c.E = true) : RollTo ks m (i + 1) c.E := by
  rw [List.mem_append, not_or] at hn
  refine ⟨fun j x y h1 h2 hx hy => ?_, fun j x h1 hx => ?_, fun p q x y h1 h2 hx hy => ?_, fun x _ hx => ?_⟩
  · by_cases e : j = i
    · subst e
      rw [hc] at hy; cases hy
      rw [h.last x h1 hx]; exact hl h1
    · exact h.up j x y h1 (by omega) hx hy
  · by_cases e : j = i
    · subst e; rw [hc] at hx; cases hx; exact hn.1
    · exact h.out j x (by omega) hx
  · by_cases e : q = i
    · subst e
      rw [hc] at hy; cases hy
      intro e
      refine hn.2 (List.mem_map.2 ⟨x, ?_, e⟩)
      exact List.mem_of_getElem? (by rw [List.getElem?_take_of_lt h1]; exact hx)
    · exact h.nd p q x y h1 (by omega) hx hy
  · simp only [Nat.add_sub_cancel] at hx
    rw [hc] at hx; cases hx; rfl
theorem RollTo.seen {ks : List Pt} {m : List Cipher} {i : Nat} {c : Cipher} (hc : m[i]? = some c) (hn : c.E ∈ ks ++ (m.take i).map Cipher.E) : ¬ OkRoll ks m := fun ⟨_, _, h3, h4⟩ => by
  rcases List.mem_append.1 hn with hn | hn
  · exact h3 i c hc hn
  · obtain ⟨x, hx, e⟩ := List.mem_map.1 hn
    obtain ⟨j, hj⟩ := List.mem_iff_getElem?.1 hx
    rw [List.getElem?_take] at hj
    split at hj
    · rename_i hlt
      exact h4 j i x c hlt hj hc e
    · cases hj
theorem RollTo.down {ks : List Pt} {m : List Cipher} {i : Nat} {t : Pt} {c : Cipher} (h : RollTo ks m i t) (hc : m[i]? = some c) (h0 : 0 < i) (hl : ptLt t c.E = false) : ¬ OkRoll ks m := fun ⟨_, h2, _, _⟩ => by
  have hlt : i < m.length := (List.getElem?_eq_some_iff.1 hc).1
  have hx : m[i - 1]? = some m[i - 1] := List.getElem?_eq_getElem (by omega)
  have := h2 i _ c h0 hlt hx hc
  rw [h.last _ h0 hx, hl] at this; cases this
theorem RollTo.done {ks : List Pt} {m : List Cipher} {i : Nat} {t : Pt} (h : RollTo ks m i t) (hl : m.length ≤ 40) (hi : ¬ i < m.length) : OkRoll ks m :=
  ⟨hl, fun j x y h1 h2 hx hy => h.up j x y h1 (by omega) hx hy, fun j x hx => h.out j x (by have := (List.getElem?_eq_some_iff.1 hx).1; omega) hx,
    fun p q x y h1 hx hy => h.nd p q x y h1 (by have := (List.getElem?_eq_some_iff.1 hy).1; omega) hx hy⟩
end Go.Proofs.YtekhaogjmmmniaaGreat
namespace Go.Proofs.YtekhaogjmmmniaaGreat
open Go Go.RowKit

def badSeat (x : Seat) : Bool := !isRole x.role
def badInvite (x : Invite) : Bool := !isRole x.role
theorem any_idx {α : Type} (p : α → Bool) (l : List α) : decide (((0 : Nat) : Int) ≤ idxOf p l) = l.any p := by
  rcases idxOf_cases p l with ⟨h1, h2⟩ | ⟨k, x, h1, h2, h3, _⟩
  · rw [h1]
    have : l.any p = false := List.any_eq_false.2 fun x hx => List.find?_eq_none.1 h2 x hx
    rw [this]; decide
  · rw [h1]
    have : l.any p = true := List.any_eq_true.2 ⟨x, List.mem_of_getElem? h2, h3⟩
    rw [this]; simp
theorem badHead_eq (S : State) : badHead S = (decide (200 < S.title.length) || !decide (S.pass.length % 16 = 0) || decide (16 < S.pass.length) || !okAccess S.acc) := by
  unfold badHead
  have : (!decide (S.pass.length = 0) && !decide (S.pass.length = 16)) = (!decide (S.pass.length % 16 = 0) || decide (16 < S.pass.length)) := by
    by_cases h1 : S.pass.length = 0
    · simp [h1]
    · by_cases h2 : S.pass.length = 16
      · simp [h2]
      · have : ¬ S.pass.length % 16 = 0 ∨ 16 < S.pass.length := by omega
        rcases this with h | h <;> simp [h1, h2, h]
  rw [this]
  simp only [Bool.or_assoc]

theorem apart_iff (l : List Cipher) : Apart l ↔ l.Pairwise (fun x y => ¬ x.E = y.E) := by
  rw [List.pairwise_iff_getElem]
  constructor
  · intro h i j hi hj hij
    exact h i j _ _ hij (List.getElem?_eq_getElem hi) (List.getElem?_eq_getElem hj)
  · intro h p q x y hpq hx hy
    obtain ⟨hp, e1⟩ := List.getElem?_eq_some_iff.1 hx
    obtain ⟨hq, e2⟩ := List.getElem?_eq_some_iff.1 hy
    rw [← e1, ← e2]; exact h p q hp hq hpq
theorem roll_iff (ks : List Pt) (m : List Cipher) : OkRoll ks m ↔ m.length ≤ 40 ∧ Rising m ∧ (∀ x ∈ m, x.E ∉ ks) ∧ Apart m := by
  unfold OkRoll
  constructor
  · rintro ⟨h1, h2, h3, h4⟩
    exact ⟨h1, h2, fun x hx => by obtain ⟨j, hj⟩ := List.mem_iff_getElem?.1 hx; exact h3 j x hj, h4⟩
  · rintro ⟨h1, h2, h3, h4⟩
    exact ⟨h1, h2, fun i x hx => h3 x (List.mem_of_getElem? hx), h4⟩
theorem role_iff1 (l : List Seat) : l.any badSeat = false ↔ ∀ x ∈ l, isRole x.role = true := by simp [badSeat]
theorem role_iff2 (l : List Invite) : l.any badInvite = false ↔ ∀ x ∈ l, isRole x.role = true := by simp [badInvite]

theorem ok_rolls (S : State) : OkState S ↔ badHead S = false ∧ OkRoll [] (S.seats.map Seat.who) ∧ OkRoll ([] ++ (S.seats.map Seat.who).map Cipher.E) (S.invites.map Invite.who) ∧
    OkRoll ([] ++ (S.seats.map Seat.who).map Cipher.E ++ (S.invites.map Invite.who).map Cipher.E) (S.asks.map Ask.who) ∧
    OkRoll ([] ++ (S.seats.map Seat.who).map Cipher.E ++ (S.invites.map Invite.who).map Cipher.E ++ (S.asks.map Ask.who).map Cipher.E) (S.bans.map Ban.who) ∧ S.seats.any badSeat = false ∧ S.invites.any badInvite = false := by
  have hap : Apart (ciphers S) ↔ Apart (S.seats.map Seat.who) ∧ Apart (S.invites.map Invite.who) ∧ Apart (S.asks.map Ask.who) ∧ Apart (S.bans.map Ban.who) ∧
      (∀ x ∈ S.seats.map Seat.who, ∀ y ∈ S.invites.map Invite.who, ¬ x.E = y.E) ∧ (∀ x ∈ S.seats.map Seat.who ++ S.invites.map Invite.who, ∀ y ∈ S.asks.map Ask.who, ¬ x.E = y.E) ∧
      (∀ x ∈ S.seats.map Seat.who ++ S.invites.map Invite.who ++ S.asks.map Ask.who, ∀ y ∈ S.bans.map Ban.who, ¬ x.E = y.E) := by
    simp only [apart_iff, ciphers, List.pairwise_append]
    constructor
    · rintro ⟨⟨⟨a, b, c⟩, d, e⟩, f, g⟩; exact ⟨a, b, d, f, c, e, g⟩
    · rintro ⟨a, b, d, f, c, e, g⟩; exact ⟨⟨⟨a, b, c⟩, d, e⟩, f, g⟩
  simp only [roll_iff]
  rw [role_iff1, role_iff2]
  constructor
  · intro h
    obtain ⟨a, b, c, d, e, f, g⟩ := hap.1 h.nd
    refine ⟨?_, ⟨by simpa using h.l1, h.u1, by simp, a⟩, ⟨by simpa using h.l2, h.u2, fun x hx hm => ?_, b⟩, ⟨by simpa using h.l3, h.u3, fun x hx hm => ?_, c⟩, ⟨by simpa using h.l4, h.u4, fun x hx hm => ?_, d⟩, h.r1, h.r2⟩
    · cases hb : badHead S with
      | false => rfl
      | true => exact (head_bad hb h).elim
    · simp only [List.nil_append] at hm
      obtain ⟨y, hy, e'⟩ := List.mem_map.1 hm
      exact e y hy x hx e'
    · rw [List.nil_append, ← List.map_append] at hm
      obtain ⟨y, hy, e'⟩ := List.mem_map.1 hm
      exact f y hy x hx e'
    · rw [List.nil_append, ← List.map_append, ← List.map_append] at hm
      obtain ⟨y, hy, e'⟩ := List.mem_map.1 hm
      exact g y hy x hx e'
  · rintro ⟨h0, ⟨a1, a2, _, a4⟩, ⟨b1, b2, b3, b4⟩, ⟨c1, c2, c3, c4⟩, ⟨d1, d2, d3, d4⟩, r1, r2⟩
    obtain ⟨t1, t2, t3⟩ := head_ok h0
    refine ⟨t1, t2, t3, by simpa using a1, by simpa using b1, by simpa using c1, by simpa using d1, a2, b2, c2, d2, hap.2 ⟨a4, b4, c4, d4, fun x hx y hy e => ?_, fun x hx y hy e => ?_, fun x hx y hy e => ?_⟩, r1, r2⟩
    · exact b3 y hy (by simp only [List.nil_append]; exact List.mem_map.2 ⟨x, hx, e⟩)
    · exact c3 y hy (by rw [List.nil_append, ← List.map_append]; exact List.mem_map.2 ⟨x, hx, e⟩)
    · exact d3 y hy (by rw [List.nil_append, ← List.map_append, ← List.map_append]; exact List.mem_map.2 ⟨x, hx, e⟩)
end Go.Proofs.YtekhaogjmmmniaaGreat
namespace Go.Proofs.YtekhaogjmmmniaaGreat
open Go Go.RowKit

noncomputable def okS (S : State) : Bool := @decide (OkState S) (Classical.propDecidable _)
theorem okS_iff {S : State} : okS S = true ↔ OkState S := by unfold okS; exact @decide_eq_true_iff _ (Classical.propDecidable _)
theorem okS_of {S : State} {r : Bool} (h : r = true ↔ OkState S) : r = okS S := by
  cases hb : okS S with
  | true => exact h.2 (okS_iff.1 hb)
  | false =>
    cases r with
    | false => rfl
    | true => rw [okS_iff.2 (h.1 rfl)] at hb; cases hb

section nils
variable {n : Nat} {env : List (Nat × Value)} {w : World} {d : Option Nat} {ty : TypeId} {pos : String} {af : Array Edge} {g : Option (Nat × Bool)} {x y : Operand} {T el t' : TypeId} {s : Sl}
theorem r_isNil (hT : Tryz.prog.underlying T = some (.slice el)) (hx : ev env x = some s.val) (hy : ev env y = some (.slice none 0 0)) : Run n env w ⟨d, .binOp .eql T x y t', ty, pos, af, g⟩ (.value (.bool (s.a.isNone))) w := fun a ha => by
  have h1 : (binOp .eql T s.val (.slice none 0 0)).run Tryz.prog w = .ok (.bool s.a.isNone) w := by
    have h0 := run_equal_slice_nil (P := Tryz.prog) w T el s.a s.len s.cap hT
    simp only [binOp, Sl.val]
    simp [h0]
  simp [execOp, ha.eval hx, ha.eval hy, eqGuard, h1]
theorem Row.none {α : Type} {A : Nat → Prop} {sz : Nat} {enc : α → Array Value} {l : List α} (h : Row A w s sz enc l) (hn : s.a.isNone = true) : l = [] := by
  cases l with
  | nil => rfl
  | cons x l => obtain ⟨b, off, h1, _⟩ := h.at_ 0 x (by simp); rw [h1] at hn; cases hn
end nils

/-- Two slices of one's own lie in two blocks. -/
def Sep2 (x y : Sl) : Prop := ∀ b, x.val.ownBlock = some b → y.val.ownBlock = some b → False
/-- A state whose lists are one's own, each in a block of its own. -/
structure OwnSt (base : Nat) (w : World) (q : Six) (S : State) : Prop where
  t : Own base 5 w q.t 1 encB S.title
  p : Own base 5 w q.p 1 encB S.pass
  s : Own base 73 w q.s 66 Seat.cells S.seats
  i : Own base 82 w q.i 129 Invite.cells S.invites
  a : Own base 84 w q.a 65 Ask.cells S.asks
  b : Own base 86 w q.b 128 Ban.cells S.bans
  sep : [q.t, q.p, q.s, q.i, q.a, q.b].Pairwise Sep2
theorem OwnSt.stv {base : Nat} {w : World} {q : Six} {S : State} (h : OwnSt base w q S) : StV (fun b => base ≤ b) w q S :=
  ⟨h.t.row enB, h.p.row enB, h.s.row enSeat, h.i.row enInvite, h.a.row enAsk, h.b.row enBan⟩
theorem OwnSt.keepL {base : Nat} {w w' : World} {q : Six} {S : State} {X : List Nat} (h : OwnSt base w q S) (k : Keeps X w w') (hx : ∀ x ∈ X, x < base) : OwnSt base w' q S :=
  ⟨h.t.keepL k hx, h.p.keepL k hx, h.s.keepL k hx, h.i.keepL k hx, h.a.keepL k hx, h.b.keepL k hx, h.sep⟩
theorem OwnSt.keep0 {base : Nat} {w w' : World} {q : Six} {S : State} (h : OwnSt base w q S) (k : Keeps [] w w') : OwnSt base w' q S := h.keepL k (by simp)
theorem OwnSt.lower {base base' : Nat} {w : World} {q : Six} {S : State} (h : OwnSt base w q S) (hb : base' ≤ base) : OwnSt base' w q S :=
  ⟨h.t.lower hb, h.p.lower hb, h.s.lower hb, h.i.lower hb, h.a.lower hb, h.b.lower hb, h.sep⟩
theorem sep2_of {α : Type} {base : Nat} {e : TypeId} {w : World} {x y : Sl} {sz : Nat} {enc : α → Array Value} {l : List α} (hx : ∀ b, x.val.ownBlock = some b → b < base) (hy : Own base e w y sz enc l) : Sep2 x y := fun b h1 h2 => by
  have := hx b h1; have := (hy.own.lt b h2).1; omega
/-- An action whose bytes are one's own. -/
structure OwnAc (base : Nat) (w : World) (q : Two) (a : Action) : Prop where
  t : Own base 5 w q.t 1 encB a.title
  p : Own base 5 w q.p 1 encB a.pass
  sep : Sep2 q.t q.p
theorem OwnAc.acv {base : Nat} {w : World} {q : Two} {a : Action} (h : OwnAc base w q a) : AcV (fun b => base ≤ b) w q a := ⟨h.t.row enB, h.p.row enB⟩
end Go.Proofs.YtekhaogjmmmniaaGreat
namespace Go.Proofs.YtekhaogjmmmniaaGreat
open Go Go.RowKit

theorem f36 {A : Nat → Prop} {w : World} {S : State} {q : Six} (hS : StV A w q S) (e : Pt) :
    Ret 36 #[.agg (S.rep q).cells, .agg e.cells] w (fun v w' => v = .int .i64 (idxOf (seatIs e) S.seats) ∧ Keeps [] w w') := by
  have hn : S.seats.length ≤ 140737488355328 := hS.seats.bd
  have hM0 := Mem.start w
  refine enter Tryz.func36 rfl rfl ?_
  refine c_sr ?_
  refine l_box hM0 rfl rfl ?_
  intro b1 w2 hM3 hK4 hB5
  replace hM3 : Mem w [] [(b1, (SRep.cells ((SRep.mk S.ver S.key q.t S.acc q.p q.s q.i q.a q.b))), 37)] w2 := hM3
  refine l_box hM3 rfl rfl ?_
  intro b6 w7 hM8 hK9 hB10
  replace hM8 : Mem w [] [(b6, (Pt.cells e), 24), (b1, (SRep.cells ((SRep.mk S.ver S.key q.t S.acc q.p q.s q.i q.a q.b))), 37)] w7 := hM8
  refine l_v rfl (r_assign rfl) ?_
  refine l_nil ?_
  refine c_seq ?_
  refine c_sr ?_
  refine l_v rfl (r_assign rfl) ?_
  refine l_nil ?_
  refine c_block ?_
  refine c_loop (ι := Nat) (fun k w_ => Mem w [] [(b6, (Pt.cells e), 24), (b1, (SRep.cells ((SRep.mk S.ver S.key q.t S.acc q.p q.s q.i q.a q.b))), 37)] w_ ∧ (k ≤ S.seats.length ∧ ∀ j x, j < k → S.seats[j]? = some x → seatIs e x = false)) (fun k => [(0, Value.agg (SRep.cells ((SRep.mk S.ver S.key q.t S.acc q.p q.s q.i q.a q.b)))), (1, Value.agg (Pt.cells e)), (2, Value.pointer (some ⟨b1, 0, none⟩)), (3, Value.pointer (some ⟨b6, 0, none⟩)), (5, Value.int .i64 ((k : Nat) : Int))]) (fun k => S.seats.length - k) 0 ⟨hM8, Nat.zero_le _, fun _ _ h => absurd h (Nat.not_lt_zero _)⟩ ⟨rfl, rfl, rfl, rfl, rfl, trivial⟩ ?_
  rintro k w11 ⟨hM12, hk, hno⟩
  refine c_seq ?_
  refine c_sr ?_
  refine l_v rfl (r_move rfl) ?_
  refine l_v rfl (r_fieldAddr SRep.fld_seats rfl) ?_
  refine l_v rfl (r_load1 (v := Sl.val q.s) Tryz.isAgg32 rfl (Holds.sub (hM12.base (i := 1) rfl) (SRep.sub_seats _))) ?_
  refine l_v rfl (r_lenR Tryz.underlying32 rfl (hS.seats.keep0 hM12.kp).len) ?_
  refine l_v rfl (r_lss (b := decide ((k : Nat) < S.seats.length)) rfl rfl (nlt k S.seats.length)) ?_
  refine l_nil ?_
  refine ways (decide ((k : Nat) < S.seats.length)) (fun h13 => ?_) (fun h13 => ?_)
  ·skip
   have hp14 : (k : Nat) < S.seats.length := of_decide_eq_true h13
   refine c_condT rfl h13 ?_
   refine c_skip ?_
   refine c_seq ?_
   refine c_block ?_
   refine c_seq ?_
   refine c_regD (Mem w [] [(b6, (Pt.cells e), 24), (b1, (SRep.cells ((SRep.mk S.ver S.key q.t S.acc q.p q.s q.i q.a q.b))), 37)]) [] [(0, true), (1, true), (2, true), (3, true), (4, true), (5, true), (6, true), (7, true), (8, true)] (by kernel_rfl) ?_
   have hM15 := hM12.drew
   refine s_take hM15 rfl (gn rfl) rfl rfl (fun w h => r_fieldAddr SRep.fld_seats rfl) ?_
   refine s_take hM15 rfl (gn rfl) rfl rfl (fun w h => r_load1 (v := Sl.val q.s) Tryz.isAgg32 rfl (Holds.sub (h.base (i := 1) rfl) (SRep.sub_seats _))) ?_
   refine s_take hM15 rfl (gn rfl) rfl rfl (fun w h => r_move rfl) ?_
   have hlt17 : k < S.seats.length := by first | assumption | omega
   obtain ⟨x17, hx17⟩ : ∃ x, S.seats[k]? = some x := ⟨_, List.getElem?_eq_getElem hlt17⟩
   obtain ⟨p17, o17, ha17, hA17, -⟩ := (hS.seats.keep0 hM15.kp).at_ _ _ hx17
   refine s_take hM15 rfl (gn rfl) rfl rfl (fun w h => r_indexR Tryz.underlying32 Tryz.sizeOf73 ⟨_, (hS.seats.keep0 h.kp)⟩ rfl ha17 rfl hlt17) ?_
   refine s_take hM15 rfl (gn rfl) rfl rfl (fun w h => r_fieldAddr Seat.fld_who rfl) ?_
   refine s_take hM15 rfl (gn rfl) rfl rfl (fun w h => r_fieldAddr Cipher.fld_E rfl) ?_
   refine s_take hM15 rfl (gn rfl) rfl rfl (fun w h => r_loadA Tryz.isAgg24 Tryz.sizeOf24 (Pt.size _) rfl (Holds.sub (Holds.sub ((hS.seats.keep0 h.kp).ix hx17 ha17) (Seat.sub_who _)) (Cipher.sub_E _))) ?_
   refine s_take hM15 rfl (gn rfl) rfl rfl (fun w h => r_loadA Tryz.isAgg24 Tryz.sizeOf24 (Pt.size _) rfl (h.base (i := 0) rfl)) ?_
   refine s_take hM15 rfl (gn rfl) rfl rfl (fun w h => r_eqPt Tryz.eqGuardType24 Tryz.underlying24 rfl rfl) ?_
   refine s_nil ?_
   refine ways (decide (x17.who.E = e)) (fun h18 => ?_) (fun h18 => ?_)
   ·skip
    have hp19 : x17.who.E = e := of_decide_eq_true h18
    refine c_condT rfl h18 ?_
    refine c_sr ?_
    refine l_v rfl (r_move rfl) ?_
    refine l_v rfl (r_assign rfl) ?_
    refine l_nil ?_
    refine c_ret ?_
    refine ret1 rfl rfl ?_
    exact ⟨by rw [idxOf_at (p := seatIs e) hx17 (by assumption) hno], hM15.kp⟩
   ·skip
    have hp20 : ¬ (x17.who.E = e) := of_decide_eq_false h18
    refine c_condF rfl h18 ?_
    refine c_skip ?_
    refine c_reg ?_
    refine l_v rfl (r_move rfl) ?_
    refine l_v rfl (r_add (r := ((k + 1 : Nat) : Int)) rfl rfl (nadd (i := k) (k := 1) (m := k + 1) (by omega) (by omega))) ?_
    refine l_v rfl (r_assign rfl) ?_
    refine l_nil ?_
    intro a_ ha_
    refine ⟨k + 1, ⟨hM15, ?_⟩, by omega, ha_.sub ⟨rfl, rfl, rfl, rfl, rfl, trivial⟩⟩
    exact ⟨by omega, no_step hx17 (by assumption) hno⟩
  ·skip
   have hp21 : ¬ ((k : Nat) < S.seats.length) := of_decide_eq_false h13
   refine c_condF rfl h13 ?_
   refine c_exit rfl ?_
   refine c_sr ?_
   refine l_v rfl (r_assign rfl) ?_
   refine l_nil ?_
   refine c_ret ?_
   refine ret1 rfl rfl ?_
   exact ⟨by rw [idxOf_no (p := seatIs e) (fun j y hj => hno j y (by omega))], hM12.kp⟩
theorem f41 {A : Nat → Prop} {w : World} {S : State} {q : Six} (hS : StV A w q S) (e : Pt) :
    Ret 41 #[.agg (S.rep q).cells, .agg e.cells] w (fun v w' => v = .int .i64 (idxOf (inviteIs e) S.invites) ∧ Keeps [] w w') := by
  have hn : S.invites.length ≤ 140737488355328 := hS.invites.bd
  have hM0 := Mem.start w
  refine enter Tryz.func41 rfl rfl ?_
  refine c_sr ?_
  refine l_box hM0 rfl rfl ?_
  intro b1 w2 hM3 hK4 hB5
  replace hM3 : Mem w [] [(b1, (SRep.cells ((SRep.mk S.ver S.key q.t S.acc q.p q.s q.i q.a q.b))), 37)] w2 := hM3
  refine l_box hM3 rfl rfl ?_
  intro b6 w7 hM8 hK9 hB10
  replace hM8 : Mem w [] [(b6, (Pt.cells e), 24), (b1, (SRep.cells ((SRep.mk S.ver S.key q.t S.acc q.p q.s q.i q.a q.b))), 37)] w7 := hM8
  refine l_v rfl (r_assign rfl) ?_
  refine l_nil ?_
  refine c_seq ?_
  refine c_sr ?_
  refine l_v rfl (r_assign rfl) ?_
  refine l_nil ?_
  refine c_block ?_
  refine c_loop (ι := Nat) (fun k w_ => Mem w [] [(b6, (Pt.cells e), 24), (b1, (SRep.cells ((SRep.mk S.ver S.key q.t S.acc q.p q.s q.i q.a q.b))), 37)] w_ ∧ (k ≤ S.invites.length ∧ ∀ j x, j < k → S.invites[j]? = some x → inviteIs e x = false)) (fun k => [(0, Value.agg (SRep.cells ((SRep.mk S.ver S.key q.t S.acc q.p q.s q.i q.a q.b)))), (1, Value.agg (Pt.cells e)), (2, Value.pointer (some ⟨b1, 0, none⟩)), (3, Value.pointer (some ⟨b6, 0, none⟩)), (5, Value.int .i64 ((k : Nat) : Int))]) (fun k => S.invites.length - k) 0 ⟨hM8, Nat.zero_le _, fun _ _ h => absurd h (Nat.not_lt_zero _)⟩ ⟨rfl, rfl, rfl, rfl, rfl, trivial⟩ ?_
  rintro k w11 ⟨hM12, hk, hno⟩
  refine c_seq ?_
  refine c_sr ?_
  refine l_v rfl (r_move rfl) ?_
  refine l_v rfl (r_fieldAddr SRep.fld_invites rfl) ?_
  refine l_v rfl (r_load1 (v := Sl.val q.i) Tryz.isAgg33 rfl (Holds.sub (hM12.base (i := 1) rfl) (SRep.sub_invites _))) ?_
  refine l_v rfl (r_lenR Tryz.underlying33 rfl (hS.invites.keep0 hM12.kp).len) ?_
  refine l_v rfl (r_lss (b := decide ((k : Nat) < S.invites.length)) rfl rfl (nlt k S.invites.length)) ?_
  refine l_nil ?_
  refine ways (decide ((k : Nat) < S.invites.length)) (fun h13 => ?_) (fun h13 => ?_)
  ·skip
   have hp14 : (k : Nat) < S.invites.length := of_decide_eq_true h13
   refine c_condT rfl h13 ?_
   refine c_skip ?_
   refine c_seq ?_
   refine c_block ?_
   refine c_seq ?_
   refine c_regD (Mem w [] [(b6, (Pt.cells e), 24), (b1, (SRep.cells ((SRep.mk S.ver S.key q.t S.acc q.p q.s q.i q.a q.b))), 37)]) [] [(0, true), (1, true), (2, true), (3, true), (4, true), (5, true), (6, true), (7, true), (8, true)] (by kernel_rfl) ?_
   have hM15 := hM12.drew
   refine s_take hM15 rfl (gn rfl) rfl rfl (fun w h => r_fieldAddr SRep.fld_invites rfl) ?_
   refine s_take hM15 rfl (gn rfl) rfl rfl (fun w h => r_load1 (v := Sl.val q.i) Tryz.isAgg33 rfl (Holds.sub (h.base (i := 1) rfl) (SRep.sub_invites _))) ?_
   refine s_take hM15 rfl (gn rfl) rfl rfl (fun w h => r_move rfl) ?_
   have hlt17 : k < S.invites.length := by first | assumption | omega
   obtain ⟨x17, hx17⟩ : ∃ x, S.invites[k]? = some x := ⟨_, List.getElem?_eq_getElem hlt17⟩
   obtain ⟨p17, o17, ha17, hA17, -⟩ := (hS.invites.keep0 hM15.kp).at_ _ _ hx17
   refine s_take hM15 rfl (gn rfl) rfl rfl (fun w h => r_indexR Tryz.underlying33 Tryz.sizeOf82 ⟨_, (hS.invites.keep0 h.kp)⟩ rfl ha17 rfl hlt17) ?_
   refine s_take hM15 rfl (gn rfl) rfl rfl (fun w h => r_fieldAddr Invite.fld_who rfl) ?_
   refine s_take hM15 rfl (gn rfl) rfl rfl (fun w h => r_fieldAddr Cipher.fld_E rfl) ?_
   refine s_take hM15 rfl (gn rfl) rfl rfl (fun w h => r_loadA Tryz.isAgg24 Tryz.sizeOf24 (Pt.size _) rfl (Holds.sub (Holds.sub ((hS.invites.keep0 h.kp).ix hx17 ha17) (Invite.sub_who _)) (Cipher.sub_E _))) ?_
   refine s_take hM15 rfl (gn rfl) rfl rfl (fun w h => r_loadA Tryz.isAgg24 Tryz.sizeOf24 (Pt.size _) rfl (h.base (i := 0) rfl)) ?_
   refine s_take hM15 rfl (gn rfl) rfl rfl (fun w h => r_eqPt Tryz.eqGuardType24 Tryz.underlying24 rfl rfl) ?_
   refine s_nil ?_
   refine ways (decide (x17.who.E = e)) (fun h18 => ?_) (fun h18 => ?_)
   ·skip
    have hp19 : x17.who.E = e := of_decide_eq_true h18
    refine c_condT rfl h18 ?_
    refine c_sr ?_
    refine l_v rfl (r_move rfl) ?_
    refine l_v rfl (r_assign rfl) ?_
    refine l_nil ?_
    refine c_ret ?_
    refine ret1 rfl rfl ?_
    exact ⟨by rw [idxOf_at (p := inviteIs e) hx17 (by assumption) hno], hM15.kp⟩
   ·skip
    have hp20 : ¬ (x17.who.E = e) := of_decide_eq_false h18
    refine c_condF rfl h18 ?_
    refine c_skip ?_
    refine c_reg ?_
    refine l_v rfl (r_move rfl) ?_
    refine l_v rfl (r_add (r := ((k + 1 : Nat) : Int)) rfl rfl (nadd (i := k) (k := 1) (m := k + 1) (by omega) (by omega))) ?_
    refine l_v rfl (r_assign rfl) ?_
    refine l_nil ?_
    intro a_ ha_
    refine ⟨k + 1, ⟨hM15, ?_⟩, by omega, ha_.sub ⟨rfl, rfl, rfl, rfl, rfl, trivial⟩⟩
    exact ⟨by omega, no_step hx17 (by assumption) hno⟩
  ·skip
   have hp21 : ¬ ((k : Nat) < S.invites.length) := of_decide_eq_false h13
   refine c_condF rfl h13 ?_
   refine c_exit rfl ?_
   refine c_sr ?_
   refine l_v rfl (r_assign rfl) ?_
   refine l_nil ?_
   refine c_ret ?_
   refine ret1 rfl rfl ?_
   exact ⟨by rw [idxOf_no (p := inviteIs e) (fun j y hj => hno j y (by omega))], hM12.kp⟩
theorem f42 {A : Nat → Prop} {w : World} {S : State} {q : Six} (hS : StV A w q S) (e : Pt) :
    Ret 42 #[.agg (S.rep q).cells, .agg e.cells] w (fun v w' => v = .int .i64 (idxOf (askIs e) S.asks) ∧ Keeps [] w w') := by
  have hn : S.asks.length ≤ 140737488355328 := hS.asks.bd
  have hM0 := Mem.start w
  refine enter Tryz.func42 rfl rfl ?_
  refine c_sr ?_
  refine l_box hM0 rfl rfl ?_
  intro b1 w2 hM3 hK4 hB5
  replace hM3 : Mem w [] [(b1, (SRep.cells ((SRep.mk S.ver S.key q.t S.acc q.p q.s q.i q.a q.b))), 37)] w2 := hM3
  refine l_box hM3 rfl rfl ?_
  intro b6 w7 hM8 hK9 hB10
  replace hM8 : Mem w [] [(b6, (Pt.cells e), 24), (b1, (SRep.cells ((SRep.mk S.ver S.key q.t S.acc q.p q.s q.i q.a q.b))), 37)] w7 := hM8
  refine l_v rfl (r_assign rfl) ?_
  refine l_nil ?_
  refine c_seq ?_
  refine c_sr ?_
  refine l_v rfl (r_assign rfl) ?_
  refine l_nil ?_
  refine c_block ?_
  refine c_loop (ι := Nat) (fun k w_ => Mem w [] [(b6, (Pt.cells e), 24), (b1, (SRep.cells ((SRep.mk S.ver S.key q.t S.acc q.p q.s q.i q.a q.b))), 37)] w_ ∧ (k ≤ S.asks.length ∧ ∀ j x, j < k → S.asks[j]? = some x → askIs e x = false)) (fun k => [(0, Value.agg (SRep.cells ((SRep.mk S.ver S.key q.t S.acc q.p q.s q.i q.a q.b)))), (1, Value.agg (Pt.cells e)), (2, Value.pointer (some ⟨b1, 0, none⟩)), (3, Value.pointer (some ⟨b6, 0, none⟩)), (5, Value.int .i64 ((k : Nat) : Int))]) (fun k => S.asks.length - k) 0 ⟨hM8, Nat.zero_le _, fun _ _ h => absurd h (Nat.not_lt_zero _)⟩ ⟨rfl, rfl, rfl, rfl, rfl, trivial⟩ ?_
  rintro k w11 ⟨hM12, hk, hno⟩
  refine c_seq ?_
  refine c_sr ?_
  refine l_v rfl (r_move rfl) ?_
  refine l_v rfl (r_fieldAddr SRep.fld_asks rfl) ?_
  refine l_v rfl (r_load1 (v := Sl.val q.a) Tryz.isAgg34 rfl (Holds.sub (hM12.base (i := 1) rfl) (SRep.sub_asks _))) ?_
  refine l_v rfl (r_lenR Tryz.underlying34 rfl (hS.asks.keep0 hM12.kp).len) ?_
  refine l_v rfl (r_lss (b := decide ((k : Nat) < S.asks.length)) rfl rfl (nlt k S.asks.length)) ?_
  refine l_nil ?_
  refine ways (decide ((k : Nat) < S.asks.length)) (fun h13 => ?_) (fun h13 => ?_)
  ·skip
   have hp14 : (k : Nat) < S.asks.length := of_decide_eq_true h13
   refine c_condT rfl h13 ?_
   refine c_skip ?_
   refine c_seq ?_
   refine c_block ?_
   refine c_seq ?_
   refine c_regD (Mem w [] [(b6, (Pt.cells e), 24), (b1, (SRep.cells ((SRep.mk S.ver S.key q.t S.acc q.p q.s q.i q.a q.b))), 37)]) [] [(0, true), (1, true), (2, true), (3, true), (4, true), (5, true), (6, true), (7, true), (8, true)] (by kernel_rfl) ?_
   have hM15 := hM12.drew
   refine s_take hM15 rfl (gn rfl) rfl rfl (fun w h => r_fieldAddr SRep.fld_asks rfl) ?_
   refine s_take hM15 rfl (gn rfl) rfl rfl (fun w h => r_load1 (v := Sl.val q.a) Tryz.isAgg34 rfl (Holds.sub (h.base (i := 1) rfl) (SRep.sub_asks _))) ?_
   refine s_take hM15 rfl (gn rfl) rfl rfl (fun w h => r_move rfl) ?_
   have hlt17 : k < S.asks.length := by first | assumption | omega
   obtain ⟨x17, hx17⟩ : ∃ x, S.asks[k]? = some x := ⟨_, List.getElem?_eq_getElem hlt17⟩
   obtain ⟨p17, o17, ha17, hA17, -⟩ := (hS.asks.keep0 hM15.kp).at_ _ _ hx17
   refine s_take hM15 rfl (gn rfl) rfl rfl (fun w h => r_indexR Tryz.underlying34 Tryz.sizeOf84 ⟨_, (hS.asks.keep0 h.kp)⟩ rfl ha17 rfl hlt17) ?_
   refine s_take hM15 rfl (gn rfl) rfl rfl (fun w h => r_fieldAddr Ask.fld_who rfl) ?_
   refine s_take hM15 rfl (gn rfl) rfl rfl (fun w h => r_fieldAddr Cipher.fld_E rfl) ?_
   refine s_take hM15 rfl (gn rfl) rfl rfl (fun w h => r_loadA Tryz.isAgg24 Tryz.sizeOf24 (Pt.size _) rfl (Holds.sub (Holds.sub ((hS.asks.keep0 h.kp).ix hx17 ha17) (Ask.sub_who _)) (Cipher.sub_E _))) ?_
   refine s_take hM15 rfl (gn rfl) rfl rfl (fun w h => r_loadA Tryz.isAgg24 Tryz.sizeOf24 (Pt.size _) rfl (h.base (i := 0) rfl)) ?_
   refine s_take hM15 rfl (gn rfl) rfl rfl (fun w h => r_eqPt Tryz.eqGuardType24 Tryz.underlying24 rfl rfl) ?_
   refine s_nil ?_
   refine ways (decide (x17.who.E = e)) (fun h18 => ?_) (fun h18 => ?_)
   ·skip
    have hp19 : x17.who.E = e := of_decide_eq_true h18
    refine c_condT rfl h18 ?_
    refine c_sr ?_
    refine l_v rfl (r_move rfl) ?_
    refine l_v rfl (r_assign rfl) ?_
    refine l_nil ?_
    refine c_ret ?_
    refine ret1 rfl rfl ?_
    exact ⟨by rw [idxOf_at (p := askIs e) hx17 (by assumption) hno], hM15.kp⟩
   ·skip
    have hp20 : ¬ (x17.who.E = e) := of_decide_eq_false h18
    refine c_condF rfl h18 ?_
    refine c_skip ?_
    refine c_reg ?_
    refine l_v rfl (r_move rfl) ?_
    refine l_v rfl (r_add (r := ((k + 1 : Nat) : Int)) rfl rfl (nadd (i := k) (k := 1) (m := k + 1) (by omega) (by omega))) ?_
    refine l_v rfl (r_assign rfl) ?_
    refine l_nil ?_
    intro a_ ha_
    refine ⟨k + 1, ⟨hM15, ?_⟩, by omega, ha_.sub ⟨rfl, rfl, rfl, rfl, rfl, trivial⟩⟩
    exact ⟨by omega, no_step hx17 (by assumption) hno⟩
  ·skip
   have hp21 : ¬ ((k : Nat) < S.asks.length) := of_decide_eq_false h13
   refine c_condF rfl h13 ?_
   refine c_exit rfl ?_
   refine c_sr ?_
   refine l_v rfl (r_assign rfl) ?_
   refine l_nil ?_
   refine c_ret ?_
   refine ret1 rfl rfl ?_
   exact ⟨by rw [idxOf_no (p := askIs e) (fun j y hj => hno j y (by omega))], hM12.kp⟩
theorem f43 {A : Nat → Prop} {w : World} {S : State} {q : Six} (hS : StV A w q S) (e : Pt) :
    Ret 43 #[.agg (S.rep q).cells, .agg e.cells] w (fun v w' => v = .int .i64 (idxOf (banIs e) S.bans) ∧ Keeps [] w w') := by
  have hn : S.bans.length ≤ 140737488355328 := hS.bans.bd
  have hM0 := Mem.start w
  refine enter Tryz.func43 rfl rfl ?_
  refine c_sr ?_
  refine l_box hM0 rfl rfl ?_
  intro b1 w2 hM3 hK4 hB5
  replace hM3 : Mem w [] [(b1, (SRep.cells ((SRep.mk S.ver S.key q.t S.acc q.p q.s q.i q.a q.b))), 37)] w2 := hM3
  refine l_box hM3 rfl rfl ?_
  intro b6 w7 hM8 hK9 hB10
  replace hM8 : Mem w [] [(b6, (Pt.cells e), 24), (b1, (SRep.cells ((SRep.mk S.ver S.key q.t S.acc q.p q.s q.i q.a q.b))), 37)] w7 := hM8
  refine l_v rfl (r_assign rfl) ?_
  refine l_nil ?_
  refine c_seq ?_
  refine c_sr ?_
  refine l_v rfl (r_assign rfl) ?_
  refine l_nil ?_
  refine c_block ?_
  refine c_loop (ι := Nat) (fun k w_ => Mem w [] [(b6, (Pt.cells e), 24), (b1, (SRep.cells ((SRep.mk S.ver S.key q.t S.acc q.p q.s q.i q.a q.b))), 37)] w_ ∧ (k ≤ S.bans.length ∧ ∀ j x, j < k → S.bans[j]? = some x → banIs e x = false)) (fun k => [(0, Value.agg (SRep.cells ((SRep.mk S.ver S.key q.t S.acc q.p q.s q.i q.a q.b)))), (1, Value.agg (Pt.cells e)), (2, Value.pointer (some ⟨b1, 0, none⟩)), (3, Value.pointer (some ⟨b6, 0, none⟩)), (5, Value.int .i64 ((k : Nat) : Int))]) (fun k => S.bans.length - k) 0 ⟨hM8, Nat.zero_le _, fun _ _ h => absurd h (Nat.not_lt_zero _)⟩ ⟨rfl, rfl, rfl, rfl, rfl, trivial⟩ ?_
  rintro k w11 ⟨hM12, hk, hno⟩
  refine c_seq ?_
  refine c_sr ?_
  refine l_v rfl (r_move rfl) ?_
  refine l_v rfl (r_fieldAddr SRep.fld_bans rfl) ?_
  refine l_v rfl (r_load1 (v := Sl.val q.b) Tryz.isAgg35 rfl (Holds.sub (hM12.base (i := 1) rfl) (SRep.sub_bans _))) ?_
  refine l_v rfl (r_lenR Tryz.underlying35 rfl (hS.bans.keep0 hM12.kp).len) ?_
  refine l_v rfl (r_lss (b := decide ((k : Nat) < S.bans.length)) rfl rfl (nlt k S.bans.length)) ?_
  refine l_nil ?_
  refine ways (decide ((k : Nat) < S.bans.length)) (fun h13 => ?_) (fun h13 => ?_)
  ·skip
   have hp14 : (k : Nat) < S.bans.length := of_decide_eq_true h13
   refine c_condT rfl h13 ?_
   refine c_skip ?_
   refine c_seq ?_
   refine c_block ?_
   refine c_seq ?_
   refine c_regD (Mem w [] [(b6, (Pt.cells e), 24), (b1, (SRep.cells ((SRep.mk S.ver S.key q.t S.acc q.p q.s q.i q.a q.b))), 37)]) [] [(0, true), (1, true), (2, true), (3, true), (4, true), (5, true), (6, true), (7, true), (8, true)] (by kernel_rfl) ?_
   have hM15 := hM12.drew
   refine s_take hM15 rfl (gn rfl) rfl rfl (fun w h => r_fieldAddr SRep.fld_bans rfl) ?_
   refine s_take hM15 rfl (gn rfl) rfl rfl (fun w h => r_load1 (v := Sl.val q.b) Tryz.isAgg35 rfl (Holds.sub (h.base (i := 1) rfl) (SRep.sub_bans _))) ?_
   refine s_take hM15 rfl (gn rfl) rfl rfl (fun w h => r_move rfl) ?_
   have hlt17 : k < S.bans.length := by first | assumption | omega
   obtain ⟨x17, hx17⟩ : ∃ x, S.bans[k]? = some x := ⟨_, List.getElem?_eq_getElem hlt17⟩
   obtain ⟨p17, o17, ha17, hA17, -⟩ := (hS.bans.keep0 hM15.kp).at_ _ _ hx17
   refine s_take hM15 rfl (gn rfl) rfl rfl (fun w h => r_indexR Tryz.underlying35 Tryz.sizeOf86 ⟨_, (hS.bans.keep0 h.kp)⟩ rfl ha17 rfl hlt17) ?_
   refine s_take hM15 rfl (gn rfl) rfl rfl (fun w h => r_fieldAddr Ban.fld_who rfl) ?_
   refine s_take hM15 rfl (gn rfl) rfl rfl (fun w h => r_fieldAddr Cipher.fld_E rfl) ?_
   refine s_take hM15 rfl (gn rfl) rfl rfl (fun w h => r_loadA Tryz.isAgg24 Tryz.sizeOf24 (Pt.size _) rfl (Holds.sub (Holds.sub ((hS.bans.keep0 h.kp).ix hx17 ha17) (Ban.sub_who _)) (Cipher.sub_E _))) ?_
   refine s_take hM15 rfl (gn rfl) rfl rfl (fun w h => r_loadA Tryz.isAgg24 Tryz.sizeOf24 (Pt.size _) rfl (h.base (i := 0) rfl)) ?_
   refine s_take hM15 rfl (gn rfl) rfl rfl (fun w h => r_eqPt Tryz.eqGuardType24 Tryz.underlying24 rfl rfl) ?_
   refine s_nil ?_
   refine ways (decide (x17.who.E = e)) (fun h18 => ?_) (fun h18 => ?_)
   ·skip
    have hp19 : x17.who.E = e := of_decide_eq_true h18
    refine c_condT rfl h18 ?_
    refine c_sr ?_
    refine l_v rfl (r_move rfl) ?_
    refine l_v rfl (r_assign rfl) ?_
    refine l_nil ?_
    refine c_ret ?_
    refine ret1 rfl rfl ?_
    exact ⟨by rw [idxOf_at (p := banIs e) hx17 (by assumption) hno], hM15.kp⟩
   ·skip
    have hp20 : ¬ (x17.who.E = e) := of_decide_eq_false h18
    refine c_condF rfl h18 ?_
    refine c_skip ?_
    refine c_reg ?_
    refine l_v rfl (r_move rfl) ?_
    refine l_v rfl (r_add (r := ((k + 1 : Nat) : Int)) rfl rfl (nadd (i := k) (k := 1) (m := k + 1) (by omega) (by omega))) ?_
    refine l_v rfl (r_assign rfl) ?_
    refine l_nil ?_
    intro a_ ha_
    refine ⟨k + 1, ⟨hM15, ?_⟩, by omega, ha_.sub ⟨rfl, rfl, rfl, rfl, rfl, trivial⟩⟩
    exact ⟨by omega, no_step hx17 (by assumption) hno⟩
  ·skip
   have hp21 : ¬ ((k : Nat) < S.bans.length) := of_decide_eq_false h13
   refine c_condF rfl h13 ?_
   refine c_exit rfl ?_
   refine c_sr ?_
   refine l_v rfl (r_assign rfl) ?_
   refine l_nil ?_
   refine c_ret ?_
   refine ret1 rfl rfl ?_
   exact ⟨by rw [idxOf_no (p := banIs e) (fun j y hj => hno j y (by omega))], hM12.kp⟩
theorem f39 {w : World} (r : UInt8) : Ret 39 #[vU8 r] w (fun v w' => v = .bool (isRole r) ∧ Keeps [] w w') := by
  have hM0 := Mem.start w
  refine enter Tryz.func39 rfl rfl ?_
  refine c_sr ?_
  refine l_v rfl (r_assign rfl) ?_
  refine l_nil ?_
  refine c_sr ?_
  refine l_v rfl (r_move rfl) ?_
  refine l_v rfl (r_eql (b := decide ((r : UInt8) = 1)) rfl rfl (u8eq r 1)) ?_
  refine l_v rfl (r_move rfl) ?_
  refine ways (decide ((r : UInt8) = 1)) (fun h1 => ?_) (fun h1 => ?_)
  ·skip
   have hp2 : (r : UInt8) = 1 := of_decide_eq_true h1
   refine l_off (gno rfl rfl rfl rfl h1) rfl rfl ?_
   refine l_off (gno rfl rfl rfl rfl h1) rfl rfl ?_
   refine l_v rfl (r_pickT rfl h1 rfl) ?_
   refine l_v rfl (r_assign rfl) ?_
   refine l_nil ?_
   refine c_ret ?_
   refine ret1 rfl rfl ?_
   exact ⟨by simp [isRole, *], hM0.kp⟩
  ·skip
   have hp3 : ¬ ((r : UInt8) = 1) := of_decide_eq_false h1
   refine l_val (gy rfl rfl rfl rfl h1) rfl rfl (r_move rfl) ?_
   refine l_val (gy rfl rfl rfl rfl h1) rfl rfl (r_eql (b := decide ((r : UInt8) = 2)) rfl rfl (u8eq r 2)) ?_
   refine l_v rfl (r_pickF rfl h1 rfl) ?_
   refine l_v rfl (r_assign rfl) ?_
   refine l_nil ?_
   refine c_ret ?_
   refine ret1 rfl rfl ?_
   exact ⟨by simp [isRole, *], hM0.kp⟩
theorem f55 {w : World} (r : UInt8) : Ret 55 #[vU8 r] w (fun v w' => v = .bool (isRole r) ∧ Keeps [] w w') := by
  have hM0 := Mem.start w
  refine enter Tryz.func55 rfl rfl ?_
  refine c_sr ?_
  refine l_v rfl (r_assign rfl) ?_
  refine l_nil ?_
  refine c_sr ?_
  refine l_v rfl (r_move rfl) ?_
  refine l_v rfl (r_eql (b := decide ((r : UInt8) = 1)) rfl rfl (u8eq r 1)) ?_
  refine l_v rfl (r_move rfl) ?_
  refine ways (decide ((r : UInt8) = 1)) (fun h1 => ?_) (fun h1 => ?_)
  ·skip
   have hp2 : (r : UInt8) = 1 := of_decide_eq_true h1
   refine l_off (gno rfl rfl rfl rfl h1) rfl rfl ?_
   refine l_off (gno rfl rfl rfl rfl h1) rfl rfl ?_
   refine l_v rfl (r_pickT rfl h1 rfl) ?_
   refine l_v rfl (r_assign rfl) ?_
   refine l_nil ?_
   refine c_ret ?_
   refine ret1 rfl rfl ?_
   exact ⟨by simp [isRole, *], hM0.kp⟩
  ·skip
   have hp3 : ¬ ((r : UInt8) = 1) := of_decide_eq_false h1
   refine l_val (gy rfl rfl rfl rfl h1) rfl rfl (r_move rfl) ?_
   refine l_val (gy rfl rfl rfl rfl h1) rfl rfl (r_eql (b := decide ((r : UInt8) = 2)) rfl rfl (u8eq r 2)) ?_
   refine l_v rfl (r_pickF rfl h1 rfl) ?_
   refine l_v rfl (r_assign rfl) ?_
   refine l_nil ?_
   refine c_ret ?_
   refine ret1 rfl rfl ?_
   exact ⟨by simp [isRole, *], hM0.kp⟩
theorem f37 {w : World} (x : Access) : Ret 37 #[.agg x.cells] w (fun v w' => v = .bool (okAccess x) ∧ Keeps [] w w') := by
  have hM0 := Mem.start w
  refine enter Tryz.func37 rfl rfl ?_
  refine c_sr ?_
  refine l_box hM0 rfl rfl ?_
  intro b1 w2 hM3 hK4 hB5
  replace hM3 : Mem w [] [(b1, (Access.cells x), 31)] w2 := hM3
  refine l_v rfl (r_assign rfl) ?_
  refine l_nil ?_
  refine c_sr ?_
  refine l_v rfl (r_fieldAddr Access.fld_title rfl) ?_
  refine l_v rfl (r_load1 (v := vU8 x.title) Tryz.isAgg28 rfl (Holds.sub (hM3.base (i := 0) rfl) (Access.sub_title _))) ?_
  refine l_call (gn rfl) rfl rfl (r_call Tryz.call39 rfl) (f39 x.title) ?_
  rintro v6 w7 ⟨rfl, hK8⟩
  have hM9 := hM3.keep hK8
  refine l_v rfl (r_move rfl) ?_
  refine ways (isRole x.title) (fun h10 => ?_) (fun h10 => ?_)
  ·skip
   refine l_val (gy rfl rfl rfl rfl h10) rfl rfl (r_fieldAddr Access.fld_members rfl) ?_
   refine l_val (gy rfl rfl rfl rfl h10) rfl rfl (r_load1 (v := vU8 x.members) Tryz.isAgg28 rfl (Holds.sub (hM9.base (i := 0) rfl) (Access.sub_members _))) ?_
   refine l_call (gy rfl rfl rfl rfl h10) rfl rfl (r_call Tryz.call39 rfl) (f39 x.members) ?_
   rintro v11 w12 ⟨rfl, hK13⟩
   have hM14 := hM9.keep hK13
   refine l_v rfl (r_pickT rfl h10 rfl) ?_
   refine l_v rfl (r_move rfl) ?_
   refine ways (isRole x.members) (fun h15 => ?_) (fun h15 => ?_)
   ·skip
    refine l_val (gy rfl rfl rfl rfl h15) rfl rfl (r_fieldAddr Access.fld_link rfl) ?_
    refine l_val (gy rfl rfl rfl rfl h15) rfl rfl (r_load1 (v := vU8 x.link) Tryz.isAgg29 rfl (Holds.sub (hM14.base (i := 0) rfl) (Access.sub_link _))) ?_
    refine l_val (gy rfl rfl rfl rfl h15) rfl rfl (r_leq (b := decide ((x.link : UInt8) ≤ 2)) rfl rfl (u8le x.link 2)) ?_
    refine l_v rfl (r_pickT rfl h15 rfl) ?_
    refine l_v rfl (r_assign rfl) ?_
    refine l_nil ?_
    refine c_ret ?_
    refine ret1 rfl rfl ?_
    exact ⟨by simp [okAccess, *], hM14.kp⟩
   ·skip
    refine l_off (gno rfl rfl rfl rfl h15) rfl rfl ?_
    refine l_off (gno rfl rfl rfl rfl h15) rfl rfl ?_
    refine l_off (gno rfl rfl rfl rfl h15) rfl rfl ?_
    refine l_v rfl (r_pickF rfl h15 rfl) ?_
    refine l_v rfl (r_assign rfl) ?_
    refine l_nil ?_
    refine c_ret ?_
    refine ret1 rfl rfl ?_
    exact ⟨by simp [okAccess, *], hM14.kp⟩
  ·skip
   refine l_off (gno rfl rfl rfl rfl h10) rfl rfl ?_
   refine l_off (gno rfl rfl rfl rfl h10) rfl rfl ?_
   refine l_off (gno rfl rfl rfl rfl h10) rfl rfl ?_
   refine l_v rfl (r_pickF rfl h10 rfl) ?_
   refine l_v rfl (r_move rfl) ?_
   refine l_off (gno rfl rfl rfl rfl rfl) rfl rfl ?_
   refine l_off (gno rfl rfl rfl rfl rfl) rfl rfl ?_
   refine l_off (gno rfl rfl rfl rfl rfl) rfl rfl ?_
   refine l_v rfl (r_pickF rfl rfl rfl) ?_
   refine l_v rfl (r_assign rfl) ?_
   refine l_nil ?_
   refine c_ret ?_
   refine ret1 rfl rfl ?_
   exact ⟨by simp [okAccess, *], hM9.kp⟩
theorem f44 {w : World} (x : Access) : Ret 44 #[.agg x.cells] w (fun v w' => v = .bool (okAccess x) ∧ Keeps [] w w') := by
  have hM0 := Mem.start w
  refine enter Tryz.func44 rfl rfl ?_
  refine c_sr ?_
  refine l_box hM0 rfl rfl ?_
  intro b1 w2 hM3 hK4 hB5
  replace hM3 : Mem w [] [(b1, (Access.cells x), 31)] w2 := hM3
  refine l_v rfl (r_assign rfl) ?_
  refine l_nil ?_
  refine c_sr ?_
  refine l_v rfl (r_fieldAddr Access.fld_title rfl) ?_
  refine l_v rfl (r_load1 (v := vU8 x.title) Tryz.isAgg28 rfl (Holds.sub (hM3.base (i := 0) rfl) (Access.sub_title _))) ?_
  refine l_call (gn rfl) rfl rfl (r_call Tryz.call55 rfl) (f55 x.title) ?_
  rintro v6 w7 ⟨rfl, hK8⟩
  have hM9 := hM3.keep hK8
  refine l_v rfl (r_move rfl) ?_
  refine ways (isRole x.title) (fun h10 => ?_) (fun h10 => ?_)
  ·skip
   refine l_val (gy rfl rfl rfl rfl h10) rfl rfl (r_fieldAddr Access.fld_members rfl) ?_
   refine l_val (gy rfl rfl rfl rfl h10) rfl rfl (r_load1 (v := vU8 x.members) Tryz.isAgg28 rfl (Holds.sub (hM9.base (i := 0) rfl) (Access.sub_members _))) ?_
   refine l_call (gy rfl rfl rfl rfl h10) rfl rfl (r_call Tryz.call55 rfl) (f55 x.members) ?_
   rintro v11 w12 ⟨rfl, hK13⟩
   have hM14 := hM9.keep hK13
   refine l_v rfl (r_pickT rfl h10 rfl) ?_
   refine l_v rfl (r_move rfl) ?_
   refine ways (isRole x.members) (fun h15 => ?_) (fun h15 => ?_)
   ·skip
    refine l_val (gy rfl rfl rfl rfl h15) rfl rfl (r_fieldAddr Access.fld_link rfl) ?_
    refine l_val (gy rfl rfl rfl rfl h15) rfl rfl (r_load1 (v := vU8 x.link) Tryz.isAgg29 rfl (Holds.sub (hM14.base (i := 0) rfl) (Access.sub_link _))) ?_
    refine l_val (gy rfl rfl rfl rfl h15) rfl rfl (r_leq (b := decide ((x.link : UInt8) ≤ 2)) rfl rfl (u8le x.link 2)) ?_
    refine l_v rfl (r_pickT rfl h15 rfl) ?_
    refine l_v rfl (r_assign rfl) ?_
    refine l_nil ?_
    refine c_ret ?_
    refine ret1 rfl rfl ?_
    exact ⟨by simp [okAccess, *], hM14.kp⟩
   ·skip
    refine l_off (gno rfl rfl rfl rfl h15) rfl rfl ?_
    refine l_off (gno rfl rfl rfl rfl h15) rfl rfl ?_
    refine l_off (gno rfl rfl rfl rfl h15) rfl rfl ?_
    refine l_v rfl (r_pickF rfl h15 rfl) ?_
    refine l_v rfl (r_assign rfl) ?_
    refine l_nil ?_
    refine c_ret ?_
    refine ret1 rfl rfl ?_
    exact ⟨by simp [okAccess, *], hM14.kp⟩
  ·skip
   refine l_off (gno rfl rfl rfl rfl h10) rfl rfl ?_
   refine l_off (gno rfl rfl rfl rfl h10) rfl rfl ?_
   refine l_off (gno rfl rfl rfl rfl h10) rfl rfl ?_
   refine l_v rfl (r_pickF rfl h10 rfl) ?_
   refine l_v rfl (r_move rfl) ?_
   refine l_off (gno rfl rfl rfl rfl rfl) rfl rfl ?_
   refine l_off (gno rfl rfl rfl rfl rfl) rfl rfl ?_
   refine l_off (gno rfl rfl rfl rfl rfl) rfl rfl ?_
   refine l_v rfl (r_pickF rfl rfl rfl) ?_
   refine l_v rfl (r_assign rfl) ?_
   refine l_nil ?_
   refine c_ret ?_
   refine ret1 rfl rfl ?_
   exact ⟨by simp [okAccess, *], hM9.kp⟩
theorem f17 {A : Nat → Prop} {w : World} {S : State} {q : Six} (hS : StV A w q S) (e : Pt) :
    Ret 17 #[.agg (S.rep q).cells, .agg e.cells] w (fun v w' => v = vU8 (roleOf S.seats e) ∧ Keeps [] w w') := by
  have hn : S.seats.length ≤ 140737488355328 := hS.seats.bd
  have hM0 := Mem.start w
  refine enter Tryz.func17 rfl rfl ?_
  refine c_sr ?_
  refine l_box hM0 rfl rfl ?_
  intro b1 w2 hM3 hK4 hB5
  replace hM3 : Mem w [] [(b1, (SRep.cells ((SRep.mk S.ver S.key q.t S.acc q.p q.s q.i q.a q.b))), 37)] w2 := hM3
  refine l_box hM3 rfl rfl ?_
  intro b6 w7 hM8 hK9 hB10
  replace hM8 : Mem w [] [(b6, (Pt.cells e), 24), (b1, (SRep.cells ((SRep.mk S.ver S.key q.t S.acc q.p q.s q.i q.a q.b))), 37)] w7 := hM8
  refine l_v rfl (r_assign rfl) ?_
  refine l_nil ?_
  refine c_seq ?_
  refine c_sr ?_
  refine l_v rfl (r_fieldAddr SRep.fld_seats rfl) ?_
  refine l_v rfl (r_load1 (v := Sl.val q.s) Tryz.isAgg32 rfl (Holds.sub (hM8.base (i := 1) rfl) (SRep.sub_seats _))) ?_
  refine l_v rfl (r_lenR Tryz.underlying32 rfl (hS.seats.keep0 hM8.kp).len) ?_
  refine l_v rfl (r_move rfl) ?_
  refine l_nil ?_
  refine c_block ?_
  refine c_loop (ι := Nat) (fun k w_ => Mem w [] [(b6, (Pt.cells e), 24), (b1, (SRep.cells ((SRep.mk S.ver S.key q.t S.acc q.p q.s q.i q.a q.b))), 37)] w_ ∧ (k ≤ S.seats.length ∧ ∀ j x, j < k → S.seats[j]? = some x → seatIs e x = false)) (fun k => [(0, Value.agg (SRep.cells ((SRep.mk S.ver S.key q.t S.acc q.p q.s q.i q.a q.b)))), (1, Value.agg (Pt.cells e)), (2, Value.pointer (some ⟨b1, 0, none⟩)), (3, Value.pointer (some ⟨b6, 0, none⟩)), (8, Sl.val q.s), (9, Value.int .i64 ((S.seats.length : Nat) : Int)), (10, Value.int .i64 ((k : Nat) : Int))]) (fun k => S.seats.length - k) 0 ⟨hM8, Nat.zero_le _, fun _ _ h => absurd h (Nat.not_lt_zero _)⟩ ⟨rfl, rfl, rfl, rfl, rfl, rfl, rfl, trivial⟩ ?_
  rintro k w11 ⟨hM12, hk, hno⟩
  refine c_sr ?_
  refine l_v rfl (r_lss (b := decide ((k : Nat) < S.seats.length)) rfl rfl (nlt k S.seats.length)) ?_
  refine l_nil ?_
  refine c_seq ?_
  refine ways (decide ((k : Nat) < S.seats.length)) (fun h13 => ?_) (fun h13 => ?_)
  ·skip
   have hp14 : (k : Nat) < S.seats.length := of_decide_eq_true h13
   refine c_condT rfl h13 ?_
   refine c_skip ?_
   refine c_seq ?_
   refine c_block ?_
   refine c_sr ?_
   have hlt15 : k < S.seats.length := by first | assumption | omega
   obtain ⟨x15, hx15⟩ : ∃ x, S.seats[k]? = some x := ⟨_, List.getElem?_eq_getElem hlt15⟩
   obtain ⟨p15, o15, ha15, hA15, -⟩ := (hS.seats.keep0 hM12.kp).at_ _ _ hx15
   refine l_v rfl (r_indexR Tryz.underlying32 Tryz.sizeOf73 ⟨_, (hS.seats.keep0 hM12.kp)⟩ rfl ha15 rfl hlt15) ?_
   refine l_v rfl (r_loadA Tryz.isAgg73 Tryz.sizeOf73 (Seat.size _) rfl ((hS.seats.keep0 hM12.kp).ix hx15 ha15)) ?_
   refine l_alloc hM12 rfl Seat.zv ?_
   intro b16 w17 hM18 hK19 hB20
   replace hM18 : Mem w [] [(b16, (Seat.cells Seat.zero), 73), (b6, (Pt.cells e), 24), (b1, (SRep.cells ((SRep.mk S.ver S.key q.t S.acc q.p q.s q.i q.a q.b))), 37)] w17 := hM18
   refine l_store hM18 (i := 0) rfl Tryz.sizeOf73 rfl rfl (Seat.size _) (by rw [Seat.size]; decide) (Seat.one _) (put_whole _ _ ((Seat.size _).trans (Seat.size _).symm)) ?_
   intro w21 hM22 hK23
   replace hM22 : Mem w [] [(b16, (Seat.cells x15), 73), (b6, (Pt.cells e), 24), (b1, (SRep.cells ((SRep.mk S.ver S.key q.t S.acc q.p q.s q.i q.a q.b))), 37)] w21 := hM22
   refine l_nil ?_
   refine c_sr ?_
   refine l_v rfl (r_fieldAddr Seat.fld_who rfl) ?_
   refine l_v rfl (r_fieldAddr Cipher.fld_E rfl) ?_
   refine l_v rfl (r_loadA Tryz.isAgg24 Tryz.sizeOf24 (Pt.size _) rfl (Holds.sub (Holds.sub (hM22.base (i := 0) rfl) (Seat.sub_who _)) (Cipher.sub_E _))) ?_
   refine l_v rfl (r_loadA Tryz.isAgg24 Tryz.sizeOf24 (Pt.size _) rfl (hM22.base (i := 1) rfl)) ?_
   refine l_v rfl (r_eqPt Tryz.eqGuardType24 Tryz.underlying24 rfl rfl) ?_
   refine l_nil ?_
   refine ways (decide (x15.who.E = e)) (fun h24 => ?_) (fun h24 => ?_)
   ·skip
    have hp25 : x15.who.E = e := of_decide_eq_true h24
    refine c_condT rfl h24 ?_
    refine c_sr ?_
    refine l_v rfl (r_fieldAddr Seat.fld_role rfl) ?_
    refine l_v rfl (r_load1 (v := vU8 x15.role) Tryz.isAgg28 rfl (Holds.sub (hM22.base (i := 0) rfl) (Seat.sub_role _))) ?_
    refine l_v rfl (r_assign rfl) ?_
    refine l_nil ?_
    refine c_ret ?_
    refine ret1 rfl rfl ?_
    exact ⟨by rw [roleOf, find_at (p := seatIs e) hx15 (by assumption) hno], hM22.kp⟩
   ·skip
    have hp26 : ¬ (x15.who.E = e) := of_decide_eq_false h24
    refine c_condF rfl h24 ?_
    refine c_skip ?_
    refine c_reg ?_
    refine l_v rfl (r_add (r := ((k + 1 : Nat) : Int)) rfl rfl (nadd (i := k) (k := 1) (m := k + 1) (by omega) (by omega))) ?_
    refine l_v rfl (r_move rfl) ?_
    refine l_nil ?_
    intro a_ ha_
    refine ⟨k + 1, ⟨(hM22.forget (.cons _ (.refl _))), ?_⟩, by omega, ha_.sub ⟨rfl, rfl, rfl, rfl, rfl, rfl, rfl, trivial⟩⟩
    exact ⟨by omega, no_step hx15 (by assumption) hno⟩
  ·skip
   have hp27 : ¬ ((k : Nat) < S.seats.length) := of_decide_eq_false h13
   refine c_condF rfl h13 ?_
   refine c_exit rfl ?_
   refine c_sr ?_
   refine l_v rfl (r_assign rfl) ?_
   refine l_nil ?_
   refine c_ret ?_
   refine ret1 rfl rfl ?_
   exact ⟨by rw [roleOf, find_no (p := seatIs e) (fun j y hj => hno j y (by omega))]; rfl, hM12.kp⟩
theorem f40 {A : Nat → Prop} {w : World} {S : State} {q : Six} (hS : StV A w q S) :
    Ret 40 #[.agg (S.rep q).cells] w (fun v w' => v = .int .i64 ((admins S.seats : Nat) : Int) ∧ Keeps [] w w') := by
  have hn : S.seats.length ≤ 140737488355328 := hS.seats.bd
  have hM0 := Mem.start w
  refine enter Tryz.func40 rfl rfl ?_
  refine c_sr ?_
  refine l_box hM0 rfl rfl ?_
  intro b1 w2 hM3 hK4 hB5
  replace hM3 : Mem w [] [(b1, (SRep.cells ((SRep.mk S.ver S.key q.t S.acc q.p q.s q.i q.a q.b))), 37)] w2 := hM3
  refine l_v rfl (r_assign rfl) ?_
  refine l_nil ?_
  refine c_sr ?_
  refine l_v rfl (r_assign rfl) ?_
  refine l_nil ?_
  refine c_seq ?_
  refine c_sr ?_
  refine l_v rfl (r_assign rfl) ?_
  refine l_nil ?_
  refine c_block ?_
  refine c_loop (ι := Nat) (fun k w_ => Mem w [] [(b1, (SRep.cells ((SRep.mk S.ver S.key q.t S.acc q.p q.s q.i q.a q.b))), 37)] w_ ∧ (k ≤ S.seats.length ∧ admins (S.seats.take k) ≤ k)) (fun k => [(0, Value.agg (SRep.cells ((SRep.mk S.ver S.key q.t S.acc q.p q.s q.i q.a q.b)))), (1, Value.pointer (some ⟨b1, 0, none⟩)), (2, Value.int .i64 ((0 : Nat) : Int)), (4, Value.int .i64 ((k : Nat) : Int)), (3, Value.int .i64 ((admins (S.seats.take k) : Nat) : Int))]) (fun k => S.seats.length - k) 0 ⟨hM3, Nat.zero_le _, by simp [admins]⟩ ⟨rfl, rfl, rfl, rfl, rfl, trivial⟩ ?_
  rintro k w6 ⟨hM7, hk, hc⟩
  refine c_seq ?_
  refine c_sr ?_
  refine l_v rfl (r_move rfl) ?_
  refine l_v rfl (r_fieldAddr SRep.fld_seats rfl) ?_
  refine l_v rfl (r_load1 (v := Sl.val q.s) Tryz.isAgg32 rfl (Holds.sub (hM7.base (i := 0) rfl) (SRep.sub_seats _))) ?_
  refine l_v rfl (r_lenR Tryz.underlying32 rfl (hS.seats.keep0 hM7.kp).len) ?_
  refine l_v rfl (r_lss (b := decide ((k : Nat) < S.seats.length)) rfl rfl (nlt k S.seats.length)) ?_
  refine l_nil ?_
  refine ways (decide ((k : Nat) < S.seats.length)) (fun h8 => ?_) (fun h8 => ?_)
  ·skip
   have hp9 : (k : Nat) < S.seats.length := of_decide_eq_true h8
   refine c_condT rfl h8 ?_
   refine c_skip ?_
   refine c_seq ?_
   refine c_block ?_
   refine c_sr ?_
   refine l_v rfl (r_fieldAddr SRep.fld_seats rfl) ?_
   refine l_v rfl (r_load1 (v := Sl.val q.s) Tryz.isAgg32 rfl (Holds.sub (hM7.base (i := 0) rfl) (SRep.sub_seats _))) ?_
   refine l_v rfl (r_move rfl) ?_
   have hlt10 : k < S.seats.length := by first | assumption | omega
   obtain ⟨x10, hx10⟩ : ∃ x, S.seats[k]? = some x := ⟨_, List.getElem?_eq_getElem hlt10⟩
   obtain ⟨p10, o10, ha10, hA10, -⟩ := (hS.seats.keep0 hM7.kp).at_ _ _ hx10
   refine l_v rfl (r_indexR Tryz.underlying32 Tryz.sizeOf73 ⟨_, (hS.seats.keep0 hM7.kp)⟩ rfl ha10 rfl hlt10) ?_
   refine l_v rfl (r_fieldAddr Seat.fld_role rfl) ?_
   refine l_v rfl (r_load1 (v := vU8 x10.role) Tryz.isAgg28 rfl (Holds.sub ((hS.seats.keep0 hM7.kp).ix hx10 ha10) (Seat.sub_role _))) ?_
   refine l_v rfl (r_eql (b := decide ((x10.role : UInt8) = 2)) rfl rfl (u8eq x10.role 2)) ?_
   refine l_nil ?_
   refine ways (decide ((x10.role : UInt8) = 2)) (fun h11 => ?_) (fun h11 => ?_)
   ·skip
    have hp12 : (x10.role : UInt8) = 2 := of_decide_eq_true h11
    refine c_condT rfl h11 ?_
    refine c_reg ?_
    refine l_v rfl (r_move rfl) ?_
    refine l_v rfl (r_add (r := (((admins (S.seats.take k)) + 1 : Nat) : Int)) rfl rfl (nadd (i := admins (S.seats.take k)) (k := 1) (m := (admins (S.seats.take k)) + 1) (by omega) (by omega))) ?_
    refine l_v rfl (r_assign rfl) ?_
    refine l_nil ?_
    refine c_reg ?_
    refine l_v rfl (r_move rfl) ?_
    refine l_v rfl (r_add (r := ((k + 1 : Nat) : Int)) rfl rfl (nadd (i := k) (k := 1) (m := k + 1) (by omega) (by omega))) ?_
    refine l_v rfl (r_assign rfl) ?_
    refine l_nil ?_
    intro a_ ha_
    refine ⟨k + 1, ⟨hM7, ?_⟩, by omega, ha_.sub ⟨rfl, rfl, rfl, rfl, (show some (Value.int .i64 (((admins (S.seats.take k)) + 1 : Nat) : Int)) = some (Value.int .i64 ((admins (S.seats.take (k + 1)) : Nat) : Int)) from by rw [admins_step hx10]; simp [isAdmin, *]), trivial⟩⟩
    exact ⟨by omega, by rw [admins_step hx10]; split <;> omega⟩
   ·skip
    have hp13 : ¬ ((x10.role : UInt8) = 2) := of_decide_eq_false h11
    refine c_condF rfl h11 ?_
    refine c_skip ?_
    refine c_reg ?_
    refine l_v rfl (r_move rfl) ?_
    refine l_v rfl (r_add (r := ((k + 1 : Nat) : Int)) rfl rfl (nadd (i := k) (k := 1) (m := k + 1) (by omega) (by omega))) ?_
    refine l_v rfl (r_assign rfl) ?_
    refine l_nil ?_
    intro a_ ha_
    refine ⟨k + 1, ⟨hM7, ?_⟩, by omega, ha_.sub ⟨rfl, rfl, rfl, rfl, (show some (Value.int .i64 ((admins (S.seats.take k) : Nat) : Int)) = some (Value.int .i64 ((admins (S.seats.take (k + 1)) : Nat) : Int)) from by rw [admins_step hx10]; simp [isAdmin, *]), trivial⟩⟩
    exact ⟨by omega, by rw [admins_step hx10]; split <;> omega⟩
  ·skip
   have hp14 : ¬ ((k : Nat) < S.seats.length) := of_decide_eq_false h8
   refine c_condF rfl h8 ?_
   refine c_exit rfl ?_
   refine c_sr ?_
   refine l_v rfl (r_move rfl) ?_
   refine l_v rfl (r_assign rfl) ?_
   refine l_nil ?_
   refine c_ret ?_
   refine ret1 rfl rfl ?_
   exact ⟨by rw [List.take_of_length_le (by omega)], hM7.kp⟩
end Go.Proofs.YtekhaogjmmmniaaGreat
