/- Part 4 of the proof of RolesPlaysSaid: what the functions reached compute, in plain words and by walks through their code. No statement of the rows is proved here. -/
import Derived.Lib.AppendZerosOnto
import Derived.Lib.Overlaps
import Derived.Laws.Externs
import Derived.Test.YtekhaogjmmmniaaGreatPackPlaysC
namespace Go.Proofs.YtekhaogjmmmniaaGreat
open Go Go.RowKit

section own
variable {α : Type} {sz bs base : Nat} {enc : α → Array Value} {l : List α} {e T : TypeId} {w : World} {s : Sl}

/-- A slice of one's own, opened: its block is known. -/
structure Op (base : Nat) (e : TypeId) (w : World) (g cap : Nat) (cur : Array Value) (sz n : Nat) : Prop where
  lo : base ≤ g
  blk : Blk w g cur e
  nc : n ≤ cap
  ml : cap ≤ maxLen
  cs : cur.size = cap * sz

theorem Own.open (h : Own base e w s sz enc l) (hl : 0 < l.length) : ∃ g cap cur, s = ⟨some ⟨g, 0, none⟩, l.length, cap⟩ ∧ Op base e w g cap cur sz l.length ∧ cur.toList.take (l.length * sz) = flat enc l := by
  rcases h.own.2 with ⟨_, h2⟩ | ⟨g, cap, cur, h1, hb, hg, hnc, hml, hcs, htake⟩
  · omega
  · simp only [Sl.val, Value.slice.injEq] at h1
    refine ⟨g, cap, cur, ?_, ⟨hb, hg, hnc, hml, hcs⟩, htake⟩
    cases s; simp only at h1; rw [h1.1, h1.2.1, h1.2.2]

theorem Own.shut {g cap n : Nat} {cur : Array Value} (hE : EncT sz enc) (h : Op base e w g cap cur sz n) (hn : n = l.length) (ht : cur.toList.take (l.length * sz) = flat enc l) (hb : l.length ≤ 140737488355328) : Own base e w ⟨some ⟨g, 0, none⟩, n, cap⟩ sz enc l := by
  subst hn
  exact ⟨⟨flat_length hE, .inr ⟨g, cap, cur, rfl, h.lo, h.blk, h.nc, h.ml, h.cs, ht⟩⟩, hb⟩

theorem flat_take (hE : EncT sz enc) (i : Nat) : (flat enc l).take (i * sz) = flat enc (l.take i) := by
  by_cases h : i ≤ l.length
  · conv => lhs; rw [← List.take_append_drop i l, flat_append]
    rw [List.take_left' (by rw [flat_length hE, List.length_take, Nat.min_eq_left h])]
  · have h2 : l.length * sz ≤ i * sz := Nat.mul_le_mul_right _ (by omega)
    rw [List.take_of_length_le (by rw [flat_length hE]; exact h2), List.take_of_length_le (show l.length ≤ i by omega)]
theorem flat_drop (hE : EncT sz enc) (i : Nat) : (flat enc l).drop (i * sz) = flat enc (l.drop i) := by
  by_cases h : i ≤ l.length
  · conv => lhs; rw [← List.take_append_drop i l, flat_append]
    rw [List.drop_left' (by rw [flat_length hE, List.length_take, Nat.min_eq_left h])]
  · have h2 : l.length * sz ≤ i * sz := Nat.mul_le_mul_right _ (by omega)
    rw [List.drop_of_length_le (by rw [flat_length hE]; exact h2), List.drop_of_length_le (show l.length ≤ i by omega)]; rfl

/-- The cells of elements i .. of an opened slice lie where they should. -/
theorem Op.cells {g cap : Nat} {cur : Array Value} (hE : EncT sz enc) (h : Op base e w g cap cur sz l.length) (ht : cur.toList.take (l.length * sz) = flat enc l) (i : Nat) :
    ∀ j u, (flat enc (l.drop i))[j]? = some u → w.cell? ((⟨g, i * sz, none⟩ : Addr).add j) = some u := by
  intro j u hu
  rw [← flat_drop hE, List.getElem?_drop, ← ht] at hu
  rw [addr_off, cell_of_row w g _ cur e (0, 0) h.blk]
  rw [List.getElem?_take] at hu
  split at hu
  · simpa using hu
  · cases hu

/-- A copy into a block that is known. -/
theorem run_copyK (hT : ElT T e sz bs) {g off dl dc m k c : Nat} {cur : Array Value} (hg : Blk w g cur e) {a : Addr} {news : List Value} (hl : news.length = k * sz) (hnews : ∀ j u, news[j]? = some u → w.cell? (a.add j) = some u)
    (h1 : ∀ u ∈ news, u.oneCell' = true) (hk : Nat.min m dl = k) (hfit : off + news.length ≤ cur.size) (ty : TypeId) :
    (Builtin.copy_ #[T, T] ty #[.slice (some ⟨g, off, none⟩) dl dc, .slice (some a) m c]).run Tryz.prog w = .ok (.int .i64 (k : Int)) (w.setRow g (put cur off news.toArray)) := by
  obtain ⟨i, z, hi, hz, hs1, hs2, hs3⟩ := hT.get
  subst hs1
  have hf := run_firstCells_some (P := Tryz.prog) w i.size k a m c news hl hnews
  have hst := run_storeAt (w := w) (b := g) (off := off) (t := e) (cur := cur) (ds := news.toArray) hg (by simpa using hfit) (by simpa using h1)
  simp only at hst
  simp only [Builtin.copy_, sizeOf, typeInfo, Builtin.lenOf]
  simp [run_underlying hT.und, hi, hk, hf, hst, goInt]

/-- An append within the block that is known, of what lies anywhere. -/
theorem run_appendK (hT : ElT T e sz bs) {g n cap m c : Nat} {cur : Array Value} (hg : Blk w g cur e) {a : Addr} {news : List Value} (hl : news.length = m * sz) (hnews : ∀ j u, news[j]? = some u → w.cell? (a.add j) = some u)
    (h1 : ∀ u ∈ news, u.oneCell' = true) (hroom : n + m ≤ cap) (hfit : n * sz + news.length ≤ cur.size) (ty : TypeId) :
    (Builtin.append_ #[T, T] ty #[.slice (some ⟨g, 0, none⟩) n cap, .slice (some a) m c]).run Tryz.prog w = .ok (.slice (some ⟨g, 0, none⟩) (n + m) cap) (w.setRow g (put cur (n * sz) news.toArray)) := by
  obtain ⟨i, z, hi, hz, hs1, hs2, hs3⟩ := hT.get
  subst hs1
  have h := run_append_room (P := Tryz.prog) w T ty e i hT.und hi g n cap cur hg a m c news hl hnews h1 hroom hfit
  rw [h]
  simp [put]

/-- Zero values over what lies behind the end. -/
theorem run_clearK (hT : ElT T e sz bs) {g off c : Nat} {cur : Array Value} (hg : Blk w g cur e) (hfit : off + sz ≤ cur.size) (hz1 : ∀ z, (∀ w, (zeroValue e).run Tryz.prog w = .ok z w) → ∀ c ∈ z.cells, c.oneCell' = true) (ty : TypeId) :
    ∃ zs : Array Value, zs.size = sz ∧ (Builtin.clear_ #[T] ty #[.slice (some ⟨g, off, none⟩) 1 c]).run Tryz.prog w = .ok (.tuple #[]) (w.setRow g (put cur off zs)) := by
  obtain ⟨i, z, hi, hz, hs1, hs2, hs3⟩ := hT.get
  have hv : ∀ w, (zeroValue e).run Tryz.prog w = .ok z w := fun w => by simp [zeroValue, typeInfo, hi, hz]
  have h1 := hz1 z hv
  have hzc : (Builtin.zeroCells z.cells 1).size = sz := by rw [size_zeroCells, hs3]; simp
  have h1' : ∀ u ∈ Builtin.zeroCells z.cells 1, u.oneCell' = true := by
    intro u hu
    obtain ⟨j, hj, rfl⟩ := Array.mem_iff_getElem.1 hu
    simp only [Builtin.zeroCells, Array.getElem_map]
    have hp := hT.pos
    have hk : (Array.range (1 * z.cells.size))[j]'(by simpa [Builtin.zeroCells] using hj) % z.cells.size < z.cells.size := Nat.mod_lt _ (by rw [hs3]; exact hp)
    rw [getElem!_pos z.cells _ hk]
    exact h1 _ (Array.getElem_mem _)
  refine ⟨Builtin.zeroCells z.cells 1, hzc, ?_⟩
  have hst := run_storeAt (w := w) (b := g) (off := off) (t := e) (cur := cur) (ds := Builtin.zeroCells z.cells 1) hg (by rw [hzc]; exact hfit) h1'
  simp [Builtin.clear_, run_underlying hT.und, hv, hst]

/-- An append of a make where there is no room: a new block. -/
theorem run_growK (hT : ElT T e sz bs) {g i n cap : Nat} {cur : Array Value} (hi : i < n) (h : Op base e w g cap cur sz n) (hr : cap < n + 1) (hb : (n + 1) * bs ≤ 140737488355328) (hw : base ≤ w.heap.size) (ty : TypeId) :
    ∃ cap' cur', (Builtin.append_ #[T, 3] ty #[.slice (some ⟨g, 0, none⟩) i cap, .int .i64 ((n + 1 - i : Nat) : Int)]).run Tryz.prog w = .ok (.slice (some ⟨w.heap.size, 0, none⟩) (n + 1) cap') (w.drew.alloc (.cells cur' e)) ∧
      Op base e (w.drew.alloc (.cells cur' e)) w.heap.size cap' cur' sz (n + 1) ∧ cur'.toList.take (i * sz) = cur.toList.take (i * sz) := by
  obtain ⟨t, z, hi', hz, hs1, hs2, hs3⟩ := hT.get
  have hp := hT.pos
  have hnc := h.nc; have hcs := h.cs
  have hle : i * sz ≤ cur.size := by rw [hcs]; exact Nat.mul_le_mul_right _ (by omega)
  have hold : (Builtin.firstCells t.size i (.slice (some ⟨g, 0, none⟩) i cap)).run Tryz.prog w.drew = .ok (cur.toList.take (i * sz)).toArray w.drew :=
    run_firstCells_some (P := Tryz.prog) w.drew t.size i ⟨g, 0, none⟩ i cap (cur.toList.take (i * sz)) (by rw [hs1, List.length_take, Array.length_toList]; omega) (fun j v hj => by
      rw [addr_off, Nat.zero_add]
      have : w.drew.cell? ⟨g, j, none⟩ = w.cell? ⟨g, j, none⟩ := rfl
      rw [this, cell_of_row w g _ cur e (0, 0) h.blk]
      rw [List.getElem?_take] at hj
      split at hj
      · simpa using hj
      · cases hj)
  have hk : i + (n + 1 - i) = n + 1 := by omega
  have hbs := hT.pb
  have hbig : n + 1 ≤ 140737488355328 := Nat.le_trans (Nat.le_mul_of_pos_right _ hbs) hb
  have h48 : (n + 1 - i) * t.bytes ≤ 281474976710656 := by
    rw [hs2]
    have : (n + 1 - i) * bs ≤ (n + 1) * bs := Nat.mul_le_mul_right _ (by omega)
    omega
  have hrun := Lib.run_append_grow_zeros (P := Tryz.prog) w T 3 ty e t z .i64 .i64 hT.und Tryz.underlying3 hi' hz (some ⟨g, 0, none⟩) i cap (cur.toList.take (i * sz)) hold (n + 1 - i) (by omega) (by omega) (by omega) (by omega) h48
    (by rw [hk, hs2]; exact growslice_fits hr hb)
  rw [hk] at hrun
  have hge := grownCap_ge w (n + 1) cap e
  have hcm : grownCap w (n + 1) cap e ≤ maxLen := grownCap_le_maxLen w (n + 1) cap e (by simp only [maxLen]; omega)
  refine ⟨_, _, hrun, ⟨hw, heap_alloc_new w.drew _, hge, hcm, ?_⟩, ?_⟩
  · simp only [Array.size_append, List.size_toArray, List.length_take, Array.length_toList, size_zeroCells, hs3]
    rw [Nat.min_eq_left hle, ← Nat.add_mul, ← Nat.add_mul, hk, Nat.add_sub_cancel' hge]
  · simp only [Array.toList_append, List.append_assoc]
    rw [List.take_left' (by rw [List.length_take, Array.length_toList]; omega)]
end own

/-! ### Slices of slices -/
section ops
variable {n : Nat} {env : List (Nat × Value)} {w : World} {d : Option Nat} {ty : TypeId} {pos : String} {af : Array Edge} {g : Option (Nat × Bool)} {x y z u : Operand} {T el : TypeId} {k : IntKind} {b off len cap sz i j m : Nat} {a0 : Option Addr}
theorem r_sliceLo (hT : Tryz.prog.underlying T = some (.slice el)) (hs : ∀ w, (sizeOf el).run Tryz.prog w = .ok sz w) (hx : ev env x = some (.slice a0 len cap)) (hy : ev env y = some (.int k (i : Int))) (hi : i ≤ len) (hc : len ≤ cap) :
    Run n env w ⟨d, .slice T x (some y) none none, ty, pos, af, g⟩ (.value (.slice (if cap = i then a0 else a0.map (·.add (i * sz))) (len - i) (cap - i))) w := fun a ha => by
  simp [execOp, ha.eval hx, ha.eval hy, Instr.sliceAt, Instr.slice, Instr.sliceBounds, Instr.sliceBound, asIntOf, run_underlying hT, hs, hi]
theorem r_sliceHi (hT : Tryz.prog.underlying T = some (.slice el)) (hs : ∀ w, (sizeOf el).run Tryz.prog w = .ok sz w) (hx : ev env x = some (.slice (some ⟨b, 0, none⟩) len cap)) (hy : ev env y = some (.int k (i : Int))) (hi : i ≤ cap) :
    Run n env w ⟨d, .slice T x none (some y) none, ty, pos, af, g⟩ (.value (.slice (some ⟨b, 0, none⟩) i cap)) w := fun a ha => by
  simp [execOp, ha.eval hx, ha.eval hy, Instr.sliceAt, Instr.slice, Instr.sliceBounds, Instr.sliceBound, asIntOf, run_underlying hT, hs, hi, addr_off]
theorem r_sliceLoK (hT : Tryz.prog.underlying T = some (.slice el)) (hs : ∀ w, (sizeOf el).run Tryz.prog w = .ok sz w) (hx : ev env x = some (.slice (some ⟨b, 0, none⟩) len cap)) (hy : ev env y = some (.int k (i : Int))) (hi : i ≤ len) (hc : len ≤ cap)
    (ho : (if cap = i then 0 else i * sz) = off) :
    Run n env w ⟨d, .slice T x (some y) none none, ty, pos, af, g⟩ (.value (.slice (some ⟨b, off, none⟩) (len - i) (cap - i))) w := fun a ha => by
  have h := r_sliceLo (n := n) (w := w) (d := d) (ty := ty) (pos := pos) (af := af) (g := g) hT hs hx hy hi hc a ha
  rw [h]
  subst ho
  by_cases hci : cap = i
  · simp [hci]
  · simp [hci, addr_off]
theorem r_sliceLH (hT : Tryz.prog.underlying T = some (.slice el)) (hs : ∀ w, (sizeOf el).run Tryz.prog w = .ok sz w) (hx : ev env x = some (.slice (some ⟨b, 0, none⟩) len cap)) (hy : ev env y = some (.int k (i : Int))) (hz : ev env z = some (.int k (j : Int))) (hij : i ≤ j) (hj : j ≤ cap) (hci : i < cap) :
    Run n env w ⟨d, .slice T x (some y) (some z) none, ty, pos, af, g⟩ (.value (.slice (some ⟨b, i * sz, none⟩) (j - i) (cap - i))) w := fun a ha => by
  have h3 : ¬ cap = i := by omega
  simp [execOp, ha.eval hx, ha.eval hy, ha.eval hz, Instr.sliceAt, Instr.slice, Instr.sliceBounds, Instr.sliceBound, asIntOf, run_underlying hT, hs, hij, hj, h3, addr_off]
theorem r_sliceLHM (hT : Tryz.prog.underlying T = some (.slice el)) (hs : ∀ w, (sizeOf el).run Tryz.prog w = .ok sz w) (hx : ev env x = some (.slice (some ⟨b, 0, none⟩) len cap)) (hy : ev env y = some (.int k (i : Int))) (hz : ev env z = some (.int k (j : Int))) (hu : ev env u = some (.int k (m : Int))) (hij : i < j) (hj : j ≤ m) (hm : m ≤ cap) :
    Run n env w ⟨d, .slice T x (some y) (some z) (some u), ty, pos, af, g⟩ (.value (.slice (some ⟨b, i * sz, none⟩) (j - i) (m - i))) w := fun a ha => by
  have h3 : ¬ m = i := by omega
  simp [execOp, ha.eval hx, ha.eval hy, ha.eval hz, ha.eval hu, Instr.sliceAt, Instr.slice, Instr.sliceBounds, Instr.sliceBound, asIntOf, run_underlying hT, hs, Nat.le_of_lt hij, hj, hm, h3, addr_off]
/-- slices.overlaps of two blocks. -/
theorem r_ovl {f : FuncId} {fn : Func} {tR : TypeId} {b1 b2 o1 o2 l1 l2 c1 c2 : Nat} {cs1 cs2 : Array Value} {t1 t2 : TypeId} {at' : Array TypeId} (hf : Tryz.prog.funcs[f]? = some fn) (h1 : (fn.name == "runtime.NumGoroutine") = false) (h2 : fn.body.isNone = true) (h3 : Extern.findNext fn = none)
    (h4 : Extern.find fn = some (Extern.SlicesOverlaps.overlaps #[T, T] #[tR])) (hT : Tryz.prog.underlying T = some (.slice el)) (hs : ∀ w, (sizeOf el).run Tryz.prog w = .ok sz w)
    (hx : ev env x = some (.slice (some ⟨b1, o1, none⟩) l1 c1)) (hy : ev env y = some (.slice (some ⟨b2, o2, none⟩) l2 c2)) (hne : b1 ≠ b2) (hb1 : Blk w b1 cs1 t1) (hb2 : Blk w b2 cs2 t2) (hz : cs2.size ≠ 0) :
    Run n env w ⟨d, .call { callee := .value (.func f), args := #[x, y], argTypes := at' }, ty, pos, af, g⟩ (.value (.bool false)) w := fun a ha => by
  have he : a.eval (.func f) = .func (.func f) #[] #[] := rfl
  have hsh1 : w.shape? b1 = some (t1, cs1.size) := by unfold World.shape?; rw [hb1]
  have hsh2 : w.shape? b2 = some (t2, cs2.size) := by unfold World.shape?; rw [hb2]
  have hfz : ∀ o sp, w.frozen? ⟨b1, o, sp⟩ = false := fun o sp => by unfold World.frozen?; simp [hb1]
  have hr := run_callFunc_extern hf h1 h2 h3 h4 #[.slice (some ⟨b1, o1, none⟩) l1 c1, .slice (some ⟨b2, o2, none⟩) l2 c2] w
  rw [Lib.run_overlaps_apart (P := Tryz.prog) w T tR el hT sz hs ⟨b1, o1, none⟩ ⟨b2, o2, none⟩ l1 c1 l2 c2 hne t1 t2 cs1.size cs2.size hsh1 hsh2 hz (hfz _ _) (hfz _ _)] at hr
  simp only [Result.andThen_ok] at hr
  simp [execOp, resolve, Deferred.ofValue, he, ha.eval hx, ha.eval hy, invoke, hr]
theorem r_copyK {v v' u : Value} {w' : World} {t t' : TypeId} (hx : ev env x = some v) (hy : ev env y = some u) (h : (Builtin.copy_ #[t, t'] ty #[v, u]).run Tryz.prog w = .ok v' w') :
    Run n env w ⟨d, .call { callee := .builtin .copy, args := #[x, y], argTypes := #[t, t'] }, ty, pos, af, g⟩ (.value v') w' := fun a ha => by
  unfold execOp
  simp only [resolve, invoke, builtin, Sem.run_bind, Sem.run_pure, Result.andThen_ok, List.map_toArray, List.map_cons, List.map_nil, ha.eval hx, ha.eval hy, h]
theorem r_appendK {v v' u : Value} {w' : World} {t t' : TypeId} (hx : ev env x = some v) (hy : ev env y = some u) (h : (Builtin.append_ #[t, t'] ty #[v, u]).run Tryz.prog w = .ok v' w') :
    Run n env w ⟨d, .call { callee := .builtin .append, args := #[x, y], argTypes := #[t, t'] }, ty, pos, af, g⟩ (.value v') w' := fun a ha => by
  unfold execOp
  simp only [resolve, invoke, builtin, Sem.run_bind, Sem.run_pure, Result.andThen_ok, List.map_toArray, List.map_cons, List.map_nil, ha.eval hx, ha.eval hy, h]
theorem r_clearK {v v' : Value} {w' : World} {t : TypeId} (hx : ev env x = some v) (h : (Builtin.clear_ #[t] ty #[v]).run Tryz.prog w = .ok v' w') :
    Run n env w ⟨d, .call { callee := .builtin .clear, args := #[x], argTypes := #[t] }, ty, pos, af, g⟩ (.value v') w' := fun a ha => by
  unfold execOp
  simp only [resolve, invoke, builtin, Sem.run_bind, Sem.run_pure, Result.andThen_ok, List.map_toArray, List.map_cons, List.map_nil, ha.eval hx, h]
end ops
end Go.Proofs.YtekhaogjmmmniaaGreat
namespace Go.Proofs.YtekhaogjmmmniaaGreat
open Go Go.RowKit

section own
variable {α : Type} {sz bs base : Nat} {enc : α → Array Value} {l : List α} {e T : TypeId} {w w' : World} {s : Sl} {g cap n : Nat} {cur : Array Value}
theorem Op.keep {X : List Nat} (h : Op base e w g cap cur sz n) (k : Keeps X w w') (hx : g ∉ X) : Op base e w' g cap cur sz n := ⟨h.lo, h.blk.keep k hx, h.nc, h.ml, h.cs⟩
theorem Op.keep0 (h : Op base e w g cap cur sz n) (k : Keeps [] w w') : Op base e w' g cap cur sz n := h.keep k (by simp)
theorem Op.setRow (h : Op base e w g cap cur sz n) {cur' : Array Value} (hs : cur'.size = cur.size) {m : Nat} (hm : m ≤ cap) : Op base e (w.setRow g cur') g cap cur' sz m :=
  ⟨h.lo, setRow_heap w g cur cur' e _ h.blk, hm, h.ml, by rw [hs]; exact h.cs⟩

theorem take_put_lt {a off : Nat} {ds : Array Value} (h : a ≤ off) (hc : off + ds.size ≤ cur.size) : (put cur off ds).toList.take a = cur.toList.take a := by
  apply List.ext_getElem?
  intro j
  rw [List.getElem?_take, List.getElem?_take]
  split
  · rw [Array.getElem?_toList, put_getElem? _ _ _ hc, if_neg (by omega), Array.getElem?_toList]
  · rfl
theorem take_put_at {off : Nat} {ds : Array Value} (hc : off + ds.size ≤ cur.size) : (put cur off ds).toList.take (off + ds.size) = cur.toList.take off ++ ds.toList := by
  have hl : (cur.toList.take off).length = off := by rw [List.length_take, Array.length_toList]; omega
  simp only [put]
  rw [show off + ds.size = (cur.toList.take off ++ ds.toList).length by rw [List.length_append, hl, Array.length_toList], List.take_left]
theorem z1_of {cs : Array Value} (hz : ∀ w, (zeroValue e).run Tryz.prog w = .ok (.agg cs) w) (h1 : ∀ c ∈ cs, c.oneCell' = true) (w : World) : ∀ z, (∀ w, (zeroValue e).run Tryz.prog w = .ok z w) → ∀ c ∈ z.cells, c.oneCell' = true := by
  intro z h c hc
  have := (h w).symm.trans (hz w)
  simp only [Result.ok.injEq] at this
  rw [this.1] at hc
  exact h1 c hc

/-- append(s[:i], s[i+1:]...) -/
theorem del_run (hT : ElT T e sz bs) (hE : EncT sz enc) (ho : Op base e w g cap cur sz l.length) (ht : cur.toList.take (l.length * sz) = flat enc l) {i off : Nat} (hi : i < l.length) (hoff : (if cap = i + 1 then 0 else (i + 1) * sz) = off) (ty : TypeId) :
    ∃ w' cur', (Builtin.append_ #[T, T] ty #[.slice (some ⟨g, 0, none⟩) i cap, .slice (some ⟨g, off, none⟩) (l.length - (i + 1)) (cap - (i + 1))]).run Tryz.prog w = .ok (.slice (some ⟨g, 0, none⟩) (l.length - 1) cap) w' ∧
      Op base e w' g cap cur' sz (l.length - 1) ∧ cur'.toList.take ((l.length - 1) * sz) = flat enc (l.take i ++ l.drop (i + 1)) ∧ Keeps [g] w w' := by
  have hnc := ho.nc
  have hlen : (flat enc (l.drop (i + 1))).length = (l.length - (i + 1)) * sz := by rw [flat_length hE, List.length_drop]
  have hcells : ∀ j u, (flat enc (l.drop (i + 1)))[j]? = some u → w.cell? ((⟨g, off, none⟩ : Addr).add j) = some u := by
    intro j u hu
    by_cases hci : cap = i + 1
    · have h0 : (flat enc (l.drop (i + 1))).length = 0 := by rw [hlen, show l.length - (i + 1) = 0 by omega, Nat.zero_mul]
      rw [List.eq_nil_of_length_eq_zero h0] at hu; simp at hu
    · rw [if_neg hci] at hoff
      rw [← hoff]
      exact ho.cells hE ht (i + 1) j u hu
  have e1 : i * sz + (l.length - (i + 1)) * sz = (l.length - 1) * sz := by rw [← Nat.add_mul]; congr 1; omega
  have e2 : (l.length - 1) * sz ≤ cap * sz := Nat.mul_le_mul_right _ (by omega)
  have hcs := ho.cs
  have hfit : i * sz + (flat enc (l.drop (i + 1))).toArray.size ≤ cur.size := by simp only [List.size_toArray]; rw [hlen]; omega
  have hrun := run_appendK hT ho.blk (n := i) (cap := cap) (c := cap - (i + 1)) hlen hcells (flat_one hE) (by omega) (by rw [hlen]; omega) ty
  refine ⟨_, put cur (i * sz) (flat enc (l.drop (i + 1))).toArray, by rw [hrun, show i + (l.length - (i + 1)) = l.length - 1 by omega], ho.setRow (put_size _ _ _ hfit) (by omega), ?_, Keeps.setRow _ _ _⟩
  have h3 := take_put_at (cur := cur) hfit
  simp only [List.size_toArray] at h3
  rw [hlen, e1] at h3
  rw [h3, flat_append, ← flat_take hE, ← ht, List.take_take, Nat.min_eq_left (Nat.mul_le_mul_right _ (by omega))]

/-- clear(s[len(s):oldlen]) -/
theorem clr_run (hT : ElT T e sz bs) (ho : Op base e w g cap cur sz n) {m c off : Nat} (hm : m = 1) (hn : n < cap) (hoff : n * sz = off) (hz1 : ∀ z, (∀ w, (zeroValue e).run Tryz.prog w = .ok z w) → ∀ c ∈ z.cells, c.oneCell' = true) (ty : TypeId) :
    ∃ w' cur', (Builtin.clear_ #[T] ty #[.slice (some ⟨g, off, none⟩) m c]).run Tryz.prog w = .ok (.tuple #[]) w' ∧ Op base e w' g cap cur' sz n ∧ cur'.toList.take (n * sz) = cur.toList.take (n * sz) ∧ Keeps [g] w w' := by
  subst hm; subst hoff
  have hcs := ho.cs; have hnc := ho.nc
  have h1 : (n + 1) * sz ≤ cap * sz := Nat.mul_le_mul_right _ hn
  rw [Nat.succ_mul] at h1
  obtain ⟨zs, h2, h3⟩ := run_clearK hT ho.blk (off := n * sz) (c := c) (by omega) hz1 ty
  exact ⟨_, _, h3, ho.setRow (put_size _ _ _ (by omega)) hnc, take_put_lt (Nat.le_refl _) (by omega), Keeps.setRow _ _ _⟩

/-- copy(d[i:], v), v of one element -/
theorem cpy1_run (hT : ElT T e sz bs) (hE : EncT sz enc) (ho : Op base e w g cap cur sz n) {i dl dc vb c : Nat} {x : α} {t : TypeId} (hv : Blk w vb (enc x) t) (hi : i < n) (hd : 1 ≤ dl) (ty : TypeId) :
    ∃ w', (Builtin.copy_ #[T, T] ty #[.slice (some ⟨g, i * sz, none⟩) dl dc, .slice (some ⟨vb, 0, none⟩) 1 c]).run Tryz.prog w = .ok (.int .i64 ((1 : Nat) : Int)) w' ∧
      Op base e w' g cap (put cur (i * sz) (enc x)) sz n ∧ Keeps [g] w w' := by
  have hcs := ho.cs; have hnc := ho.nc
  have h1 : (i + 1) * sz ≤ cap * sz := Nat.mul_le_mul_right _ (by omega)
  rw [Nat.succ_mul] at h1
  have hes := hE.size x
  have hrun := run_copyK hT ho.blk (off := i * sz) (dl := dl) (dc := dc) (m := 1) (c := c) (k := 1) (a := ⟨vb, 0, none⟩) (news := (enc x).toList) (by simp [hes]) (fun j u hu => by
    rw [addr_off, Nat.zero_add, cell_of_row w vb _ _ t (0, 0) hv]; simpa using hu) (fun u hu => hE.one x u (by simpa using hu)) (Nat.min_eq_left hd) (by simp [hes]; omega) ty
  simp only [Array.toArray_toList] at hrun
  exact ⟨_, hrun, ho.setRow (put_size _ _ _ (by omega)) hnc, Keeps.setRow _ _ _⟩

/-- copy(d[i+1:], s[i:]) -/
theorem cpy_run (hT : ElT T e sz bs) (hE : EncT sz enc) (ho : Op base e w g cap cur sz (l.length + 1)) {i a dl dc c : Nat} (hsrc : ∀ j u, (flat enc (l.drop i))[j]? = some u → w.cell? ((⟨a, i * sz, none⟩ : Addr).add j) = some u) (hi : i < l.length) {sl : Nat} (hd : Nat.min sl dl = l.length - i) (ty : TypeId) :
    ∃ w', (Builtin.copy_ #[T, T] ty #[.slice (some ⟨g, (i + 1) * sz, none⟩) dl dc, .slice (some ⟨a, i * sz, none⟩) sl c]).run Tryz.prog w = .ok (.int .i64 ((l.length - i : Nat) : Int)) w' ∧
      Op base e w' g cap (put cur ((i + 1) * sz) (flat enc (l.drop i)).toArray) sz (l.length + 1) ∧ Keeps [g] w w' := by
  have hcs := ho.cs; have hnc := ho.nc
  have hlen : (flat enc (l.drop i)).length = (l.length - i) * sz := by rw [flat_length hE, List.length_drop]
  have e1 : (i + 1) * sz + (l.length - i) * sz = (l.length + 1) * sz := by rw [← Nat.add_mul]; congr 1; omega
  have e2 : (l.length + 1) * sz ≤ cap * sz := Nat.mul_le_mul_right _ hnc
  have hrun := run_copyK hT ho.blk (off := (i + 1) * sz) (dl := dl) (dc := dc) (c := c) hlen hsrc (flat_one hE) hd (by rw [hlen]; omega) ty
  exact ⟨_, hrun, ho.setRow (put_size _ _ _ (by simp only [List.size_toArray]; rw [hlen]; omega)) hnc, Keeps.setRow _ _ _⟩

/-- What lies there behind both copies. -/
theorem ins_flat (hE : EncT sz enc) (hcs : (l.length + 1) * sz ≤ cur.size) {i : Nat} (hi : i < l.length) (ht : cur.toList.take (i * sz) = flat enc (l.take i)) (x : α) :
    (put (put cur ((i + 1) * sz) (flat enc (l.drop i)).toArray) (i * sz) (enc x)).toList.take ((l.take i ++ x :: l.drop i).length * sz) = flat enc (l.take i ++ x :: l.drop i) ∧
    (put (put cur (i * sz) (enc x)) ((i + 1) * sz) (flat enc (l.drop i)).toArray).toList.take ((l.take i ++ x :: l.drop i).length * sz) = flat enc (l.take i ++ x :: l.drop i) := by
  have hlen : (flat enc (l.drop i)).toArray.size = (l.length - i) * sz := by simp only [List.size_toArray]; rw [flat_length hE, List.length_drop]
  have hes := hE.size x
  have e1 : (i + 1) * sz + (l.length - i) * sz = (l.length + 1) * sz := by rw [← Nat.add_mul]; congr 1; omega
  have e0 : (i + 1) * sz = i * sz + sz := Nat.succ_mul _ _
  have en : (l.take i ++ x :: l.drop i).length = l.length + 1 := by simp; omega
  rw [en, flat_append, flat_cons, ← ht]
  have hL : (cur.toList.take (i * sz)).length = i * sz := by rw [List.length_take, Array.length_toList]; omega
  have f1 : (put cur ((i + 1) * sz) (flat enc (l.drop i)).toArray).size = cur.size := put_size _ _ _ (by rw [hlen]; omega)
  have f2 : (put cur (i * sz) (enc x)).size = cur.size := put_size _ _ _ (by omega)
  have two : put (put cur ((i + 1) * sz) (flat enc (l.drop i)).toArray) (i * sz) (enc x) = put (put cur (i * sz) (enc x)) ((i + 1) * sz) (flat enc (l.drop i)).toArray := by
    apply Array.ext_getElem?
    intro j
    rw [put_getElem? _ _ _ (by rw [f1]; omega), put_getElem? _ _ _ (by rw [hlen]; omega), put_getElem? _ _ _ (by rw [f2, hlen]; omega), put_getElem? _ _ _ (by omega), hlen, hes]
    by_cases h1 : i * sz ≤ j ∧ j < i * sz + sz
    · rw [if_pos h1, if_neg (by omega), if_pos h1]
    · rw [if_neg h1]
      split <;> rfl
  rw [two]
  have h3 := take_put_at (cur := put cur (i * sz) (enc x)) (off := (i + 1) * sz) (ds := (flat enc (l.drop i)).toArray) (by rw [f2, hlen]; omega)
  rw [hlen, e1] at h3
  have h4 := take_put_at (cur := cur) (off := i * sz) (ds := enc x) (by omega)
  rw [hes, ← e0] at h4
  rw [h3, h4, List.append_assoc]
  exact ⟨rfl, rfl⟩
end own

/-- The block of s' is that of s, or a new one. -/
def NB (w : World) (s s' : Sl) : Prop := ∀ k, s'.val.ownBlock = some k → s.val.ownBlock = some k ∨ w.heap.size ≤ k
section app
variable {α : Type} {sz bs base : Nat} {enc : α → Array Value} {l : List α} {e T : TypeId} {w w' : World} {s : Sl}
/-- append(s, v...), v of one element -/
theorem app_run (hT : ElT T e sz bs) (hE : EncT sz enc) (ho : Own base e w s sz enc l) {vb c : Nat} {x : α} {t : TypeId} (hv : Blk w vb (enc x) t) (hb : (l.length + 1) * bs ≤ 140737488355328) (hw : base ≤ w.heap.size) (ty : TypeId) :
    ∃ s' w', (Builtin.append_ #[T, T] ty #[s.val, .slice (some ⟨vb, 0, none⟩) 1 c]).run Tryz.prog w = .ok s'.val w' ∧ Own base e w' s' sz enc (l ++ [x]) ∧ Keeps s.val.ownBlock.toList w w' ∧ NB w s s' := by
  obtain ⟨i, z, hi, hz, h1, h2, h3⟩ := hT.get
  have hbig : l.length + 1 ≤ 140737488355328 := Nat.le_trans (Nat.le_mul_of_pos_right _ hT.pb) hb
  have h63 : l.length + 1 ≤ maxLen := by simp only [maxLen]; omega
  have hnews : ∀ j u, (enc x).toList[j]? = some u → w.cell? ((⟨vb, 0, none⟩ : Addr).add j) = some u := fun j u hu => by
    rw [addr_off, Nat.zero_add, cell_of_row w vb _ _ t (0, 0) hv]; simpa using hu
  have hl : (enc x).toList.length = 1 * sz := by simp [hE.size]
  have h1' : ∀ u ∈ (enc x).toList, u.oneCell' = true := fun u hu => hE.one x u (by simpa using hu)
  obtain ⟨v', w', r1, r2, r3, _⟩ := run_append_own (P := Tryz.prog) w base T ty e i z sz bs hT.und hi hz h1 h2 h3 hT.pos s.val l.length (flat enc l) ho.own ⟨vb, 0, none⟩ 1 c (enc x).toList hl hnews h1' h63 hb hw
  have hf : flat enc l ++ (enc x).toList = flat enc (l ++ [x]) := by rw [flat_append, flat_cons, flat_nil, List.append_nil]
  rw [hf] at r2
  have hs : ∃ s' : Sl, v' = s'.val := by
    rcases r2.2 with ⟨h4, _⟩ | ⟨g, cap, cur, h4, _⟩
    · exact ⟨Sl.nil, h4⟩
    · exact ⟨⟨_, _, _⟩, h4⟩
  obtain ⟨s', rfl⟩ := hs
  refine ⟨s', w', r1, ⟨by simpa using r2, by simpa using hbig⟩, ⟨r3.os, r3.tape, r3.output, r3.size, fun k hk hx => r3.block k hk (fun hc => hx (by rw [← hc]; simp))⟩, ?_⟩
  -- the block
  have hsmall : (1 : Nat) ≤ 9223372036854775807 := by decide
  intro k hk
  rcases ho.own.2 with ⟨hn, hl0⟩ | ⟨g, cap, cur, hs, hbg, hg, hnc, hcm, hcs, htake⟩
  · have hr := run_append_nil (P := Tryz.prog) w T ty e i z hT.und hi hz ⟨vb, 0, none⟩ 1 c (enc x).toList (by rw [h1]; exact hl) hnews (by omega) (by omega) (by rw [h2]; rw [hl0] at hb; omega)
    rw [hn] at r1
    have := r1.symm.trans hr
    simp only [Result.ok.injEq] at this
    rw [this.1] at hk
    simp only [Value.ownBlock, Option.some.injEq] at hk
    exact .inr (by omega)
  · by_cases hroom : l.length + 1 ≤ cap
    · have hfit : l.length * i.size + (enc x).toList.length ≤ cur.size := by rw [hl, hcs, h1, ← Nat.add_mul]; exact Nat.mul_le_mul_right _ hroom
      have hr := run_append_room (P := Tryz.prog) w T ty e i hT.und hi g l.length cap cur hg ⟨vb, 0, none⟩ 1 c (enc x).toList (by rw [h1]; exact hl) hnews h1' hroom hfit
      rw [hs] at r1
      have := r1.symm.trans hr
      simp only [Result.ok.injEq] at this
      rw [this.1] at hk
      rw [hs]; exact .inl hk
    · have holds : ∀ j u, (flat enc l)[j]? = some u → w.cell? ((⟨g, 0, none⟩ : Addr).add j) = some u := ho.own.cells (g := g) (by rw [hs]; rfl)
      have hr := run_append_grow (P := Tryz.prog) w T ty e i z hT.und hi hz ⟨g, 0, none⟩ l.length cap (flat enc l) (by rw [h1]; exact flat_length hE) holds ⟨vb, 0, none⟩ 1 c (enc x).toList (by rw [h1]; exact hl) hnews (by omega) (by omega)
        (by rw [h2]; exact growslice_fits (by omega) hb)
      rw [hs] at r1
      have := r1.symm.trans hr
      simp only [Result.ok.injEq] at this
      rw [this.1] at hk
      simp only [Value.ownBlock, Option.some.injEq] at hk
      exact .inr (by omega)
/-- append(s[:i], make(..)...): a new block. -/
theorem grow_run (hT : ElT T e sz bs) {g i n cap : Nat} {cur : Array Value} (hi : i < n) (h : Op base e w g cap cur sz n) (hr : cap < n + 1) (hb : (n + 1) * bs ≤ 140737488355328) (hw : base ≤ w.heap.size) (ty : TypeId) :
    ∃ g' w' cap' cur', (Builtin.append_ #[T, 3] ty #[.slice (some ⟨g, 0, none⟩) i cap, .int .i64 ((n + 1 - i : Nat) : Int)]).run Tryz.prog w = .ok (.slice (some ⟨g', 0, none⟩) (n + 1) cap') w' ∧
      Op base e w' g' cap' cur' sz (n + 1) ∧ cur'.toList.take (i * sz) = cur.toList.take (i * sz) ∧ Keeps [] w w' ∧ w.heap.size ≤ g' := by
  obtain ⟨cap', cur', h1, h2, h3⟩ := run_growK hT hi h hr hb hw ty
  exact ⟨_, _, cap', cur', h1, h2, h3, (Keeps.drew w).trans (Keeps.alloc _ _), Nat.le_refl _⟩
end app

section lists
variable {α : Type} {l : List α} {x : α} {i : Nat}
theorem ins_end (h : i = l.length) : l ++ [x] = l.take i ++ x :: l.drop i := by subst h; simp
theorem del_len (h : i < l.length) : (l.take i ++ l.drop (i + 1)).length = l.length - 1 := by simp; omega
theorem ins_len (h : i ≤ l.length) : (l.take i ++ x :: l.drop i).length = l.length + 1 := by simp; omega
end lists
theorem min_is {a b c : Nat} (h : (a = c ∧ a ≤ b) ∨ (b = c ∧ b ≤ a)) : Nat.min a b = c := by
  rcases h with ⟨rfl, h⟩ | ⟨rfl, h⟩
  · exact Nat.min_eq_left h
  · exact Nat.min_eq_right h
end Go.Proofs.YtekhaogjmmmniaaGreat
namespace Go.Proofs.YtekhaogjmmmniaaGreat
open Go Go.RowKit

theorem f106 {w : World} {base : Nat} {s : Sl} {l : List Seat} (ho : Own base 73 w s 66 Seat.cells l) {i : Nat} (hi : i < l.length) : Ret 106 #[s.val, .int .i64 (i : Int), .int .i64 ((i + 1 : Nat) : Int)] w
    (fun v w' => ∃ s' : Sl, v = s'.val ∧ s'.val.ownBlock = s.val.ownBlock ∧ Own base 73 w' s' 66 Seat.cells (l.take i ++ l.drop (i + 1)) ∧ Keeps s.val.ownBlock.toList w w') := by
  obtain ⟨g, cap, cur, rfl, hop, ht⟩ := ho.open (by omega)
  have hn := ho.big
  have hnc := hop.nc
  obtain ⟨of, hof⟩ : ∃ o, (if cap = i + 1 then 0 else (i + 1) * 66) = o := ⟨_, rfl⟩
  show Ret 106 #[.slice (some ⟨g, 0, none⟩) l.length cap, _, _] w _
  have hM0 : Mem w [g] [] w := ⟨Keeps.refl _ _, by simp, by simp, by simp⟩
  refine enter Tryz.func106 rfl rfl ?_
  refine c_sr ?_
  refine l_v rfl (r_assign rfl) ?_
  refine l_nil ?_
  refine c_sr ?_
  refine l_v rfl (r_move rfl) ?_
  refine l_v rfl (r_move rfl) ?_
  refine l_v rfl (r_move rfl) ?_
  refine l_v rfl (r_move rfl) ?_
  refine l_v rfl (r_len Tryz.underlying32 rfl) ?_
  refine l_v rfl (r_sliceLHM Tryz.underlying32 Tryz.sizeOf73 rfl rfl rfl rfl (by omega) (by omega) (by omega)) ?_
  refine l_nil ?_
  refine c_seq ?_
  refine c_sr ?_
  refine l_v rfl (r_move rfl) ?_
  refine l_v rfl (r_move rfl) ?_
  refine l_v rfl (r_eql (b := decide ((i : Nat) = i + 1)) rfl rfl (neq' i (i + 1))) ?_
  refine l_nil ?_
  refine c_condF rfl (decide_eq_false (by omega)) ?_
  refine c_skip ?_
  refine c_sr ?_
  refine l_v rfl (r_move rfl) ?_
  refine l_v rfl (r_len Tryz.underlying32 rfl) ?_
  refine l_v rfl (r_assign rfl) ?_
  refine l_nil ?_
  refine c_seq ?_
  refine c_regD (Mem w [g] []) [] [(0, true), (1, true), (2, true), (3, true), (4, true), (5, true), (6, false), (7, true)] (by kernel_rfl) ?_
  have hM1 := hM0.drew
  refine s_take hM1 rfl (gn rfl) rfl rfl (fun w h => r_move rfl) ?_
  refine s_take hM1 rfl (gn rfl) rfl rfl (fun w h => r_move rfl) ?_
  refine s_take hM1 rfl (gn rfl) rfl rfl (fun w h => r_sliceHi Tryz.underlying32 Tryz.sizeOf73 rfl rfl (by omega)) ?_
  refine s_take hM1 rfl (gn rfl) rfl rfl (fun w h => r_move rfl) ?_
  refine s_take hM1 rfl (gn rfl) rfl rfl (fun w h => r_move rfl) ?_
  refine s_take hM1 rfl (gn rfl) rfl rfl (fun w h => r_sliceLoK Tryz.underlying32 Tryz.sizeOf73 rfl rfl (by omega) (by omega) hof) ?_
  obtain ⟨w3, cur8, hr9, hop6, ht7, hK4⟩ := del_run elSeat enSeat (hop.keep0 (Keeps.drew _)) ht hi hof 32
  have hM5 : Mem w [g] [] w3 := ⟨hM1.kp.then hK4 (by simp), by simp, by simp, by simp⟩
  refine s_val rfl (gn rfl) rfl rfl (r_appendK rfl rfl hr9) (.inr hM5) ?_
  refine s_take hM5 rfl (gn rfl) rfl rfl (fun w h => r_assign rfl) ?_
  refine s_nil ?_
  refine c_sr ?_
  refine l_v rfl (r_move rfl) ?_
  refine l_v rfl (r_move rfl) ?_
  refine l_v rfl (r_len Tryz.underlying32 rfl) ?_
  refine l_v rfl (r_move rfl) ?_
  refine l_v rfl (r_sliceLH Tryz.underlying32 Tryz.sizeOf73 rfl rfl rfl (by omega) (by omega) (by omega)) ?_
  obtain ⟨w10, cur15, hr16, hop13, ht14, hK11⟩ := clr_run (n := l.length - 1) (m := l.length - (l.length - 1)) (c := cap - (l.length - 1)) (off := (l.length - 1) * 66) elSeat hop6 (by omega) (by omega) rfl (z1_of Seat.zv (Seat.one _) w3) 0
  have hM12 : Mem w [g] [] w10 := ⟨hM5.kp.then hK11 (by simp), by simp, by simp, by simp⟩
  refine l_vnone (gn rfl) rfl (r_clearK rfl hr16) ?_
  refine l_nil ?_
  refine c_sr ?_
  refine l_v rfl (r_move rfl) ?_
  refine l_v rfl (r_assign rfl) ?_
  refine l_nil ?_
  refine c_ret ?_
  refine ret1 rfl rfl ?_
  have hdl := del_len hi
  exact ⟨⟨some ⟨g, 0, none⟩, l.length - 1, cap⟩, rfl, rfl, Own.shut enSeat hop13 hdl.symm (by rw [hdl, ht14, ht7]) (by omega), hM12.kp⟩
theorem f123e {w : World} {base : Nat} {s : Sl} {l : List Seat} (ho : Own base 73 w s 66 Seat.cells l) {vb t : Nat} {x : Seat} (hv : Blk w vb (Seat.cells x) t) (hb : (l.length + 1) * 72 ≤ 140737488355328) (hw : base ≤ w.heap.size) {i : Nat} (hi : i = l.length) : Ret 123 #[s.val, .int .i64 (i : Int), .slice (some ⟨vb, 0, none⟩) 1 1] w
    (fun v w' => ∃ s' : Sl, v = s'.val ∧ NB w s s' ∧ Own base 73 w' s' 66 Seat.cells (l.take i ++ x :: l.drop i) ∧ Keeps s.val.ownBlock.toList w w') := by
  have hn := ho.big
  have hM0 : Mem w s.val.ownBlock.toList [] w := ⟨Keeps.refl _ _, by simp, by simp, by simp⟩
  have hR := ho.row enSeat
  have hsl := hR.len
  refine enter Tryz.func123 rfl rfl ?_
  refine c_sr ?_
  refine l_v rfl (r_assign rfl) ?_
  refine l_nil ?_
  refine c_sr ?_
  refine l_v rfl (r_move rfl) ?_
  refine l_v rfl (r_move rfl) ?_
  refine l_v rfl (r_sliceLo Tryz.underlying32 Tryz.sizeOf73 rfl rfl (by omega) hR.cap) ?_
  refine l_nil ?_
  refine c_sr ?_
  refine l_v rfl (r_move rfl) ?_
  refine l_v rfl (r_len Tryz.underlying32 rfl) ?_
  refine l_v rfl (r_assign rfl) ?_
  refine l_nil ?_
  refine c_seq ?_
  refine c_sr ?_
  refine l_v rfl (r_move rfl) ?_
  refine l_v rfl (r_eql (b := false) rfl rfl (by decide)) ?_
  refine l_nil ?_
  refine c_condF rfl rfl ?_
  refine c_skip ?_
  refine c_sr ?_
  refine l_v rfl (r_move rfl) ?_
  refine l_v rfl (r_lenR Tryz.underlying32 rfl hR.len) ?_
  refine l_v rfl (r_assign rfl) ?_
  refine l_nil ?_
  refine c_seq ?_
  refine c_sr ?_
  refine l_v rfl (r_move rfl) ?_
  refine l_v rfl (r_move rfl) ?_
  refine l_v rfl (r_eql (b := decide ((i : Nat) = l.length)) rfl rfl (neq' i l.length)) ?_
  refine l_nil ?_
  refine c_condT rfl (decide_eq_true hi) ?_
  refine c_sr ?_
  refine l_v rfl (r_move rfl) ?_
  refine l_v rfl (r_move rfl) ?_
  obtain ⟨sn6, w1, hr5, hop4, hK2, hnb7⟩ := app_run (c := 1) elSeat enSeat ho hv hb hw 32
  have hM3 : Mem w s.val.ownBlock.toList [] w1 := ⟨hK2, by simp, by simp, by simp⟩
  refine l_v rfl (r_appendK rfl rfl hr5) ?_
  refine l_v rfl (r_assign rfl) ?_
  refine l_nil ?_
  refine c_ret ?_
  refine ret1 rfl rfl ?_
  exact ⟨sn6, rfl, hnb7, by rw [← ins_end hi]; exact hop4, hK2⟩
theorem f123m {w : World} {base : Nat} {s : Sl} {l : List Seat} (ho : Own base 73 w s 66 Seat.cells l) {vb t : Nat} {x : Seat} (hv : Blk w vb (Seat.cells x) t) (hb : (l.length + 1) * 72 ≤ 140737488355328) (hw : base ≤ w.heap.size) (hvb : s.val.ownBlock ≠ some vb) {i : Nat} (hi : i < l.length) : Ret 123 #[s.val, .int .i64 (i : Int), .slice (some ⟨vb, 0, none⟩) 1 1] w
    (fun v w' => ∃ s' : Sl, v = s'.val ∧ NB w s s' ∧ Own base 73 w' s' 66 Seat.cells (l.take i ++ x :: l.drop i) ∧ Keeps s.val.ownBlock.toList w w') := by
  obtain ⟨g, cap, cur, rfl, hop, ht⟩ := ho.open (by omega)
  have hn := ho.big
  have hnc := hop.nc
  have hml := hop.ml
  simp only [maxLen] at hml
  have hgv : vb ≠ g := fun h => hvb (by rw [h]; rfl)
  have hgl := hop.blk.lt
  have hvl := hv.lt
  show Ret 123 #[.slice (some ⟨g, 0, none⟩) l.length cap, _, _] w _
  have hM0 : Mem w [g] [] w := ⟨Keeps.refl _ _, by simp, by simp, by simp⟩
  refine enter Tryz.func123 rfl rfl ?_
  refine c_sr ?_
  refine l_v rfl (r_assign rfl) ?_
  refine l_nil ?_
  refine c_sr ?_
  refine l_v rfl (r_move rfl) ?_
  refine l_v rfl (r_move rfl) ?_
  refine l_v rfl (r_sliceLoK Tryz.underlying32 Tryz.sizeOf73 rfl rfl (by omega) (by omega) (if_neg (by omega))) ?_
  refine l_nil ?_
  refine c_sr ?_
  refine l_v rfl (r_move rfl) ?_
  refine l_v rfl (r_len Tryz.underlying32 rfl) ?_
  refine l_v rfl (r_assign rfl) ?_
  refine l_nil ?_
  refine c_seq ?_
  refine c_sr ?_
  refine l_v rfl (r_move rfl) ?_
  refine l_v rfl (r_eql (b := false) rfl rfl (by decide)) ?_
  refine l_nil ?_
  refine c_condF rfl rfl ?_
  refine c_skip ?_
  refine c_sr ?_
  refine l_v rfl (r_move rfl) ?_
  refine l_v rfl (r_len Tryz.underlying32 rfl) ?_
  refine l_v rfl (r_assign rfl) ?_
  refine l_nil ?_
  refine c_seq ?_
  refine c_sr ?_
  refine l_v rfl (r_move rfl) ?_
  refine l_v rfl (r_move rfl) ?_
  refine l_v rfl (r_eql (b := decide ((i : Nat) = l.length)) rfl rfl (neq' i l.length)) ?_
  refine l_nil ?_
  refine c_condF rfl (decide_eq_false (by omega)) ?_
  refine c_skip ?_
  refine c_seq ?_
  refine c_sr ?_
  refine l_v rfl (r_move rfl) ?_
  refine l_v rfl (r_move rfl) ?_
  refine l_v rfl (r_add (r := ((l.length + 1 : Nat) : Int)) rfl rfl (nadd (i := l.length) (k := 1) (m := l.length + 1) (by omega) (by omega))) ?_
  refine l_v rfl (r_move rfl) ?_
  refine l_v rfl (r_cap Tryz.underlying32 rfl) ?_
  refine l_v rfl (r_gtr (b := decide ((cap : Nat) < l.length + 1)) rfl rfl (nlt cap (l.length + 1))) ?_
  refine l_nil ?_
  refine ways (decide ((cap : Nat) < l.length + 1)) (fun h1 => ?_) (fun h1 => ?_)
  ·skip
   have hp2 : (cap : Nat) < l.length + 1 := of_decide_eq_true h1
   refine c_condT rfl h1 ?_
   refine c_sr ?_
   refine l_v rfl (r_move rfl) ?_
   refine l_v rfl (r_move rfl) ?_
   refine l_v rfl (r_sliceHi Tryz.underlying32 Tryz.sizeOf73 rfl rfl (by omega)) ?_
   refine l_v rfl (r_move rfl) ?_
   refine l_v rfl (r_move rfl) ?_
   refine l_v rfl (r_add (r := ((l.length + 1 : Nat) : Int)) rfl rfl (nadd (i := l.length) (k := 1) (m := l.length + 1) (by omega) (by omega))) ?_
   refine l_v rfl (r_move rfl) ?_
   refine l_v rfl (r_sub (r := (((l.length + 1) - i : Nat) : Int)) rfl rfl (nsub (i := l.length + 1) (k := i) (m := (l.length + 1) - i) (by omega) (by omega))) ?_
   obtain ⟨g8, w3, cap9, cur10, hr7, hop6, ht11, hK4, hg12⟩ := grow_run elSeat hi hop (by omega) hb hw 32
   have hnc2 := hop6.nc
   have hcs2 := hop6.cs
   have hM5 := hM0.keep hK4
   refine l_v rfl (r_appendK rfl rfl hr7) ?_
   refine l_v rfl (r_assign rfl) ?_
   refine l_nil ?_
   refine c_sr ?_
   refine l_v rfl (r_move rfl) ?_
   refine l_v rfl (r_move rfl) ?_
   refine l_v rfl (r_sliceLoK Tryz.underlying32 Tryz.sizeOf73 rfl rfl (by omega) (by omega) (if_neg (by omega))) ?_
   refine l_v rfl (r_move rfl) ?_
   obtain ⟨w13, hr17, hop16, hK14⟩ := cpy1_run (i := i) (dl := (l.length + 1) - i) (dc := cap9 - i) (c := 1) elSeat enSeat hop6 (hv.keep hM5.kp (by simp; omega)) (by omega) (by omega) 3
   have hM15 : Mem w [g] [] w13 := ⟨hM5.kp.then hK14 (fun y hy => .inr (by simp at hy; subst hy; exact hg12)), by simp, by simp, by simp⟩
   refine l_v rfl (r_copyK rfl rfl hr17) ?_
   refine l_nil ?_
   refine c_seq ?_
   refine c_regD (Mem w [g] []) [] [(0, true), (1, true), (2, true), (3, true), (4, true), (5, true), (6, true), (7, true), (8, false)] (by kernel_rfl) ?_
   have hM18 := hM15.drew
   refine s_take hM18 rfl (gn rfl) rfl rfl (fun w h => r_move rfl) ?_
   refine s_take hM18 rfl (gn rfl) rfl rfl (fun w h => r_move rfl) ?_
   refine s_take hM18 rfl (gn rfl) rfl rfl (fun w h => r_move rfl) ?_
   refine s_take hM18 rfl (gn rfl) rfl rfl (fun w h => r_add (r := ((i + 1 : Nat) : Int)) rfl rfl (nadd (i := i) (k := 1) (m := i + 1) (by omega) (by omega))) ?_
   refine s_take hM18 rfl (gn rfl) rfl rfl (fun w h => r_sliceLoK Tryz.underlying32 Tryz.sizeOf73 rfl rfl (by omega) (by omega) (if_neg (by omega))) ?_
   refine s_take hM18 rfl (gn rfl) rfl rfl (fun w h => r_move rfl) ?_
   refine s_take hM18 rfl (gn rfl) rfl rfl (fun w h => r_move rfl) ?_
   refine s_take hM18 rfl (gn rfl) rfl rfl (fun w h => r_sliceLoK Tryz.underlying32 Tryz.sizeOf73 rfl rfl (by omega) (by omega) (if_neg (by omega))) ?_
   obtain ⟨w20, hr24, hop23, hK21⟩ := cpy_run (i := i) (dl := (l.length + 1) - (i + 1)) (dc := cap9 - (i + 1)) (sl := l.length - i) (c := cap - i) elSeat enSeat (hop16.keep0 (Keeps.drew _)) ((((hop.keep0 hK4).keep hK14 (by simp; omega)).keep0 (Keeps.drew _)).cells enSeat ht i) hi (min_is (by omega)) 3
   have hM22 : Mem w [g] [] w20 := ⟨hM18.kp.then hK21 (fun y hy => .inr (by simp at hy; subst hy; exact hg12)), by simp, by simp, by simp⟩
   refine s_val rfl (gn rfl) rfl rfl (r_copyK rfl rfl hr24) (.inr hM22) ?_
   refine s_nil ?_
   refine c_sr ?_
   refine l_v rfl (r_move rfl) ?_
   refine l_v rfl (r_assign rfl) ?_
   refine l_nil ?_
   refine c_ret ?_
   refine ret1 rfl rfl ?_
   have hfit : (l.length + 1) * 66 ≤ cur10.size := by rw [hcs2]; exact Nat.mul_le_mul_right _ (by omega)
   have hfl := ins_flat (x := x) enSeat hfit hi (by rw [ht11, ← flat_take enSeat, ← ht, List.take_take, Nat.min_eq_left (Nat.mul_le_mul_right _ (by omega))])
   exact ⟨⟨some ⟨g8, 0, none⟩, l.length + 1, cap9⟩, rfl, fun k hk => .inr (by simp only [Sl.val, Value.ownBlock, Option.some.injEq] at hk; omega), Own.shut enSeat hop23 (ins_len (by omega)).symm hfl.2 (by rw [ins_len (by omega)]; omega), hM22.kp⟩
  ·skip
   have hp25 : ¬ ((cap : Nat) < l.length + 1) := of_decide_eq_false h1
   refine c_condF rfl h1 ?_
   refine c_skip ?_
   refine c_sr ?_
   refine l_v rfl (r_move rfl) ?_
   refine l_v rfl (r_move rfl) ?_
   refine l_v rfl (r_move rfl) ?_
   refine l_v rfl (r_add (r := ((l.length + 1 : Nat) : Int)) rfl rfl (nadd (i := l.length) (k := 1) (m := l.length + 1) (by omega) (by omega))) ?_
   refine l_v rfl (r_sliceHi Tryz.underlying32 Tryz.sizeOf73 rfl rfl (by omega)) ?_
   refine l_v rfl (r_assign rfl) ?_
   refine l_nil ?_
   refine c_seq ?_
   refine c_sr ?_
   refine l_v rfl (r_move rfl) ?_
   refine l_v rfl (r_move rfl) ?_
   refine l_v rfl (r_move rfl) ?_
   refine l_v rfl (r_move rfl) ?_
   refine l_v rfl (r_add (r := ((i + 1 : Nat) : Int)) rfl rfl (nadd (i := i) (k := 1) (m := i + 1) (by omega) (by omega))) ?_
   refine l_v rfl (r_sliceLoK Tryz.underlying32 Tryz.sizeOf73 rfl rfl (by omega) (by omega) (if_neg (by omega))) ?_
   refine l_v rfl (r_ovl Tryz.func132 (by kernel_rfl) (by kernel_rfl) (by kernel_rfl) (tR := 4) (by kernel_rfl) Tryz.underlying32 Tryz.sizeOf73 rfl rfl (by omega) (hv.keep hM0.kp (by simp; omega)) hop.blk (by have := hop.cs; rw [this]; intro h0; have := Nat.mul_le_mul_right 66 (show 1 ≤ cap by omega); omega)) ?_
   refine l_v rfl (r_not rfl) ?_
   refine l_nil ?_
   refine c_condT rfl rfl ?_
   refine c_seq ?_
   refine c_regD (Mem w [g] []) [] [(0, true), (1, true), (2, true), (3, true), (4, true), (5, true), (6, true), (7, true), (8, false)] (by kernel_rfl) ?_
   have hM26 := hM0.drew
   refine s_take hM26 rfl (gn rfl) rfl rfl (fun w h => r_move rfl) ?_
   refine s_take hM26 rfl (gn rfl) rfl rfl (fun w h => r_move rfl) ?_
   refine s_take hM26 rfl (gn rfl) rfl rfl (fun w h => r_move rfl) ?_
   refine s_take hM26 rfl (gn rfl) rfl rfl (fun w h => r_add (r := ((i + 1 : Nat) : Int)) rfl rfl (nadd (i := i) (k := 1) (m := i + 1) (by omega) (by omega))) ?_
   refine s_take hM26 rfl (gn rfl) rfl rfl (fun w h => r_sliceLoK Tryz.underlying32 Tryz.sizeOf73 rfl rfl (by omega) (by omega) (if_neg (by omega))) ?_
   refine s_take hM26 rfl (gn rfl) rfl rfl (fun w h => r_move rfl) ?_
   refine s_take hM26 rfl (gn rfl) rfl rfl (fun w h => r_move rfl) ?_
   refine s_take hM26 rfl (gn rfl) rfl rfl (fun w h => r_sliceLoK Tryz.underlying32 Tryz.sizeOf73 rfl rfl (by omega) (by omega) (if_neg (by omega))) ?_
   have hsrc : Op base 73 w.drew g cap cur 66 l.length := ⟨hop.lo, ((hop.keep0 (Keeps.drew _))).blk, hop.nc, hop.ml, hop.cs⟩
   obtain ⟨w28, hr32, hop31, hK29⟩ := cpy_run (i := i) (dl := (l.length + 1) - (i + 1)) (dc := cap - (i + 1)) (sl := (l.length + 1) - i) (c := cap - i) elSeat enSeat (show Op base 73 w.drew g cap cur 66 (l.length + 1) from ⟨hop.lo, ((hop.keep0 (Keeps.drew _))).blk, by omega, hop.ml, hop.cs⟩) (hsrc.cells enSeat ht i) hi (min_is (by omega)) 3
   have hM30 : Mem w [g] [] w28 := ⟨hM26.kp.then hK29 (by simp), by simp, by simp, by simp⟩
   refine s_val rfl (gn rfl) rfl rfl (r_copyK rfl rfl hr32) (.inr hM30) ?_
   refine s_nil ?_
   refine c_sr ?_
   refine l_v rfl (r_move rfl) ?_
   refine l_v rfl (r_move rfl) ?_
   refine l_v rfl (r_sliceLoK Tryz.underlying32 Tryz.sizeOf73 rfl rfl (by omega) (by omega) (if_neg (by omega))) ?_
   refine l_v rfl (r_move rfl) ?_
   obtain ⟨w33, hr37, hop36, hK34⟩ := cpy1_run (i := i) (dl := (l.length + 1) - i) (dc := cap - i) (c := 1) elSeat enSeat hop31 (hv.keep hM30.kp (by simp; omega)) (by omega) (by omega) 3
   have hM35 : Mem w [g] [] w33 := ⟨hM30.kp.then hK34 (by simp), by simp, by simp, by simp⟩
   refine l_v rfl (r_copyK rfl rfl hr37) ?_
   refine l_nil ?_
   refine c_sr ?_
   refine l_v rfl (r_move rfl) ?_
   refine l_v rfl (r_assign rfl) ?_
   refine l_nil ?_
   refine c_ret ?_
   refine ret1 rfl rfl ?_
   have hcs := hop.cs
   have hfit : (l.length + 1) * 66 ≤ cur.size := by rw [hcs]; exact Nat.mul_le_mul_right _ (by omega)
   have hfl := ins_flat (x := x) enSeat hfit hi (by rw [← flat_take enSeat, ← ht, List.take_take, Nat.min_eq_left (Nat.mul_le_mul_right _ (by omega))])
   exact ⟨⟨some ⟨g, 0, none⟩, l.length + 1, cap⟩, rfl, fun k hk => .inl hk, Own.shut enSeat hop36 (ins_len (by omega)).symm hfl.1 (by rw [ins_len (by omega)]; omega), hM35.kp⟩
theorem f123 {w : World} {base : Nat} {s : Sl} {l : List Seat} (ho : Own base 73 w s 66 Seat.cells l) {vb t : Nat} {x : Seat} (hv : Blk w vb (Seat.cells x) t) (hb : (l.length + 1) * 72 ≤ 140737488355328) (hw : base ≤ w.heap.size) (hvb : s.val.ownBlock ≠ some vb) {i : Nat} (hi : i ≤ l.length) : Ret 123 #[s.val, .int .i64 (i : Int), .slice (some ⟨vb, 0, none⟩) 1 1] w
    (fun v w' => ∃ s' : Sl, v = s'.val ∧ NB w s s' ∧ Own base 73 w' s' 66 Seat.cells (l.take i ++ x :: l.drop i) ∧ Keeps s.val.ownBlock.toList w w') := by
  rcases Nat.lt_or_eq_of_le hi with h | h
  · exact f123m ho hv hb hw hvb h
  · exact f123e ho hv hb hw h
theorem f100 {w : World} {base : Nat} {s : Sl} {l : List Invite} (ho : Own base 82 w s 129 Invite.cells l) {i : Nat} (hi : i < l.length) : Ret 100 #[s.val, .int .i64 (i : Int), .int .i64 ((i + 1 : Nat) : Int)] w
    (fun v w' => ∃ s' : Sl, v = s'.val ∧ s'.val.ownBlock = s.val.ownBlock ∧ Own base 82 w' s' 129 Invite.cells (l.take i ++ l.drop (i + 1)) ∧ Keeps s.val.ownBlock.toList w w') := by
  obtain ⟨g, cap, cur, rfl, hop, ht⟩ := ho.open (by omega)
  have hn := ho.big
  have hnc := hop.nc
  obtain ⟨of, hof⟩ : ∃ o, (if cap = i + 1 then 0 else (i + 1) * 129) = o := ⟨_, rfl⟩
  show Ret 100 #[.slice (some ⟨g, 0, none⟩) l.length cap, _, _] w _
  have hM0 : Mem w [g] [] w := ⟨Keeps.refl _ _, by simp, by simp, by simp⟩
  refine enter Tryz.func100 rfl rfl ?_
  refine c_sr ?_
  refine l_v rfl (r_assign rfl) ?_
  refine l_nil ?_
  refine c_sr ?_
  refine l_v rfl (r_move rfl) ?_
  refine l_v rfl (r_move rfl) ?_
  refine l_v rfl (r_move rfl) ?_
  refine l_v rfl (r_move rfl) ?_
  refine l_v rfl (r_len Tryz.underlying33 rfl) ?_
  refine l_v rfl (r_sliceLHM Tryz.underlying33 Tryz.sizeOf82 rfl rfl rfl rfl (by omega) (by omega) (by omega)) ?_
  refine l_nil ?_
  refine c_seq ?_
  refine c_sr ?_
  refine l_v rfl (r_move rfl) ?_
  refine l_v rfl (r_move rfl) ?_
  refine l_v rfl (r_eql (b := decide ((i : Nat) = i + 1)) rfl rfl (neq' i (i + 1))) ?_
  refine l_nil ?_
  refine c_condF rfl (decide_eq_false (by omega)) ?_
  refine c_skip ?_
  refine c_sr ?_
  refine l_v rfl (r_move rfl) ?_
  refine l_v rfl (r_len Tryz.underlying33 rfl) ?_
  refine l_v rfl (r_assign rfl) ?_
  refine l_nil ?_
  refine c_seq ?_
  refine c_regD (Mem w [g] []) [] [(0, true), (1, true), (2, true), (3, true), (4, true), (5, true), (6, false), (7, true)] (by kernel_rfl) ?_
  have hM1 := hM0.drew
  refine s_take hM1 rfl (gn rfl) rfl rfl (fun w h => r_move rfl) ?_
  refine s_take hM1 rfl (gn rfl) rfl rfl (fun w h => r_move rfl) ?_
  refine s_take hM1 rfl (gn rfl) rfl rfl (fun w h => r_sliceHi Tryz.underlying33 Tryz.sizeOf82 rfl rfl (by omega)) ?_
  refine s_take hM1 rfl (gn rfl) rfl rfl (fun w h => r_move rfl) ?_
  refine s_take hM1 rfl (gn rfl) rfl rfl (fun w h => r_move rfl) ?_
  refine s_take hM1 rfl (gn rfl) rfl rfl (fun w h => r_sliceLoK Tryz.underlying33 Tryz.sizeOf82 rfl rfl (by omega) (by omega) hof) ?_
  obtain ⟨w3, cur8, hr9, hop6, ht7, hK4⟩ := del_run elInvite enInvite (hop.keep0 (Keeps.drew _)) ht hi hof 33
  have hM5 : Mem w [g] [] w3 := ⟨hM1.kp.then hK4 (by simp), by simp, by simp, by simp⟩
  refine s_val rfl (gn rfl) rfl rfl (r_appendK rfl rfl hr9) (.inr hM5) ?_
  refine s_take hM5 rfl (gn rfl) rfl rfl (fun w h => r_assign rfl) ?_
  refine s_nil ?_
  refine c_sr ?_
  refine l_v rfl (r_move rfl) ?_
  refine l_v rfl (r_move rfl) ?_
  refine l_v rfl (r_len Tryz.underlying33 rfl) ?_
  refine l_v rfl (r_move rfl) ?_
  refine l_v rfl (r_sliceLH Tryz.underlying33 Tryz.sizeOf82 rfl rfl rfl (by omega) (by omega) (by omega)) ?_
  obtain ⟨w10, cur15, hr16, hop13, ht14, hK11⟩ := clr_run (n := l.length - 1) (m := l.length - (l.length - 1)) (c := cap - (l.length - 1)) (off := (l.length - 1) * 129) elInvite hop6 (by omega) (by omega) rfl (z1_of Invite.zv (Invite.one _) w3) 0
  have hM12 : Mem w [g] [] w10 := ⟨hM5.kp.then hK11 (by simp), by simp, by simp, by simp⟩
  refine l_vnone (gn rfl) rfl (r_clearK rfl hr16) ?_
  refine l_nil ?_
  refine c_sr ?_
  refine l_v rfl (r_move rfl) ?_
  refine l_v rfl (r_assign rfl) ?_
  refine l_nil ?_
  refine c_ret ?_
  refine ret1 rfl rfl ?_
  have hdl := del_len hi
  exact ⟨⟨some ⟨g, 0, none⟩, l.length - 1, cap⟩, rfl, rfl, Own.shut enInvite hop13 hdl.symm (by rw [hdl, ht14, ht7]) (by omega), hM12.kp⟩
theorem f104e {w : World} {base : Nat} {s : Sl} {l : List Invite} (ho : Own base 82 w s 129 Invite.cells l) {vb t : Nat} {x : Invite} (hv : Blk w vb (Invite.cells x) t) (hb : (l.length + 1) * 129 ≤ 140737488355328) (hw : base ≤ w.heap.size) {i : Nat} (hi : i = l.length) : Ret 104 #[s.val, .int .i64 (i : Int), .slice (some ⟨vb, 0, none⟩) 1 1] w
    (fun v w' => ∃ s' : Sl, v = s'.val ∧ NB w s s' ∧ Own base 82 w' s' 129 Invite.cells (l.take i ++ x :: l.drop i) ∧ Keeps s.val.ownBlock.toList w w') := by
  have hn := ho.big
  have hM0 : Mem w s.val.ownBlock.toList [] w := ⟨Keeps.refl _ _, by simp, by simp, by simp⟩
  have hR := ho.row enInvite
  have hsl := hR.len
  refine enter Tryz.func104 rfl rfl ?_
  refine c_sr ?_
  refine l_v rfl (r_assign rfl) ?_
  refine l_nil ?_
  refine c_sr ?_
  refine l_v rfl (r_move rfl) ?_
  refine l_v rfl (r_move rfl) ?_
  refine l_v rfl (r_sliceLo Tryz.underlying33 Tryz.sizeOf82 rfl rfl (by omega) hR.cap) ?_
  refine l_nil ?_
  refine c_sr ?_
  refine l_v rfl (r_move rfl) ?_
  refine l_v rfl (r_len Tryz.underlying33 rfl) ?_
  refine l_v rfl (r_assign rfl) ?_
  refine l_nil ?_
  refine c_seq ?_
  refine c_sr ?_
  refine l_v rfl (r_move rfl) ?_
  refine l_v rfl (r_eql (b := false) rfl rfl (by decide)) ?_
  refine l_nil ?_
  refine c_condF rfl rfl ?_
  refine c_skip ?_
  refine c_sr ?_
  refine l_v rfl (r_move rfl) ?_
  refine l_v rfl (r_lenR Tryz.underlying33 rfl hR.len) ?_
  refine l_v rfl (r_assign rfl) ?_
  refine l_nil ?_
  refine c_seq ?_
  refine c_sr ?_
  refine l_v rfl (r_move rfl) ?_
  refine l_v rfl (r_move rfl) ?_
  refine l_v rfl (r_eql (b := decide ((i : Nat) = l.length)) rfl rfl (neq' i l.length)) ?_
  refine l_nil ?_
  refine c_condT rfl (decide_eq_true hi) ?_
  refine c_sr ?_
  refine l_v rfl (r_move rfl) ?_
  refine l_v rfl (r_move rfl) ?_
  obtain ⟨sn6, w1, hr5, hop4, hK2, hnb7⟩ := app_run (c := 1) elInvite enInvite ho hv hb hw 33
  have hM3 : Mem w s.val.ownBlock.toList [] w1 := ⟨hK2, by simp, by simp, by simp⟩
  refine l_v rfl (r_appendK rfl rfl hr5) ?_
  refine l_v rfl (r_assign rfl) ?_
  refine l_nil ?_
  refine c_ret ?_
  refine ret1 rfl rfl ?_
  exact ⟨sn6, rfl, hnb7, by rw [← ins_end hi]; exact hop4, hK2⟩
theorem f104m {w : World} {base : Nat} {s : Sl} {l : List Invite} (ho : Own base 82 w s 129 Invite.cells l) {vb t : Nat} {x : Invite} (hv : Blk w vb (Invite.cells x) t) (hb : (l.length + 1) * 129 ≤ 140737488355328) (hw : base ≤ w.heap.size) (hvb : s.val.ownBlock ≠ some vb) {i : Nat} (hi : i < l.length) : Ret 104 #[s.val, .int .i64 (i : Int), .slice (some ⟨vb, 0, none⟩) 1 1] w
    (fun v w' => ∃ s' : Sl, v = s'.val ∧ NB w s s' ∧ Own base 82 w' s' 129 Invite.cells (l.take i ++ x :: l.drop i) ∧ Keeps s.val.ownBlock.toList w w') := by
  obtain ⟨g, cap, cur, rfl, hop, ht⟩ := ho.open (by omega)
  have hn := ho.big
  have hnc := hop.nc
  have hml := hop.ml
  simp only [maxLen] at hml
  have hgv : vb ≠ g := fun h => hvb (by rw [h]; rfl)
  have hgl := hop.blk.lt
  have hvl := hv.lt
  show Ret 104 #[.slice (some ⟨g, 0, none⟩) l.length cap, _, _] w _
  have hM0 : Mem w [g] [] w := ⟨Keeps.refl _ _, by simp, by simp, by simp⟩
  refine enter Tryz.func104 rfl rfl ?_
  refine c_sr ?_
  refine l_v rfl (r_assign rfl) ?_
  refine l_nil ?_
  refine c_sr ?_
  refine l_v rfl (r_move rfl) ?_
  refine l_v rfl (r_move rfl) ?_
  refine l_v rfl (r_sliceLoK Tryz.underlying33 Tryz.sizeOf82 rfl rfl (by omega) (by omega) (if_neg (by omega))) ?_
  refine l_nil ?_
  refine c_sr ?_
  refine l_v rfl (r_move rfl) ?_
  refine l_v rfl (r_len Tryz.underlying33 rfl) ?_
  refine l_v rfl (r_assign rfl) ?_
  refine l_nil ?_
  refine c_seq ?_
  refine c_sr ?_
  refine l_v rfl (r_move rfl) ?_
  refine l_v rfl (r_eql (b := false) rfl rfl (by decide)) ?_
  refine l_nil ?_
  refine c_condF rfl rfl ?_
  refine c_skip ?_
  refine c_sr ?_
  refine l_v rfl (r_move rfl) ?_
  refine l_v rfl (r_len Tryz.underlying33 rfl) ?_
  refine l_v rfl (r_assign rfl) ?_
  refine l_nil ?_
  refine c_seq ?_
  refine c_sr ?_
  refine l_v rfl (r_move rfl) ?_
  refine l_v rfl (r_move rfl) ?_
  refine l_v rfl (r_eql (b := decide ((i : Nat) = l.length)) rfl rfl (neq' i l.length)) ?_
  refine l_nil ?_
  refine c_condF rfl (decide_eq_false (by omega)) ?_
  refine c_skip ?_
  refine c_seq ?_
  refine c_sr ?_
  refine l_v rfl (r_move rfl) ?_
  refine l_v rfl (r_move rfl) ?_
  refine l_v rfl (r_add (r := ((l.length + 1 : Nat) : Int)) rfl rfl (nadd (i := l.length) (k := 1) (m := l.length + 1) (by omega) (by omega))) ?_
  refine l_v rfl (r_move rfl) ?_
  refine l_v rfl (r_cap Tryz.underlying33 rfl) ?_
  refine l_v rfl (r_gtr (b := decide ((cap : Nat) < l.length + 1)) rfl rfl (nlt cap (l.length + 1))) ?_
  refine l_nil ?_
  refine ways (decide ((cap : Nat) < l.length + 1)) (fun h1 => ?_) (fun h1 => ?_)
  ·skip
   have hp2 : (cap : Nat) < l.length + 1 := of_decide_eq_true h1
   refine c_condT rfl h1 ?_
   refine c_sr ?_
   refine l_v rfl (r_move rfl) ?_
   refine l_v rfl (r_move rfl) ?_
   refine l_v rfl (r_sliceHi Tryz.underlying33 Tryz.sizeOf82 rfl rfl (by omega)) ?_
   refine l_v rfl (r_move rfl) ?_
   refine l_v rfl (r_move rfl) ?_
   refine l_v rfl (r_add (r := ((l.length + 1 : Nat) : Int)) rfl rfl (nadd (i := l.length) (k := 1) (m := l.length + 1) (by omega) (by omega))) ?_
   refine l_v rfl (r_move rfl) ?_
   refine l_v rfl (r_sub (r := (((l.length + 1) - i : Nat) : Int)) rfl rfl (nsub (i := l.length + 1) (k := i) (m := (l.length + 1) - i) (by omega) (by omega))) ?_
   obtain ⟨g8, w3, cap9, cur10, hr7, hop6, ht11, hK4, hg12⟩ := grow_run elInvite hi hop (by omega) hb hw 33
   have hnc2 := hop6.nc
   have hcs2 := hop6.cs
   have hM5 := hM0.keep hK4
   refine l_v rfl (r_appendK rfl rfl hr7) ?_
   refine l_v rfl (r_assign rfl) ?_
   refine l_nil ?_
   refine c_sr ?_
   refine l_v rfl (r_move rfl) ?_
   refine l_v rfl (r_move rfl) ?_
   refine l_v rfl (r_sliceLoK Tryz.underlying33 Tryz.sizeOf82 rfl rfl (by omega) (by omega) (if_neg (by omega))) ?_
   refine l_v rfl (r_move rfl) ?_
   obtain ⟨w13, hr17, hop16, hK14⟩ := cpy1_run (i := i) (dl := (l.length + 1) - i) (dc := cap9 - i) (c := 1) elInvite enInvite hop6 (hv.keep hM5.kp (by simp; omega)) (by omega) (by omega) 3
   have hM15 : Mem w [g] [] w13 := ⟨hM5.kp.then hK14 (fun y hy => .inr (by simp at hy; subst hy; exact hg12)), by simp, by simp, by simp⟩
   refine l_v rfl (r_copyK rfl rfl hr17) ?_
   refine l_nil ?_
   refine c_seq ?_
   refine c_regD (Mem w [g] []) [] [(0, true), (1, true), (2, true), (3, true), (4, true), (5, true), (6, true), (7, true), (8, false)] (by kernel_rfl) ?_
   have hM18 := hM15.drew
   refine s_take hM18 rfl (gn rfl) rfl rfl (fun w h => r_move rfl) ?_
   refine s_take hM18 rfl (gn rfl) rfl rfl (fun w h => r_move rfl) ?_
   refine s_take hM18 rfl (gn rfl) rfl rfl (fun w h => r_move rfl) ?_
   refine s_take hM18 rfl (gn rfl) rfl rfl (fun w h => r_add (r := ((i + 1 : Nat) : Int)) rfl rfl (nadd (i := i) (k := 1) (m := i + 1) (by omega) (by omega))) ?_
   refine s_take hM18 rfl (gn rfl) rfl rfl (fun w h => r_sliceLoK Tryz.underlying33 Tryz.sizeOf82 rfl rfl (by omega) (by omega) (if_neg (by omega))) ?_
   refine s_take hM18 rfl (gn rfl) rfl rfl (fun w h => r_move rfl) ?_
   refine s_take hM18 rfl (gn rfl) rfl rfl (fun w h => r_move rfl) ?_
   refine s_take hM18 rfl (gn rfl) rfl rfl (fun w h => r_sliceLoK Tryz.underlying33 Tryz.sizeOf82 rfl rfl (by omega) (by omega) (if_neg (by omega))) ?_
   obtain ⟨w20, hr24, hop23, hK21⟩ := cpy_run (i := i) (dl := (l.length + 1) - (i + 1)) (dc := cap9 - (i + 1)) (sl := l.length - i) (c := cap - i) elInvite enInvite (hop16.keep0 (Keeps.drew _)) ((((hop.keep0 hK4).keep hK14 (by simp; omega)).keep0 (Keeps.drew _)).cells enInvite ht i) hi (min_is (by omega)) 3
   have hM22 : Mem w [g] [] w20 := ⟨hM18.kp.then hK21 (fun y hy => .inr (by simp at hy; subst hy; exact hg12)), by simp, by simp, by simp⟩
   refine s_val rfl (gn rfl) rfl rfl (r_copyK rfl rfl hr24) (.inr hM22) ?_
   refine s_nil ?_
   refine c_sr ?_
   refine l_v rfl (r_move rfl) ?_
   refine l_v rfl (r_assign rfl) ?_
   refine l_nil ?_
   refine c_ret ?_
   refine ret1 rfl rfl ?_
   have hfit : (l.length + 1) * 129 ≤ cur10.size := by rw [hcs2]; exact Nat.mul_le_mul_right _ (by omega)
   have hfl := ins_flat (x := x) enInvite hfit hi (by rw [ht11, ← flat_take enInvite, ← ht, List.take_take, Nat.min_eq_left (Nat.mul_le_mul_right _ (by omega))])
   exact ⟨⟨some ⟨g8, 0, none⟩, l.length + 1, cap9⟩, rfl, fun k hk => .inr (by simp only [Sl.val, Value.ownBlock, Option.some.injEq] at hk; omega), Own.shut enInvite hop23 (ins_len (by omega)).symm hfl.2 (by rw [ins_len (by omega)]; omega), hM22.kp⟩
  ·skip
   have hp25 : ¬ ((cap : Nat) < l.length + 1) := of_decide_eq_false h1
   refine c_condF rfl h1 ?_
   refine c_skip ?_
   refine c_sr ?_
   refine l_v rfl (r_move rfl) ?_
   refine l_v rfl (r_move rfl) ?_
   refine l_v rfl (r_move rfl) ?_
   refine l_v rfl (r_add (r := ((l.length + 1 : Nat) : Int)) rfl rfl (nadd (i := l.length) (k := 1) (m := l.length + 1) (by omega) (by omega))) ?_
   refine l_v rfl (r_sliceHi Tryz.underlying33 Tryz.sizeOf82 rfl rfl (by omega)) ?_
   refine l_v rfl (r_assign rfl) ?_
   refine l_nil ?_
   refine c_seq ?_
   refine c_sr ?_
   refine l_v rfl (r_move rfl) ?_
   refine l_v rfl (r_move rfl) ?_
   refine l_v rfl (r_move rfl) ?_
   refine l_v rfl (r_move rfl) ?_
   refine l_v rfl (r_add (r := ((i + 1 : Nat) : Int)) rfl rfl (nadd (i := i) (k := 1) (m := i + 1) (by omega) (by omega))) ?_
   refine l_v rfl (r_sliceLoK Tryz.underlying33 Tryz.sizeOf82 rfl rfl (by omega) (by omega) (if_neg (by omega))) ?_
   refine l_v rfl (r_ovl Tryz.func124 (by kernel_rfl) (by kernel_rfl) (by kernel_rfl) (tR := 4) (by kernel_rfl) Tryz.underlying33 Tryz.sizeOf82 rfl rfl (by omega) (hv.keep hM0.kp (by simp; omega)) hop.blk (by have := hop.cs; rw [this]; intro h0; have := Nat.mul_le_mul_right 129 (show 1 ≤ cap by omega); omega)) ?_
   refine l_v rfl (r_not rfl) ?_
   refine l_nil ?_
   refine c_condT rfl rfl ?_
   refine c_seq ?_
   refine c_regD (Mem w [g] []) [] [(0, true), (1, true), (2, true), (3, true), (4, true), (5, true), (6, true), (7, true), (8, false)] (by kernel_rfl) ?_
   have hM26 := hM0.drew
   refine s_take hM26 rfl (gn rfl) rfl rfl (fun w h => r_move rfl) ?_
   refine s_take hM26 rfl (gn rfl) rfl rfl (fun w h => r_move rfl) ?_
   refine s_take hM26 rfl (gn rfl) rfl rfl (fun w h => r_move rfl) ?_
   refine s_take hM26 rfl (gn rfl) rfl rfl (fun w h => r_add (r := ((i + 1 : Nat) : Int)) rfl rfl (nadd (i := i) (k := 1) (m := i + 1) (by omega) (by omega))) ?_
   refine s_take hM26 rfl (gn rfl) rfl rfl (fun w h => r_sliceLoK Tryz.underlying33 Tryz.sizeOf82 rfl rfl (by omega) (by omega) (if_neg (by omega))) ?_
   refine s_take hM26 rfl (gn rfl) rfl rfl (fun w h => r_move rfl) ?_
   refine s_take hM26 rfl (gn rfl) rfl rfl (fun w h => r_move rfl) ?_
   refine s_take hM26 rfl (gn rfl) rfl rfl (fun w h => r_sliceLoK Tryz.underlying33 Tryz.sizeOf82 rfl rfl (by omega) (by omega) (if_neg (by omega))) ?_
   have hsrc : Op base 82 w.drew g cap cur 129 l.length := ⟨hop.lo, ((hop.keep0 (Keeps.drew _))).blk, hop.nc, hop.ml, hop.cs⟩
   obtain ⟨w28, hr32, hop31, hK29⟩ := cpy_run (i := i) (dl := (l.length + 1) - (i + 1)) (dc := cap - (i + 1)) (sl := (l.length + 1) - i) (c := cap - i) elInvite enInvite (show Op base 82 w.drew g cap cur 129 (l.length + 1) from ⟨hop.lo, ((hop.keep0 (Keeps.drew _))).blk, by omega, hop.ml, hop.cs⟩) (hsrc.cells enInvite ht i) hi (min_is (by omega)) 3
   have hM30 : Mem w [g] [] w28 := ⟨hM26.kp.then hK29 (by simp), by simp, by simp, by simp⟩
   refine s_val rfl (gn rfl) rfl rfl (r_copyK rfl rfl hr32) (.inr hM30) ?_
   refine s_nil ?_
   refine c_sr ?_
   refine l_v rfl (r_move rfl) ?_
   refine l_v rfl (r_move rfl) ?_
   refine l_v rfl (r_sliceLoK Tryz.underlying33 Tryz.sizeOf82 rfl rfl (by omega) (by omega) (if_neg (by omega))) ?_
   refine l_v rfl (r_move rfl) ?_
   obtain ⟨w33, hr37, hop36, hK34⟩ := cpy1_run (i := i) (dl := (l.length + 1) - i) (dc := cap - i) (c := 1) elInvite enInvite hop31 (hv.keep hM30.kp (by simp; omega)) (by omega) (by omega) 3
   have hM35 : Mem w [g] [] w33 := ⟨hM30.kp.then hK34 (by simp), by simp, by simp, by simp⟩
   refine l_v rfl (r_copyK rfl rfl hr37) ?_
   refine l_nil ?_
   refine c_sr ?_
   refine l_v rfl (r_move rfl) ?_
   refine l_v rfl (r_assign rfl) ?_
   refine l_nil ?_
   refine c_ret ?_
   refine ret1 rfl rfl ?_
   have hcs := hop.cs
   have hfit : (l.length + 1) * 129 ≤ cur.size := by rw [hcs]; exact Nat.mul_le_mul_right _ (by omega)
   have hfl := ins_flat (x := x) enInvite hfit hi (by rw [← flat_take enInvite, ← ht, List.take_take, Nat.min_eq_left (Nat.mul_le_mul_right _ (by omega))])
   exact ⟨⟨some ⟨g, 0, none⟩, l.length + 1, cap⟩, rfl, fun k hk => .inl hk, Own.shut enInvite hop36 (ins_len (by omega)).symm hfl.1 (by rw [ins_len (by omega)]; omega), hM35.kp⟩
theorem f104 {w : World} {base : Nat} {s : Sl} {l : List Invite} (ho : Own base 82 w s 129 Invite.cells l) {vb t : Nat} {x : Invite} (hv : Blk w vb (Invite.cells x) t) (hb : (l.length + 1) * 129 ≤ 140737488355328) (hw : base ≤ w.heap.size) (hvb : s.val.ownBlock ≠ some vb) {i : Nat} (hi : i ≤ l.length) : Ret 104 #[s.val, .int .i64 (i : Int), .slice (some ⟨vb, 0, none⟩) 1 1] w
    (fun v w' => ∃ s' : Sl, v = s'.val ∧ NB w s s' ∧ Own base 82 w' s' 129 Invite.cells (l.take i ++ x :: l.drop i) ∧ Keeps s.val.ownBlock.toList w w') := by
  rcases Nat.lt_or_eq_of_le hi with h | h
  · exact f104m ho hv hb hw hvb h
  · exact f104e ho hv hb hw h
theorem f102 {w : World} {base : Nat} {s : Sl} {l : List Ask} (ho : Own base 84 w s 65 Ask.cells l) {i : Nat} (hi : i < l.length) : Ret 102 #[s.val, .int .i64 (i : Int), .int .i64 ((i + 1 : Nat) : Int)] w
    (fun v w' => ∃ s' : Sl, v = s'.val ∧ s'.val.ownBlock = s.val.ownBlock ∧ Own base 84 w' s' 65 Ask.cells (l.take i ++ l.drop (i + 1)) ∧ Keeps s.val.ownBlock.toList w w') := by
  obtain ⟨g, cap, cur, rfl, hop, ht⟩ := ho.open (by omega)
  have hn := ho.big
  have hnc := hop.nc
  obtain ⟨of, hof⟩ : ∃ o, (if cap = i + 1 then 0 else (i + 1) * 65) = o := ⟨_, rfl⟩
  show Ret 102 #[.slice (some ⟨g, 0, none⟩) l.length cap, _, _] w _
  have hM0 : Mem w [g] [] w := ⟨Keeps.refl _ _, by simp, by simp, by simp⟩
  refine enter Tryz.func102 rfl rfl ?_
  refine c_sr ?_
  refine l_v rfl (r_assign rfl) ?_
  refine l_nil ?_
  refine c_sr ?_
  refine l_v rfl (r_move rfl) ?_
  refine l_v rfl (r_move rfl) ?_
  refine l_v rfl (r_move rfl) ?_
  refine l_v rfl (r_move rfl) ?_
  refine l_v rfl (r_len Tryz.underlying34 rfl) ?_
  refine l_v rfl (r_sliceLHM Tryz.underlying34 Tryz.sizeOf84 rfl rfl rfl rfl (by omega) (by omega) (by omega)) ?_
  refine l_nil ?_
  refine c_seq ?_
  refine c_sr ?_
  refine l_v rfl (r_move rfl) ?_
  refine l_v rfl (r_move rfl) ?_
  refine l_v rfl (r_eql (b := decide ((i : Nat) = i + 1)) rfl rfl (neq' i (i + 1))) ?_
  refine l_nil ?_
  refine c_condF rfl (decide_eq_false (by omega)) ?_
  refine c_skip ?_
  refine c_sr ?_
  refine l_v rfl (r_move rfl) ?_
  refine l_v rfl (r_len Tryz.underlying34 rfl) ?_
  refine l_v rfl (r_assign rfl) ?_
  refine l_nil ?_
  refine c_seq ?_
  refine c_regD (Mem w [g] []) [] [(0, true), (1, true), (2, true), (3, true), (4, true), (5, true), (6, false), (7, true)] (by kernel_rfl) ?_
  have hM1 := hM0.drew
  refine s_take hM1 rfl (gn rfl) rfl rfl (fun w h => r_move rfl) ?_
  refine s_take hM1 rfl (gn rfl) rfl rfl (fun w h => r_move rfl) ?_
  refine s_take hM1 rfl (gn rfl) rfl rfl (fun w h => r_sliceHi Tryz.underlying34 Tryz.sizeOf84 rfl rfl (by omega)) ?_
  refine s_take hM1 rfl (gn rfl) rfl rfl (fun w h => r_move rfl) ?_
  refine s_take hM1 rfl (gn rfl) rfl rfl (fun w h => r_move rfl) ?_
  refine s_take hM1 rfl (gn rfl) rfl rfl (fun w h => r_sliceLoK Tryz.underlying34 Tryz.sizeOf84 rfl rfl (by omega) (by omega) hof) ?_
  obtain ⟨w3, cur8, hr9, hop6, ht7, hK4⟩ := del_run elAsk enAsk (hop.keep0 (Keeps.drew _)) ht hi hof 34
  have hM5 : Mem w [g] [] w3 := ⟨hM1.kp.then hK4 (by simp), by simp, by simp, by simp⟩
  refine s_val rfl (gn rfl) rfl rfl (r_appendK rfl rfl hr9) (.inr hM5) ?_
  refine s_take hM5 rfl (gn rfl) rfl rfl (fun w h => r_assign rfl) ?_
  refine s_nil ?_
  refine c_sr ?_
  refine l_v rfl (r_move rfl) ?_
  refine l_v rfl (r_move rfl) ?_
  refine l_v rfl (r_len Tryz.underlying34 rfl) ?_
  refine l_v rfl (r_move rfl) ?_
  refine l_v rfl (r_sliceLH Tryz.underlying34 Tryz.sizeOf84 rfl rfl rfl (by omega) (by omega) (by omega)) ?_
  obtain ⟨w10, cur15, hr16, hop13, ht14, hK11⟩ := clr_run (n := l.length - 1) (m := l.length - (l.length - 1)) (c := cap - (l.length - 1)) (off := (l.length - 1) * 65) elAsk hop6 (by omega) (by omega) rfl (z1_of Ask.zv (Ask.one _) w3) 0
  have hM12 : Mem w [g] [] w10 := ⟨hM5.kp.then hK11 (by simp), by simp, by simp, by simp⟩
  refine l_vnone (gn rfl) rfl (r_clearK rfl hr16) ?_
  refine l_nil ?_
  refine c_sr ?_
  refine l_v rfl (r_move rfl) ?_
  refine l_v rfl (r_assign rfl) ?_
  refine l_nil ?_
  refine c_ret ?_
  refine ret1 rfl rfl ?_
  have hdl := del_len hi
  exact ⟨⟨some ⟨g, 0, none⟩, l.length - 1, cap⟩, rfl, rfl, Own.shut enAsk hop13 hdl.symm (by rw [hdl, ht14, ht7]) (by omega), hM12.kp⟩
theorem f105e {w : World} {base : Nat} {s : Sl} {l : List Ask} (ho : Own base 84 w s 65 Ask.cells l) {vb t : Nat} {x : Ask} (hv : Blk w vb (Ask.cells x) t) (hb : (l.length + 1) * 68 ≤ 140737488355328) (hw : base ≤ w.heap.size) {i : Nat} (hi : i = l.length) : Ret 105 #[s.val, .int .i64 (i : Int), .slice (some ⟨vb, 0, none⟩) 1 1] w
    (fun v w' => ∃ s' : Sl, v = s'.val ∧ NB w s s' ∧ Own base 84 w' s' 65 Ask.cells (l.take i ++ x :: l.drop i) ∧ Keeps s.val.ownBlock.toList w w') := by
  have hn := ho.big
  have hM0 : Mem w s.val.ownBlock.toList [] w := ⟨Keeps.refl _ _, by simp, by simp, by simp⟩
  have hR := ho.row enAsk
  have hsl := hR.len
  refine enter Tryz.func105 rfl rfl ?_
  refine c_sr ?_
  refine l_v rfl (r_assign rfl) ?_
  refine l_nil ?_
  refine c_sr ?_
  refine l_v rfl (r_move rfl) ?_
  refine l_v rfl (r_move rfl) ?_
  refine l_v rfl (r_sliceLo Tryz.underlying34 Tryz.sizeOf84 rfl rfl (by omega) hR.cap) ?_
  refine l_nil ?_
  refine c_sr ?_
  refine l_v rfl (r_move rfl) ?_
  refine l_v rfl (r_len Tryz.underlying34 rfl) ?_
  refine l_v rfl (r_assign rfl) ?_
  refine l_nil ?_
  refine c_seq ?_
  refine c_sr ?_
  refine l_v rfl (r_move rfl) ?_
  refine l_v rfl (r_eql (b := false) rfl rfl (by decide)) ?_
  refine l_nil ?_
  refine c_condF rfl rfl ?_
  refine c_skip ?_
  refine c_sr ?_
  refine l_v rfl (r_move rfl) ?_
  refine l_v rfl (r_lenR Tryz.underlying34 rfl hR.len) ?_
  refine l_v rfl (r_assign rfl) ?_
  refine l_nil ?_
  refine c_seq ?_
  refine c_sr ?_
  refine l_v rfl (r_move rfl) ?_
  refine l_v rfl (r_move rfl) ?_
  refine l_v rfl (r_eql (b := decide ((i : Nat) = l.length)) rfl rfl (neq' i l.length)) ?_
  refine l_nil ?_
  refine c_condT rfl (decide_eq_true hi) ?_
  refine c_sr ?_
  refine l_v rfl (r_move rfl) ?_
  refine l_v rfl (r_move rfl) ?_
  obtain ⟨sn6, w1, hr5, hop4, hK2, hnb7⟩ := app_run (c := 1) elAsk enAsk ho hv hb hw 34
  have hM3 : Mem w s.val.ownBlock.toList [] w1 := ⟨hK2, by simp, by simp, by simp⟩
  refine l_v rfl (r_appendK rfl rfl hr5) ?_
  refine l_v rfl (r_assign rfl) ?_
  refine l_nil ?_
  refine c_ret ?_
  refine ret1 rfl rfl ?_
  exact ⟨sn6, rfl, hnb7, by rw [← ins_end hi]; exact hop4, hK2⟩
theorem f105m {w : World} {base : Nat} {s : Sl} {l : List Ask} (ho : Own base 84 w s 65 Ask.cells l) {vb t : Nat} {x : Ask} (hv : Blk w vb (Ask.cells x) t) (hb : (l.length + 1) * 68 ≤ 140737488355328) (hw : base ≤ w.heap.size) (hvb : s.val.ownBlock ≠ some vb) {i : Nat} (hi : i < l.length) : Ret 105 #[s.val, .int .i64 (i : Int), .slice (some ⟨vb, 0, none⟩) 1 1] w
    (fun v w' => ∃ s' : Sl, v = s'.val ∧ NB w s s' ∧ Own base 84 w' s' 65 Ask.cells (l.take i ++ x :: l.drop i) ∧ Keeps s.val.ownBlock.toList w w') := by
  obtain ⟨g, cap, cur, rfl, hop, ht⟩ := ho.open (by omega)
  have hn := ho.big
  have hnc := hop.nc
  have hml := hop.ml
  simp only [maxLen] at hml
  have hgv : vb ≠ g := fun h => hvb (by rw [h]; rfl)
  have hgl := hop.blk.lt
  have hvl := hv.lt
  show Ret 105 #[.slice (some ⟨g, 0, none⟩) l.length cap, _, _] w _
  have hM0 : Mem w [g] [] w := ⟨Keeps.refl _ _, by simp, by simp, by simp⟩
  refine enter Tryz.func105 rfl rfl ?_
  refine c_sr ?_
  refine l_v rfl (r_assign rfl) ?_
  refine l_nil ?_
  refine c_sr ?_
  refine l_v rfl (r_move rfl) ?_
  refine l_v rfl (r_move rfl) ?_
  refine l_v rfl (r_sliceLoK Tryz.underlying34 Tryz.sizeOf84 rfl rfl (by omega) (by omega) (if_neg (by omega))) ?_
  refine l_nil ?_
  refine c_sr ?_
  refine l_v rfl (r_move rfl) ?_
  refine l_v rfl (r_len Tryz.underlying34 rfl) ?_
  refine l_v rfl (r_assign rfl) ?_
  refine l_nil ?_
  refine c_seq ?_
  refine c_sr ?_
  refine l_v rfl (r_move rfl) ?_
  refine l_v rfl (r_eql (b := false) rfl rfl (by decide)) ?_
  refine l_nil ?_
  refine c_condF rfl rfl ?_
  refine c_skip ?_
  refine c_sr ?_
  refine l_v rfl (r_move rfl) ?_
  refine l_v rfl (r_len Tryz.underlying34 rfl) ?_
  refine l_v rfl (r_assign rfl) ?_
  refine l_nil ?_
  refine c_seq ?_
  refine c_sr ?_
  refine l_v rfl (r_move rfl) ?_
  refine l_v rfl (r_move rfl) ?_
  refine l_v rfl (r_eql (b := decide ((i : Nat) = l.length)) rfl rfl (neq' i l.length)) ?_
  refine l_nil ?_
  refine c_condF rfl (decide_eq_false (by omega)) ?_
  refine c_skip ?_
  refine c_seq ?_
  refine c_sr ?_
  refine l_v rfl (r_move rfl) ?_
  refine l_v rfl (r_move rfl) ?_
  refine l_v rfl (r_add (r := ((l.length + 1 : Nat) : Int)) rfl rfl (nadd (i := l.length) (k := 1) (m := l.length + 1) (by omega) (by omega))) ?_
  refine l_v rfl (r_move rfl) ?_
  refine l_v rfl (r_cap Tryz.underlying34 rfl) ?_
  refine l_v rfl (r_gtr (b := decide ((cap : Nat) < l.length + 1)) rfl rfl (nlt cap (l.length + 1))) ?_
  refine l_nil ?_
  refine ways (decide ((cap : Nat) < l.length + 1)) (fun h1 => ?_) (fun h1 => ?_)
  ·skip
   have hp2 : (cap : Nat) < l.length + 1 := of_decide_eq_true h1
   refine c_condT rfl h1 ?_
   refine c_sr ?_
   refine l_v rfl (r_move rfl) ?_
   refine l_v rfl (r_move rfl) ?_
   refine l_v rfl (r_sliceHi Tryz.underlying34 Tryz.sizeOf84 rfl rfl (by omega)) ?_
   refine l_v rfl (r_move rfl) ?_
   refine l_v rfl (r_move rfl) ?_
   refine l_v rfl (r_add (r := ((l.length + 1 : Nat) : Int)) rfl rfl (nadd (i := l.length) (k := 1) (m := l.length + 1) (by omega) (by omega))) ?_
   refine l_v rfl (r_move rfl) ?_
   refine l_v rfl (r_sub (r := (((l.length + 1) - i : Nat) : Int)) rfl rfl (nsub (i := l.length + 1) (k := i) (m := (l.length + 1) - i) (by omega) (by omega))) ?_
   obtain ⟨g8, w3, cap9, cur10, hr7, hop6, ht11, hK4, hg12⟩ := grow_run elAsk hi hop (by omega) hb hw 34
   have hnc2 := hop6.nc
   have hcs2 := hop6.cs
   have hM5 := hM0.keep hK4
   refine l_v rfl (r_appendK rfl rfl hr7) ?_
   refine l_v rfl (r_assign rfl) ?_
   refine l_nil ?_
   refine c_sr ?_
   refine l_v rfl (r_move rfl) ?_
   refine l_v rfl (r_move rfl) ?_
   refine l_v rfl (r_sliceLoK Tryz.underlying34 Tryz.sizeOf84 rfl rfl (by omega) (by omega) (if_neg (by omega))) ?_
   refine l_v rfl (r_move rfl) ?_
   obtain ⟨w13, hr17, hop16, hK14⟩ := cpy1_run (i := i) (dl := (l.length + 1) - i) (dc := cap9 - i) (c := 1) elAsk enAsk hop6 (hv.keep hM5.kp (by simp; omega)) (by omega) (by omega) 3
   have hM15 : Mem w [g] [] w13 := ⟨hM5.kp.then hK14 (fun y hy => .inr (by simp at hy; subst hy; exact hg12)), by simp, by simp, by simp⟩
   refine l_v rfl (r_copyK rfl rfl hr17) ?_
   refine l_nil ?_
   refine c_seq ?_
   refine c_regD (Mem w [g] []) [] [(0, true), (1, true), (2, true), (3, true), (4, true), (5, true), (6, true), (7, true), (8, false)] (by kernel_rfl) ?_
   have hM18 := hM15.drew
   refine s_take hM18 rfl (gn rfl) rfl rfl (fun w h => r_move rfl) ?_
   refine s_take hM18 rfl (gn rfl) rfl rfl (fun w h => r_move rfl) ?_
   refine s_take hM18 rfl (gn rfl) rfl rfl (fun w h => r_move rfl) ?_
   refine s_take hM18 rfl (gn rfl) rfl rfl (fun w h => r_add (r := ((i + 1 : Nat) : Int)) rfl rfl (nadd (i := i) (k := 1) (m := i + 1) (by omega) (by omega))) ?_
   refine s_take hM18 rfl (gn rfl) rfl rfl (fun w h => r_sliceLoK Tryz.underlying34 Tryz.sizeOf84 rfl rfl (by omega) (by omega) (if_neg (by omega))) ?_
   refine s_take hM18 rfl (gn rfl) rfl rfl (fun w h => r_move rfl) ?_
   refine s_take hM18 rfl (gn rfl) rfl rfl (fun w h => r_move rfl) ?_
   refine s_take hM18 rfl (gn rfl) rfl rfl (fun w h => r_sliceLoK Tryz.underlying34 Tryz.sizeOf84 rfl rfl (by omega) (by omega) (if_neg (by omega))) ?_
   obtain ⟨w20, hr24, hop23, hK21⟩ := cpy_run (i := i) (dl := (l.length + 1) - (i + 1)) (dc := cap9 - (i + 1)) (sl := l.length - i) (c := cap - i) elAsk enAsk (hop16.keep0 (Keeps.drew _)) ((((hop.keep0 hK4).keep hK14 (by simp; omega)).keep0 (Keeps.drew _)).cells enAsk ht i) hi (min_is (by omega)) 3
   have hM22 : Mem w [g] [] w20 := ⟨hM18.kp.then hK21 (fun y hy => .inr (by simp at hy; subst hy; exact hg12)), by simp, by simp, by simp⟩
   refine s_val rfl (gn rfl) rfl rfl (r_copyK rfl rfl hr24) (.inr hM22) ?_
   refine s_nil ?_
   refine c_sr ?_
   refine l_v rfl (r_move rfl) ?_
   refine l_v rfl (r_assign rfl) ?_
   refine l_nil ?_
   refine c_ret ?_
   refine ret1 rfl rfl ?_
   have hfit : (l.length + 1) * 65 ≤ cur10.size := by rw [hcs2]; exact Nat.mul_le_mul_right _ (by omega)
   have hfl := ins_flat (x := x) enAsk hfit hi (by rw [ht11, ← flat_take enAsk, ← ht, List.take_take, Nat.min_eq_left (Nat.mul_le_mul_right _ (by omega))])
   exact ⟨⟨some ⟨g8, 0, none⟩, l.length + 1, cap9⟩, rfl, fun k hk => .inr (by simp only [Sl.val, Value.ownBlock, Option.some.injEq] at hk; omega), Own.shut enAsk hop23 (ins_len (by omega)).symm hfl.2 (by rw [ins_len (by omega)]; omega), hM22.kp⟩
  ·skip
   have hp25 : ¬ ((cap : Nat) < l.length + 1) := of_decide_eq_false h1
   refine c_condF rfl h1 ?_
   refine c_skip ?_
   refine c_sr ?_
   refine l_v rfl (r_move rfl) ?_
   refine l_v rfl (r_move rfl) ?_
   refine l_v rfl (r_move rfl) ?_
   refine l_v rfl (r_add (r := ((l.length + 1 : Nat) : Int)) rfl rfl (nadd (i := l.length) (k := 1) (m := l.length + 1) (by omega) (by omega))) ?_
   refine l_v rfl (r_sliceHi Tryz.underlying34 Tryz.sizeOf84 rfl rfl (by omega)) ?_
   refine l_v rfl (r_assign rfl) ?_
   refine l_nil ?_
   refine c_seq ?_
   refine c_sr ?_
   refine l_v rfl (r_move rfl) ?_
   refine l_v rfl (r_move rfl) ?_
   refine l_v rfl (r_move rfl) ?_
   refine l_v rfl (r_move rfl) ?_
   refine l_v rfl (r_add (r := ((i + 1 : Nat) : Int)) rfl rfl (nadd (i := i) (k := 1) (m := i + 1) (by omega) (by omega))) ?_
   refine l_v rfl (r_sliceLoK Tryz.underlying34 Tryz.sizeOf84 rfl rfl (by omega) (by omega) (if_neg (by omega))) ?_
   refine l_v rfl (r_ovl Tryz.func126 (by kernel_rfl) (by kernel_rfl) (by kernel_rfl) (tR := 4) (by kernel_rfl) Tryz.underlying34 Tryz.sizeOf84 rfl rfl (by omega) (hv.keep hM0.kp (by simp; omega)) hop.blk (by have := hop.cs; rw [this]; intro h0; have := Nat.mul_le_mul_right 65 (show 1 ≤ cap by omega); omega)) ?_
   refine l_v rfl (r_not rfl) ?_
   refine l_nil ?_
   refine c_condT rfl rfl ?_
   refine c_seq ?_
   refine c_regD (Mem w [g] []) [] [(0, true), (1, true), (2, true), (3, true), (4, true), (5, true), (6, true), (7, true), (8, false)] (by kernel_rfl) ?_
   have hM26 := hM0.drew
   refine s_take hM26 rfl (gn rfl) rfl rfl (fun w h => r_move rfl) ?_
   refine s_take hM26 rfl (gn rfl) rfl rfl (fun w h => r_move rfl) ?_
   refine s_take hM26 rfl (gn rfl) rfl rfl (fun w h => r_move rfl) ?_
   refine s_take hM26 rfl (gn rfl) rfl rfl (fun w h => r_add (r := ((i + 1 : Nat) : Int)) rfl rfl (nadd (i := i) (k := 1) (m := i + 1) (by omega) (by omega))) ?_
   refine s_take hM26 rfl (gn rfl) rfl rfl (fun w h => r_sliceLoK Tryz.underlying34 Tryz.sizeOf84 rfl rfl (by omega) (by omega) (if_neg (by omega))) ?_
   refine s_take hM26 rfl (gn rfl) rfl rfl (fun w h => r_move rfl) ?_
   refine s_take hM26 rfl (gn rfl) rfl rfl (fun w h => r_move rfl) ?_
   refine s_take hM26 rfl (gn rfl) rfl rfl (fun w h => r_sliceLoK Tryz.underlying34 Tryz.sizeOf84 rfl rfl (by omega) (by omega) (if_neg (by omega))) ?_
   have hsrc : Op base 84 w.drew g cap cur 65 l.length := ⟨hop.lo, ((hop.keep0 (Keeps.drew _))).blk, hop.nc, hop.ml, hop.cs⟩
   obtain ⟨w28, hr32, hop31, hK29⟩ := cpy_run (i := i) (dl := (l.length + 1) - (i + 1)) (dc := cap - (i + 1)) (sl := (l.length + 1) - i) (c := cap - i) elAsk enAsk (show Op base 84 w.drew g cap cur 65 (l.length + 1) from ⟨hop.lo, ((hop.keep0 (Keeps.drew _))).blk, by omega, hop.ml, hop.cs⟩) (hsrc.cells enAsk ht i) hi (min_is (by omega)) 3
   have hM30 : Mem w [g] [] w28 := ⟨hM26.kp.then hK29 (by simp), by simp, by simp, by simp⟩
   refine s_val rfl (gn rfl) rfl rfl (r_copyK rfl rfl hr32) (.inr hM30) ?_
   refine s_nil ?_
   refine c_sr ?_
   refine l_v rfl (r_move rfl) ?_
   refine l_v rfl (r_move rfl) ?_
   refine l_v rfl (r_sliceLoK Tryz.underlying34 Tryz.sizeOf84 rfl rfl (by omega) (by omega) (if_neg (by omega))) ?_
   refine l_v rfl (r_move rfl) ?_
   obtain ⟨w33, hr37, hop36, hK34⟩ := cpy1_run (i := i) (dl := (l.length + 1) - i) (dc := cap - i) (c := 1) elAsk enAsk hop31 (hv.keep hM30.kp (by simp; omega)) (by omega) (by omega) 3
   have hM35 : Mem w [g] [] w33 := ⟨hM30.kp.then hK34 (by simp), by simp, by simp, by simp⟩
   refine l_v rfl (r_copyK rfl rfl hr37) ?_
   refine l_nil ?_
   refine c_sr ?_
   refine l_v rfl (r_move rfl) ?_
   refine l_v rfl (r_assign rfl) ?_
   refine l_nil ?_
   refine c_ret ?_
   refine ret1 rfl rfl ?_
   have hcs := hop.cs
   have hfit : (l.length + 1) * 65 ≤ cur.size := by rw [hcs]; exact Nat.mul_le_mul_right _ (by omega)
   have hfl := ins_flat (x := x) enAsk hfit hi (by rw [← flat_take enAsk, ← ht, List.take_take, Nat.min_eq_left (Nat.mul_le_mul_right _ (by omega))])
   exact ⟨⟨some ⟨g, 0, none⟩, l.length + 1, cap⟩, rfl, fun k hk => .inl hk, Own.shut enAsk hop36 (ins_len (by omega)).symm hfl.1 (by rw [ins_len (by omega)]; omega), hM35.kp⟩
theorem f105 {w : World} {base : Nat} {s : Sl} {l : List Ask} (ho : Own base 84 w s 65 Ask.cells l) {vb t : Nat} {x : Ask} (hv : Blk w vb (Ask.cells x) t) (hb : (l.length + 1) * 68 ≤ 140737488355328) (hw : base ≤ w.heap.size) (hvb : s.val.ownBlock ≠ some vb) {i : Nat} (hi : i ≤ l.length) : Ret 105 #[s.val, .int .i64 (i : Int), .slice (some ⟨vb, 0, none⟩) 1 1] w
    (fun v w' => ∃ s' : Sl, v = s'.val ∧ NB w s s' ∧ Own base 84 w' s' 65 Ask.cells (l.take i ++ x :: l.drop i) ∧ Keeps s.val.ownBlock.toList w w') := by
  rcases Nat.lt_or_eq_of_le hi with h | h
  · exact f105m ho hv hb hw hvb h
  · exact f105e ho hv hb hw h
theorem f128 {w : World} {base : Nat} {s : Sl} {l : List Ban} (ho : Own base 86 w s 128 Ban.cells l) {i : Nat} (hi : i < l.length) : Ret 128 #[s.val, .int .i64 (i : Int), .int .i64 ((i + 1 : Nat) : Int)] w
    (fun v w' => ∃ s' : Sl, v = s'.val ∧ s'.val.ownBlock = s.val.ownBlock ∧ Own base 86 w' s' 128 Ban.cells (l.take i ++ l.drop (i + 1)) ∧ Keeps s.val.ownBlock.toList w w') := by
  obtain ⟨g, cap, cur, rfl, hop, ht⟩ := ho.open (by omega)
  have hn := ho.big
  have hnc := hop.nc
  obtain ⟨of, hof⟩ : ∃ o, (if cap = i + 1 then 0 else (i + 1) * 128) = o := ⟨_, rfl⟩
  show Ret 128 #[.slice (some ⟨g, 0, none⟩) l.length cap, _, _] w _
  have hM0 : Mem w [g] [] w := ⟨Keeps.refl _ _, by simp, by simp, by simp⟩
  refine enter Tryz.func128 rfl rfl ?_
  refine c_sr ?_
  refine l_v rfl (r_assign rfl) ?_
  refine l_nil ?_
  refine c_sr ?_
  refine l_v rfl (r_move rfl) ?_
  refine l_v rfl (r_move rfl) ?_
  refine l_v rfl (r_move rfl) ?_
  refine l_v rfl (r_move rfl) ?_
  refine l_v rfl (r_len Tryz.underlying35 rfl) ?_
  refine l_v rfl (r_sliceLHM Tryz.underlying35 Tryz.sizeOf86 rfl rfl rfl rfl (by omega) (by omega) (by omega)) ?_
  refine l_nil ?_
  refine c_seq ?_
  refine c_sr ?_
  refine l_v rfl (r_move rfl) ?_
  refine l_v rfl (r_move rfl) ?_
  refine l_v rfl (r_eql (b := decide ((i : Nat) = i + 1)) rfl rfl (neq' i (i + 1))) ?_
  refine l_nil ?_
  refine c_condF rfl (decide_eq_false (by omega)) ?_
  refine c_skip ?_
  refine c_sr ?_
  refine l_v rfl (r_move rfl) ?_
  refine l_v rfl (r_len Tryz.underlying35 rfl) ?_
  refine l_v rfl (r_assign rfl) ?_
  refine l_nil ?_
  refine c_seq ?_
  refine c_regD (Mem w [g] []) [] [(0, true), (1, true), (2, true), (3, true), (4, true), (5, true), (6, false), (7, true)] (by kernel_rfl) ?_
  have hM1 := hM0.drew
  refine s_take hM1 rfl (gn rfl) rfl rfl (fun w h => r_move rfl) ?_
  refine s_take hM1 rfl (gn rfl) rfl rfl (fun w h => r_move rfl) ?_
  refine s_take hM1 rfl (gn rfl) rfl rfl (fun w h => r_sliceHi Tryz.underlying35 Tryz.sizeOf86 rfl rfl (by omega)) ?_
  refine s_take hM1 rfl (gn rfl) rfl rfl (fun w h => r_move rfl) ?_
  refine s_take hM1 rfl (gn rfl) rfl rfl (fun w h => r_move rfl) ?_
  refine s_take hM1 rfl (gn rfl) rfl rfl (fun w h => r_sliceLoK Tryz.underlying35 Tryz.sizeOf86 rfl rfl (by omega) (by omega) hof) ?_
  obtain ⟨w3, cur8, hr9, hop6, ht7, hK4⟩ := del_run elBan enBan (hop.keep0 (Keeps.drew _)) ht hi hof 35
  have hM5 : Mem w [g] [] w3 := ⟨hM1.kp.then hK4 (by simp), by simp, by simp, by simp⟩
  refine s_val rfl (gn rfl) rfl rfl (r_appendK rfl rfl hr9) (.inr hM5) ?_
  refine s_take hM5 rfl (gn rfl) rfl rfl (fun w h => r_assign rfl) ?_
  refine s_nil ?_
  refine c_sr ?_
  refine l_v rfl (r_move rfl) ?_
  refine l_v rfl (r_move rfl) ?_
  refine l_v rfl (r_len Tryz.underlying35 rfl) ?_
  refine l_v rfl (r_move rfl) ?_
  refine l_v rfl (r_sliceLH Tryz.underlying35 Tryz.sizeOf86 rfl rfl rfl (by omega) (by omega) (by omega)) ?_
  obtain ⟨w10, cur15, hr16, hop13, ht14, hK11⟩ := clr_run (n := l.length - 1) (m := l.length - (l.length - 1)) (c := cap - (l.length - 1)) (off := (l.length - 1) * 128) elBan hop6 (by omega) (by omega) rfl (z1_of Ban.zv (Ban.one _) w3) 0
  have hM12 : Mem w [g] [] w10 := ⟨hM5.kp.then hK11 (by simp), by simp, by simp, by simp⟩
  refine l_vnone (gn rfl) rfl (r_clearK rfl hr16) ?_
  refine l_nil ?_
  refine c_sr ?_
  refine l_v rfl (r_move rfl) ?_
  refine l_v rfl (r_assign rfl) ?_
  refine l_nil ?_
  refine c_ret ?_
  refine ret1 rfl rfl ?_
  have hdl := del_len hi
  exact ⟨⟨some ⟨g, 0, none⟩, l.length - 1, cap⟩, rfl, rfl, Own.shut enBan hop13 hdl.symm (by rw [hdl, ht14, ht7]) (by omega), hM12.kp⟩
theorem f129e {w : World} {base : Nat} {s : Sl} {l : List Ban} (ho : Own base 86 w s 128 Ban.cells l) {vb t : Nat} {x : Ban} (hv : Blk w vb (Ban.cells x) t) (hb : (l.length + 1) * 128 ≤ 140737488355328) (hw : base ≤ w.heap.size) {i : Nat} (hi : i = l.length) : Ret 129 #[s.val, .int .i64 (i : Int), .slice (some ⟨vb, 0, none⟩) 1 1] w
    (fun v w' => ∃ s' : Sl, v = s'.val ∧ NB w s s' ∧ Own base 86 w' s' 128 Ban.cells (l.take i ++ x :: l.drop i) ∧ Keeps s.val.ownBlock.toList w w') := by
  have hn := ho.big
  have hM0 : Mem w s.val.ownBlock.toList [] w := ⟨Keeps.refl _ _, by simp, by simp, by simp⟩
  have hR := ho.row enBan
  have hsl := hR.len
  refine enter Tryz.func129 rfl rfl ?_
  refine c_sr ?_
  refine l_v rfl (r_assign rfl) ?_
  refine l_nil ?_
  refine c_sr ?_
  refine l_v rfl (r_move rfl) ?_
  refine l_v rfl (r_move rfl) ?_
  refine l_v rfl (r_sliceLo Tryz.underlying35 Tryz.sizeOf86 rfl rfl (by omega) hR.cap) ?_
  refine l_nil ?_
  refine c_sr ?_
  refine l_v rfl (r_move rfl) ?_
  refine l_v rfl (r_len Tryz.underlying35 rfl) ?_
  refine l_v rfl (r_assign rfl) ?_
  refine l_nil ?_
  refine c_seq ?_
  refine c_sr ?_
  refine l_v rfl (r_move rfl) ?_
  refine l_v rfl (r_eql (b := false) rfl rfl (by decide)) ?_
  refine l_nil ?_
  refine c_condF rfl rfl ?_
  refine c_skip ?_
  refine c_sr ?_
  refine l_v rfl (r_move rfl) ?_
  refine l_v rfl (r_lenR Tryz.underlying35 rfl hR.len) ?_
  refine l_v rfl (r_assign rfl) ?_
  refine l_nil ?_
  refine c_seq ?_
  refine c_sr ?_
  refine l_v rfl (r_move rfl) ?_
  refine l_v rfl (r_move rfl) ?_
  refine l_v rfl (r_eql (b := decide ((i : Nat) = l.length)) rfl rfl (neq' i l.length)) ?_
  refine l_nil ?_
  refine c_condT rfl (decide_eq_true hi) ?_
  refine c_sr ?_
  refine l_v rfl (r_move rfl) ?_
  refine l_v rfl (r_move rfl) ?_
  obtain ⟨sn6, w1, hr5, hop4, hK2, hnb7⟩ := app_run (c := 1) elBan enBan ho hv hb hw 35
  have hM3 : Mem w s.val.ownBlock.toList [] w1 := ⟨hK2, by simp, by simp, by simp⟩
  refine l_v rfl (r_appendK rfl rfl hr5) ?_
  refine l_v rfl (r_assign rfl) ?_
  refine l_nil ?_
  refine c_ret ?_
  refine ret1 rfl rfl ?_
  exact ⟨sn6, rfl, hnb7, by rw [← ins_end hi]; exact hop4, hK2⟩
theorem f129m {w : World} {base : Nat} {s : Sl} {l : List Ban} (ho : Own base 86 w s 128 Ban.cells l) {vb t : Nat} {x : Ban} (hv : Blk w vb (Ban.cells x) t) (hb : (l.length + 1) * 128 ≤ 140737488355328) (hw : base ≤ w.heap.size) (hvb : s.val.ownBlock ≠ some vb) {i : Nat} (hi : i < l.length) : Ret 129 #[s.val, .int .i64 (i : Int), .slice (some ⟨vb, 0, none⟩) 1 1] w
    (fun v w' => ∃ s' : Sl, v = s'.val ∧ NB w s s' ∧ Own base 86 w' s' 128 Ban.cells (l.take i ++ x :: l.drop i) ∧ Keeps s.val.ownBlock.toList w w') := by
  obtain ⟨g, cap, cur, rfl, hop, ht⟩ := ho.open (by omega)
  have hn := ho.big
  have hnc := hop.nc
  have hml := hop.ml
  simp only [maxLen] at hml
  have hgv : vb ≠ g := fun h => hvb (by rw [h]; rfl)
  have hgl := hop.blk.lt
  have hvl := hv.lt
  show Ret 129 #[.slice (some ⟨g, 0, none⟩) l.length cap, _, _] w _
  have hM0 : Mem w [g] [] w := ⟨Keeps.refl _ _, by simp, by simp, by simp⟩
  refine enter Tryz.func129 rfl rfl ?_
  refine c_sr ?_
  refine l_v rfl (r_assign rfl) ?_
  refine l_nil ?_
  refine c_sr ?_
  refine l_v rfl (r_move rfl) ?_
  refine l_v rfl (r_move rfl) ?_
  refine l_v rfl (r_sliceLoK Tryz.underlying35 Tryz.sizeOf86 rfl rfl (by omega) (by omega) (if_neg (by omega))) ?_
  refine l_nil ?_
  refine c_sr ?_
  refine l_v rfl (r_move rfl) ?_
  refine l_v rfl (r_len Tryz.underlying35 rfl) ?_
  refine l_v rfl (r_assign rfl) ?_
  refine l_nil ?_
  refine c_seq ?_
  refine c_sr ?_
  refine l_v rfl (r_move rfl) ?_
  refine l_v rfl (r_eql (b := false) rfl rfl (by decide)) ?_
  refine l_nil ?_
  refine c_condF rfl rfl ?_
  refine c_skip ?_
  refine c_sr ?_
  refine l_v rfl (r_move rfl) ?_
  refine l_v rfl (r_len Tryz.underlying35 rfl) ?_
  refine l_v rfl (r_assign rfl) ?_
  refine l_nil ?_
  refine c_seq ?_
  refine c_sr ?_
  refine l_v rfl (r_move rfl) ?_
  refine l_v rfl (r_move rfl) ?_
  refine l_v rfl (r_eql (b := decide ((i : Nat) = l.length)) rfl rfl (neq' i l.length)) ?_
  refine l_nil ?_
  refine c_condF rfl (decide_eq_false (by omega)) ?_
  refine c_skip ?_
  refine c_seq ?_
  refine c_sr ?_
  refine l_v rfl (r_move rfl) ?_
  refine l_v rfl (r_move rfl) ?_
  refine l_v rfl (r_add (r := ((l.length + 1 : Nat) : Int)) rfl rfl (nadd (i := l.length) (k := 1) (m := l.length + 1) (by omega) (by omega))) ?_
  refine l_v rfl (r_move rfl) ?_
  refine l_v rfl (r_cap Tryz.underlying35 rfl) ?_
  refine l_v rfl (r_gtr (b := decide ((cap : Nat) < l.length + 1)) rfl rfl (nlt cap (l.length + 1))) ?_
  refine l_nil ?_
  refine ways (decide ((cap : Nat) < l.length + 1)) (fun h1 => ?_) (fun h1 => ?_)
  ·skip
   have hp2 : (cap : Nat) < l.length + 1 := of_decide_eq_true h1
   refine c_condT rfl h1 ?_
   refine c_sr ?_
   refine l_v rfl (r_move rfl) ?_
   refine l_v rfl (r_move rfl) ?_
   refine l_v rfl (r_sliceHi Tryz.underlying35 Tryz.sizeOf86 rfl rfl (by omega)) ?_
   refine l_v rfl (r_move rfl) ?_
   refine l_v rfl (r_move rfl) ?_
   refine l_v rfl (r_add (r := ((l.length + 1 : Nat) : Int)) rfl rfl (nadd (i := l.length) (k := 1) (m := l.length + 1) (by omega) (by omega))) ?_
   refine l_v rfl (r_move rfl) ?_
   refine l_v rfl (r_sub (r := (((l.length + 1) - i : Nat) : Int)) rfl rfl (nsub (i := l.length + 1) (k := i) (m := (l.length + 1) - i) (by omega) (by omega))) ?_
   obtain ⟨g8, w3, cap9, cur10, hr7, hop6, ht11, hK4, hg12⟩ := grow_run elBan hi hop (by omega) hb hw 35
   have hnc2 := hop6.nc
   have hcs2 := hop6.cs
   have hM5 := hM0.keep hK4
   refine l_v rfl (r_appendK rfl rfl hr7) ?_
   refine l_v rfl (r_assign rfl) ?_
   refine l_nil ?_
   refine c_sr ?_
   refine l_v rfl (r_move rfl) ?_
   refine l_v rfl (r_move rfl) ?_
   refine l_v rfl (r_sliceLoK Tryz.underlying35 Tryz.sizeOf86 rfl rfl (by omega) (by omega) (if_neg (by omega))) ?_
   refine l_v rfl (r_move rfl) ?_
   obtain ⟨w13, hr17, hop16, hK14⟩ := cpy1_run (i := i) (dl := (l.length + 1) - i) (dc := cap9 - i) (c := 1) elBan enBan hop6 (hv.keep hM5.kp (by simp; omega)) (by omega) (by omega) 3
   have hM15 : Mem w [g] [] w13 := ⟨hM5.kp.then hK14 (fun y hy => .inr (by simp at hy; subst hy; exact hg12)), by simp, by simp, by simp⟩
   refine l_v rfl (r_copyK rfl rfl hr17) ?_
   refine l_nil ?_
   refine c_seq ?_
   refine c_regD (Mem w [g] []) [] [(0, true), (1, true), (2, true), (3, true), (4, true), (5, true), (6, true), (7, true), (8, false)] (by kernel_rfl) ?_
   have hM18 := hM15.drew
   refine s_take hM18 rfl (gn rfl) rfl rfl (fun w h => r_move rfl) ?_
   refine s_take hM18 rfl (gn rfl) rfl rfl (fun w h => r_move rfl) ?_
   refine s_take hM18 rfl (gn rfl) rfl rfl (fun w h => r_move rfl) ?_
   refine s_take hM18 rfl (gn rfl) rfl rfl (fun w h => r_add (r := ((i + 1 : Nat) : Int)) rfl rfl (nadd (i := i) (k := 1) (m := i + 1) (by omega) (by omega))) ?_
   refine s_take hM18 rfl (gn rfl) rfl rfl (fun w h => r_sliceLoK Tryz.underlying35 Tryz.sizeOf86 rfl rfl (by omega) (by omega) (if_neg (by omega))) ?_
   refine s_take hM18 rfl (gn rfl) rfl rfl (fun w h => r_move rfl) ?_
   refine s_take hM18 rfl (gn rfl) rfl rfl (fun w h => r_move rfl) ?_
   refine s_take hM18 rfl (gn rfl) rfl rfl (fun w h => r_sliceLoK Tryz.underlying35 Tryz.sizeOf86 rfl rfl (by omega) (by omega) (if_neg (by omega))) ?_
   obtain ⟨w20, hr24, hop23, hK21⟩ := cpy_run (i := i) (dl := (l.length + 1) - (i + 1)) (dc := cap9 - (i + 1)) (sl := l.length - i) (c := cap - i) elBan enBan (hop16.keep0 (Keeps.drew _)) ((((hop.keep0 hK4).keep hK14 (by simp; omega)).keep0 (Keeps.drew _)).cells enBan ht i) hi (min_is (by omega)) 3
   have hM22 : Mem w [g] [] w20 := ⟨hM18.kp.then hK21 (fun y hy => .inr (by simp at hy; subst hy; exact hg12)), by simp, by simp, by simp⟩
   refine s_val rfl (gn rfl) rfl rfl (r_copyK rfl rfl hr24) (.inr hM22) ?_
   refine s_nil ?_
   refine c_sr ?_
   refine l_v rfl (r_move rfl) ?_
   refine l_v rfl (r_assign rfl) ?_
   refine l_nil ?_
   refine c_ret ?_
   refine ret1 rfl rfl ?_
   have hfit : (l.length + 1) * 128 ≤ cur10.size := by rw [hcs2]; exact Nat.mul_le_mul_right _ (by omega)
   have hfl := ins_flat (x := x) enBan hfit hi (by rw [ht11, ← flat_take enBan, ← ht, List.take_take, Nat.min_eq_left (Nat.mul_le_mul_right _ (by omega))])
   exact ⟨⟨some ⟨g8, 0, none⟩, l.length + 1, cap9⟩, rfl, fun k hk => .inr (by simp only [Sl.val, Value.ownBlock, Option.some.injEq] at hk; omega), Own.shut enBan hop23 (ins_len (by omega)).symm hfl.2 (by rw [ins_len (by omega)]; omega), hM22.kp⟩
  ·skip
   have hp25 : ¬ ((cap : Nat) < l.length + 1) := of_decide_eq_false h1
   refine c_condF rfl h1 ?_
   refine c_skip ?_
   refine c_sr ?_
   refine l_v rfl (r_move rfl) ?_
   refine l_v rfl (r_move rfl) ?_
   refine l_v rfl (r_move rfl) ?_
   refine l_v rfl (r_add (r := ((l.length + 1 : Nat) : Int)) rfl rfl (nadd (i := l.length) (k := 1) (m := l.length + 1) (by omega) (by omega))) ?_
   refine l_v rfl (r_sliceHi Tryz.underlying35 Tryz.sizeOf86 rfl rfl (by omega)) ?_
   refine l_v rfl (r_assign rfl) ?_
   refine l_nil ?_
   refine c_seq ?_
   refine c_sr ?_
   refine l_v rfl (r_move rfl) ?_
   refine l_v rfl (r_move rfl) ?_
   refine l_v rfl (r_move rfl) ?_
   refine l_v rfl (r_move rfl) ?_
   refine l_v rfl (r_add (r := ((i + 1 : Nat) : Int)) rfl rfl (nadd (i := i) (k := 1) (m := i + 1) (by omega) (by omega))) ?_
   refine l_v rfl (r_sliceLoK Tryz.underlying35 Tryz.sizeOf86 rfl rfl (by omega) (by omega) (if_neg (by omega))) ?_
   refine l_v rfl (r_ovl Tryz.func136 (by kernel_rfl) (by kernel_rfl) (by kernel_rfl) (tR := 4) (by kernel_rfl) Tryz.underlying35 Tryz.sizeOf86 rfl rfl (by omega) (hv.keep hM0.kp (by simp; omega)) hop.blk (by have := hop.cs; rw [this]; intro h0; have := Nat.mul_le_mul_right 128 (show 1 ≤ cap by omega); omega)) ?_
   refine l_v rfl (r_not rfl) ?_
   refine l_nil ?_
   refine c_condT rfl rfl ?_
   refine c_seq ?_
   refine c_regD (Mem w [g] []) [] [(0, true), (1, true), (2, true), (3, true), (4, true), (5, true), (6, true), (7, true), (8, false)] (by kernel_rfl) ?_
   have hM26 := hM0.drew
   refine s_take hM26 rfl (gn rfl) rfl rfl (fun w h => r_move rfl) ?_
   refine s_take hM26 rfl (gn rfl) rfl rfl (fun w h => r_move rfl) ?_
   refine s_take hM26 rfl (gn rfl) rfl rfl (fun w h => r_move rfl) ?_
   refine s_take hM26 rfl (gn rfl) rfl rfl (fun w h => r_add (r := ((i + 1 : Nat) : Int)) rfl rfl (nadd (i := i) (k := 1) (m := i + 1) (by omega) (by omega))) ?_
   refine s_take hM26 rfl (gn rfl) rfl rfl (fun w h => r_sliceLoK Tryz.underlying35 Tryz.sizeOf86 rfl rfl (by omega) (by omega) (if_neg (by omega))) ?_
   refine s_take hM26 rfl (gn rfl) rfl rfl (fun w h => r_move rfl) ?_
   refine s_take hM26 rfl (gn rfl) rfl rfl (fun w h => r_move rfl) ?_
   refine s_take hM26 rfl (gn rfl) rfl rfl (fun w h => r_sliceLoK Tryz.underlying35 Tryz.sizeOf86 rfl rfl (by omega) (by omega) (if_neg (by omega))) ?_
   have hsrc : Op base 86 w.drew g cap cur 128 l.length := ⟨hop.lo, ((hop.keep0 (Keeps.drew _))).blk, hop.nc, hop.ml, hop.cs⟩
   obtain ⟨w28, hr32, hop31, hK29⟩ := cpy_run (i := i) (dl := (l.length + 1) - (i + 1)) (dc := cap - (i + 1)) (sl := (l.length + 1) - i) (c := cap - i) elBan enBan (show Op base 86 w.drew g cap cur 128 (l.length + 1) from ⟨hop.lo, ((hop.keep0 (Keeps.drew _))).blk, by omega, hop.ml, hop.cs⟩) (hsrc.cells enBan ht i) hi (min_is (by omega)) 3
   have hM30 : Mem w [g] [] w28 := ⟨hM26.kp.then hK29 (by simp), by simp, by simp, by simp⟩
   refine s_val rfl (gn rfl) rfl rfl (r_copyK rfl rfl hr32) (.inr hM30) ?_
   refine s_nil ?_
   refine c_sr ?_
   refine l_v rfl (r_move rfl) ?_
   refine l_v rfl (r_move rfl) ?_
   refine l_v rfl (r_sliceLoK Tryz.underlying35 Tryz.sizeOf86 rfl rfl (by omega) (by omega) (if_neg (by omega))) ?_
   refine l_v rfl (r_move rfl) ?_
   obtain ⟨w33, hr37, hop36, hK34⟩ := cpy1_run (i := i) (dl := (l.length + 1) - i) (dc := cap - i) (c := 1) elBan enBan hop31 (hv.keep hM30.kp (by simp; omega)) (by omega) (by omega) 3
   have hM35 : Mem w [g] [] w33 := ⟨hM30.kp.then hK34 (by simp), by simp, by simp, by simp⟩
   refine l_v rfl (r_copyK rfl rfl hr37) ?_
   refine l_nil ?_
   refine c_sr ?_
   refine l_v rfl (r_move rfl) ?_
   refine l_v rfl (r_assign rfl) ?_
   refine l_nil ?_
   refine c_ret ?_
   refine ret1 rfl rfl ?_
   have hcs := hop.cs
   have hfit : (l.length + 1) * 128 ≤ cur.size := by rw [hcs]; exact Nat.mul_le_mul_right _ (by omega)
   have hfl := ins_flat (x := x) enBan hfit hi (by rw [← flat_take enBan, ← ht, List.take_take, Nat.min_eq_left (Nat.mul_le_mul_right _ (by omega))])
   exact ⟨⟨some ⟨g, 0, none⟩, l.length + 1, cap⟩, rfl, fun k hk => .inl hk, Own.shut enBan hop36 (ins_len (by omega)).symm hfl.1 (by rw [ins_len (by omega)]; omega), hM35.kp⟩
theorem f129 {w : World} {base : Nat} {s : Sl} {l : List Ban} (ho : Own base 86 w s 128 Ban.cells l) {vb t : Nat} {x : Ban} (hv : Blk w vb (Ban.cells x) t) (hb : (l.length + 1) * 128 ≤ 140737488355328) (hw : base ≤ w.heap.size) (hvb : s.val.ownBlock ≠ some vb) {i : Nat} (hi : i ≤ l.length) : Ret 129 #[s.val, .int .i64 (i : Int), .slice (some ⟨vb, 0, none⟩) 1 1] w
    (fun v w' => ∃ s' : Sl, v = s'.val ∧ NB w s s' ∧ Own base 86 w' s' 128 Ban.cells (l.take i ++ x :: l.drop i) ∧ Keeps s.val.ownBlock.toList w w') := by
  rcases Nat.lt_or_eq_of_le hi with h | h
  · exact f129m ho hv hb hw hvb h
  · exact f129e ho hv hb hw h
end Go.Proofs.YtekhaogjmmmniaaGreat
namespace Go.Proofs.YtekhaogjmmmniaaGreat
open Go Go.RowKit

/-- The slice's own block is none of these. -/
def Sp (s : Sl) (xs : List Nat) : Prop := ∀ x ∈ xs, s.val.ownBlock ≠ some x

section sp
variable {α : Type} {sz base x z : Nat} {enc : α → Array Value} {l : List α} {e : TypeId} {W w w' : World} {s s' : Sl} {X : List Nat} {L : List Ent} {xs ys : List Nat}
theorem Sp.nil : Sp s [] := fun _ h => by cases h
theorem Sp.cons (h : Sp s xs) (hx : s.val.ownBlock ≠ some x) : Sp s (x :: xs) := fun y hy => by
  cases hy with
  | head => exact hx
  | tail _ hy => exact h y hy
theorem Own.lo (h : Own base e w s sz enc l) (hx : x < base) : s.val.ownBlock ≠ some x := fun hc => by have := (h.own.lt x hc).1; omega
theorem Own.hi (h : Own base e w s sz enc l) (hx : w.heap.size ≤ x) : s.val.ownBlock ≠ some x := fun hc => by have := (h.own.lt x hc).2; omega
theorem NB.refl (w : World) (s : Sl) : NB w s s := fun _ h => .inl h
theorem NB.of_eq (h : s'.val.ownBlock = s.val.ownBlock) : NB w s s' := fun k hk => .inl (h ▸ hk)
theorem NB.earlier (h : NB w' s s') (k : Keeps X w w') : NB w s s' := fun b hb => (h b hb).imp id (fun h => Nat.le_trans k.size h)
theorem NB.trans {s1 s2 s3 : Sl} (h1 : NB w s1 s2) (h2 : NB w' s2 s3) (k : w.heap.size ≤ w'.heap.size) : NB w s1 s3 := fun b hb => (h2 b hb).elim (fun h => h1 b h) (fun h => .inr (Nat.le_trans k h))
theorem NB.sep (hn : NB w s s') (h : Sp s xs) (hl : ∀ x ∈ xs, x < w.heap.size) : Sp s' xs := fun x hx hc => (hn _ hc).elim (h x hx) (fun hk => by have := hl x hx; omega)
theorem Mem.blks (hM : Mem W X L w) : ∀ x ∈ L.map Prod.fst, x < w.heap.size := fun x hx => by
  obtain ⟨e, he, rfl⟩ := List.mem_map.1 hx
  exact (hM.has e he).lt
theorem Own.keepS (h : Own base e w s sz enc l) (k : Keeps ys w w') (hs : Sp s xs) (hy : ∀ y ∈ ys, y ∈ xs) : Own base e w' s sz enc l := h.keep k fun y hm => hs y (hy y hm)
/-- Behind what turned the slice's block. -/
theorem Mem.own' (h : Mem W X L w) (k : Keeps s.val.ownBlock.toList w w') (hs : Sp s (L.map Prod.fst)) (hX : ∀ b, s.val.ownBlock = some b → b ∈ X ∨ W.heap.size ≤ b) : Mem W X L w' :=
  ⟨h.kp.then k (fun y hy => hX y (by simpa using hy)), fun e he => (h.has e he).keep k (fun hm => hs e.1 (List.mem_map_of_mem he) (by simpa using hm)), h.own, h.nd⟩
end sp

theorem put_same {cs ds : Array Value} {off : Nat} (h : Sub cs off ds) (hf : off + ds.size ≤ cs.size) : put cs off ds = cs := by
  apply Array.ext_getElem?
  intro j
  rw [put_getElem? _ _ _ hf]
  split
  · rename_i hj
    rw [← h (j - off) (by omega)]
    congr 1; omega
  · rfl
theorem Sub.fit1 {cs : Array Value} {off : Nat} {v : Value} (h : Sub cs off #[v]) : off + 1 ≤ cs.size := by
  rcases h.fit with h | h
  · cases h
  · exact h

/-- Whoever stands at e, or z. -/
def getK {α : Type} (key : α → Pt) (z : α) (l : List α) (e : Pt) : α := (l.find? (isK key e)).getD z
theorem getK_of {α : Type} {key : α → Pt} {z x : α} {l : List α} {e : Pt} (h : l.find? (isK key e) = some x) : getK key z l e = x := by unfold getK; rw [h]; rfl
theorem getK_no {α : Type} {key : α → Pt} {z : α} {l : List α} {e : Pt} (h : hasK key l e = false) : getK key z l e = z := by
  unfold getK
  have : l.find? (isK key e) = none := by
    rw [has_find?] at h
    cases hf : l.find? (isK key e) with
    | none => rfl
    | some x => rw [hf] at h; cases h
  rw [this]; rfl

section steps
variable {n : Nat} {env : List (Nat × Value)} {W w : World} {X : List Nat} {L : List Ent} {N : Pst} {E : List (Nat × Pst)} {R : Pst} {ops : Array Oper}
variable {d : Nat} {ty : TypeId} {pos : String} {af : Array Edge} {x : Operand} {T e : TypeId} {v : Value} {α : Type} {sz bs : Nat} {enc : α → Array Value} {o : α}
variable {S : World → Prop} {late : List Nat} {r : List (Nat × Bool)} {ld : Bool} {i : Nat}
theorem s_slice1B (hM : Mem W X L w) (hT : ElT T e sz bs) (hE : EncT sz enc) (hi : ops[i]? = some ⟨some d, .buildSlice T 1 #[(0, x)], ty, pos, af, none⟩) (hn : Nat.blt d n = true) (hx : ev env x = some v) (hv : v.cells = enc o) (hsm : sz ≤ 16777216)
    (h : ∀ b w', Mem W X ((b, enc o, e) :: L) w' → Keeps [] w w' → w.heap.size ≤ b → ((ld || late.contains i) = true ∨ S w') ∧ AT n ((d, .slice (some ⟨b, 0, none⟩) 1 1) :: env) w' (SW ops S late r (ld || late.contains i) N E R)) :
    AT n env w (SW ops S late ((i, false) :: r) ld N E R) :=
  have h' := h _ _ (hM.alloc _ _) (Keeps.alloc _ _) (Nat.le_refl _)
  s_val hi (gn rfl) rfl hn (r_slice1 hT hx hv (hE.size o) hsm) h'.1 h'.2
end steps
end Go.Proofs.YtekhaogjmmmniaaGreat
namespace Go.Proofs.YtekhaogjmmmniaaGreat
open Go Go.RowKit

theorem f77 {w : World} {base bl ol t : Nat} {cs : Array Value} {s : Sl} {l : List Seat} (hb : Blk w bl cs t) (hlt : bl < base) (hc : Sub cs ol #[s.val]) (ho : Own base 73 w s 66 Seat.cells l) (hu : UpK Seat.key l) (e : Pt) :
    Ret 77 #[.agg (Roll.cells ⟨bl, ol, 91⟩), .agg e.cells] w (fun v w' => ∃ s' : Sl, v = .tuple #[.agg (getK Seat.key Seat.zero l e).cells, .bool (hasK Seat.key l e)] ∧ s'.val.ownBlock = s.val.ownBlock ∧ Blk w' bl (put cs ol #[s'.val]) t ∧ Own base 73 w' s' 66 Seat.cells (outK Seat.key l e) ∧ Keeps (bl :: s.val.ownBlock.toList) w w') := by
  have hn := ho.big
  have hM0 : Mem w (bl :: s.val.ownBlock.toList) [(bl, cs, t)] w := ⟨Keeps.refl _ _, by simp only [List.mem_cons, List.not_mem_nil, or_false, forall_eq]; exact hb, by simp, by simp⟩
  have hSp0 : Sp s [bl] := Sp.nil.cons (ho.lo hlt)
  refine enter Tryz.func77 rfl rfl ?_
  refine c_sr ?_
  refine l_box hM0 rfl rfl ?_
  intro b1 w2 hM3 hK4 hB5
  replace hM3 : Mem w (bl :: s.val.ownBlock.toList) [(b1, (RollS.cells ((⟨bl, ol, 91⟩ : Roll))), 115), (bl, cs, t)] w2 := hM3
  have hNb1 : w.heap.size ≤ b1 := Nat.le_trans hM0.kp.size hB5
  have hSp6 : Sp s [b1, bl] := hSp0.cons (ho.hi hB5)
  refine l_box hM3 rfl rfl ?_
  intro b7 w8 hM9 hK10 hB11
  replace hM9 : Mem w (bl :: s.val.ownBlock.toList) [(b7, (Pt.cells e), 24), (b1, (RollS.cells ((⟨bl, ol, 91⟩ : Roll))), 115), (bl, cs, t)] w8 := hM9
  have hNb7 : w.heap.size ≤ b7 := Nat.le_trans hM3.kp.size hB11
  have hSp12 : Sp s [b7, b1, bl] := hSp6.cons ((ho.keep0 hK4).hi hB11)
  refine l_alloc hM9 rfl Seat.zv ?_
  intro b13 w14 hM15 hK16 hB17
  replace hM15 : Mem w (bl :: s.val.ownBlock.toList) [(b13, (Seat.cells Seat.zero), 73), (b7, (Pt.cells e), 24), (b1, (RollS.cells ((⟨bl, ol, 91⟩ : Roll))), 115), (bl, cs, t)] w14 := hM15
  have hNb13 : w.heap.size ≤ b13 := Nat.le_trans hM9.kp.size hB17
  have hSp18 : Sp s [b13, b7, b1, bl] := hSp12.cons (((ho.keep0 hK4).keep0 hK10).hi hB17)
  refine l_v rfl (r_assign rfl) ?_
  refine l_nil ?_
  refine c_sr ?_
  refine l_v rfl (r_loadA Tryz.isAgg115 Tryz.sizeOf115 (RollS.size _) rfl (hM15.base (i := 2) rfl)) ?_
  refine l_v rfl (r_loadA Tryz.isAgg24 Tryz.sizeOf24 (Pt.size _) rfl (hM15.base (i := 1) rfl)) ?_
  refine l_call (gn rfl) rfl rfl (r_call Tryz.call78 rfl) (f78 (hM15.holds (i := 3) rfl hc) ((((ho.keep0 hK4).keep0 hK10).keep0 hK16).row enSeat) hu e) ?_
  rintro v19 w20 ⟨rfl, hK21⟩
  have hM22 := hM15.keep hK21
  refine l_v rfl (r_move rfl) ?_
  refine l_v rfl (r_extract rfl rfl) ?_
  refine l_v rfl (r_extract rfl rfl) ?_
  refine l_v rfl (r_assign rfl) ?_
  refine l_v rfl (r_assign rfl) ?_
  refine l_nil ?_
  refine c_seq ?_
  refine c_sr ?_
  refine l_v rfl (r_move rfl) ?_
  refine l_nil ?_
  refine ways (hasK Seat.key l e) (fun h23 => ?_) (fun h23 => ?_)
  ·skip
   obtain ⟨xf24, hx24, hk24, hf24⟩ := has_find hu h23
   refine c_condT rfl h23 ?_
   refine c_sr ?_
   refine l_v rfl (r_fieldAddr RollS.fld_l rfl) ?_
   refine l_v rfl (r_load1 (v := Value.pointer (some ⟨bl, ol, none⟩)) Tryz.isAgg112 rfl (Holds.sub (hM22.base (i := 2) rfl) (RollS.sub_l _))) ?_
   refine l_v rfl (r_nilCheck rfl) ?_
   refine l_v rfl (r_load1 (v := Sl.val s) Tryz.isAgg32 rfl (hM22.holds (i := 3) rfl hc)) ?_
   refine l_v rfl (r_move rfl) ?_
   have hlt25 : (posK Seat.key l e) < l.length := (List.getElem?_eq_some_iff.1 hx24).1
   obtain ⟨p25, o25, ha25, hA25, -⟩ := (((((ho.keep0 hK4).keep0 hK10).keep0 hK16).keep0 hK21).row enSeat).at_ _ _ hx24
   refine l_v rfl (r_indexR Tryz.underlying32 Tryz.sizeOf73 ⟨_, (((((ho.keep0 hK4).keep0 hK10).keep0 hK16).keep0 hK21).row enSeat)⟩ rfl ha25 rfl hlt25) ?_
   refine l_v rfl (r_loadA Tryz.isAgg73 Tryz.sizeOf73 (Seat.size _) rfl ((((((ho.keep0 hK4).keep0 hK10).keep0 hK16).keep0 hK21).row enSeat).ix hx24 ha25)) ?_
   refine l_store hM22 (i := 0) rfl Tryz.sizeOf73 rfl rfl (Seat.size _) (by rw [Seat.size]; decide) (Seat.one _) (put_whole _ _ ((Seat.size _).trans (Seat.size _).symm)) ?_
   intro w26 hM27 hK28
   replace hM27 : Mem w (bl :: s.val.ownBlock.toList) [(b13, (Seat.cells xf24), 73), (b7, (Pt.cells e), 24), (b1, (RollS.cells ((⟨bl, ol, 91⟩ : Roll))), 115), (bl, cs, t)] w26 := hM27
   refine l_nil ?_
   refine c_regD (Mem w (bl :: s.val.ownBlock.toList) [(b13, (Seat.cells xf24), 73), (b7, (Pt.cells e), 24), (b1, (RollS.cells ((⟨bl, ol, 91⟩ : Roll))), 115), (bl, cs, t)]) [11] [(0, true), (1, true), (2, true), (3, true), (4, true), (5, true), (6, true), (7, true), (8, true), (9, false), (10, true), (11, false)] (by kernel_rfl) ?_
   have hM29 := hM27.drew
   refine s_take hM29 rfl (gn rfl) rfl rfl (fun w h => r_fieldAddr RollS.fld_l rfl) ?_
   refine s_take hM29 rfl (gn rfl) rfl rfl (fun w h => r_load1 (v := Value.pointer (some ⟨bl, ol, none⟩)) Tryz.isAgg112 rfl (Holds.sub (h.base (i := 2) rfl) (RollS.sub_l _))) ?_
   refine s_take hM29 rfl (gn rfl) rfl rfl (fun w h => r_fieldAddr RollS.fld_l rfl) ?_
   refine s_take hM29 rfl (gn rfl) rfl rfl (fun w h => r_load1 (v := Value.pointer (some ⟨bl, ol, none⟩)) Tryz.isAgg112 rfl (Holds.sub (h.base (i := 2) rfl) (RollS.sub_l _))) ?_
   refine s_take hM29 rfl (gn rfl) rfl rfl (fun w h => r_nilCheck rfl) ?_
   refine s_take hM29 rfl (gn rfl) rfl rfl (fun w h => r_load1 (v := Sl.val s) Tryz.isAgg32 rfl (h.holds (i := 3) rfl hc)) ?_
   refine s_take hM29 rfl (gn rfl) rfl rfl (fun w h => r_move rfl) ?_
   refine s_take hM29 rfl (gn rfl) rfl rfl (fun w h => r_move rfl) ?_
   refine s_take hM29 rfl (gn rfl) rfl rfl (fun w h => r_add (r := ((((posK Seat.key l e)) + 1 : Nat) : Int)) rfl rfl (nadd (i := (posK Seat.key l e)) (k := 1) (m := ((posK Seat.key l e)) + 1) (by omega) (by omega))) ?_
   refine s_call rfl (gn rfl) rfl rfl (r_call Tryz.call106 rfl) (f106 ((((((ho.keep0 hK4).keep0 hK10).keep0 hK16).keep0 hK21).keepS hK28 hSp18 (by simp)).keep0 (Keeps.drew _)) (List.getElem?_eq_some_iff.1 hx24).1) ?_
   rintro v34 w35 ⟨s31, rfl, he32, hO33, hK36⟩
   have hM37 := hM29.own' hK36 hSp18 (fun b hb => .inl (by simp [hb]))
   have hnb38 := (NB.of_eq (w := w26.drew) he32)
   have hSp39 : Sp s31 [b13, b7, b1, bl] := hnb38.sep hSp18 hM29.blks
   refine ⟨.inr hM37, ?_⟩
   refine s_take hM37 rfl (gn rfl) rfl rfl (fun w h => r_nilCheck rfl) ?_
   refine s_store hM37 (j := 3) rfl rfl Tryz.sizeOf32 rfl rfl rfl hc.fit1 (one_one rfl) rfl ?_
   intro w40 hM41 hK42
   replace hM41 : Mem w (bl :: s.val.ownBlock.toList) [(b13, (Seat.cells xf24), 73), (b7, (Pt.cells e), 24), (b1, (RollS.cells ((⟨bl, ol, 91⟩ : Roll))), 115), (bl, (put cs ol #[Sl.val s31]), t)] w40 := hM41
   refine ⟨.inl rfl, ?_⟩
   refine s_nil ?_
   refine c_sr ?_
   refine l_v rfl (r_loadA Tryz.isAgg73 Tryz.sizeOf73 (Seat.size _) rfl (hM41.base (i := 0) rfl)) ?_
   refine l_v rfl (r_move rfl) ?_
   refine l_store hM41 (i := 0) rfl Tryz.sizeOf73 rfl rfl (Seat.size _) (by rw [Seat.size]; decide) (Seat.one _) (put_whole _ _ ((Seat.size _).trans (Seat.size _).symm)) ?_
   intro w43 hM44 hK45
   replace hM44 : Mem w (bl :: s.val.ownBlock.toList) [(b13, (Seat.cells xf24), 73), (b7, (Pt.cells e), 24), (b1, (RollS.cells ((⟨bl, ol, 91⟩ : Roll))), 115), (bl, (put cs ol #[Sl.val s31]), t)] w43 := hM44
   refine l_v rfl (r_assign rfl) ?_
   refine l_nil ?_
   refine c_ret ?_
   refine retCT rfl Tryz.isAgg73 Tryz.sizeOf73 (Seat.size _) rfl (hM44.base (i := 0) rfl) rfl ?_
   exact ⟨s31, by rw [getK_of hf24, h23] <;> rfl, he32, hM44.blk (i := 3) rfl, by rw [out_has hu h23]; exact ((hO33.keepS hK42 hSp39 (by simp)).keepS hK45 hSp39 (by simp)), hM44.kp⟩
  ·skip
   refine c_condF rfl h23 ?_
   refine c_skip ?_
   refine c_sr ?_
   refine l_v rfl (r_loadA Tryz.isAgg73 Tryz.sizeOf73 (Seat.size _) rfl (hM22.base (i := 0) rfl)) ?_
   refine l_v rfl (r_move rfl) ?_
   refine l_store hM22 (i := 0) rfl Tryz.sizeOf73 rfl rfl (Seat.size _) (by rw [Seat.size]; decide) (Seat.one _) (put_whole _ _ ((Seat.size _).trans (Seat.size _).symm)) ?_
   intro w46 hM47 hK48
   replace hM47 : Mem w (bl :: s.val.ownBlock.toList) [(b13, (Seat.cells Seat.zero), 73), (b7, (Pt.cells e), 24), (b1, (RollS.cells ((⟨bl, ol, 91⟩ : Roll))), 115), (bl, cs, t)] w46 := hM47
   refine l_v rfl (r_assign rfl) ?_
   refine l_nil ?_
   refine c_ret ?_
   refine retCT rfl Tryz.isAgg73 Tryz.sizeOf73 (Seat.size _) rfl (hM47.base (i := 0) rfl) rfl ?_
   exact ⟨s, by rw [getK_no h23, h23] <;> rfl, rfl, by rw [put_same hc hc.fit1]; exact hM47.blk (i := 3) rfl, by rw [out_no h23]; exact (((((ho.keep0 hK4).keep0 hK10).keep0 hK16).keep0 hK21).keepS hK48 hSp18 (by simp)), hM47.kp⟩
theorem f103 {w : World} {base bl ol t : Nat} {cs : Array Value} {s : Sl} {l : List Seat} (hb : Blk w bl cs t) (hlt : bl < base) (hc : Sub cs ol #[s.val]) (ho : Own base 73 w s 66 Seat.cells l) (hu : UpK Seat.key l) (hlen : l.length ≤ 1000) (hbw : base ≤ w.heap.size) (x : Seat) :
    Ret 103 #[.agg (Roll.cells ⟨bl, ol, 91⟩), .agg x.cells] w (fun v w' => ∃ s' : Sl, v = .tuple #[] ∧ NB w s s' ∧ Blk w' bl (put cs ol #[s'.val]) t ∧ Own base 73 w' s' 66 Seat.cells (putK Seat.key l x) ∧ Keeps (bl :: s.val.ownBlock.toList) w w') := by
  have hn := ho.big
  have hM0 : Mem w (bl :: s.val.ownBlock.toList) [(bl, cs, t)] w := ⟨Keeps.refl _ _, by simp only [List.mem_cons, List.not_mem_nil, or_false, forall_eq]; exact hb, by simp, by simp⟩
  have hSp0 : Sp s [bl] := Sp.nil.cons (ho.lo hlt)
  refine enter Tryz.func103 rfl rfl ?_
  refine c_sr ?_
  refine l_box hM0 rfl rfl ?_
  intro b1 w2 hM3 hK4 hB5
  replace hM3 : Mem w (bl :: s.val.ownBlock.toList) [(b1, (RollS.cells ((⟨bl, ol, 91⟩ : Roll))), 115), (bl, cs, t)] w2 := hM3
  have hNb1 : w.heap.size ≤ b1 := Nat.le_trans hM0.kp.size hB5
  have hSp6 : Sp s [b1, bl] := hSp0.cons (ho.hi hB5)
  refine l_box hM3 rfl rfl ?_
  intro b7 w8 hM9 hK10 hB11
  replace hM9 : Mem w (bl :: s.val.ownBlock.toList) [(b7, (Seat.cells x), 73), (b1, (RollS.cells ((⟨bl, ol, 91⟩ : Roll))), 115), (bl, cs, t)] w8 := hM9
  have hNb7 : w.heap.size ≤ b7 := Nat.le_trans hM3.kp.size hB11
  have hSp12 : Sp s [b7, b1, bl] := hSp6.cons ((ho.keep0 hK4).hi hB11)
  refine l_nil ?_
  refine c_seq ?_
  refine c_regD (Mem w (bl :: s.val.ownBlock.toList) [(b7, (Seat.cells x), 73), (b1, (RollS.cells ((⟨bl, ol, 91⟩ : Roll))), 115), (bl, cs, t)]) [] [(0, true), (1, true), (2, true), (3, false), (4, true), (5, true), (6, true), (7, false), (8, true), (9, true), (10, true), (11, true), (12, true)] (by kernel_rfl) ?_
  have hM13 := hM9.drew
  refine s_take hM13 rfl (gn rfl) rfl rfl (fun w h => r_loadA Tryz.isAgg115 Tryz.sizeOf115 (RollS.size _) rfl (h.base (i := 1) rfl)) ?_
  refine s_take hM13 rfl (gn rfl) rfl rfl (fun w h => r_fieldAddr RollS.fld_of rfl) ?_
  refine s_take hM13 rfl (gn rfl) rfl rfl (fun w h => r_load1 (v := Value.func (Fn.func 91) #[] #[]) Tryz.isAgg113 rfl (Holds.sub (h.base (i := 1) rfl) (RollS.sub_of _))) ?_
  refine s_call rfl (gn rfl) rfl rfl (r_callv (cap := []) rfl Tryz.call91 rfl) (f91 _ _) ?_
  rintro v15 w16 ⟨rfl, hK17⟩
  have hM18 := hM13.keep hK17
  refine ⟨.inr hM18, ?_⟩
  refine s_take hM18 rfl (gn rfl) rfl rfl (fun w h => r_nilCheck rfl) ?_
  refine s_take hM18 rfl (gn rfl) rfl rfl (fun w h => r_fieldAddr Cipher.fld_E rfl) ?_
  refine s_take hM18 rfl (gn rfl) rfl rfl (fun w h => r_loadA Tryz.isAgg24 Tryz.sizeOf24 (Pt.size _) rfl (Holds.sub (Holds.sub (h.base (i := 0) rfl) (Seat.sub_who _)) (Cipher.sub_E _))) ?_
  refine s_call rfl (gn rfl) rfl rfl (r_call Tryz.call78 rfl) (f78 (hM18.holds (i := 2) rfl hc) (((((ho.keep0 hK4).keep0 hK10).keep0 (Keeps.drew _)).keep0 hK17).row enSeat) hu x.who.E) ?_
  rintro v19 w20 ⟨rfl, hK21⟩
  have hM22 := hM18.keep hK21
  refine ⟨.inr hM22, ?_⟩
  refine s_take hM22 rfl (gn rfl) rfl rfl (fun w h => r_move rfl) ?_
  refine s_take hM22 rfl (gn rfl) rfl rfl (fun w h => r_extract rfl rfl) ?_
  refine s_take hM22 rfl (gn rfl) rfl rfl (fun w h => r_extract rfl rfl) ?_
  refine s_take hM22 rfl (gn rfl) rfl rfl (fun w h => r_assign rfl) ?_
  refine s_take hM22 rfl (gn rfl) rfl rfl (fun w h => r_assign rfl) ?_
  refine s_nil ?_
  refine c_regD (Mem w (bl :: s.val.ownBlock.toList) [(b7, (Seat.cells x), 73), (b1, (RollS.cells ((⟨bl, ol, 91⟩ : Roll))), 115), (bl, cs, t)]) [11] [(0, true), (1, true), (2, true), (3, true), (4, true), (5, true), (6, true), (7, true), (8, false), (9, false), (10, true), (11, false)] (by kernel_rfl) ?_
  have hM23 := hM22.drew
  refine s_take hM23 rfl (gn rfl) rfl rfl (fun w h => r_fieldAddr RollS.fld_l rfl) ?_
  refine s_take hM23 rfl (gn rfl) rfl rfl (fun w h => r_load1 (v := Value.pointer (some ⟨bl, ol, none⟩)) Tryz.isAgg112 rfl (Holds.sub (h.base (i := 1) rfl) (RollS.sub_l _))) ?_
  refine s_take hM23 rfl (gn rfl) rfl rfl (fun w h => r_fieldAddr RollS.fld_l rfl) ?_
  refine s_take hM23 rfl (gn rfl) rfl rfl (fun w h => r_load1 (v := Value.pointer (some ⟨bl, ol, none⟩)) Tryz.isAgg112 rfl (Holds.sub (h.base (i := 1) rfl) (RollS.sub_l _))) ?_
  refine s_take hM23 rfl (gn rfl) rfl rfl (fun w h => r_nilCheck rfl) ?_
  refine s_take hM23 rfl (gn rfl) rfl rfl (fun w h => r_load1 (v := Sl.val s) Tryz.isAgg32 rfl (h.holds (i := 2) rfl hc)) ?_
  refine s_take hM23 rfl (gn rfl) rfl rfl (fun w h => r_move rfl) ?_
  refine s_take hM23 rfl (gn rfl) rfl rfl (fun w h => r_loadA Tryz.isAgg73 Tryz.sizeOf73 (Seat.size _) rfl (h.base (i := 0) rfl)) ?_
  refine s_slice1B (enc := Seat.cells) (o := x) hM23 elSeat enSeat rfl rfl rfl rfl (by decide) ?_
  intro b25 w26 hM27 hK28 hB29
  replace hM27 : Mem w (bl :: s.val.ownBlock.toList) [(b25, (Seat.cells x), 73), (b7, (Seat.cells x), 73), (b1, (RollS.cells ((⟨bl, ol, 91⟩ : Roll))), 115), (bl, cs, t)] w26 := hM27
  have hSp30 : Sp s [b25, b7, b1, bl] := hSp12.cons (((((((ho.keep0 hK4).keep0 hK10).keep0 (Keeps.drew _)).keep0 hK17).keep0 hK21).keep0 (Keeps.drew _)).hi hB29)
  refine ⟨.inr (hM27.forget (.cons _ (.refl _))), ?_⟩
  refine s_call rfl (gn rfl) rfl rfl (r_call Tryz.call123 rfl) (f123 (((((((ho.keep0 hK4).keep0 hK10).keep0 (Keeps.drew _)).keep0 hK17).keep0 hK21).keep0 (Keeps.drew _)).keep0 hK28) (hM27.blk (i := 0) rfl) (by omega) (Nat.le_trans hbw hM27.kp.size) (hSp30 b25 (by simp)) pos_le) ?_
  rintro v34 w35 ⟨s31, rfl, hn32, hO33, hK36⟩
  have hM37 := hM27.own' hK36 hSp30 (fun b hb => .inl (by simp [hb]))
  have hnb38 := hn32
  have hSp39 : Sp s31 [b25, b7, b1, bl] := hnb38.sep hSp30 hM27.blks
  refine ⟨.inr (hM37.forget (.cons _ (.refl _))), ?_⟩
  refine s_take (hM37.forget (.cons _ (.refl _))) rfl (gn rfl) rfl rfl (fun w h => r_nilCheck rfl) ?_
  refine s_store hM37 (j := 3) rfl rfl Tryz.sizeOf32 rfl rfl rfl hc.fit1 (one_one rfl) rfl ?_
  intro w40 hM41 hK42
  replace hM41 : Mem w (bl :: s.val.ownBlock.toList) [(b25, (Seat.cells x), 73), (b7, (Seat.cells x), 73), (b1, (RollS.cells ((⟨bl, ol, 91⟩ : Roll))), 115), (bl, (put cs ol #[Sl.val s31]), t)] w40 := hM41
  refine ⟨.inl rfl, ?_⟩
  refine s_nil ?_
  refine ret0 rfl ?_
  exact ⟨s31, rfl, hnb38.earlier hM27.kp, hM41.blk (i := 3) rfl, (hO33.keepS hK42 hSp39 (by simp)), hM41.kp⟩
theorem f68 {w : World} {base bl ol t : Nat} {cs : Array Value} {s : Sl} {l : List Invite} (hb : Blk w bl cs t) (hlt : bl < base) (hc : Sub cs ol #[s.val]) (ho : Own base 82 w s 129 Invite.cells l) (hu : UpK Invite.key l) (e : Pt) :
    Ret 68 #[.agg (Roll.cells ⟨bl, ol, 92⟩), .agg e.cells] w (fun v w' => ∃ s' : Sl, v = .tuple #[.agg (getK Invite.key Invite.zero l e).cells, .bool (hasK Invite.key l e)] ∧ s'.val.ownBlock = s.val.ownBlock ∧ Blk w' bl (put cs ol #[s'.val]) t ∧ Own base 82 w' s' 129 Invite.cells (outK Invite.key l e) ∧ Keeps (bl :: s.val.ownBlock.toList) w w') := by
  have hn := ho.big
  have hM0 : Mem w (bl :: s.val.ownBlock.toList) [(bl, cs, t)] w := ⟨Keeps.refl _ _, by simp only [List.mem_cons, List.not_mem_nil, or_false, forall_eq]; exact hb, by simp, by simp⟩
  have hSp0 : Sp s [bl] := Sp.nil.cons (ho.lo hlt)
  refine enter Tryz.func68 rfl rfl ?_
  refine c_sr ?_
  refine l_box hM0 rfl rfl ?_
  intro b1 w2 hM3 hK4 hB5
  replace hM3 : Mem w (bl :: s.val.ownBlock.toList) [(b1, (RollI.cells ((⟨bl, ol, 92⟩ : Roll))), 120), (bl, cs, t)] w2 := hM3
  have hNb1 : w.heap.size ≤ b1 := Nat.le_trans hM0.kp.size hB5
  have hSp6 : Sp s [b1, bl] := hSp0.cons (ho.hi hB5)
  refine l_box hM3 rfl rfl ?_
  intro b7 w8 hM9 hK10 hB11
  replace hM9 : Mem w (bl :: s.val.ownBlock.toList) [(b7, (Pt.cells e), 24), (b1, (RollI.cells ((⟨bl, ol, 92⟩ : Roll))), 120), (bl, cs, t)] w8 := hM9
  have hNb7 : w.heap.size ≤ b7 := Nat.le_trans hM3.kp.size hB11
  have hSp12 : Sp s [b7, b1, bl] := hSp6.cons ((ho.keep0 hK4).hi hB11)
  refine l_alloc hM9 rfl Invite.zv ?_
  intro b13 w14 hM15 hK16 hB17
  replace hM15 : Mem w (bl :: s.val.ownBlock.toList) [(b13, (Invite.cells Invite.zero), 82), (b7, (Pt.cells e), 24), (b1, (RollI.cells ((⟨bl, ol, 92⟩ : Roll))), 120), (bl, cs, t)] w14 := hM15
  have hNb13 : w.heap.size ≤ b13 := Nat.le_trans hM9.kp.size hB17
  have hSp18 : Sp s [b13, b7, b1, bl] := hSp12.cons (((ho.keep0 hK4).keep0 hK10).hi hB17)
  refine l_v rfl (r_assign rfl) ?_
  refine l_nil ?_
  refine c_sr ?_
  refine l_v rfl (r_loadA Tryz.isAgg120 Tryz.sizeOf120 (RollI.size _) rfl (hM15.base (i := 2) rfl)) ?_
  refine l_v rfl (r_loadA Tryz.isAgg24 Tryz.sizeOf24 (Pt.size _) rfl (hM15.base (i := 1) rfl)) ?_
  refine l_call (gn rfl) rfl rfl (r_call Tryz.call99 rfl) (f99 (hM15.holds (i := 3) rfl hc) ((((ho.keep0 hK4).keep0 hK10).keep0 hK16).row enInvite) hu e) ?_
  rintro v19 w20 ⟨rfl, hK21⟩
  have hM22 := hM15.keep hK21
  refine l_v rfl (r_move rfl) ?_
  refine l_v rfl (r_extract rfl rfl) ?_
  refine l_v rfl (r_extract rfl rfl) ?_
  refine l_v rfl (r_assign rfl) ?_
  refine l_v rfl (r_assign rfl) ?_
  refine l_nil ?_
  refine c_seq ?_
  refine c_sr ?_
  refine l_v rfl (r_move rfl) ?_
  refine l_nil ?_
  refine ways (hasK Invite.key l e) (fun h23 => ?_) (fun h23 => ?_)
  ·skip
   obtain ⟨xf24, hx24, hk24, hf24⟩ := has_find hu h23
   refine c_condT rfl h23 ?_
   refine c_sr ?_
   refine l_v rfl (r_fieldAddr RollI.fld_l rfl) ?_
   refine l_v rfl (r_load1 (v := Value.pointer (some ⟨bl, ol, none⟩)) Tryz.isAgg117 rfl (Holds.sub (hM22.base (i := 2) rfl) (RollI.sub_l _))) ?_
   refine l_v rfl (r_nilCheck rfl) ?_
   refine l_v rfl (r_load1 (v := Sl.val s) Tryz.isAgg33 rfl (hM22.holds (i := 3) rfl hc)) ?_
   refine l_v rfl (r_move rfl) ?_
   have hlt25 : (posK Invite.key l e) < l.length := (List.getElem?_eq_some_iff.1 hx24).1
   obtain ⟨p25, o25, ha25, hA25, -⟩ := (((((ho.keep0 hK4).keep0 hK10).keep0 hK16).keep0 hK21).row enInvite).at_ _ _ hx24
   refine l_v rfl (r_indexR Tryz.underlying33 Tryz.sizeOf82 ⟨_, (((((ho.keep0 hK4).keep0 hK10).keep0 hK16).keep0 hK21).row enInvite)⟩ rfl ha25 rfl hlt25) ?_
   refine l_v rfl (r_loadA Tryz.isAgg82 Tryz.sizeOf82 (Invite.size _) rfl ((((((ho.keep0 hK4).keep0 hK10).keep0 hK16).keep0 hK21).row enInvite).ix hx24 ha25)) ?_
   refine l_store hM22 (i := 0) rfl Tryz.sizeOf82 rfl rfl (Invite.size _) (by rw [Invite.size]; decide) (Invite.one _) (put_whole _ _ ((Invite.size _).trans (Invite.size _).symm)) ?_
   intro w26 hM27 hK28
   replace hM27 : Mem w (bl :: s.val.ownBlock.toList) [(b13, (Invite.cells xf24), 82), (b7, (Pt.cells e), 24), (b1, (RollI.cells ((⟨bl, ol, 92⟩ : Roll))), 120), (bl, cs, t)] w26 := hM27
   refine l_nil ?_
   refine c_regD (Mem w (bl :: s.val.ownBlock.toList) [(b13, (Invite.cells xf24), 82), (b7, (Pt.cells e), 24), (b1, (RollI.cells ((⟨bl, ol, 92⟩ : Roll))), 120), (bl, cs, t)]) [11] [(0, true), (1, true), (2, true), (3, true), (4, true), (5, true), (6, true), (7, true), (8, true), (9, false), (10, true), (11, false)] (by kernel_rfl) ?_
   have hM29 := hM27.drew
   refine s_take hM29 rfl (gn rfl) rfl rfl (fun w h => r_fieldAddr RollI.fld_l rfl) ?_
   refine s_take hM29 rfl (gn rfl) rfl rfl (fun w h => r_load1 (v := Value.pointer (some ⟨bl, ol, none⟩)) Tryz.isAgg117 rfl (Holds.sub (h.base (i := 2) rfl) (RollI.sub_l _))) ?_
   refine s_take hM29 rfl (gn rfl) rfl rfl (fun w h => r_fieldAddr RollI.fld_l rfl) ?_
   refine s_take hM29 rfl (gn rfl) rfl rfl (fun w h => r_load1 (v := Value.pointer (some ⟨bl, ol, none⟩)) Tryz.isAgg117 rfl (Holds.sub (h.base (i := 2) rfl) (RollI.sub_l _))) ?_
   refine s_take hM29 rfl (gn rfl) rfl rfl (fun w h => r_nilCheck rfl) ?_
   refine s_take hM29 rfl (gn rfl) rfl rfl (fun w h => r_load1 (v := Sl.val s) Tryz.isAgg33 rfl (h.holds (i := 3) rfl hc)) ?_
   refine s_take hM29 rfl (gn rfl) rfl rfl (fun w h => r_move rfl) ?_
   refine s_take hM29 rfl (gn rfl) rfl rfl (fun w h => r_move rfl) ?_
   refine s_take hM29 rfl (gn rfl) rfl rfl (fun w h => r_add (r := ((((posK Invite.key l e)) + 1 : Nat) : Int)) rfl rfl (nadd (i := (posK Invite.key l e)) (k := 1) (m := ((posK Invite.key l e)) + 1) (by omega) (by omega))) ?_
   refine s_call rfl (gn rfl) rfl rfl (r_call Tryz.call100 rfl) (f100 ((((((ho.keep0 hK4).keep0 hK10).keep0 hK16).keep0 hK21).keepS hK28 hSp18 (by simp)).keep0 (Keeps.drew _)) (List.getElem?_eq_some_iff.1 hx24).1) ?_
   rintro v34 w35 ⟨s31, rfl, he32, hO33, hK36⟩
   have hM37 := hM29.own' hK36 hSp18 (fun b hb => .inl (by simp [hb]))
   have hnb38 := (NB.of_eq (w := w26.drew) he32)
   have hSp39 : Sp s31 [b13, b7, b1, bl] := hnb38.sep hSp18 hM29.blks
   refine ⟨.inr hM37, ?_⟩
   refine s_take hM37 rfl (gn rfl) rfl rfl (fun w h => r_nilCheck rfl) ?_
   refine s_store hM37 (j := 3) rfl rfl Tryz.sizeOf33 rfl rfl rfl hc.fit1 (one_one rfl) rfl ?_
   intro w40 hM41 hK42
   replace hM41 : Mem w (bl :: s.val.ownBlock.toList) [(b13, (Invite.cells xf24), 82), (b7, (Pt.cells e), 24), (b1, (RollI.cells ((⟨bl, ol, 92⟩ : Roll))), 120), (bl, (put cs ol #[Sl.val s31]), t)] w40 := hM41
   refine ⟨.inl rfl, ?_⟩
   refine s_nil ?_
   refine c_sr ?_
   refine l_v rfl (r_loadA Tryz.isAgg82 Tryz.sizeOf82 (Invite.size _) rfl (hM41.base (i := 0) rfl)) ?_
   refine l_v rfl (r_move rfl) ?_
   refine l_store hM41 (i := 0) rfl Tryz.sizeOf82 rfl rfl (Invite.size _) (by rw [Invite.size]; decide) (Invite.one _) (put_whole _ _ ((Invite.size _).trans (Invite.size _).symm)) ?_
   intro w43 hM44 hK45
   replace hM44 : Mem w (bl :: s.val.ownBlock.toList) [(b13, (Invite.cells xf24), 82), (b7, (Pt.cells e), 24), (b1, (RollI.cells ((⟨bl, ol, 92⟩ : Roll))), 120), (bl, (put cs ol #[Sl.val s31]), t)] w43 := hM44
   refine l_v rfl (r_assign rfl) ?_
   refine l_nil ?_
   refine c_ret ?_
   refine retCT rfl Tryz.isAgg82 Tryz.sizeOf82 (Invite.size _) rfl (hM44.base (i := 0) rfl) rfl ?_
   exact ⟨s31, by rw [getK_of hf24, h23] <;> rfl, he32, hM44.blk (i := 3) rfl, by rw [out_has hu h23]; exact ((hO33.keepS hK42 hSp39 (by simp)).keepS hK45 hSp39 (by simp)), hM44.kp⟩
  ·skip
   refine c_condF rfl h23 ?_
   refine c_skip ?_
   refine c_sr ?_
   refine l_v rfl (r_loadA Tryz.isAgg82 Tryz.sizeOf82 (Invite.size _) rfl (hM22.base (i := 0) rfl)) ?_
   refine l_v rfl (r_move rfl) ?_
   refine l_store hM22 (i := 0) rfl Tryz.sizeOf82 rfl rfl (Invite.size _) (by rw [Invite.size]; decide) (Invite.one _) (put_whole _ _ ((Invite.size _).trans (Invite.size _).symm)) ?_
   intro w46 hM47 hK48
   replace hM47 : Mem w (bl :: s.val.ownBlock.toList) [(b13, (Invite.cells Invite.zero), 82), (b7, (Pt.cells e), 24), (b1, (RollI.cells ((⟨bl, ol, 92⟩ : Roll))), 120), (bl, cs, t)] w46 := hM47
   refine l_v rfl (r_assign rfl) ?_
   refine l_nil ?_
   refine c_ret ?_
   refine retCT rfl Tryz.isAgg82 Tryz.sizeOf82 (Invite.size _) rfl (hM47.base (i := 0) rfl) rfl ?_
   exact ⟨s, by rw [getK_no h23, h23] <;> rfl, rfl, by rw [put_same hc hc.fit1]; exact hM47.blk (i := 3) rfl, by rw [out_no h23]; exact (((((ho.keep0 hK4).keep0 hK10).keep0 hK16).keep0 hK21).keepS hK48 hSp18 (by simp)), hM47.kp⟩
theorem f72 {w : World} {base bl ol t : Nat} {cs : Array Value} {s : Sl} {l : List Invite} (hb : Blk w bl cs t) (hlt : bl < base) (hc : Sub cs ol #[s.val]) (ho : Own base 82 w s 129 Invite.cells l) (hu : UpK Invite.key l) (hlen : l.length ≤ 1000) (hbw : base ≤ w.heap.size) (x : Invite) :
    Ret 72 #[.agg (Roll.cells ⟨bl, ol, 92⟩), .agg x.cells] w (fun v w' => ∃ s' : Sl, v = .tuple #[] ∧ NB w s s' ∧ Blk w' bl (put cs ol #[s'.val]) t ∧ Own base 82 w' s' 129 Invite.cells (putK Invite.key l x) ∧ Keeps (bl :: s.val.ownBlock.toList) w w') := by
  have hn := ho.big
  have hM0 : Mem w (bl :: s.val.ownBlock.toList) [(bl, cs, t)] w := ⟨Keeps.refl _ _, by simp only [List.mem_cons, List.not_mem_nil, or_false, forall_eq]; exact hb, by simp, by simp⟩
  have hSp0 : Sp s [bl] := Sp.nil.cons (ho.lo hlt)
  refine enter Tryz.func72 rfl rfl ?_
  refine c_sr ?_
  refine l_box hM0 rfl rfl ?_
  intro b1 w2 hM3 hK4 hB5
  replace hM3 : Mem w (bl :: s.val.ownBlock.toList) [(b1, (RollI.cells ((⟨bl, ol, 92⟩ : Roll))), 120), (bl, cs, t)] w2 := hM3
  have hNb1 : w.heap.size ≤ b1 := Nat.le_trans hM0.kp.size hB5
  have hSp6 : Sp s [b1, bl] := hSp0.cons (ho.hi hB5)
  refine l_box hM3 rfl rfl ?_
  intro b7 w8 hM9 hK10 hB11
  replace hM9 : Mem w (bl :: s.val.ownBlock.toList) [(b7, (Invite.cells x), 82), (b1, (RollI.cells ((⟨bl, ol, 92⟩ : Roll))), 120), (bl, cs, t)] w8 := hM9
  have hNb7 : w.heap.size ≤ b7 := Nat.le_trans hM3.kp.size hB11
  have hSp12 : Sp s [b7, b1, bl] := hSp6.cons ((ho.keep0 hK4).hi hB11)
  refine l_nil ?_
  refine c_seq ?_
  refine c_regD (Mem w (bl :: s.val.ownBlock.toList) [(b7, (Invite.cells x), 82), (b1, (RollI.cells ((⟨bl, ol, 92⟩ : Roll))), 120), (bl, cs, t)]) [] [(0, true), (1, true), (2, true), (3, false), (4, true), (5, true), (6, true), (7, false), (8, true), (9, true), (10, true), (11, true), (12, true)] (by kernel_rfl) ?_
  have hM13 := hM9.drew
  refine s_take hM13 rfl (gn rfl) rfl rfl (fun w h => r_loadA Tryz.isAgg120 Tryz.sizeOf120 (RollI.size _) rfl (h.base (i := 1) rfl)) ?_
  refine s_take hM13 rfl (gn rfl) rfl rfl (fun w h => r_fieldAddr RollI.fld_of rfl) ?_
  refine s_take hM13 rfl (gn rfl) rfl rfl (fun w h => r_load1 (v := Value.func (Fn.func 92) #[] #[]) Tryz.isAgg118 rfl (Holds.sub (h.base (i := 1) rfl) (RollI.sub_of _))) ?_
  refine s_call rfl (gn rfl) rfl rfl (r_callv (cap := []) rfl Tryz.call92 rfl) (f92 _ _) ?_
  rintro v15 w16 ⟨rfl, hK17⟩
  have hM18 := hM13.keep hK17
  refine ⟨.inr hM18, ?_⟩
  refine s_take hM18 rfl (gn rfl) rfl rfl (fun w h => r_nilCheck rfl) ?_
  refine s_take hM18 rfl (gn rfl) rfl rfl (fun w h => r_fieldAddr Cipher.fld_E rfl) ?_
  refine s_take hM18 rfl (gn rfl) rfl rfl (fun w h => r_loadA Tryz.isAgg24 Tryz.sizeOf24 (Pt.size _) rfl (Holds.sub (Holds.sub (h.base (i := 0) rfl) (Invite.sub_who _)) (Cipher.sub_E _))) ?_
  refine s_call rfl (gn rfl) rfl rfl (r_call Tryz.call99 rfl) (f99 (hM18.holds (i := 2) rfl hc) (((((ho.keep0 hK4).keep0 hK10).keep0 (Keeps.drew _)).keep0 hK17).row enInvite) hu x.who.E) ?_
  rintro v19 w20 ⟨rfl, hK21⟩
  have hM22 := hM18.keep hK21
  refine ⟨.inr hM22, ?_⟩
  refine s_take hM22 rfl (gn rfl) rfl rfl (fun w h => r_move rfl) ?_
  refine s_take hM22 rfl (gn rfl) rfl rfl (fun w h => r_extract rfl rfl) ?_
  refine s_take hM22 rfl (gn rfl) rfl rfl (fun w h => r_extract rfl rfl) ?_
  refine s_take hM22 rfl (gn rfl) rfl rfl (fun w h => r_assign rfl) ?_
  refine s_take hM22 rfl (gn rfl) rfl rfl (fun w h => r_assign rfl) ?_
  refine s_nil ?_
  refine c_regD (Mem w (bl :: s.val.ownBlock.toList) [(b7, (Invite.cells x), 82), (b1, (RollI.cells ((⟨bl, ol, 92⟩ : Roll))), 120), (bl, cs, t)]) [11] [(0, true), (1, true), (2, true), (3, true), (4, true), (5, true), (6, true), (7, true), (8, false), (9, false), (10, true), (11, false)] (by kernel_rfl) ?_
  have hM23 := hM22.drew
  refine s_take hM23 rfl (gn rfl) rfl rfl (fun w h => r_fieldAddr RollI.fld_l rfl) ?_
  refine s_take hM23 rfl (gn rfl) rfl rfl (fun w h => r_load1 (v := Value.pointer (some ⟨bl, ol, none⟩)) Tryz.isAgg117 rfl (Holds.sub (h.base (i := 1) rfl) (RollI.sub_l _))) ?_
  refine s_take hM23 rfl (gn rfl) rfl rfl (fun w h => r_fieldAddr RollI.fld_l rfl) ?_
  refine s_take hM23 rfl (gn rfl) rfl rfl (fun w h => r_load1 (v := Value.pointer (some ⟨bl, ol, none⟩)) Tryz.isAgg117 rfl (Holds.sub (h.base (i := 1) rfl) (RollI.sub_l _))) ?_
  refine s_take hM23 rfl (gn rfl) rfl rfl (fun w h => r_nilCheck rfl) ?_
  refine s_take hM23 rfl (gn rfl) rfl rfl (fun w h => r_load1 (v := Sl.val s) Tryz.isAgg33 rfl (h.holds (i := 2) rfl hc)) ?_
  refine s_take hM23 rfl (gn rfl) rfl rfl (fun w h => r_move rfl) ?_
  refine s_take hM23 rfl (gn rfl) rfl rfl (fun w h => r_loadA Tryz.isAgg82 Tryz.sizeOf82 (Invite.size _) rfl (h.base (i := 0) rfl)) ?_
  refine s_slice1B (enc := Invite.cells) (o := x) hM23 elInvite enInvite rfl rfl rfl rfl (by decide) ?_
  intro b25 w26 hM27 hK28 hB29
  replace hM27 : Mem w (bl :: s.val.ownBlock.toList) [(b25, (Invite.cells x), 82), (b7, (Invite.cells x), 82), (b1, (RollI.cells ((⟨bl, ol, 92⟩ : Roll))), 120), (bl, cs, t)] w26 := hM27
  have hSp30 : Sp s [b25, b7, b1, bl] := hSp12.cons (((((((ho.keep0 hK4).keep0 hK10).keep0 (Keeps.drew _)).keep0 hK17).keep0 hK21).keep0 (Keeps.drew _)).hi hB29)
  refine ⟨.inr (hM27.forget (.cons _ (.refl _))), ?_⟩
  refine s_call rfl (gn rfl) rfl rfl (r_call Tryz.call104 rfl) (f104 (((((((ho.keep0 hK4).keep0 hK10).keep0 (Keeps.drew _)).keep0 hK17).keep0 hK21).keep0 (Keeps.drew _)).keep0 hK28) (hM27.blk (i := 0) rfl) (by omega) (Nat.le_trans hbw hM27.kp.size) (hSp30 b25 (by simp)) pos_le) ?_
  rintro v34 w35 ⟨s31, rfl, hn32, hO33, hK36⟩
  have hM37 := hM27.own' hK36 hSp30 (fun b hb => .inl (by simp [hb]))
  have hnb38 := hn32
  have hSp39 : Sp s31 [b25, b7, b1, bl] := hnb38.sep hSp30 hM27.blks
  refine ⟨.inr (hM37.forget (.cons _ (.refl _))), ?_⟩
  refine s_take (hM37.forget (.cons _ (.refl _))) rfl (gn rfl) rfl rfl (fun w h => r_nilCheck rfl) ?_
  refine s_store hM37 (j := 3) rfl rfl Tryz.sizeOf33 rfl rfl rfl hc.fit1 (one_one rfl) rfl ?_
  intro w40 hM41 hK42
  replace hM41 : Mem w (bl :: s.val.ownBlock.toList) [(b25, (Invite.cells x), 82), (b7, (Invite.cells x), 82), (b1, (RollI.cells ((⟨bl, ol, 92⟩ : Roll))), 120), (bl, (put cs ol #[Sl.val s31]), t)] w40 := hM41
  refine ⟨.inl rfl, ?_⟩
  refine s_nil ?_
  refine ret0 rfl ?_
  exact ⟨s31, rfl, hnb38.earlier hM27.kp, hM41.blk (i := 3) rfl, (hO33.keepS hK42 hSp39 (by simp)), hM41.kp⟩
theorem f69 {w : World} {base bl ol t : Nat} {cs : Array Value} {s : Sl} {l : List Ask} (hb : Blk w bl cs t) (hlt : bl < base) (hc : Sub cs ol #[s.val]) (ho : Own base 84 w s 65 Ask.cells l) (hu : UpK Ask.key l) (e : Pt) :
    Ret 69 #[.agg (Roll.cells ⟨bl, ol, 93⟩), .agg e.cells] w (fun v w' => ∃ s' : Sl, v = .tuple #[.agg (getK Ask.key Ask.zero l e).cells, .bool (hasK Ask.key l e)] ∧ s'.val.ownBlock = s.val.ownBlock ∧ Blk w' bl (put cs ol #[s'.val]) t ∧ Own base 84 w' s' 65 Ask.cells (outK Ask.key l e) ∧ Keeps (bl :: s.val.ownBlock.toList) w w') := by
  have hn := ho.big
  have hM0 : Mem w (bl :: s.val.ownBlock.toList) [(bl, cs, t)] w := ⟨Keeps.refl _ _, by simp only [List.mem_cons, List.not_mem_nil, or_false, forall_eq]; exact hb, by simp, by simp⟩
  have hSp0 : Sp s [bl] := Sp.nil.cons (ho.lo hlt)
  refine enter Tryz.func69 rfl rfl ?_
  refine c_sr ?_
  refine l_box hM0 rfl rfl ?_
  intro b1 w2 hM3 hK4 hB5
  replace hM3 : Mem w (bl :: s.val.ownBlock.toList) [(b1, (RollA.cells ((⟨bl, ol, 93⟩ : Roll))), 125), (bl, cs, t)] w2 := hM3
  have hNb1 : w.heap.size ≤ b1 := Nat.le_trans hM0.kp.size hB5
  have hSp6 : Sp s [b1, bl] := hSp0.cons (ho.hi hB5)
  refine l_box hM3 rfl rfl ?_
  intro b7 w8 hM9 hK10 hB11
  replace hM9 : Mem w (bl :: s.val.ownBlock.toList) [(b7, (Pt.cells e), 24), (b1, (RollA.cells ((⟨bl, ol, 93⟩ : Roll))), 125), (bl, cs, t)] w8 := hM9
  have hNb7 : w.heap.size ≤ b7 := Nat.le_trans hM3.kp.size hB11
  have hSp12 : Sp s [b7, b1, bl] := hSp6.cons ((ho.keep0 hK4).hi hB11)
  refine l_alloc hM9 rfl Ask.zv ?_
  intro b13 w14 hM15 hK16 hB17
  replace hM15 : Mem w (bl :: s.val.ownBlock.toList) [(b13, (Ask.cells Ask.zero), 84), (b7, (Pt.cells e), 24), (b1, (RollA.cells ((⟨bl, ol, 93⟩ : Roll))), 125), (bl, cs, t)] w14 := hM15
  have hNb13 : w.heap.size ≤ b13 := Nat.le_trans hM9.kp.size hB17
  have hSp18 : Sp s [b13, b7, b1, bl] := hSp12.cons (((ho.keep0 hK4).keep0 hK10).hi hB17)
  refine l_v rfl (r_assign rfl) ?_
  refine l_nil ?_
  refine c_sr ?_
  refine l_v rfl (r_loadA Tryz.isAgg125 Tryz.sizeOf125 (RollA.size _) rfl (hM15.base (i := 2) rfl)) ?_
  refine l_v rfl (r_loadA Tryz.isAgg24 Tryz.sizeOf24 (Pt.size _) rfl (hM15.base (i := 1) rfl)) ?_
  refine l_call (gn rfl) rfl rfl (r_call Tryz.call101 rfl) (f101 (hM15.holds (i := 3) rfl hc) ((((ho.keep0 hK4).keep0 hK10).keep0 hK16).row enAsk) hu e) ?_
  rintro v19 w20 ⟨rfl, hK21⟩
  have hM22 := hM15.keep hK21
  refine l_v rfl (r_move rfl) ?_
  refine l_v rfl (r_extract rfl rfl) ?_
  refine l_v rfl (r_extract rfl rfl) ?_
  refine l_v rfl (r_assign rfl) ?_
  refine l_v rfl (r_assign rfl) ?_
  refine l_nil ?_
  refine c_seq ?_
  refine c_sr ?_
  refine l_v rfl (r_move rfl) ?_
  refine l_nil ?_
  refine ways (hasK Ask.key l e) (fun h23 => ?_) (fun h23 => ?_)
  ·skip
   obtain ⟨xf24, hx24, hk24, hf24⟩ := has_find hu h23
   refine c_condT rfl h23 ?_
   refine c_sr ?_
   refine l_v rfl (r_fieldAddr RollA.fld_l rfl) ?_
   refine l_v rfl (r_load1 (v := Value.pointer (some ⟨bl, ol, none⟩)) Tryz.isAgg122 rfl (Holds.sub (hM22.base (i := 2) rfl) (RollA.sub_l _))) ?_
   refine l_v rfl (r_nilCheck rfl) ?_
   refine l_v rfl (r_load1 (v := Sl.val s) Tryz.isAgg34 rfl (hM22.holds (i := 3) rfl hc)) ?_
   refine l_v rfl (r_move rfl) ?_
   have hlt25 : (posK Ask.key l e) < l.length := (List.getElem?_eq_some_iff.1 hx24).1
   obtain ⟨p25, o25, ha25, hA25, -⟩ := (((((ho.keep0 hK4).keep0 hK10).keep0 hK16).keep0 hK21).row enAsk).at_ _ _ hx24
   refine l_v rfl (r_indexR Tryz.underlying34 Tryz.sizeOf84 ⟨_, (((((ho.keep0 hK4).keep0 hK10).keep0 hK16).keep0 hK21).row enAsk)⟩ rfl ha25 rfl hlt25) ?_
   refine l_v rfl (r_loadA Tryz.isAgg84 Tryz.sizeOf84 (Ask.size _) rfl ((((((ho.keep0 hK4).keep0 hK10).keep0 hK16).keep0 hK21).row enAsk).ix hx24 ha25)) ?_
   refine l_store hM22 (i := 0) rfl Tryz.sizeOf84 rfl rfl (Ask.size _) (by rw [Ask.size]; decide) (Ask.one _) (put_whole _ _ ((Ask.size _).trans (Ask.size _).symm)) ?_
   intro w26 hM27 hK28
   replace hM27 : Mem w (bl :: s.val.ownBlock.toList) [(b13, (Ask.cells xf24), 84), (b7, (Pt.cells e), 24), (b1, (RollA.cells ((⟨bl, ol, 93⟩ : Roll))), 125), (bl, cs, t)] w26 := hM27
   refine l_nil ?_
   refine c_regD (Mem w (bl :: s.val.ownBlock.toList) [(b13, (Ask.cells xf24), 84), (b7, (Pt.cells e), 24), (b1, (RollA.cells ((⟨bl, ol, 93⟩ : Roll))), 125), (bl, cs, t)]) [11] [(0, true), (1, true), (2, true), (3, true), (4, true), (5, true), (6, true), (7, true), (8, true), (9, false), (10, true), (11, false)] (by kernel_rfl) ?_
   have hM29 := hM27.drew
   refine s_take hM29 rfl (gn rfl) rfl rfl (fun w h => r_fieldAddr RollA.fld_l rfl) ?_
   refine s_take hM29 rfl (gn rfl) rfl rfl (fun w h => r_load1 (v := Value.pointer (some ⟨bl, ol, none⟩)) Tryz.isAgg122 rfl (Holds.sub (h.base (i := 2) rfl) (RollA.sub_l _))) ?_
   refine s_take hM29 rfl (gn rfl) rfl rfl (fun w h => r_fieldAddr RollA.fld_l rfl) ?_
   refine s_take hM29 rfl (gn rfl) rfl rfl (fun w h => r_load1 (v := Value.pointer (some ⟨bl, ol, none⟩)) Tryz.isAgg122 rfl (Holds.sub (h.base (i := 2) rfl) (RollA.sub_l _))) ?_
   refine s_take hM29 rfl (gn rfl) rfl rfl (fun w h => r_nilCheck rfl) ?_
   refine s_take hM29 rfl (gn rfl) rfl rfl (fun w h => r_load1 (v := Sl.val s) Tryz.isAgg34 rfl (h.holds (i := 3) rfl hc)) ?_
   refine s_take hM29 rfl (gn rfl) rfl rfl (fun w h => r_move rfl) ?_
   refine s_take hM29 rfl (gn rfl) rfl rfl (fun w h => r_move rfl) ?_
   refine s_take hM29 rfl (gn rfl) rfl rfl (fun w h => r_add (r := ((((posK Ask.key l e)) + 1 : Nat) : Int)) rfl rfl (nadd (i := (posK Ask.key l e)) (k := 1) (m := ((posK Ask.key l e)) + 1) (by omega) (by omega))) ?_
   refine s_call rfl (gn rfl) rfl rfl (r_call Tryz.call102 rfl) (f102 ((((((ho.keep0 hK4).keep0 hK10).keep0 hK16).keep0 hK21).keepS hK28 hSp18 (by simp)).keep0 (Keeps.drew _)) (List.getElem?_eq_some_iff.1 hx24).1) ?_
   rintro v34 w35 ⟨s31, rfl, he32, hO33, hK36⟩
   have hM37 := hM29.own' hK36 hSp18 (fun b hb => .inl (by simp [hb]))
   have hnb38 := (NB.of_eq (w := w26.drew) he32)
   have hSp39 : Sp s31 [b13, b7, b1, bl] := hnb38.sep hSp18 hM29.blks
   refine ⟨.inr hM37, ?_⟩
   refine s_take hM37 rfl (gn rfl) rfl rfl (fun w h => r_nilCheck rfl) ?_
   refine s_store hM37 (j := 3) rfl rfl Tryz.sizeOf34 rfl rfl rfl hc.fit1 (one_one rfl) rfl ?_
   intro w40 hM41 hK42
   replace hM41 : Mem w (bl :: s.val.ownBlock.toList) [(b13, (Ask.cells xf24), 84), (b7, (Pt.cells e), 24), (b1, (RollA.cells ((⟨bl, ol, 93⟩ : Roll))), 125), (bl, (put cs ol #[Sl.val s31]), t)] w40 := hM41
   refine ⟨.inl rfl, ?_⟩
   refine s_nil ?_
   refine c_sr ?_
   refine l_v rfl (r_loadA Tryz.isAgg84 Tryz.sizeOf84 (Ask.size _) rfl (hM41.base (i := 0) rfl)) ?_
   refine l_v rfl (r_move rfl) ?_
   refine l_store hM41 (i := 0) rfl Tryz.sizeOf84 rfl rfl (Ask.size _) (by rw [Ask.size]; decide) (Ask.one _) (put_whole _ _ ((Ask.size _).trans (Ask.size _).symm)) ?_
   intro w43 hM44 hK45
   replace hM44 : Mem w (bl :: s.val.ownBlock.toList) [(b13, (Ask.cells xf24), 84), (b7, (Pt.cells e), 24), (b1, (RollA.cells ((⟨bl, ol, 93⟩ : Roll))), 125), (bl, (put cs ol #[Sl.val s31]), t)] w43 := hM44
   refine l_v rfl (r_assign rfl) ?_
   refine l_nil ?_
   refine c_ret ?_
   refine retCT rfl Tryz.isAgg84 Tryz.sizeOf84 (Ask.size _) rfl (hM44.base (i := 0) rfl) rfl ?_
   exact ⟨s31, by rw [getK_of hf24, h23] <;> rfl, he32, hM44.blk (i := 3) rfl, by rw [out_has hu h23]; exact ((hO33.keepS hK42 hSp39 (by simp)).keepS hK45 hSp39 (by simp)), hM44.kp⟩
  ·skip
   refine c_condF rfl h23 ?_
   refine c_skip ?_
   refine c_sr ?_
   refine l_v rfl (r_loadA Tryz.isAgg84 Tryz.sizeOf84 (Ask.size _) rfl (hM22.base (i := 0) rfl)) ?_
   refine l_v rfl (r_move rfl) ?_
   refine l_store hM22 (i := 0) rfl Tryz.sizeOf84 rfl rfl (Ask.size _) (by rw [Ask.size]; decide) (Ask.one _) (put_whole _ _ ((Ask.size _).trans (Ask.size _).symm)) ?_
   intro w46 hM47 hK48
   replace hM47 : Mem w (bl :: s.val.ownBlock.toList) [(b13, (Ask.cells Ask.zero), 84), (b7, (Pt.cells e), 24), (b1, (RollA.cells ((⟨bl, ol, 93⟩ : Roll))), 125), (bl, cs, t)] w46 := hM47
   refine l_v rfl (r_assign rfl) ?_
   refine l_nil ?_
   refine c_ret ?_
   refine retCT rfl Tryz.isAgg84 Tryz.sizeOf84 (Ask.size _) rfl (hM47.base (i := 0) rfl) rfl ?_
   exact ⟨s, by rw [getK_no h23, h23] <;> rfl, rfl, by rw [put_same hc hc.fit1]; exact hM47.blk (i := 3) rfl, by rw [out_no h23]; exact (((((ho.keep0 hK4).keep0 hK10).keep0 hK16).keep0 hK21).keepS hK48 hSp18 (by simp)), hM47.kp⟩
theorem f75 {w : World} {base bl ol t : Nat} {cs : Array Value} {s : Sl} {l : List Ask} (hb : Blk w bl cs t) (hlt : bl < base) (hc : Sub cs ol #[s.val]) (ho : Own base 84 w s 65 Ask.cells l) (hu : UpK Ask.key l) (hlen : l.length ≤ 1000) (hbw : base ≤ w.heap.size) (x : Ask) :
    Ret 75 #[.agg (Roll.cells ⟨bl, ol, 93⟩), .agg x.cells] w (fun v w' => ∃ s' : Sl, v = .tuple #[] ∧ NB w s s' ∧ Blk w' bl (put cs ol #[s'.val]) t ∧ Own base 84 w' s' 65 Ask.cells (putK Ask.key l x) ∧ Keeps (bl :: s.val.ownBlock.toList) w w') := by
  have hn := ho.big
  have hM0 : Mem w (bl :: s.val.ownBlock.toList) [(bl, cs, t)] w := ⟨Keeps.refl _ _, by simp only [List.mem_cons, List.not_mem_nil, or_false, forall_eq]; exact hb, by simp, by simp⟩
  have hSp0 : Sp s [bl] := Sp.nil.cons (ho.lo hlt)
  refine enter Tryz.func75 rfl rfl ?_
  refine c_sr ?_
  refine l_box hM0 rfl rfl ?_
  intro b1 w2 hM3 hK4 hB5
  replace hM3 : Mem w (bl :: s.val.ownBlock.toList) [(b1, (RollA.cells ((⟨bl, ol, 93⟩ : Roll))), 125), (bl, cs, t)] w2 := hM3
  have hNb1 : w.heap.size ≤ b1 := Nat.le_trans hM0.kp.size hB5
  have hSp6 : Sp s [b1, bl] := hSp0.cons (ho.hi hB5)
  refine l_box hM3 rfl rfl ?_
  intro b7 w8 hM9 hK10 hB11
  replace hM9 : Mem w (bl :: s.val.ownBlock.toList) [(b7, (Ask.cells x), 84), (b1, (RollA.cells ((⟨bl, ol, 93⟩ : Roll))), 125), (bl, cs, t)] w8 := hM9
  have hNb7 : w.heap.size ≤ b7 := Nat.le_trans hM3.kp.size hB11
  have hSp12 : Sp s [b7, b1, bl] := hSp6.cons ((ho.keep0 hK4).hi hB11)
  refine l_nil ?_
  refine c_seq ?_
  refine c_regD (Mem w (bl :: s.val.ownBlock.toList) [(b7, (Ask.cells x), 84), (b1, (RollA.cells ((⟨bl, ol, 93⟩ : Roll))), 125), (bl, cs, t)]) [] [(0, true), (1, true), (2, true), (3, false), (4, true), (5, true), (6, true), (7, false), (8, true), (9, true), (10, true), (11, true), (12, true)] (by kernel_rfl) ?_
  have hM13 := hM9.drew
  refine s_take hM13 rfl (gn rfl) rfl rfl (fun w h => r_loadA Tryz.isAgg125 Tryz.sizeOf125 (RollA.size _) rfl (h.base (i := 1) rfl)) ?_
  refine s_take hM13 rfl (gn rfl) rfl rfl (fun w h => r_fieldAddr RollA.fld_of rfl) ?_
  refine s_take hM13 rfl (gn rfl) rfl rfl (fun w h => r_load1 (v := Value.func (Fn.func 93) #[] #[]) Tryz.isAgg123 rfl (Holds.sub (h.base (i := 1) rfl) (RollA.sub_of _))) ?_
  refine s_call rfl (gn rfl) rfl rfl (r_callv (cap := []) rfl Tryz.call93 rfl) (f93 _ _) ?_
  rintro v15 w16 ⟨rfl, hK17⟩
  have hM18 := hM13.keep hK17
  refine ⟨.inr hM18, ?_⟩
  refine s_take hM18 rfl (gn rfl) rfl rfl (fun w h => r_nilCheck rfl) ?_
  refine s_take hM18 rfl (gn rfl) rfl rfl (fun w h => r_fieldAddr Cipher.fld_E rfl) ?_
  refine s_take hM18 rfl (gn rfl) rfl rfl (fun w h => r_loadA Tryz.isAgg24 Tryz.sizeOf24 (Pt.size _) rfl (Holds.sub (Holds.sub (h.base (i := 0) rfl) (Ask.sub_who _)) (Cipher.sub_E _))) ?_
  refine s_call rfl (gn rfl) rfl rfl (r_call Tryz.call101 rfl) (f101 (hM18.holds (i := 2) rfl hc) (((((ho.keep0 hK4).keep0 hK10).keep0 (Keeps.drew _)).keep0 hK17).row enAsk) hu x.who.E) ?_
  rintro v19 w20 ⟨rfl, hK21⟩
  have hM22 := hM18.keep hK21
  refine ⟨.inr hM22, ?_⟩
  refine s_take hM22 rfl (gn rfl) rfl rfl (fun w h => r_move rfl) ?_
  refine s_take hM22 rfl (gn rfl) rfl rfl (fun w h => r_extract rfl rfl) ?_
  refine s_take hM22 rfl (gn rfl) rfl rfl (fun w h => r_extract rfl rfl) ?_
  refine s_take hM22 rfl (gn rfl) rfl rfl (fun w h => r_assign rfl) ?_
  refine s_take hM22 rfl (gn rfl) rfl rfl (fun w h => r_assign rfl) ?_
  refine s_nil ?_
  refine c_regD (Mem w (bl :: s.val.ownBlock.toList) [(b7, (Ask.cells x), 84), (b1, (RollA.cells ((⟨bl, ol, 93⟩ : Roll))), 125), (bl, cs, t)]) [11] [(0, true), (1, true), (2, true), (3, true), (4, true), (5, true), (6, true), (7, true), (8, false), (9, false), (10, true), (11, false)] (by kernel_rfl) ?_
  have hM23 := hM22.drew
  refine s_take hM23 rfl (gn rfl) rfl rfl (fun w h => r_fieldAddr RollA.fld_l rfl) ?_
  refine s_take hM23 rfl (gn rfl) rfl rfl (fun w h => r_load1 (v := Value.pointer (some ⟨bl, ol, none⟩)) Tryz.isAgg122 rfl (Holds.sub (h.base (i := 1) rfl) (RollA.sub_l _))) ?_
  refine s_take hM23 rfl (gn rfl) rfl rfl (fun w h => r_fieldAddr RollA.fld_l rfl) ?_
  refine s_take hM23 rfl (gn rfl) rfl rfl (fun w h => r_load1 (v := Value.pointer (some ⟨bl, ol, none⟩)) Tryz.isAgg122 rfl (Holds.sub (h.base (i := 1) rfl) (RollA.sub_l _))) ?_
  refine s_take hM23 rfl (gn rfl) rfl rfl (fun w h => r_nilCheck rfl) ?_
  refine s_take hM23 rfl (gn rfl) rfl rfl (fun w h => r_load1 (v := Sl.val s) Tryz.isAgg34 rfl (h.holds (i := 2) rfl hc)) ?_
  refine s_take hM23 rfl (gn rfl) rfl rfl (fun w h => r_move rfl) ?_
  refine s_take hM23 rfl (gn rfl) rfl rfl (fun w h => r_loadA Tryz.isAgg84 Tryz.sizeOf84 (Ask.size _) rfl (h.base (i := 0) rfl)) ?_
  refine s_slice1B (enc := Ask.cells) (o := x) hM23 elAsk enAsk rfl rfl rfl rfl (by decide) ?_
  intro b25 w26 hM27 hK28 hB29
  replace hM27 : Mem w (bl :: s.val.ownBlock.toList) [(b25, (Ask.cells x), 84), (b7, (Ask.cells x), 84), (b1, (RollA.cells ((⟨bl, ol, 93⟩ : Roll))), 125), (bl, cs, t)] w26 := hM27
  have hSp30 : Sp s [b25, b7, b1, bl] := hSp12.cons (((((((ho.keep0 hK4).keep0 hK10).keep0 (Keeps.drew _)).keep0 hK17).keep0 hK21).keep0 (Keeps.drew _)).hi hB29)
  refine ⟨.inr (hM27.forget (.cons _ (.refl _))), ?_⟩
  refine s_call rfl (gn rfl) rfl rfl (r_call Tryz.call105 rfl) (f105 (((((((ho.keep0 hK4).keep0 hK10).keep0 (Keeps.drew _)).keep0 hK17).keep0 hK21).keep0 (Keeps.drew _)).keep0 hK28) (hM27.blk (i := 0) rfl) (by omega) (Nat.le_trans hbw hM27.kp.size) (hSp30 b25 (by simp)) pos_le) ?_
  rintro v34 w35 ⟨s31, rfl, hn32, hO33, hK36⟩
  have hM37 := hM27.own' hK36 hSp30 (fun b hb => .inl (by simp [hb]))
  have hnb38 := hn32
  have hSp39 : Sp s31 [b25, b7, b1, bl] := hnb38.sep hSp30 hM27.blks
  refine ⟨.inr (hM37.forget (.cons _ (.refl _))), ?_⟩
  refine s_take (hM37.forget (.cons _ (.refl _))) rfl (gn rfl) rfl rfl (fun w h => r_nilCheck rfl) ?_
  refine s_store hM37 (j := 3) rfl rfl Tryz.sizeOf34 rfl rfl rfl hc.fit1 (one_one rfl) rfl ?_
  intro w40 hM41 hK42
  replace hM41 : Mem w (bl :: s.val.ownBlock.toList) [(b25, (Ask.cells x), 84), (b7, (Ask.cells x), 84), (b1, (RollA.cells ((⟨bl, ol, 93⟩ : Roll))), 125), (bl, (put cs ol #[Sl.val s31]), t)] w40 := hM41
  refine ⟨.inl rfl, ?_⟩
  refine s_nil ?_
  refine ret0 rfl ?_
  exact ⟨s31, rfl, hnb38.earlier hM27.kp, hM41.blk (i := 3) rfl, (hO33.keepS hK42 hSp39 (by simp)), hM41.kp⟩
theorem f112 {w : World} {base bl ol t : Nat} {cs : Array Value} {s : Sl} {l : List Ban} (hb : Blk w bl cs t) (hlt : bl < base) (hc : Sub cs ol #[s.val]) (ho : Own base 86 w s 128 Ban.cells l) (hu : UpK Ban.key l) (e : Pt) :
    Ret 112 #[.agg (Roll.cells ⟨bl, ol, 117⟩), .agg e.cells] w (fun v w' => ∃ s' : Sl, v = .tuple #[.agg (getK Ban.key Ban.zero l e).cells, .bool (hasK Ban.key l e)] ∧ s'.val.ownBlock = s.val.ownBlock ∧ Blk w' bl (put cs ol #[s'.val]) t ∧ Own base 86 w' s' 128 Ban.cells (outK Ban.key l e) ∧ Keeps (bl :: s.val.ownBlock.toList) w w') := by
  have hn := ho.big
  have hM0 : Mem w (bl :: s.val.ownBlock.toList) [(bl, cs, t)] w := ⟨Keeps.refl _ _, by simp only [List.mem_cons, List.not_mem_nil, or_false, forall_eq]; exact hb, by simp, by simp⟩
  have hSp0 : Sp s [bl] := Sp.nil.cons (ho.lo hlt)
  refine enter Tryz.func112 rfl rfl ?_
  refine c_sr ?_
  refine l_box hM0 rfl rfl ?_
  intro b1 w2 hM3 hK4 hB5
  replace hM3 : Mem w (bl :: s.val.ownBlock.toList) [(b1, (RollB.cells ((⟨bl, ol, 117⟩ : Roll))), 157), (bl, cs, t)] w2 := hM3
  have hNb1 : w.heap.size ≤ b1 := Nat.le_trans hM0.kp.size hB5
  have hSp6 : Sp s [b1, bl] := hSp0.cons (ho.hi hB5)
  refine l_box hM3 rfl rfl ?_
  intro b7 w8 hM9 hK10 hB11
  replace hM9 : Mem w (bl :: s.val.ownBlock.toList) [(b7, (Pt.cells e), 24), (b1, (RollB.cells ((⟨bl, ol, 117⟩ : Roll))), 157), (bl, cs, t)] w8 := hM9
  have hNb7 : w.heap.size ≤ b7 := Nat.le_trans hM3.kp.size hB11
  have hSp12 : Sp s [b7, b1, bl] := hSp6.cons ((ho.keep0 hK4).hi hB11)
  refine l_alloc hM9 rfl Ban.zv ?_
  intro b13 w14 hM15 hK16 hB17
  replace hM15 : Mem w (bl :: s.val.ownBlock.toList) [(b13, (Ban.cells Ban.zero), 86), (b7, (Pt.cells e), 24), (b1, (RollB.cells ((⟨bl, ol, 117⟩ : Roll))), 157), (bl, cs, t)] w14 := hM15
  have hNb13 : w.heap.size ≤ b13 := Nat.le_trans hM9.kp.size hB17
  have hSp18 : Sp s [b13, b7, b1, bl] := hSp12.cons (((ho.keep0 hK4).keep0 hK10).hi hB17)
  refine l_v rfl (r_assign rfl) ?_
  refine l_nil ?_
  refine c_sr ?_
  refine l_v rfl (r_loadA Tryz.isAgg157 Tryz.sizeOf157 (RollB.size _) rfl (hM15.base (i := 2) rfl)) ?_
  refine l_v rfl (r_loadA Tryz.isAgg24 Tryz.sizeOf24 (Pt.size _) rfl (hM15.base (i := 1) rfl)) ?_
  refine l_call (gn rfl) rfl rfl (r_call Tryz.call118 rfl) (f118 (hM15.holds (i := 3) rfl hc) ((((ho.keep0 hK4).keep0 hK10).keep0 hK16).row enBan) hu e) ?_
  rintro v19 w20 ⟨rfl, hK21⟩
  have hM22 := hM15.keep hK21
  refine l_v rfl (r_move rfl) ?_
  refine l_v rfl (r_extract rfl rfl) ?_
  refine l_v rfl (r_extract rfl rfl) ?_
  refine l_v rfl (r_assign rfl) ?_
  refine l_v rfl (r_assign rfl) ?_
  refine l_nil ?_
  refine c_seq ?_
  refine c_sr ?_
  refine l_v rfl (r_move rfl) ?_
  refine l_nil ?_
  refine ways (hasK Ban.key l e) (fun h23 => ?_) (fun h23 => ?_)
  ·skip
   obtain ⟨xf24, hx24, hk24, hf24⟩ := has_find hu h23
   refine c_condT rfl h23 ?_
   refine c_sr ?_
   refine l_v rfl (r_fieldAddr RollB.fld_l rfl) ?_
   refine l_v rfl (r_load1 (v := Value.pointer (some ⟨bl, ol, none⟩)) Tryz.isAgg154 rfl (Holds.sub (hM22.base (i := 2) rfl) (RollB.sub_l _))) ?_
   refine l_v rfl (r_nilCheck rfl) ?_
   refine l_v rfl (r_load1 (v := Sl.val s) Tryz.isAgg35 rfl (hM22.holds (i := 3) rfl hc)) ?_
   refine l_v rfl (r_move rfl) ?_
   have hlt25 : (posK Ban.key l e) < l.length := (List.getElem?_eq_some_iff.1 hx24).1
   obtain ⟨p25, o25, ha25, hA25, -⟩ := (((((ho.keep0 hK4).keep0 hK10).keep0 hK16).keep0 hK21).row enBan).at_ _ _ hx24
   refine l_v rfl (r_indexR Tryz.underlying35 Tryz.sizeOf86 ⟨_, (((((ho.keep0 hK4).keep0 hK10).keep0 hK16).keep0 hK21).row enBan)⟩ rfl ha25 rfl hlt25) ?_
   refine l_v rfl (r_loadA Tryz.isAgg86 Tryz.sizeOf86 (Ban.size _) rfl ((((((ho.keep0 hK4).keep0 hK10).keep0 hK16).keep0 hK21).row enBan).ix hx24 ha25)) ?_
   refine l_store hM22 (i := 0) rfl Tryz.sizeOf86 rfl rfl (Ban.size _) (by rw [Ban.size]; decide) (Ban.one _) (put_whole _ _ ((Ban.size _).trans (Ban.size _).symm)) ?_
   intro w26 hM27 hK28
   replace hM27 : Mem w (bl :: s.val.ownBlock.toList) [(b13, (Ban.cells xf24), 86), (b7, (Pt.cells e), 24), (b1, (RollB.cells ((⟨bl, ol, 117⟩ : Roll))), 157), (bl, cs, t)] w26 := hM27
   refine l_nil ?_
   refine c_regD (Mem w (bl :: s.val.ownBlock.toList) [(b13, (Ban.cells xf24), 86), (b7, (Pt.cells e), 24), (b1, (RollB.cells ((⟨bl, ol, 117⟩ : Roll))), 157), (bl, cs, t)]) [11] [(0, true), (1, true), (2, true), (3, true), (4, true), (5, true), (6, true), (7, true), (8, true), (9, false), (10, true), (11, false)] (by kernel_rfl) ?_
   have hM29 := hM27.drew
   refine s_take hM29 rfl (gn rfl) rfl rfl (fun w h => r_fieldAddr RollB.fld_l rfl) ?_
   refine s_take hM29 rfl (gn rfl) rfl rfl (fun w h => r_load1 (v := Value.pointer (some ⟨bl, ol, none⟩)) Tryz.isAgg154 rfl (Holds.sub (h.base (i := 2) rfl) (RollB.sub_l _))) ?_
   refine s_take hM29 rfl (gn rfl) rfl rfl (fun w h => r_fieldAddr RollB.fld_l rfl) ?_
   refine s_take hM29 rfl (gn rfl) rfl rfl (fun w h => r_load1 (v := Value.pointer (some ⟨bl, ol, none⟩)) Tryz.isAgg154 rfl (Holds.sub (h.base (i := 2) rfl) (RollB.sub_l _))) ?_
   refine s_take hM29 rfl (gn rfl) rfl rfl (fun w h => r_nilCheck rfl) ?_
   refine s_take hM29 rfl (gn rfl) rfl rfl (fun w h => r_load1 (v := Sl.val s) Tryz.isAgg35 rfl (h.holds (i := 3) rfl hc)) ?_
   refine s_take hM29 rfl (gn rfl) rfl rfl (fun w h => r_move rfl) ?_
   refine s_take hM29 rfl (gn rfl) rfl rfl (fun w h => r_move rfl) ?_
   refine s_take hM29 rfl (gn rfl) rfl rfl (fun w h => r_add (r := ((((posK Ban.key l e)) + 1 : Nat) : Int)) rfl rfl (nadd (i := (posK Ban.key l e)) (k := 1) (m := ((posK Ban.key l e)) + 1) (by omega) (by omega))) ?_
   refine s_call rfl (gn rfl) rfl rfl (r_call Tryz.call128 rfl) (f128 ((((((ho.keep0 hK4).keep0 hK10).keep0 hK16).keep0 hK21).keepS hK28 hSp18 (by simp)).keep0 (Keeps.drew _)) (List.getElem?_eq_some_iff.1 hx24).1) ?_
   rintro v34 w35 ⟨s31, rfl, he32, hO33, hK36⟩
   have hM37 := hM29.own' hK36 hSp18 (fun b hb => .inl (by simp [hb]))
   have hnb38 := (NB.of_eq (w := w26.drew) he32)
   have hSp39 : Sp s31 [b13, b7, b1, bl] := hnb38.sep hSp18 hM29.blks
   refine ⟨.inr hM37, ?_⟩
   refine s_take hM37 rfl (gn rfl) rfl rfl (fun w h => r_nilCheck rfl) ?_
   refine s_store hM37 (j := 3) rfl rfl Tryz.sizeOf35 rfl rfl rfl hc.fit1 (one_one rfl) rfl ?_
   intro w40 hM41 hK42
   replace hM41 : Mem w (bl :: s.val.ownBlock.toList) [(b13, (Ban.cells xf24), 86), (b7, (Pt.cells e), 24), (b1, (RollB.cells ((⟨bl, ol, 117⟩ : Roll))), 157), (bl, (put cs ol #[Sl.val s31]), t)] w40 := hM41
   refine ⟨.inl rfl, ?_⟩
   refine s_nil ?_
   refine c_sr ?_
   refine l_v rfl (r_loadA Tryz.isAgg86 Tryz.sizeOf86 (Ban.size _) rfl (hM41.base (i := 0) rfl)) ?_
   refine l_v rfl (r_move rfl) ?_
   refine l_store hM41 (i := 0) rfl Tryz.sizeOf86 rfl rfl (Ban.size _) (by rw [Ban.size]; decide) (Ban.one _) (put_whole _ _ ((Ban.size _).trans (Ban.size _).symm)) ?_
   intro w43 hM44 hK45
   replace hM44 : Mem w (bl :: s.val.ownBlock.toList) [(b13, (Ban.cells xf24), 86), (b7, (Pt.cells e), 24), (b1, (RollB.cells ((⟨bl, ol, 117⟩ : Roll))), 157), (bl, (put cs ol #[Sl.val s31]), t)] w43 := hM44
   refine l_v rfl (r_assign rfl) ?_
   refine l_nil ?_
   refine c_ret ?_
   refine retCT rfl Tryz.isAgg86 Tryz.sizeOf86 (Ban.size _) rfl (hM44.base (i := 0) rfl) rfl ?_
   exact ⟨s31, by rw [getK_of hf24, h23] <;> rfl, he32, hM44.blk (i := 3) rfl, by rw [out_has hu h23]; exact ((hO33.keepS hK42 hSp39 (by simp)).keepS hK45 hSp39 (by simp)), hM44.kp⟩
  ·skip
   refine c_condF rfl h23 ?_
   refine c_skip ?_
   refine c_sr ?_
   refine l_v rfl (r_loadA Tryz.isAgg86 Tryz.sizeOf86 (Ban.size _) rfl (hM22.base (i := 0) rfl)) ?_
   refine l_v rfl (r_move rfl) ?_
   refine l_store hM22 (i := 0) rfl Tryz.sizeOf86 rfl rfl (Ban.size _) (by rw [Ban.size]; decide) (Ban.one _) (put_whole _ _ ((Ban.size _).trans (Ban.size _).symm)) ?_
   intro w46 hM47 hK48
   replace hM47 : Mem w (bl :: s.val.ownBlock.toList) [(b13, (Ban.cells Ban.zero), 86), (b7, (Pt.cells e), 24), (b1, (RollB.cells ((⟨bl, ol, 117⟩ : Roll))), 157), (bl, cs, t)] w46 := hM47
   refine l_v rfl (r_assign rfl) ?_
   refine l_nil ?_
   refine c_ret ?_
   refine retCT rfl Tryz.isAgg86 Tryz.sizeOf86 (Ban.size _) rfl (hM47.base (i := 0) rfl) rfl ?_
   exact ⟨s, by rw [getK_no h23, h23] <;> rfl, rfl, by rw [put_same hc hc.fit1]; exact hM47.blk (i := 3) rfl, by rw [out_no h23]; exact (((((ho.keep0 hK4).keep0 hK10).keep0 hK16).keep0 hK21).keepS hK48 hSp18 (by simp)), hM47.kp⟩
theorem f114 {w : World} {base bl ol t : Nat} {cs : Array Value} {s : Sl} {l : List Ban} (hb : Blk w bl cs t) (hlt : bl < base) (hc : Sub cs ol #[s.val]) (ho : Own base 86 w s 128 Ban.cells l) (hu : UpK Ban.key l) (hlen : l.length ≤ 1000) (hbw : base ≤ w.heap.size) (x : Ban) :
    Ret 114 #[.agg (Roll.cells ⟨bl, ol, 117⟩), .agg x.cells] w (fun v w' => ∃ s' : Sl, v = .tuple #[] ∧ NB w s s' ∧ Blk w' bl (put cs ol #[s'.val]) t ∧ Own base 86 w' s' 128 Ban.cells (putK Ban.key l x) ∧ Keeps (bl :: s.val.ownBlock.toList) w w') := by
  have hn := ho.big
  have hM0 : Mem w (bl :: s.val.ownBlock.toList) [(bl, cs, t)] w := ⟨Keeps.refl _ _, by simp only [List.mem_cons, List.not_mem_nil, or_false, forall_eq]; exact hb, by simp, by simp⟩
  have hSp0 : Sp s [bl] := Sp.nil.cons (ho.lo hlt)
  refine enter Tryz.func114 rfl rfl ?_
  refine c_sr ?_
  refine l_box hM0 rfl rfl ?_
  intro b1 w2 hM3 hK4 hB5
  replace hM3 : Mem w (bl :: s.val.ownBlock.toList) [(b1, (RollB.cells ((⟨bl, ol, 117⟩ : Roll))), 157), (bl, cs, t)] w2 := hM3
  have hNb1 : w.heap.size ≤ b1 := Nat.le_trans hM0.kp.size hB5
  have hSp6 : Sp s [b1, bl] := hSp0.cons (ho.hi hB5)
  refine l_box hM3 rfl rfl ?_
  intro b7 w8 hM9 hK10 hB11
  replace hM9 : Mem w (bl :: s.val.ownBlock.toList) [(b7, (Ban.cells x), 86), (b1, (RollB.cells ((⟨bl, ol, 117⟩ : Roll))), 157), (bl, cs, t)] w8 := hM9
  have hNb7 : w.heap.size ≤ b7 := Nat.le_trans hM3.kp.size hB11
  have hSp12 : Sp s [b7, b1, bl] := hSp6.cons ((ho.keep0 hK4).hi hB11)
  refine l_nil ?_
  refine c_seq ?_
  refine c_regD (Mem w (bl :: s.val.ownBlock.toList) [(b7, (Ban.cells x), 86), (b1, (RollB.cells ((⟨bl, ol, 117⟩ : Roll))), 157), (bl, cs, t)]) [] [(0, true), (1, true), (2, true), (3, false), (4, true), (5, true), (6, true), (7, false), (8, true), (9, true), (10, true), (11, true), (12, true)] (by kernel_rfl) ?_
  have hM13 := hM9.drew
  refine s_take hM13 rfl (gn rfl) rfl rfl (fun w h => r_loadA Tryz.isAgg157 Tryz.sizeOf157 (RollB.size _) rfl (h.base (i := 1) rfl)) ?_
  refine s_take hM13 rfl (gn rfl) rfl rfl (fun w h => r_fieldAddr RollB.fld_of rfl) ?_
  refine s_take hM13 rfl (gn rfl) rfl rfl (fun w h => r_load1 (v := Value.func (Fn.func 117) #[] #[]) Tryz.isAgg155 rfl (Holds.sub (h.base (i := 1) rfl) (RollB.sub_of _))) ?_
  refine s_call rfl (gn rfl) rfl rfl (r_callv (cap := []) rfl Tryz.call117 rfl) (f117 _ _) ?_
  rintro v15 w16 ⟨rfl, hK17⟩
  have hM18 := hM13.keep hK17
  refine ⟨.inr hM18, ?_⟩
  refine s_take hM18 rfl (gn rfl) rfl rfl (fun w h => r_nilCheck rfl) ?_
  refine s_take hM18 rfl (gn rfl) rfl rfl (fun w h => r_fieldAddr Cipher.fld_E rfl) ?_
  refine s_take hM18 rfl (gn rfl) rfl rfl (fun w h => r_loadA Tryz.isAgg24 Tryz.sizeOf24 (Pt.size _) rfl (Holds.sub (Holds.sub (h.base (i := 0) rfl) (Ban.sub_who _)) (Cipher.sub_E _))) ?_
  refine s_call rfl (gn rfl) rfl rfl (r_call Tryz.call118 rfl) (f118 (hM18.holds (i := 2) rfl hc) (((((ho.keep0 hK4).keep0 hK10).keep0 (Keeps.drew _)).keep0 hK17).row enBan) hu x.who.E) ?_
  rintro v19 w20 ⟨rfl, hK21⟩
  have hM22 := hM18.keep hK21
  refine ⟨.inr hM22, ?_⟩
  refine s_take hM22 rfl (gn rfl) rfl rfl (fun w h => r_move rfl) ?_
  refine s_take hM22 rfl (gn rfl) rfl rfl (fun w h => r_extract rfl rfl) ?_
  refine s_take hM22 rfl (gn rfl) rfl rfl (fun w h => r_extract rfl rfl) ?_
  refine s_take hM22 rfl (gn rfl) rfl rfl (fun w h => r_assign rfl) ?_
  refine s_take hM22 rfl (gn rfl) rfl rfl (fun w h => r_assign rfl) ?_
  refine s_nil ?_
  refine c_regD (Mem w (bl :: s.val.ownBlock.toList) [(b7, (Ban.cells x), 86), (b1, (RollB.cells ((⟨bl, ol, 117⟩ : Roll))), 157), (bl, cs, t)]) [11] [(0, true), (1, true), (2, true), (3, true), (4, true), (5, true), (6, true), (7, true), (8, false), (9, false), (10, true), (11, false)] (by kernel_rfl) ?_
  have hM23 := hM22.drew
  refine s_take hM23 rfl (gn rfl) rfl rfl (fun w h => r_fieldAddr RollB.fld_l rfl) ?_
  refine s_take hM23 rfl (gn rfl) rfl rfl (fun w h => r_load1 (v := Value.pointer (some ⟨bl, ol, none⟩)) Tryz.isAgg154 rfl (Holds.sub (h.base (i := 1) rfl) (RollB.sub_l _))) ?_
  refine s_take hM23 rfl (gn rfl) rfl rfl (fun w h => r_fieldAddr RollB.fld_l rfl) ?_
  refine s_take hM23 rfl (gn rfl) rfl rfl (fun w h => r_load1 (v := Value.pointer (some ⟨bl, ol, none⟩)) Tryz.isAgg154 rfl (Holds.sub (h.base (i := 1) rfl) (RollB.sub_l _))) ?_
  refine s_take hM23 rfl (gn rfl) rfl rfl (fun w h => r_nilCheck rfl) ?_
  refine s_take hM23 rfl (gn rfl) rfl rfl (fun w h => r_load1 (v := Sl.val s) Tryz.isAgg35 rfl (h.holds (i := 2) rfl hc)) ?_
  refine s_take hM23 rfl (gn rfl) rfl rfl (fun w h => r_move rfl) ?_
  refine s_take hM23 rfl (gn rfl) rfl rfl (fun w h => r_loadA Tryz.isAgg86 Tryz.sizeOf86 (Ban.size _) rfl (h.base (i := 0) rfl)) ?_
  refine s_slice1B (enc := Ban.cells) (o := x) hM23 elBan enBan rfl rfl rfl rfl (by decide) ?_
  intro b25 w26 hM27 hK28 hB29
  replace hM27 : Mem w (bl :: s.val.ownBlock.toList) [(b25, (Ban.cells x), 86), (b7, (Ban.cells x), 86), (b1, (RollB.cells ((⟨bl, ol, 117⟩ : Roll))), 157), (bl, cs, t)] w26 := hM27
  have hSp30 : Sp s [b25, b7, b1, bl] := hSp12.cons (((((((ho.keep0 hK4).keep0 hK10).keep0 (Keeps.drew _)).keep0 hK17).keep0 hK21).keep0 (Keeps.drew _)).hi hB29)
  refine ⟨.inr (hM27.forget (.cons _ (.refl _))), ?_⟩
  refine s_call rfl (gn rfl) rfl rfl (r_call Tryz.call129 rfl) (f129 (((((((ho.keep0 hK4).keep0 hK10).keep0 (Keeps.drew _)).keep0 hK17).keep0 hK21).keep0 (Keeps.drew _)).keep0 hK28) (hM27.blk (i := 0) rfl) (by omega) (Nat.le_trans hbw hM27.kp.size) (hSp30 b25 (by simp)) pos_le) ?_
  rintro v34 w35 ⟨s31, rfl, hn32, hO33, hK36⟩
  have hM37 := hM27.own' hK36 hSp30 (fun b hb => .inl (by simp [hb]))
  have hnb38 := hn32
  have hSp39 : Sp s31 [b25, b7, b1, bl] := hnb38.sep hSp30 hM27.blks
  refine ⟨.inr (hM37.forget (.cons _ (.refl _))), ?_⟩
  refine s_take (hM37.forget (.cons _ (.refl _))) rfl (gn rfl) rfl rfl (fun w h => r_nilCheck rfl) ?_
  refine s_store hM37 (j := 3) rfl rfl Tryz.sizeOf35 rfl rfl rfl hc.fit1 (one_one rfl) rfl ?_
  intro w40 hM41 hK42
  replace hM41 : Mem w (bl :: s.val.ownBlock.toList) [(b25, (Ban.cells x), 86), (b7, (Ban.cells x), 86), (b1, (RollB.cells ((⟨bl, ol, 117⟩ : Roll))), 157), (bl, (put cs ol #[Sl.val s31]), t)] w40 := hM41
  refine ⟨.inl rfl, ?_⟩
  refine s_nil ?_
  refine ret0 rfl ?_
  exact ⟨s31, rfl, hnb38.earlier hM27.kp, hM41.blk (i := 3) rfl, (hO33.keepS hK42 hSp39 (by simp)), hM41.kp⟩
end Go.Proofs.YtekhaogjmmmniaaGreat
namespace Go.Proofs.YtekhaogjmmmniaaGreat
open Go Go.RowKit
structure StepR where
  b : Nat
  by_ : Pt
  a : ARep
  mine : UInt8
def StepR.parts (x : StepR) : List (Array Value) := [#[.pointer (some ⟨x.b, 0, none⟩)], Pt.cells x.by_, ARep.cells x.a, #[vU8 x.mine]]
def StepR.cells (x : StepR) : Array Value := cat x.parts
theorem StepR.size (x : StepR) : x.cells.size = 138 := by simp [StepR.cells, cat_size, StepR.parts, Pt.size, ARep.size]
theorem StepR.one (x : StepR) : ∀ c ∈ x.cells, c.oneCell' = true := cat_one (by
  intro p hp
  simp only [StepR.parts, List.mem_cons, List.not_mem_nil, or_false] at hp
  rcases hp with rfl | rfl | rfl | rfl
  · exact one_one rfl
  · exact Pt.one _
  · exact ARep.one _
  · exact one_one rfl)
theorem StepR.off_b (x : StepR) : offAt x.parts 0 = 0 := by simp [offAt]
theorem StepR.sub_b (x : StepR) : Sub x.cells 0 (#[.pointer (some ⟨x.b, 0, none⟩)]) := by have := cat_sub x.parts 0 _ rfl; rw [StepR.off_b] at this; exact this
theorem StepR.fld_b : FldAt 79 0 0 := ⟨_, _, _, Tryz.underlying79, rfl, rfl, Tryz.sizeOf77, by decide⟩
theorem StepR.off_by_ (x : StepR) : offAt x.parts 1 = 1 := by simp [offAt, StepR.parts]
theorem StepR.sub_by_ (x : StepR) : Sub x.cells 1 (Pt.cells x.by_) := by have := cat_sub x.parts 1 _ rfl; rw [StepR.off_by_] at this; exact this
theorem StepR.fld_by_ : FldAt 79 1 1 := ⟨_, _, _, Tryz.underlying79, rfl, rfl, Tryz.sizeOf24, by decide⟩
theorem StepR.off_a (x : StepR) : offAt x.parts 2 = 33 := by simp [offAt, StepR.parts, Pt.size]
theorem StepR.sub_a (x : StepR) : Sub x.cells 33 (ARep.cells x.a) := by have := cat_sub x.parts 2 _ rfl; rw [StepR.off_a] at this; exact this
theorem StepR.fld_a : FldAt 79 2 33 := ⟨_, _, _, Tryz.underlying79, rfl, rfl, Tryz.sizeOf42, by decide⟩
theorem StepR.off_mine (x : StepR) : offAt x.parts 3 = 137 := by simp [offAt, StepR.parts, Pt.size, ARep.size]
theorem StepR.sub_mine (x : StepR) : Sub x.cells 137 (#[vU8 x.mine]) := by have := cat_sub x.parts 3 _ rfl; rw [StepR.off_mine] at this; exact this
theorem StepR.fld_mine : FldAt 79 3 137 := ⟨_, _, _, Tryz.underlying79, rfl, rfl, Tryz.sizeOf28, by decide⟩

/-- The blocks of a state's slices. -/
def Six.sls (q : Six) : List Sl := [q.t, q.p, q.s, q.i, q.a, q.b]
def Six.bs (q : Six) : List Nat := q.sls.filterMap fun s => s.val.ownBlock
theorem mem_bs {q : Six} {k : Nat} : k ∈ q.bs ↔ ∃ s ∈ q.sls, s.val.ownBlock = some k := by simp [Six.bs]
/-- Whatever block q' has q had, or it is new. -/
def NS (w : World) (q q' : Six) : Prop := ∀ k ∈ q'.bs, k ∈ q.bs ∨ w.heap.size ≤ k
/-- Whatever block q' has q had. -/
def SubQ (q q' : Six) : Prop := ∀ k ∈ q'.bs, k ∈ q.bs
/-- These blocks are neither the state's box nor its slices' own. -/
def Apt (b : Nat) (q : Six) (xs : List Nat) : Prop := ∀ x ∈ xs, x ≠ b ∧ x ∉ q.bs
/-- A state in a box. -/
structure StB (base : Nat) (w : World) (b : Nat) (q : Six) (S : State) : Prop where
  blk : Blk w b (S.rep q).cells 37
  lt : b < base
  own : OwnSt base w q S

section stb
variable {base b x : Nat} {w w' W : World} {q q' q0 q1 q2 : Six} {S : State} {X xs ys : List Nat} {L : List Ent}
theorem OwnSt.lo (h : OwnSt base w q S) : ∀ k ∈ q.bs, base ≤ k ∧ k < w.heap.size := by
  intro k hk
  obtain ⟨s, hs, hb⟩ := mem_bs.1 hk
  simp only [Six.sls, List.mem_cons, List.not_mem_nil, or_false] at hs
  rcases hs with rfl | rfl | rfl | rfl | rfl | rfl
  · exact h.t.own.lt k hb
  · exact h.p.own.lt k hb
  · exact h.s.own.lt k hb
  · exact h.i.own.lt k hb
  · exact h.a.own.lt k hb
  · exact h.b.own.lt k hb
theorem NS.refl (w : World) (q : Six) : NS w q q := fun _ h => .inl h
theorem NS.trans (h1 : NS W q0 q1) (h2 : NS w q1 q2) (k : W.heap.size ≤ w.heap.size) : NS W q0 q2 := fun b hb => (h2 b hb).elim (fun h => h1 b h) (fun h => .inr (Nat.le_trans k h))
theorem Apt.nil : Apt b q [] := fun _ h => by cases h
theorem Apt.cons (h : Apt b q xs) (hB : StB base w b q S) (hx : w.heap.size ≤ x) : Apt b q (x :: xs) := fun y hy => by
  cases hy with
  | head => exact ⟨fun e => by have := hB.blk.lt; omega, fun hm => by have := (hB.own.lo _ hm).2; omega⟩
  | tail _ hy => exact h y hy
theorem Apt.ns (h : Apt b q xs) (hn : NS w q q') (hl : ∀ x ∈ xs, x < w.heap.size) : Apt b q' xs := fun x hx => ⟨(h x hx).1, fun hm => (hn _ hm).elim (h x hx).2 (fun hk => by have := hl x hx; omega)⟩
theorem Apt.sub (h : Apt b q xs) (hs : ∀ y ∈ ys, y ∈ xs) : Apt b q ys := fun y hy => h y (hs y hy)
theorem SubQ.ns (h : SubQ q q') (w : World) : NS w q q' := fun b hb => .inl (h b hb)
theorem SubQ.xlt {z : Nat} (h : SubQ q q') (hz : ∀ k ∈ b :: q.bs, k < z) : ∀ k ∈ b :: q'.bs, k < z := fun k hk => by
  cases hk with
  | head => exact hz _ List.mem_cons_self
  | tail _ hk => exact hz _ (List.mem_cons_of_mem _ (h k hk))
theorem StB.xlt (h : StB base w b q S) : ∀ k ∈ b :: q.bs, k < w.heap.size := fun k hk => by
  cases hk with
  | head => exact h.blk.lt
  | tail _ hk => exact (h.own.lo k hk).2
theorem Apt.consZ {z : Nat} (h : Apt b q xs) (hz : ∀ k ∈ b :: q.bs, k < z) (hx : z ≤ x) : Apt b q (x :: xs) := fun y hy => by
  cases hy with
  | head => exact ⟨fun e => by have := hz b List.mem_cons_self; omega, fun hm => by have := hz x (List.mem_cons_of_mem _ hm); omega⟩
  | tail _ hy => exact h y hy
theorem OwnSt.keepX (h : OwnSt base w q S) (k : Keeps ys w w') (hy : ∀ y ∈ ys, y ∉ q.bs) : OwnSt base w' q S := by
  have hh : ∀ s ∈ q.sls, ∀ y ∈ ys, s.val.ownBlock ≠ some y := fun s hs y hm hc => hy y hm (mem_bs.2 ⟨s, hs, hc⟩)
  exact ⟨h.t.keep k (hh _ (by simp [Six.sls])), h.p.keep k (hh _ (by simp [Six.sls])), h.s.keep k (hh _ (by simp [Six.sls])), h.i.keep k (hh _ (by simp [Six.sls])), h.a.keep k (hh _ (by simp [Six.sls])), h.b.keep k (hh _ (by simp [Six.sls])), h.sep⟩
theorem StB.keepA (h : StB base w b q S) (k : Keeps ys w w') (ha : Apt b q xs) (hy : ∀ y ∈ ys, y ∈ xs) : StB base w' b q S :=
  ⟨h.blk.keep k (fun hm => (ha _ (hy _ hm)).1 rfl), h.lt, h.own.keepX k fun y hm => (ha _ (hy _ hm)).2⟩
theorem StB.keep0 (h : StB base w b q S) (k : Keeps [] w w') : StB base w' b q S := h.keepA k Apt.nil (fun _ h => h)
theorem StB.hd (h : StB base w b q S) : Holds w b 0 (S.rep q).cells := h.blk.whole
theorem Mem.st (h : Mem W (b :: q0.bs) L w) (k : Keeps (b :: q.bs) w w') (hF : NS W q0 q) (hA : Apt b q (L.map Prod.fst)) : Mem W (b :: q0.bs) L w' :=
  ⟨h.kp.then k (fun y hy => by
    cases hy with
    | head => exact .inl List.mem_cons_self
    | tail _ hy => exact (hF y hy).imp (List.mem_cons_of_mem _) id), fun e he => (h.has e he).keep k (fun hm => by
    have := hA e.1 (List.mem_map_of_mem he)
    cases hm with
    | head => exact this.1 rfl
    | tail _ hm => exact this.2 hm), h.own, h.nd⟩
theorem Sep2.symm {x y : Sl} (h : Sep2 x y) : Sep2 y x := fun b h1 h2 => h b h2 h1
theorem Sep2.nb {x s s' : Sl} (h : Sep2 x s) (hx : ∀ b, x.val.ownBlock = some b → b < w.heap.size) (hn : NB w s s') : Sep2 x s' := fun b h1 h2 => (hn b h2).elim (fun h2 => h b h1 h2) (fun h2 => by have := hx b h1; omega)
theorem Sep2.keep {α : Type} {sz : Nat} {enc : α → Array Value} {l : List α} {e : TypeId} {x s : Sl} (hx : Own base e w x sz enc l) (k : Keeps (b :: s.val.ownBlock.toList) w w') (hb : b < base) (h : Sep2 x s) : Own base e w' x sz enc l :=
  hx.keep k fun y hy hc => by
    cases hy with
    | head => have := (hx.own.lt _ hc).1; omega
    | tail _ hy => exact h y hc (Option.mem_toList.1 hy)
theorem Keeps.bs {s : Sl} (k : Keeps (b :: s.val.ownBlock.toList) w w') (hs : s ∈ q.sls) : Keeps (b :: q.bs) w w' := k.mono fun y hy => by
  cases hy with
  | head => exact List.mem_cons_self
  | tail _ hy => exact List.mem_cons_of_mem _ (mem_bs.2 ⟨s, hs, Option.mem_toList.1 hy⟩)
theorem NS.of {s s' : Sl} (hs : ∀ x ∈ q'.sls, x ∈ q.sls ∨ x = s') (hn : NB w s s') (hm : s ∈ q.sls) : NS w q q' := fun k hk => by
  obtain ⟨x, hx, he⟩ := mem_bs.1 hk
  rcases hs x hx with h | rfl
  · exact .inl (mem_bs.2 ⟨x, h, he⟩)
  · exact (hn k he).imp (fun h => mem_bs.2 ⟨s, hm, h⟩) id
end stb
theorem StB.set_s {base b : Nat} {w w' : World} {q : Six} {S : State} {s' : Sl} {l' : List Seat} (h : StB base w b q S) (hn : NB w q.s s') (hb : Blk w' b (put (S.rep q).cells 70 #[s'.val]) 37) (ho : Own base 73 w' s' 66 Seat.cells l') (k : Keeps (b :: q.s.val.ownBlock.toList) w w') :
    StB base w' b { q with s := s' } { S with seats := l' } ∧ Keeps (b :: q.bs) w w' ∧ NS w q { q with s := s' } := by
  obtain ⟨h1, h2, h3⟩ := h
  obtain ⟨o0, o1, o2, o3, o4, o5, sep⟩ := h3
  simp only [List.pairwise_cons, List.mem_cons, List.not_mem_nil, or_false, forall_eq_or_imp, forall_eq, false_imp_iff, implies_true, List.Pairwise.nil, and_true] at sep
  obtain ⟨⟨s01, s02, s03, s04, s05⟩, ⟨s12, s13, s14, s15⟩, ⟨s23, s24, s25⟩, ⟨s34, s35⟩, s45⟩ := sep
  rw [SRep.put_seats] at hb
  refine ⟨⟨hb, h2, (Sep2.keep o0 k h2 s02), (Sep2.keep o1 k h2 s12), ho, (Sep2.keep o3 k h2 s23.symm), (Sep2.keep o4 k h2 s24.symm), (Sep2.keep o5 k h2 s25.symm), ?_⟩, k.bs (by simp [Six.sls]), NS.of (by simp [Six.sls]) hn (by simp [Six.sls])⟩
  simp only [List.pairwise_cons, List.mem_cons, List.not_mem_nil, or_false, forall_eq_or_imp, forall_eq, false_imp_iff, implies_true, List.Pairwise.nil, and_true]
  exact ⟨⟨s01, (Sep2.nb s02 (fun b hb => (o0.own.lt b hb).2) hn), s03, s04, s05⟩, ⟨(Sep2.nb s12 (fun b hb => (o1.own.lt b hb).2) hn), s13, s14, s15⟩, ⟨(Sep2.nb s23.symm (fun b hb => (o3.own.lt b hb).2) hn).symm, (Sep2.nb s24.symm (fun b hb => (o4.own.lt b hb).2) hn).symm, (Sep2.nb s25.symm (fun b hb => (o5.own.lt b hb).2) hn).symm⟩, ⟨s34, s35⟩, s45⟩
theorem take_s {base b : Nat} {w : World} {q : Six} {S : State} (h : StB base w b q S) (hu : UpK Seat.key S.seats) (e : Pt) : Ret 77 #[.agg (Roll.cells ⟨b, 70, 91⟩), .agg e.cells] w
    (fun v w' => ∃ q', v = .tuple #[.agg (getK Seat.key Seat.zero S.seats e).cells, .bool (hasK Seat.key S.seats e)] ∧ StB base w' b q' { S with seats := outK Seat.key S.seats e } ∧ Keeps (b :: q.bs) w w' ∧ SubQ q q') :=
  (f77 h.blk h.lt (SRep.sub_seats (S.rep q)) h.own.s hu e).mono fun v w' ⟨s', h1, h2, h3, h4, h5⟩ => by
    obtain ⟨g1, g2, _⟩ := h.set_s (NB.of_eq (w := w) h2) h3 h4 h5
    refine ⟨_, h1, g1, g2, fun k hk => ?_⟩
    obtain ⟨x, hx, he⟩ := mem_bs.1 hk
    simp only [Six.sls, List.mem_cons, List.not_mem_nil, or_false] at hx
    refine mem_bs.2 ?_
    rcases hx with rfl | rfl | rfl | rfl | rfl | rfl
    · exact ⟨q.t, by simp [Six.sls], he⟩
    · exact ⟨q.p, by simp [Six.sls], he⟩
    · exact ⟨q.s, by simp [Six.sls], h2 ▸ he⟩
    · exact ⟨q.i, by simp [Six.sls], he⟩
    · exact ⟨q.a, by simp [Six.sls], he⟩
    · exact ⟨q.b, by simp [Six.sls], he⟩
theorem put_s {base b : Nat} {w : World} {q : Six} {S : State} (h : StB base w b q S) (hu : UpK Seat.key S.seats) (hl : S.seats.length ≤ 1000) (hbw : base ≤ w.heap.size) (x : Seat) : Ret 103 #[.agg (Roll.cells ⟨b, 70, 91⟩), .agg x.cells] w
    (fun v w' => ∃ q', v = .tuple #[] ∧ StB base w' b q' { S with seats := putK Seat.key S.seats x } ∧ Keeps (b :: q.bs) w w' ∧ NS w q q') :=
  (f103 h.blk h.lt (SRep.sub_seats (S.rep q)) h.own.s hu hl hbw x).mono fun v w' ⟨s', h1, h2, h3, h4, h5⟩ => ⟨_, h1, h.set_s h2 h3 h4 h5⟩
theorem StB.set_i {base b : Nat} {w w' : World} {q : Six} {S : State} {s' : Sl} {l' : List Invite} (h : StB base w b q S) (hn : NB w q.i s') (hb : Blk w' b (put (S.rep q).cells 71 #[s'.val]) 37) (ho : Own base 82 w' s' 129 Invite.cells l') (k : Keeps (b :: q.i.val.ownBlock.toList) w w') :
    StB base w' b { q with i := s' } { S with invites := l' } ∧ Keeps (b :: q.bs) w w' ∧ NS w q { q with i := s' } := by
  obtain ⟨h1, h2, h3⟩ := h
  obtain ⟨o0, o1, o2, o3, o4, o5, sep⟩ := h3
  simp only [List.pairwise_cons, List.mem_cons, List.not_mem_nil, or_false, forall_eq_or_imp, forall_eq, false_imp_iff, implies_true, List.Pairwise.nil, and_true] at sep
  obtain ⟨⟨s01, s02, s03, s04, s05⟩, ⟨s12, s13, s14, s15⟩, ⟨s23, s24, s25⟩, ⟨s34, s35⟩, s45⟩ := sep
  rw [SRep.put_invites] at hb
  refine ⟨⟨hb, h2, (Sep2.keep o0 k h2 s03), (Sep2.keep o1 k h2 s13), (Sep2.keep o2 k h2 s23), ho, (Sep2.keep o4 k h2 s34.symm), (Sep2.keep o5 k h2 s35.symm), ?_⟩, k.bs (by simp [Six.sls]), NS.of (by simp [Six.sls]) hn (by simp [Six.sls])⟩
  simp only [List.pairwise_cons, List.mem_cons, List.not_mem_nil, or_false, forall_eq_or_imp, forall_eq, false_imp_iff, implies_true, List.Pairwise.nil, and_true]
  exact ⟨⟨s01, s02, (Sep2.nb s03 (fun b hb => (o0.own.lt b hb).2) hn), s04, s05⟩, ⟨s12, (Sep2.nb s13 (fun b hb => (o1.own.lt b hb).2) hn), s14, s15⟩, ⟨(Sep2.nb s23 (fun b hb => (o2.own.lt b hb).2) hn), s24, s25⟩, ⟨(Sep2.nb s34.symm (fun b hb => (o4.own.lt b hb).2) hn).symm, (Sep2.nb s35.symm (fun b hb => (o5.own.lt b hb).2) hn).symm⟩, s45⟩
theorem take_i {base b : Nat} {w : World} {q : Six} {S : State} (h : StB base w b q S) (hu : UpK Invite.key S.invites) (e : Pt) : Ret 68 #[.agg (Roll.cells ⟨b, 71, 92⟩), .agg e.cells] w
    (fun v w' => ∃ q', v = .tuple #[.agg (getK Invite.key Invite.zero S.invites e).cells, .bool (hasK Invite.key S.invites e)] ∧ StB base w' b q' { S with invites := outK Invite.key S.invites e } ∧ Keeps (b :: q.bs) w w' ∧ SubQ q q') :=
  (f68 h.blk h.lt (SRep.sub_invites (S.rep q)) h.own.i hu e).mono fun v w' ⟨s', h1, h2, h3, h4, h5⟩ => by
    obtain ⟨g1, g2, _⟩ := h.set_i (NB.of_eq (w := w) h2) h3 h4 h5
    refine ⟨_, h1, g1, g2, fun k hk => ?_⟩
    obtain ⟨x, hx, he⟩ := mem_bs.1 hk
    simp only [Six.sls, List.mem_cons, List.not_mem_nil, or_false] at hx
    refine mem_bs.2 ?_
    rcases hx with rfl | rfl | rfl | rfl | rfl | rfl
    · exact ⟨q.t, by simp [Six.sls], he⟩
    · exact ⟨q.p, by simp [Six.sls], he⟩
    · exact ⟨q.s, by simp [Six.sls], he⟩
    · exact ⟨q.i, by simp [Six.sls], h2 ▸ he⟩
    · exact ⟨q.a, by simp [Six.sls], he⟩
    · exact ⟨q.b, by simp [Six.sls], he⟩
theorem put_i {base b : Nat} {w : World} {q : Six} {S : State} (h : StB base w b q S) (hu : UpK Invite.key S.invites) (hl : S.invites.length ≤ 1000) (hbw : base ≤ w.heap.size) (x : Invite) : Ret 72 #[.agg (Roll.cells ⟨b, 71, 92⟩), .agg x.cells] w
    (fun v w' => ∃ q', v = .tuple #[] ∧ StB base w' b q' { S with invites := putK Invite.key S.invites x } ∧ Keeps (b :: q.bs) w w' ∧ NS w q q') :=
  (f72 h.blk h.lt (SRep.sub_invites (S.rep q)) h.own.i hu hl hbw x).mono fun v w' ⟨s', h1, h2, h3, h4, h5⟩ => ⟨_, h1, h.set_i h2 h3 h4 h5⟩
theorem StB.set_a {base b : Nat} {w w' : World} {q : Six} {S : State} {s' : Sl} {l' : List Ask} (h : StB base w b q S) (hn : NB w q.a s') (hb : Blk w' b (put (S.rep q).cells 72 #[s'.val]) 37) (ho : Own base 84 w' s' 65 Ask.cells l') (k : Keeps (b :: q.a.val.ownBlock.toList) w w') :
    StB base w' b { q with a := s' } { S with asks := l' } ∧ Keeps (b :: q.bs) w w' ∧ NS w q { q with a := s' } := by
  obtain ⟨h1, h2, h3⟩ := h
  obtain ⟨o0, o1, o2, o3, o4, o5, sep⟩ := h3
  simp only [List.pairwise_cons, List.mem_cons, List.not_mem_nil, or_false, forall_eq_or_imp, forall_eq, false_imp_iff, implies_true, List.Pairwise.nil, and_true] at sep
  obtain ⟨⟨s01, s02, s03, s04, s05⟩, ⟨s12, s13, s14, s15⟩, ⟨s23, s24, s25⟩, ⟨s34, s35⟩, s45⟩ := sep
  rw [SRep.put_asks] at hb
  refine ⟨⟨hb, h2, (Sep2.keep o0 k h2 s04), (Sep2.keep o1 k h2 s14), (Sep2.keep o2 k h2 s24), (Sep2.keep o3 k h2 s34), ho, (Sep2.keep o5 k h2 s45.symm), ?_⟩, k.bs (by simp [Six.sls]), NS.of (by simp [Six.sls]) hn (by simp [Six.sls])⟩
  simp only [List.pairwise_cons, List.mem_cons, List.not_mem_nil, or_false, forall_eq_or_imp, forall_eq, false_imp_iff, implies_true, List.Pairwise.nil, and_true]
  exact ⟨⟨s01, s02, s03, (Sep2.nb s04 (fun b hb => (o0.own.lt b hb).2) hn), s05⟩, ⟨s12, s13, (Sep2.nb s14 (fun b hb => (o1.own.lt b hb).2) hn), s15⟩, ⟨s23, (Sep2.nb s24 (fun b hb => (o2.own.lt b hb).2) hn), s25⟩, ⟨(Sep2.nb s34 (fun b hb => (o3.own.lt b hb).2) hn), s35⟩, (Sep2.nb s45.symm (fun b hb => (o5.own.lt b hb).2) hn).symm⟩
theorem take_a {base b : Nat} {w : World} {q : Six} {S : State} (h : StB base w b q S) (hu : UpK Ask.key S.asks) (e : Pt) : Ret 69 #[.agg (Roll.cells ⟨b, 72, 93⟩), .agg e.cells] w
    (fun v w' => ∃ q', v = .tuple #[.agg (getK Ask.key Ask.zero S.asks e).cells, .bool (hasK Ask.key S.asks e)] ∧ StB base w' b q' { S with asks := outK Ask.key S.asks e } ∧ Keeps (b :: q.bs) w w' ∧ SubQ q q') :=
  (f69 h.blk h.lt (SRep.sub_asks (S.rep q)) h.own.a hu e).mono fun v w' ⟨s', h1, h2, h3, h4, h5⟩ => by
    obtain ⟨g1, g2, _⟩ := h.set_a (NB.of_eq (w := w) h2) h3 h4 h5
    refine ⟨_, h1, g1, g2, fun k hk => ?_⟩
    obtain ⟨x, hx, he⟩ := mem_bs.1 hk
    simp only [Six.sls, List.mem_cons, List.not_mem_nil, or_false] at hx
    refine mem_bs.2 ?_
    rcases hx with rfl | rfl | rfl | rfl | rfl | rfl
    · exact ⟨q.t, by simp [Six.sls], he⟩
    · exact ⟨q.p, by simp [Six.sls], he⟩
    · exact ⟨q.s, by simp [Six.sls], he⟩
    · exact ⟨q.i, by simp [Six.sls], he⟩
    · exact ⟨q.a, by simp [Six.sls], h2 ▸ he⟩
    · exact ⟨q.b, by simp [Six.sls], he⟩
theorem put_a {base b : Nat} {w : World} {q : Six} {S : State} (h : StB base w b q S) (hu : UpK Ask.key S.asks) (hl : S.asks.length ≤ 1000) (hbw : base ≤ w.heap.size) (x : Ask) : Ret 75 #[.agg (Roll.cells ⟨b, 72, 93⟩), .agg x.cells] w
    (fun v w' => ∃ q', v = .tuple #[] ∧ StB base w' b q' { S with asks := putK Ask.key S.asks x } ∧ Keeps (b :: q.bs) w w' ∧ NS w q q') :=
  (f75 h.blk h.lt (SRep.sub_asks (S.rep q)) h.own.a hu hl hbw x).mono fun v w' ⟨s', h1, h2, h3, h4, h5⟩ => ⟨_, h1, h.set_a h2 h3 h4 h5⟩
theorem StB.set_b {base b : Nat} {w w' : World} {q : Six} {S : State} {s' : Sl} {l' : List Ban} (h : StB base w b q S) (hn : NB w q.b s') (hb : Blk w' b (put (S.rep q).cells 73 #[s'.val]) 37) (ho : Own base 86 w' s' 128 Ban.cells l') (k : Keeps (b :: q.b.val.ownBlock.toList) w w') :
    StB base w' b { q with b := s' } { S with bans := l' } ∧ Keeps (b :: q.bs) w w' ∧ NS w q { q with b := s' } := by
  obtain ⟨h1, h2, h3⟩ := h
  obtain ⟨o0, o1, o2, o3, o4, o5, sep⟩ := h3
  simp only [List.pairwise_cons, List.mem_cons, List.not_mem_nil, or_false, forall_eq_or_imp, forall_eq, false_imp_iff, implies_true, List.Pairwise.nil, and_true] at sep
  obtain ⟨⟨s01, s02, s03, s04, s05⟩, ⟨s12, s13, s14, s15⟩, ⟨s23, s24, s25⟩, ⟨s34, s35⟩, s45⟩ := sep
  rw [SRep.put_bans] at hb
  refine ⟨⟨hb, h2, (Sep2.keep o0 k h2 s05), (Sep2.keep o1 k h2 s15), (Sep2.keep o2 k h2 s25), (Sep2.keep o3 k h2 s35), (Sep2.keep o4 k h2 s45), ho, ?_⟩, k.bs (by simp [Six.sls]), NS.of (by simp [Six.sls]) hn (by simp [Six.sls])⟩
  simp only [List.pairwise_cons, List.mem_cons, List.not_mem_nil, or_false, forall_eq_or_imp, forall_eq, false_imp_iff, implies_true, List.Pairwise.nil, and_true]
  exact ⟨⟨s01, s02, s03, s04, (Sep2.nb s05 (fun b hb => (o0.own.lt b hb).2) hn)⟩, ⟨s12, s13, s14, (Sep2.nb s15 (fun b hb => (o1.own.lt b hb).2) hn)⟩, ⟨s23, s24, (Sep2.nb s25 (fun b hb => (o2.own.lt b hb).2) hn)⟩, ⟨s34, (Sep2.nb s35 (fun b hb => (o3.own.lt b hb).2) hn)⟩, (Sep2.nb s45 (fun b hb => (o4.own.lt b hb).2) hn)⟩
theorem take_b {base b : Nat} {w : World} {q : Six} {S : State} (h : StB base w b q S) (hu : UpK Ban.key S.bans) (e : Pt) : Ret 112 #[.agg (Roll.cells ⟨b, 73, 117⟩), .agg e.cells] w
    (fun v w' => ∃ q', v = .tuple #[.agg (getK Ban.key Ban.zero S.bans e).cells, .bool (hasK Ban.key S.bans e)] ∧ StB base w' b q' { S with bans := outK Ban.key S.bans e } ∧ Keeps (b :: q.bs) w w' ∧ SubQ q q') :=
  (f112 h.blk h.lt (SRep.sub_bans (S.rep q)) h.own.b hu e).mono fun v w' ⟨s', h1, h2, h3, h4, h5⟩ => by
    obtain ⟨g1, g2, _⟩ := h.set_b (NB.of_eq (w := w) h2) h3 h4 h5
    refine ⟨_, h1, g1, g2, fun k hk => ?_⟩
    obtain ⟨x, hx, he⟩ := mem_bs.1 hk
    simp only [Six.sls, List.mem_cons, List.not_mem_nil, or_false] at hx
    refine mem_bs.2 ?_
    rcases hx with rfl | rfl | rfl | rfl | rfl | rfl
    · exact ⟨q.t, by simp [Six.sls], he⟩
    · exact ⟨q.p, by simp [Six.sls], he⟩
    · exact ⟨q.s, by simp [Six.sls], he⟩
    · exact ⟨q.i, by simp [Six.sls], he⟩
    · exact ⟨q.a, by simp [Six.sls], he⟩
    · exact ⟨q.b, by simp [Six.sls], h2 ▸ he⟩
theorem put_b {base b : Nat} {w : World} {q : Six} {S : State} (h : StB base w b q S) (hu : UpK Ban.key S.bans) (hl : S.bans.length ≤ 1000) (hbw : base ≤ w.heap.size) (x : Ban) : Ret 114 #[.agg (Roll.cells ⟨b, 73, 117⟩), .agg x.cells] w
    (fun v w' => ∃ q', v = .tuple #[] ∧ StB base w' b q' { S with bans := putK Ban.key S.bans x } ∧ Keeps (b :: q.bs) w w' ∧ NS w q q') :=
  (f114 h.blk h.lt (SRep.sub_bans (S.rep q)) h.own.b hu hl hbw x).mono fun v w' ⟨s', h1, h2, h3, h4, h5⟩ => ⟨_, h1, h.set_b h2 h3 h4 h5⟩
end Go.Proofs.YtekhaogjmmmniaaGreat
namespace Go.Proofs.YtekhaogjmmmniaaGreat
open Go Go.RowKit

/-- The lists' handles rise; none is too long. -/
structure Ups (S : State) : Prop where
  u1 : UpK Seat.key S.seats
  u2 : UpK Invite.key S.invites
  u3 : UpK Ask.key S.asks
  u4 : UpK Ban.key S.bans
  l1 : S.seats.length ≤ 40
  l2 : S.invites.length ≤ 40
  l3 : S.asks.length ≤ 40
  l4 : S.bans.length ≤ 40
theorem Ups.of {S : State} (h : OkState S) : Ups S := ⟨rising_up h.u1, rising_up h.u2, rising_up h.u3, rising_up h.u4, h.l1, h.l2, h.l3, h.l4⟩

/-- The cipher of somebody who has a seat. -/
def meOf (l : List Seat) (e : Pt) : Cipher := (getK Seat.key Seat.zero l e).who
def aloneB (l : List Seat) : Bool := decide (admins l = 1)
/-- Why somebody can't come in. -/
def newcE (S : State) (a : Action) (link : UInt8) (inv asked : Bool) : Nat :=
  cond (hasK Ban.key S.bans a.who.E) 193 (cond (hasK Seat.key S.seats a.who.E || (inv && hasK Invite.key S.invites a.who.E) || (asked && hasK Ask.key S.asks a.who.E)) 8
    (cond (!decide (link = 0) && !decide (S.acc.link = link)) 196 (cond (!decide (link = 0) && (decide (S.pass.length = 0) || !decide (S.pass = a.pass))) 194 0)))
def rightE (mine least : UInt8) : Nat := cond (decide (mine = 0) || decide (mine < least)) 191 0
/-- Has who asks the right? -/
def mayE (S : State) (by_ : Pt) (a : Action) (mine : UInt8) : Nat :=
  cond (decide (a.kind = 1) || decide (a.kind = 5) || decide (a.kind = 12)) (cond (decide (a.role = 2) && !decide (mine = 2)) 191 (rightE mine S.acc.members))
    (cond (decide (a.kind = 16)) (rightE mine S.acc.title)
      (cond (decide (a.kind = 4) || decide (a.kind = 6)) (rightE mine 1)
        (cond (decide (a.kind = 7) || decide (a.kind = 8) || decide (a.kind = 11)) 0
          (cond (decide (a.kind = 9) || decide (a.kind = 10)) (cond (decide (a.who.E = by_)) 0 195) (rightE mine 2)))))
def outS (S : State) (e : Pt) : State := { S with seats := outK Seat.key S.seats e }
def outI (S : State) (e : Pt) : State := { S with invites := outK Invite.key S.invites e }
def outA (S : State) (e : Pt) : State := { S with asks := outK Ask.key S.asks e }
def outB (S : State) (e : Pt) : State := { S with bans := outK Ban.key S.bans e }
def putS (S : State) (x : Seat) : State := { S with seats := putK Seat.key S.seats x }
def putI (S : State) (x : Invite) : State := { S with invites := putK Invite.key S.invites x }
def putA (S : State) (x : Ask) : State := { S with asks := putK Ask.key S.asks x }
def putB (S : State) (x : Ban) : State := { S with bans := putK Ban.key S.bans x }
/-- Their seat has another role. -/
def roleS (S : State) (e : Pt) (r : UInt8) : State := { S with seats := S.seats.set (posK Seat.key S.seats e) { getK Seat.key Seat.zero S.seats e with role := r } }
/-- Whom a ban takes out, and from where. -/
def banSt (S : State) (e : Pt) : State := cond (hasK Seat.key S.seats e) (outS S e) (cond (hasK Invite.key S.invites e) (outI (outS S e) e) (outA (outI (outS S e) e) e))
def banWho (S : State) (e : Pt) : Cipher :=
  cond (hasK Seat.key S.seats e) (getK Seat.key Seat.zero S.seats e).who (cond (hasK Invite.key S.invites e) (getK Invite.key Invite.zero S.invites e).who (getK Ask.key Ask.zero S.asks e).who)
/-- What is done by oneself, or to what waits, and to what a group is. -/
def moreS (S : State) (by_ : Pt) (a : Action) (mine : UInt8) : Nat × State :=
  cond (decide (a.kind = 4)) (cond (decide (mine = 2) && aloneB S.seats && decide (1 < S.seats.length)) (192, S) (0, outS S by_))
  (cond (decide (a.kind = 6)) (cond (hasK Invite.key S.invites a.E) (cond (!decide (mine = 2) && !decide ((getK Invite.key Invite.zero S.invites a.E).by_.E = by_)) (191, S) (0, outI S a.E)) (7, S))
  (cond (decide (a.kind = 7)) (cond (hasK Invite.key S.invites by_) (cond (decide (40 ≤ S.seats.length)) (9, outI S by_) (0, putS (outI S by_) ⟨(getK Invite.key Invite.zero S.invites by_).who, (getK Invite.key Invite.zero S.invites by_).role, a.ver⟩)) (7, outI S by_))
  (cond (decide (a.kind = 12)) (cond (hasK Ask.key S.asks a.E) (cond (decide (40 ≤ S.seats.length)) (9, outA S a.E) (0, putS (outA S a.E) ⟨(getK Ask.key Ask.zero S.asks a.E).who, a.role, a.ver⟩)) (7, outA S a.E))
  (cond (decide (a.kind = 8)) (cond (hasK Invite.key S.invites by_) 0 7, outI S by_)
  (cond (decide (a.kind = 11)) (cond (hasK Ask.key S.asks by_) 0 7, outA S by_)
  (cond (decide (a.kind = 13)) (cond (hasK Ask.key S.asks a.E) 0 7, outA S a.E)
  (cond (decide (a.kind = 15)) (cond (hasK Ban.key S.bans a.E) 0 7, outB S a.E)
  (cond (decide (a.kind = 14)) (cond (decide (a.E = by_)) (195, S) (cond (hasK Ban.key S.bans a.E) (8, S)
      (cond (hasK Seat.key S.seats a.E || hasK Invite.key S.invites a.E || hasK Ask.key S.asks a.E) (cond (decide (40 ≤ S.bans.length)) (9, banSt S a.E) (0, putB (banSt S a.E) ⟨banWho S a.E, meOf S.seats by_⟩)) (7, banSt S a.E))))
  (cond (decide (a.kind = 16)) (0, { S with title := a.title })
  (cond (decide (a.kind = 17)) (0, { S with acc := a.acc })
  (cond (decide (a.kind = 18)) (0, { S with pass := a.pass }) (0, S))))))))))))
def doS (S : State) (by_ : Pt) (a : Action) (mine : UInt8) : Nat × State :=
  cond (decide (a.kind = 1) || decide (a.kind = 9))
    (cond (decide (newcE S a (cond (decide (a.kind = 9)) 1 0) false false = 0)) (cond (decide (40 ≤ S.seats.length)) (9, S) (0, putS (outA (outI S a.who.E) a.who.E) ⟨a.who, cond (decide (a.kind = 9)) 1 a.role, a.ver⟩))
      (newcE S a (cond (decide (a.kind = 9)) 1 0) false false, S))
  (cond (decide (a.kind = 5)) (cond (decide (newcE S a 0 true false = 0)) (cond (decide (40 ≤ S.invites.length)) (9, S) (0, putI (outA S a.who.E) ⟨a.who, a.role, meOf S.seats by_⟩)) (newcE S a 0 true false, S))
  (cond (decide (a.kind = 10)) (cond (decide (newcE S a 2 true true = 0)) (cond (decide (40 ≤ S.asks.length)) (9, S) (0, putA S ⟨a.who, a.ver⟩)) (newcE S a 2 true true, S))
  (cond (decide (a.kind = 2)) (cond (hasK Seat.key S.seats a.E) (cond (decide (a.E = by_)) (195, S) (0, outS S a.E)) (7, S))
  (cond (decide (a.kind = 3)) (cond (hasK Seat.key S.seats a.E) (cond (decide ((getK Seat.key Seat.zero S.seats a.E).role = a.role)) (8, S)
      (cond (decide ((getK Seat.key Seat.zero S.seats a.E).role = 2) && aloneB S.seats) (192, S) (0, roleS S a.E a.role))) (7, S))
  (moreS S by_ a mine)))))
end Go.Proofs.YtekhaogjmmmniaaGreat
namespace Go.Proofs.YtekhaogjmmmniaaGreat
open Go Go.RowKit

theorem f109 {w : World} (x : Invite) (ok : Bool) : Ret 109 #[.agg x.cells, .bool ok] w (fun v w' => v = .int .i64 ((cond ok 0 7 : Nat) : Int) ∧ Keeps [] w w') := by
  have hM0 := Mem.start w
  refine enter Tryz.func109 rfl rfl ?_
  refine c_sr ?_
  refine l_box hM0 rfl rfl ?_
  intro b1 w2 hM3 hK4 hB5
  replace hM3 : Mem w [] [(b1, (Invite.cells x), 82)] w2 := hM3
  refine l_v rfl (r_assign rfl) ?_
  refine l_nil ?_
  refine c_seq ?_
  refine c_sr ?_
  refine l_v rfl (r_move rfl) ?_
  refine l_v rfl (r_not rfl) ?_
  refine l_nil ?_
  refine ways ok (fun h6 => ?_) (fun h6 => ?_)
  ·skip
   refine c_condF rfl (congrArg Bool.not h6) ?_
   refine c_skip ?_
   refine c_sr ?_
   refine l_v rfl (r_assign rfl) ?_
   refine l_nil ?_
   refine c_ret ?_
   refine ret1 rfl rfl ?_
   exact ⟨by simp [*], hM3.kp⟩
  ·skip
   refine c_condT rfl (congrArg Bool.not h6) ?_
   refine c_sr ?_
   refine l_v rfl (r_assign rfl) ?_
   refine l_nil ?_
   refine c_ret ?_
   refine ret1 rfl rfl ?_
   exact ⟨by simp [*], hM3.kp⟩
theorem f110 {w : World} (x : Ask) (ok : Bool) : Ret 110 #[.agg x.cells, .bool ok] w (fun v w' => v = .int .i64 ((cond ok 0 7 : Nat) : Int) ∧ Keeps [] w w') := by
  have hM0 := Mem.start w
  refine enter Tryz.func110 rfl rfl ?_
  refine c_sr ?_
  refine l_box hM0 rfl rfl ?_
  intro b1 w2 hM3 hK4 hB5
  replace hM3 : Mem w [] [(b1, (Ask.cells x), 84)] w2 := hM3
  refine l_v rfl (r_assign rfl) ?_
  refine l_nil ?_
  refine c_seq ?_
  refine c_sr ?_
  refine l_v rfl (r_move rfl) ?_
  refine l_v rfl (r_not rfl) ?_
  refine l_nil ?_
  refine ways ok (fun h6 => ?_) (fun h6 => ?_)
  ·skip
   refine c_condF rfl (congrArg Bool.not h6) ?_
   refine c_skip ?_
   refine c_sr ?_
   refine l_v rfl (r_assign rfl) ?_
   refine l_nil ?_
   refine c_ret ?_
   refine ret1 rfl rfl ?_
   exact ⟨by simp [*], hM3.kp⟩
  ·skip
   refine c_condT rfl (congrArg Bool.not h6) ?_
   refine c_sr ?_
   refine l_v rfl (r_assign rfl) ?_
   refine l_nil ?_
   refine c_ret ?_
   refine ret1 rfl rfl ?_
   exact ⟨by simp [*], hM3.kp⟩
theorem f111 {w : World} (x : Ban) (ok : Bool) : Ret 111 #[.agg x.cells, .bool ok] w (fun v w' => v = .int .i64 ((cond ok 0 7 : Nat) : Int) ∧ Keeps [] w w') := by
  have hM0 := Mem.start w
  refine enter Tryz.func111 rfl rfl ?_
  refine c_sr ?_
  refine l_box hM0 rfl rfl ?_
  intro b1 w2 hM3 hK4 hB5
  replace hM3 : Mem w [] [(b1, (Ban.cells x), 86)] w2 := hM3
  refine l_v rfl (r_assign rfl) ?_
  refine l_nil ?_
  refine c_seq ?_
  refine c_sr ?_
  refine l_v rfl (r_move rfl) ?_
  refine l_v rfl (r_not rfl) ?_
  refine l_nil ?_
  refine ways ok (fun h6 => ?_) (fun h6 => ?_)
  ·skip
   refine c_condF rfl (congrArg Bool.not h6) ?_
   refine c_skip ?_
   refine c_sr ?_
   refine l_v rfl (r_assign rfl) ?_
   refine l_nil ?_
   refine c_ret ?_
   refine ret1 rfl rfl ?_
   exact ⟨by simp [*], hM3.kp⟩
  ·skip
   refine c_condT rfl (congrArg Bool.not h6) ?_
   refine c_sr ?_
   refine l_v rfl (r_assign rfl) ?_
   refine l_nil ?_
   refine c_ret ?_
   refine ret1 rfl rfl ?_
   exact ⟨by simp [*], hM3.kp⟩
theorem f73 {w : World} {base b bx : Nat} {q : Six} {S : State} {qa : Two} {a : Action} {by_ : Pt} {mine : UInt8} (hx : Holds w bx 0 (StepR.cells ⟨b, by_, a.rep qa, mine⟩)) (hB : StB base w b q S) (hu : UpK Seat.key S.seats) (hh : hasK Seat.key S.seats by_ = true) : Ret 73 #[.pointer (some ⟨bx, 0, none⟩)] w (fun v w' => v = .agg (meOf S.seats by_).cells ∧ Keeps [] w w') := by
  obtain ⟨xm, hxm, hkm, hfm⟩ := has_find hu hh
  have hgm : getK Seat.key Seat.zero S.seats by_ = xm := getK_of hfm
  have hM0 := Mem.start w
  refine enter Tryz.func73 rfl rfl ?_
  refine c_sr ?_
  refine l_alloc hM0 rfl Cipher.zv ?_
  intro b1 w2 hM3 hK4 hB5
  replace hM3 : Mem w [] [(b1, (Cipher.cells Cipher.zero), 40)] w2 := hM3
  refine l_nil ?_
  refine c_seq ?_
  refine c_regD (Mem w [] [(b1, (Cipher.cells Cipher.zero), 40)]) [] [(0, true), (1, true), (2, true), (3, true), (5, true), (6, true), (7, true), (8, true), (4, false), (9, false), (10, true), (11, true), (12, true), (13, true), (14, true)] (by kernel_rfl) ?_
  have hM6 := hM3.drew
  refine s_take hM6 rfl (gn rfl) rfl rfl (fun w h => r_move rfl) ?_
  refine s_take hM6 rfl (gn rfl) rfl rfl (fun w h => r_nilCheck rfl) ?_
  refine s_take hM6 rfl (gn rfl) rfl rfl (fun w h => r_fieldAddr StepR.fld_b rfl) ?_
  refine s_take hM6 rfl (gn rfl) rfl rfl (fun w h => r_load1 (v := Value.pointer (some ⟨b, 0, none⟩)) Tryz.isAgg77 rfl (Holds.sub (hx.keep h.kp (by simp)) (StepR.sub_b _))) ?_
  refine s_take hM6 rfl (gn rfl) rfl rfl (fun w h => r_move rfl) ?_
  refine s_take hM6 rfl (gn rfl) rfl rfl (fun w h => r_nilCheck rfl) ?_
  refine s_take hM6 rfl (gn rfl) rfl rfl (fun w h => r_fieldAddr StepR.fld_by_ rfl) ?_
  refine s_take hM6 rfl (gn rfl) rfl rfl (fun w h => r_loadA Tryz.isAgg24 Tryz.sizeOf24 (Pt.size _) rfl (Holds.sub (hx.keep h.kp (by simp)) (StepR.sub_by_ _))) ?_
  refine s_call rfl (gn rfl) rfl rfl (r_call Tryz.call63 rfl) (f63 _) ?_
  rintro v8 w9 ⟨rfl, hK10⟩
  have hM11 := hM6.keep hK10
  refine ⟨.inr hM11, ?_⟩
  refine s_call rfl (gn rfl) rfl rfl (r_call Tryz.call78 rfl) (f78 (Holds.sub (hB.keep0 hM11.kp).hd (SRep.sub_seats _)) (hB.keep0 hM11.kp).own.stv.seats hu by_) ?_
  rintro v12 w13 ⟨rfl, hK14⟩
  have hM15 := hM11.keep hK14
  refine ⟨.inr hM15, ?_⟩
  refine s_take hM15 rfl (gn rfl) rfl rfl (fun w h => r_move rfl) ?_
  refine s_take hM15 rfl (gn rfl) rfl rfl (fun w h => r_extract rfl rfl) ?_
  refine s_take hM15 rfl (gn rfl) rfl rfl (fun w h => r_extract rfl rfl) ?_
  refine s_take hM15 rfl (gn rfl) rfl rfl (fun w h => r_assign rfl) ?_
  refine s_take hM15 rfl (gn rfl) rfl rfl (fun w h => r_assign rfl) ?_
  refine s_nil ?_
  refine c_sr ?_
  refine l_v rfl (r_move rfl) ?_
  refine l_v rfl (r_nilCheck rfl) ?_
  refine l_v rfl (r_fieldAddr StepR.fld_b rfl) ?_
  refine l_v rfl (r_load1 (v := Value.pointer (some ⟨b, 0, none⟩)) Tryz.isAgg77 rfl (Holds.sub (hx.keep hM15.kp (by simp)) (StepR.sub_b _))) ?_
  refine l_v rfl (r_nilCheck rfl) ?_
  refine l_v rfl (r_fieldAddr SRep.fld_seats rfl) ?_
  refine l_v rfl (r_load1 (v := Sl.val q.s) Tryz.isAgg32 rfl (Holds.sub (hB.keep0 hM15.kp).hd (SRep.sub_seats _))) ?_
  refine l_v rfl (r_move rfl) ?_
  have hlt16 : (posK Seat.key S.seats by_) < S.seats.length := (List.getElem?_eq_some_iff.1 hxm).1
  obtain ⟨p16, o16, ha16, hA16, -⟩ := (hB.keep0 hM15.kp).own.stv.seats.at_ _ _ hxm
  refine l_v rfl (r_indexR Tryz.underlying32 Tryz.sizeOf73 ⟨_, (hB.keep0 hM15.kp).own.stv.seats⟩ rfl ha16 rfl hlt16) ?_
  refine l_v rfl (r_fieldAddr Seat.fld_who rfl) ?_
  refine l_v rfl (r_loadA Tryz.isAgg40 Tryz.sizeOf40 (Cipher.size _) rfl (Holds.sub ((hB.keep0 hM15.kp).own.stv.seats.ix hxm ha16) (Seat.sub_who _))) ?_
  refine l_store hM15 (i := 0) rfl Tryz.sizeOf40 rfl rfl (Cipher.size _) (by rw [Cipher.size]; decide) (Cipher.one _) (put_whole _ _ ((Cipher.size _).trans (Cipher.size _).symm)) ?_
  intro w17 hM18 hK19
  replace hM18 : Mem w [] [(b1, (Cipher.cells xm.who), 40)] w17 := hM18
  refine l_nil ?_
  refine c_ret ?_
  refine retC rfl Tryz.isAgg40 Tryz.sizeOf40 (Cipher.size _) rfl (hM18.base (i := 0) rfl) ?_
  exact ⟨by rw [meOf, hgm], hM18.kp⟩
theorem f79 {w : World} {base b bx : Nat} {q : Six} {S : State} {qa : Two} {a : Action} {by_ : Pt} {mine : UInt8} (hx : Holds w bx 0 (StepR.cells ⟨b, by_, a.rep qa, mine⟩)) (hB : StB base w b q S) : Ret 79 #[.pointer (some ⟨bx, 0, none⟩)] w (fun v w' => v = .bool (aloneB S.seats) ∧ Keeps [] w w') := by
  have hn : S.seats.length ≤ 140737488355328 := hB.own.stv.seats.bd
  have hM0 := Mem.start w
  refine enter Tryz.func79 rfl rfl ?_
  refine c_sr ?_
  refine l_v rfl (r_assign rfl) ?_
  refine l_nil ?_
  refine c_sr ?_
  refine l_v rfl (r_assign rfl) ?_
  refine l_nil ?_
  refine c_seq ?_
  refine c_sr ?_
  refine l_v rfl (r_move rfl) ?_
  refine l_v rfl (r_nilCheck rfl) ?_
  refine l_v rfl (r_fieldAddr StepR.fld_b rfl) ?_
  refine l_v rfl (r_load1 (v := Value.pointer (some ⟨b, 0, none⟩)) Tryz.isAgg77 rfl (Holds.sub (hx.keep hM0.kp (by simp)) (StepR.sub_b _))) ?_
  refine l_v rfl (r_nilCheck rfl) ?_
  refine l_v rfl (r_fieldAddr SRep.fld_seats rfl) ?_
  refine l_v rfl (r_load1 (v := Sl.val q.s) Tryz.isAgg32 rfl (Holds.sub (hB.keep0 hM0.kp).hd (SRep.sub_seats _))) ?_
  refine l_v rfl (r_lenR Tryz.underlying32 rfl (hB.keep0 hM0.kp).own.stv.seats.len) ?_
  refine l_v rfl (r_move rfl) ?_
  refine l_nil ?_
  refine c_block ?_
  refine c_loop (ι := Nat) (fun k w_ => Mem w [] [] w_ ∧ (k ≤ S.seats.length ∧ admins (S.seats.take k) ≤ k)) (fun k => [(0, Value.pointer (some ⟨bx, 0, none⟩)), (2, Value.bool false), (12, Sl.val q.s), (13, Value.int .i64 ((S.seats.length : Nat) : Int)), (14, Value.int .i64 ((k : Nat) : Int)), (3, Value.int .i64 ((admins (S.seats.take k) : Nat) : Int))]) (fun k => S.seats.length - k) 0 ⟨hM0, Nat.zero_le _, by simp [admins]⟩ ⟨rfl, rfl, rfl, rfl, rfl, rfl, trivial⟩ ?_
  rintro k w1 ⟨hM2, hk, hc⟩
  refine c_sr ?_
  refine l_v rfl (r_lss (b := decide ((k : Nat) < S.seats.length)) rfl rfl (nlt k S.seats.length)) ?_
  refine l_nil ?_
  refine c_seq ?_
  refine ways (decide ((k : Nat) < S.seats.length)) (fun h3 => ?_) (fun h3 => ?_)
  ·skip
   have hp4 : (k : Nat) < S.seats.length := of_decide_eq_true h3
   refine c_condT rfl h3 ?_
   refine c_skip ?_
   refine c_seq ?_
   refine c_block ?_
   refine c_sr ?_
   have hlt5 : k < S.seats.length := by first | assumption | omega
   obtain ⟨x5, hx5⟩ : ∃ x, S.seats[k]? = some x := ⟨_, List.getElem?_eq_getElem hlt5⟩
   obtain ⟨p5, o5, ha5, hA5, -⟩ := (hB.keep0 hM2.kp).own.stv.seats.at_ _ _ hx5
   refine l_v rfl (r_indexR Tryz.underlying32 Tryz.sizeOf73 ⟨_, (hB.keep0 hM2.kp).own.stv.seats⟩ rfl ha5 rfl hlt5) ?_
   refine l_v rfl (r_loadA Tryz.isAgg73 Tryz.sizeOf73 (Seat.size _) rfl ((hB.keep0 hM2.kp).own.stv.seats.ix hx5 ha5)) ?_
   refine l_alloc hM2 rfl Seat.zv ?_
   intro b6 w7 hM8 hK9 hB10
   replace hM8 : Mem w [] [(b6, (Seat.cells Seat.zero), 73)] w7 := hM8
   refine l_store hM8 (i := 0) rfl Tryz.sizeOf73 rfl rfl (Seat.size _) (by rw [Seat.size]; decide) (Seat.one _) (put_whole _ _ ((Seat.size _).trans (Seat.size _).symm)) ?_
   intro w11 hM12 hK13
   replace hM12 : Mem w [] [(b6, (Seat.cells x5), 73)] w11 := hM12
   refine l_nil ?_
   refine c_sr ?_
   refine l_v rfl (r_fieldAddr Seat.fld_role rfl) ?_
   refine l_v rfl (r_load1 (v := vU8 x5.role) Tryz.isAgg28 rfl (Holds.sub (hM12.base (i := 0) rfl) (Seat.sub_role _))) ?_
   refine l_v rfl (r_eql (b := decide ((x5.role : UInt8) = 2)) rfl rfl (u8eq x5.role 2)) ?_
   refine l_nil ?_
   refine ways (decide ((x5.role : UInt8) = 2)) (fun h14 => ?_) (fun h14 => ?_)
   ·skip
    have hp15 : (x5.role : UInt8) = 2 := of_decide_eq_true h14
    refine c_condT rfl h14 ?_
    refine c_reg ?_
    refine l_v rfl (r_move rfl) ?_
    refine l_v rfl (r_add (r := (((admins (S.seats.take k)) + 1 : Nat) : Int)) rfl rfl (nadd (i := admins (S.seats.take k)) (k := 1) (m := (admins (S.seats.take k)) + 1) (by omega) (by omega))) ?_
    refine l_v rfl (r_assign rfl) ?_
    refine l_nil ?_
    refine c_reg ?_
    refine l_v rfl (r_add (r := ((k + 1 : Nat) : Int)) rfl rfl (nadd (i := k) (k := 1) (m := k + 1) (by omega) (by omega))) ?_
    refine l_v rfl (r_move rfl) ?_
    refine l_nil ?_
    intro a_ ha_
    refine ⟨k + 1, ⟨(hM12.forget (.cons _ (.refl _))), ?_⟩, by omega, ha_.sub ⟨rfl, rfl, rfl, rfl, rfl, (show some (Value.int .i64 (((admins (S.seats.take k)) + 1 : Nat) : Int)) = some (Value.int .i64 ((admins (S.seats.take (k + 1)) : Nat) : Int)) from by rw [admins_step hx5]; simp [isAdmin, *]), trivial⟩⟩
    exact ⟨by omega, by rw [admins_step hx5]; split <;> omega⟩
   ·skip
    have hp16 : ¬ ((x5.role : UInt8) = 2) := of_decide_eq_false h14
    refine c_condF rfl h14 ?_
    refine c_skip ?_
    refine c_reg ?_
    refine l_v rfl (r_add (r := ((k + 1 : Nat) : Int)) rfl rfl (nadd (i := k) (k := 1) (m := k + 1) (by omega) (by omega))) ?_
    refine l_v rfl (r_move rfl) ?_
    refine l_nil ?_
    intro a_ ha_
    refine ⟨k + 1, ⟨(hM12.forget (.cons _ (.refl _))), ?_⟩, by omega, ha_.sub ⟨rfl, rfl, rfl, rfl, rfl, (show some (Value.int .i64 ((admins (S.seats.take k) : Nat) : Int)) = some (Value.int .i64 ((admins (S.seats.take (k + 1)) : Nat) : Int)) from by rw [admins_step hx5]; simp [isAdmin, *]), trivial⟩⟩
    exact ⟨by omega, by rw [admins_step hx5]; split <;> omega⟩
  ·skip
   have hp17 : ¬ ((k : Nat) < S.seats.length) := of_decide_eq_false h3
   refine c_condF rfl h3 ?_
   refine c_exit rfl ?_
   refine c_sr ?_
   refine l_v rfl (r_move rfl) ?_
   refine l_v rfl (r_eql (b := decide ((admins (S.seats.take k) : Nat) = 1)) rfl rfl (neq' (admins (S.seats.take k)) 1)) ?_
   refine l_v rfl (r_assign rfl) ?_
   refine l_nil ?_
   refine c_ret ?_
   refine ret1 rfl rfl ?_
   exact ⟨by rw [List.take_of_length_le (by omega)]; rfl, hM2.kp⟩
theorem f66 {w : World} {base b bx : Nat} {q : Six} {S : State} {qa : Two} {a : Action} {by_ : Pt} {mine : UInt8} (hx : Holds w bx 0 (StepR.cells ⟨b, by_, a.rep qa, mine⟩)) (hB : StB base w b q S) {A : Nat → Prop} (hA : AcV A w qa a) (hU : Ups S) (link : UInt8) (inv asked : Bool) : Ret 66 #[.pointer (some ⟨bx, 0, none⟩), vU8 link, .bool inv, .bool asked] w (fun v w' => v = .int .i64 ((newcE S a link inv asked : Nat) : Int) ∧ Keeps [] w w') := by
  have hM0 := Mem.start w
  refine enter Tryz.func66 rfl rfl ?_
  refine c_sr ?_
  refine l_v rfl (r_assign rfl) ?_
  refine l_nil ?_
  refine c_sr ?_
  refine l_v rfl (r_move rfl) ?_
  refine l_v rfl (r_nilCheck rfl) ?_
  refine l_v rfl (r_fieldAddr StepR.fld_a rfl) ?_
  refine l_v rfl (r_fieldAddr ARep.fld_who rfl) ?_
  refine l_v rfl (r_fieldAddr Cipher.fld_E rfl) ?_
  refine l_v rfl (r_loadA Tryz.isAgg24 Tryz.sizeOf24 (Pt.size _) rfl (Holds.sub (Holds.sub (Holds.sub (hx.keep hM0.kp (by simp)) (StepR.sub_a _)) (ARep.sub_who _)) (Cipher.sub_E _))) ?_
  refine l_alloc hM0 rfl zv_Pt ?_
  intro b1 w2 hM3 hK4 hB5
  replace hM3 : Mem w [] [(b1, (Pt.cells Pt.zero), 24)] w2 := hM3
  refine l_store hM3 (i := 0) rfl Tryz.sizeOf24 rfl rfl (Pt.size _) (by rw [Pt.size]; decide) (Pt.one _) (put_whole _ _ ((Pt.size _).trans (Pt.size _).symm)) ?_
  intro w6 hM7 hK8
  replace hM7 : Mem w [] [(b1, (Pt.cells a.who.E), 24)] w6 := hM7
  refine l_nil ?_
  refine c_seq ?_
  refine c_block ?_
  refine c_seq ?_
  refine c_regD (Mem w [] [(b1, (Pt.cells a.who.E), 24)]) [] [(0, true), (1, true), (2, true), (3, true), (5, true), (4, false), (6, false), (7, true)] (by kernel_rfl) ?_
  have hM9 := hM7.drew
  refine s_take hM9 rfl (gn rfl) rfl rfl (fun w h => r_move rfl) ?_
  refine s_take hM9 rfl (gn rfl) rfl rfl (fun w h => r_nilCheck rfl) ?_
  refine s_take hM9 rfl (gn rfl) rfl rfl (fun w h => r_fieldAddr StepR.fld_b rfl) ?_
  refine s_take hM9 rfl (gn rfl) rfl rfl (fun w h => r_load1 (v := Value.pointer (some ⟨b, 0, none⟩)) Tryz.isAgg77 rfl (Holds.sub (hx.keep h.kp (by simp)) (StepR.sub_b _))) ?_
  refine s_take hM9 rfl (gn rfl) rfl rfl (fun w h => r_loadA Tryz.isAgg24 Tryz.sizeOf24 (Pt.size _) rfl (h.base (i := 0) rfl)) ?_
  refine s_call rfl (gn rfl) rfl rfl (r_call Tryz.call94 rfl) (f94 _) ?_
  rintro v11 w12 ⟨rfl, hK13⟩
  have hM14 := hM9.keep hK13
  refine ⟨.inr hM14, ?_⟩
  refine s_call rfl (gn rfl) rfl rfl (r_call Tryz.call95 rfl) (f95 (Holds.sub (hB.keep0 hM14.kp).hd (SRep.sub_bans _)) (hB.keep0 hM14.kp).own.stv.bans hU.u4 a.who.E) ?_
  rintro v15 w16 ⟨rfl, hK17⟩
  have hM18 := hM14.keep hK17
  refine ⟨.inr hM18, ?_⟩
  refine s_take hM18 rfl (gn rfl) rfl rfl (fun w h => r_assign rfl) ?_
  refine s_nil ?_
  refine ways (hasK Ban.key S.bans a.who.E) (fun h19 => ?_) (fun h19 => ?_)
  ·skip
   refine c_condT rfl h19 ?_
   refine c_sr ?_
   refine l_v rfl (r_assign rfl) ?_
   refine l_nil ?_
   refine c_ret ?_
   refine ret1 rfl rfl ?_
   exact ⟨by simp only [newcE, h19, cond_true] <;> rfl, hM18.kp⟩
  ·skip
   refine c_condF rfl h19 ?_
   refine c_seq ?_
   refine c_seq ?_
   refine c_regD (Mem w [] [(b1, (Pt.cells a.who.E), 24)]) [] [(0, true), (1, true), (2, true), (3, true), (5, true), (4, false), (6, false), (7, true)] (by kernel_rfl) ?_
   have hM20 := hM18.drew
   refine s_take hM20 rfl (gn rfl) rfl rfl (fun w h => r_move rfl) ?_
   refine s_take hM20 rfl (gn rfl) rfl rfl (fun w h => r_nilCheck rfl) ?_
   refine s_take hM20 rfl (gn rfl) rfl rfl (fun w h => r_fieldAddr StepR.fld_b rfl) ?_
   refine s_take hM20 rfl (gn rfl) rfl rfl (fun w h => r_load1 (v := Value.pointer (some ⟨b, 0, none⟩)) Tryz.isAgg77 rfl (Holds.sub (hx.keep h.kp (by simp)) (StepR.sub_b _))) ?_
   refine s_take hM20 rfl (gn rfl) rfl rfl (fun w h => r_loadA Tryz.isAgg24 Tryz.sizeOf24 (Pt.size _) rfl (h.base (i := 0) rfl)) ?_
   refine s_call rfl (gn rfl) rfl rfl (r_call Tryz.call63 rfl) (f63 _) ?_
   rintro v22 w23 ⟨rfl, hK24⟩
   have hM25 := hM20.keep hK24
   refine ⟨.inr hM25, ?_⟩
   refine s_call rfl (gn rfl) rfl rfl (r_call Tryz.call76 rfl) (f76 (Holds.sub (hB.keep0 hM25.kp).hd (SRep.sub_seats _)) (hB.keep0 hM25.kp).own.stv.seats hU.u1 a.who.E) ?_
   rintro v26 w27 ⟨rfl, hK28⟩
   have hM29 := hM25.keep hK28
   refine ⟨.inr hM29, ?_⟩
   refine s_take hM29 rfl (gn rfl) rfl rfl (fun w h => r_assign rfl) ?_
   refine s_nil ?_
   refine c_join (ι := Unit) (fun _ w_ => Mem w [] [(b1, (Pt.cells a.who.E), 24)] w_) (fun _ => [(0, Value.pointer (some ⟨bx, 0, none⟩)), (1, vU8 link), (2, Value.bool inv), (3, Value.bool asked), (8, Value.int .i64 ((0 : Nat) : Int)), (9, Value.pointer (some ⟨b1, 0, none⟩)), (16, Value.bool (hasK Ban.key S.bans a.who.E)), (24, Value.bool ((hasK Seat.key S.seats a.who.E || (inv && hasK Invite.key S.invites a.who.E) || (asked && hasK Ask.key S.asks a.who.E))))]) ?_ ?_
   ·skip
    refine ways (hasK Seat.key S.seats a.who.E) (fun h30 => ?_) (fun h30 => ?_)
    ·skip
     refine c_condT rfl h30 ?_
     refine c_skip ?_
     exact jn () hM29 ⟨rfl, rfl, rfl, rfl, rfl, rfl, rfl, okB (by simp only [h30, Bool.true_or]), trivial⟩
    ·skip
     refine c_condF rfl h30 ?_
     refine c_seq ?_
     refine c_regD (Mem w [] [(b1, (Pt.cells a.who.E), 24)]) [] [(0, true), (1, true), (2, true), (3, true), (4, true), (5, true), (7, true), (6, false), (8, false), (9, true), (10, true)] (by kernel_rfl) ?_
     have hM31 := hM29.drew
     refine s_take hM31 rfl (gn rfl) rfl rfl (fun w h => r_move rfl) ?_
     refine s_take hM31 rfl (gn rfl) rfl rfl (fun w h => r_move rfl) ?_
     refine ways inv (fun h33 => ?_) (fun h33 => ?_)
     ·skip
      refine s_take hM31 rfl (gy rfl rfl rfl rfl h33) rfl rfl (fun w h => r_move rfl) ?_
      refine s_take hM31 rfl (gy rfl rfl rfl rfl h33) rfl rfl (fun w h => r_nilCheck rfl) ?_
      refine s_take hM31 rfl (gy rfl rfl rfl rfl h33) rfl rfl (fun w h => r_fieldAddr StepR.fld_b rfl) ?_
      refine s_take hM31 rfl (gy rfl rfl rfl rfl h33) rfl rfl (fun w h => r_load1 (v := Value.pointer (some ⟨b, 0, none⟩)) Tryz.isAgg77 rfl (Holds.sub (hx.keep h.kp (by simp)) (StepR.sub_b _))) ?_
      refine s_take hM31 rfl (gy rfl rfl rfl rfl h33) rfl rfl (fun w h => r_loadA Tryz.isAgg24 Tryz.sizeOf24 (Pt.size _) rfl (h.base (i := 0) rfl)) ?_
      refine s_call rfl (gy rfl rfl rfl rfl h33) rfl rfl (r_call Tryz.call64 rfl) (f64 _) ?_
      rintro v34 w35 ⟨rfl, hK36⟩
      have hM37 := hM31.keep hK36
      refine ⟨.inr hM37, ?_⟩
      refine s_call rfl (gy rfl rfl rfl rfl h33) rfl rfl (r_call Tryz.call96 rfl) (f96 (Holds.sub (hB.keep0 hM37.kp).hd (SRep.sub_invites _)) (hB.keep0 hM37.kp).own.stv.invites hU.u2 a.who.E) ?_
      rintro v38 w39 ⟨rfl, hK40⟩
      have hM41 := hM37.keep hK40
      refine ⟨.inr hM41, ?_⟩
      refine s_take hM41 rfl (gn rfl) rfl rfl (fun w h => r_pickT rfl h33 rfl) ?_
      refine s_take hM41 rfl (gn rfl) rfl rfl (fun w h => r_assign rfl) ?_
      refine s_nil ?_
      refine ways (hasK Invite.key S.invites a.who.E) (fun h42 => ?_) (fun h42 => ?_)
      ·skip
       refine c_condT rfl h42 ?_
       refine c_skip ?_
       exact jn () hM41 ⟨rfl, rfl, rfl, rfl, rfl, rfl, rfl, okB (by simp only [h30, h33, h42, Bool.and_true, Bool.true_or, Bool.or_true]), trivial⟩
      ·skip
       refine c_condF rfl h42 ?_
       refine c_regD (Mem w [] [(b1, (Pt.cells a.who.E), 24)]) [] [(0, true), (1, true), (2, true), (3, true), (4, true), (5, true), (7, true), (6, false), (8, false), (9, true), (10, true)] (by kernel_rfl) ?_
       have hM43 := hM41.drew
       refine s_take hM43 rfl (gn rfl) rfl rfl (fun w h => r_move rfl) ?_
       refine s_take hM43 rfl (gn rfl) rfl rfl (fun w h => r_move rfl) ?_
       refine ways asked (fun h45 => ?_) (fun h45 => ?_)
       ·skip
        refine s_take hM43 rfl (gy rfl rfl rfl rfl h45) rfl rfl (fun w h => r_move rfl) ?_
        refine s_take hM43 rfl (gy rfl rfl rfl rfl h45) rfl rfl (fun w h => r_nilCheck rfl) ?_
        refine s_take hM43 rfl (gy rfl rfl rfl rfl h45) rfl rfl (fun w h => r_fieldAddr StepR.fld_b rfl) ?_
        refine s_take hM43 rfl (gy rfl rfl rfl rfl h45) rfl rfl (fun w h => r_load1 (v := Value.pointer (some ⟨b, 0, none⟩)) Tryz.isAgg77 rfl (Holds.sub (hx.keep h.kp (by simp)) (StepR.sub_b _))) ?_
        refine s_take hM43 rfl (gy rfl rfl rfl rfl h45) rfl rfl (fun w h => r_loadA Tryz.isAgg24 Tryz.sizeOf24 (Pt.size _) rfl (h.base (i := 0) rfl)) ?_
        refine s_call rfl (gy rfl rfl rfl rfl h45) rfl rfl (r_call Tryz.call65 rfl) (f65 _) ?_
        rintro v46 w47 ⟨rfl, hK48⟩
        have hM49 := hM43.keep hK48
        refine ⟨.inr hM49, ?_⟩
        refine s_call rfl (gy rfl rfl rfl rfl h45) rfl rfl (r_call Tryz.call97 rfl) (f97 (Holds.sub (hB.keep0 hM49.kp).hd (SRep.sub_asks _)) (hB.keep0 hM49.kp).own.stv.asks hU.u3 a.who.E) ?_
        rintro v50 w51 ⟨rfl, hK52⟩
        have hM53 := hM49.keep hK52
        refine ⟨.inr hM53, ?_⟩
        refine s_take hM53 rfl (gn rfl) rfl rfl (fun w h => r_pickT rfl h45 rfl) ?_
        refine s_take hM53 rfl (gn rfl) rfl rfl (fun w h => r_assign rfl) ?_
        refine s_nil ?_
        exact jn () hM53 ⟨rfl, rfl, rfl, rfl, rfl, rfl, rfl, okB (by simp only [h30, h33, h42, h45, Bool.true_and, Bool.and_false, Bool.false_or, Bool.or_false]), trivial⟩
       ·skip
        refine s_off hM43 rfl (gno rfl rfl rfl rfl h45) rfl rfl ?_
        refine s_off hM43 rfl (gno rfl rfl rfl rfl h45) rfl rfl ?_
        refine s_off hM43 rfl (gno rfl rfl rfl rfl h45) rfl rfl ?_
        refine s_off hM43 rfl (gno rfl rfl rfl rfl h45) rfl rfl ?_
        refine s_off hM43 rfl (gno rfl rfl rfl rfl h45) rfl rfl ?_
        refine s_offx (.inr hM43) rfl (gno rfl rfl rfl rfl h45) rfl rfl ?_
        refine s_offx (.inr hM43) rfl (gno rfl rfl rfl rfl h45) rfl rfl ?_
        refine s_take hM43 rfl (gn rfl) rfl rfl (fun w h => r_pickF rfl h45 rfl) ?_
        refine s_take hM43 rfl (gn rfl) rfl rfl (fun w h => r_assign rfl) ?_
        refine s_nil ?_
        exact jn () hM43 ⟨rfl, rfl, rfl, rfl, rfl, rfl, rfl, okB (by simp only [h30, h33, h42, h45, Bool.false_and, Bool.and_false, Bool.or_false]), trivial⟩
     ·skip
      refine s_off hM31 rfl (gno rfl rfl rfl rfl h33) rfl rfl ?_
      refine s_off hM31 rfl (gno rfl rfl rfl rfl h33) rfl rfl ?_
      refine s_off hM31 rfl (gno rfl rfl rfl rfl h33) rfl rfl ?_
      refine s_off hM31 rfl (gno rfl rfl rfl rfl h33) rfl rfl ?_
      refine s_off hM31 rfl (gno rfl rfl rfl rfl h33) rfl rfl ?_
      refine s_offx (.inr hM31) rfl (gno rfl rfl rfl rfl h33) rfl rfl ?_
      refine s_offx (.inr hM31) rfl (gno rfl rfl rfl rfl h33) rfl rfl ?_
      refine s_take hM31 rfl (gn rfl) rfl rfl (fun w h => r_pickF rfl h33 rfl) ?_
      refine s_take hM31 rfl (gn rfl) rfl rfl (fun w h => r_assign rfl) ?_
      refine s_nil ?_
      refine c_condF rfl rfl ?_
      refine c_regD (Mem w [] [(b1, (Pt.cells a.who.E), 24)]) [] [(0, true), (1, true), (2, true), (3, true), (4, true), (5, true), (7, true), (6, false), (8, false), (9, true), (10, true)] (by kernel_rfl) ?_
      have hM54 := hM31.drew
      refine s_take hM54 rfl (gn rfl) rfl rfl (fun w h => r_move rfl) ?_
      refine s_take hM54 rfl (gn rfl) rfl rfl (fun w h => r_move rfl) ?_
      refine ways asked (fun h56 => ?_) (fun h56 => ?_)
      ·skip
       refine s_take hM54 rfl (gy rfl rfl rfl rfl h56) rfl rfl (fun w h => r_move rfl) ?_
       refine s_take hM54 rfl (gy rfl rfl rfl rfl h56) rfl rfl (fun w h => r_nilCheck rfl) ?_
       refine s_take hM54 rfl (gy rfl rfl rfl rfl h56) rfl rfl (fun w h => r_fieldAddr StepR.fld_b rfl) ?_
       refine s_take hM54 rfl (gy rfl rfl rfl rfl h56) rfl rfl (fun w h => r_load1 (v := Value.pointer (some ⟨b, 0, none⟩)) Tryz.isAgg77 rfl (Holds.sub (hx.keep h.kp (by simp)) (StepR.sub_b _))) ?_
       refine s_take hM54 rfl (gy rfl rfl rfl rfl h56) rfl rfl (fun w h => r_loadA Tryz.isAgg24 Tryz.sizeOf24 (Pt.size _) rfl (h.base (i := 0) rfl)) ?_
       refine s_call rfl (gy rfl rfl rfl rfl h56) rfl rfl (r_call Tryz.call65 rfl) (f65 _) ?_
       rintro v57 w58 ⟨rfl, hK59⟩
       have hM60 := hM54.keep hK59
       refine ⟨.inr hM60, ?_⟩
       refine s_call rfl (gy rfl rfl rfl rfl h56) rfl rfl (r_call Tryz.call97 rfl) (f97 (Holds.sub (hB.keep0 hM60.kp).hd (SRep.sub_asks _)) (hB.keep0 hM60.kp).own.stv.asks hU.u3 a.who.E) ?_
       rintro v61 w62 ⟨rfl, hK63⟩
       have hM64 := hM60.keep hK63
       refine ⟨.inr hM64, ?_⟩
       refine s_take hM64 rfl (gn rfl) rfl rfl (fun w h => r_pickT rfl h56 rfl) ?_
       refine s_take hM64 rfl (gn rfl) rfl rfl (fun w h => r_assign rfl) ?_
       refine s_nil ?_
       exact jn () hM64 ⟨rfl, rfl, rfl, rfl, rfl, rfl, rfl, okB (by simp only [h30, h33, h56, Bool.true_and, Bool.false_and, Bool.false_or, Bool.or_false]), trivial⟩
      ·skip
       refine s_off hM54 rfl (gno rfl rfl rfl rfl h56) rfl rfl ?_
       refine s_off hM54 rfl (gno rfl rfl rfl rfl h56) rfl rfl ?_
       refine s_off hM54 rfl (gno rfl rfl rfl rfl h56) rfl rfl ?_
       refine s_off hM54 rfl (gno rfl rfl rfl rfl h56) rfl rfl ?_
       refine s_off hM54 rfl (gno rfl rfl rfl rfl h56) rfl rfl ?_
       refine s_offx (.inr hM54) rfl (gno rfl rfl rfl rfl h56) rfl rfl ?_
       refine s_offx (.inr hM54) rfl (gno rfl rfl rfl rfl h56) rfl rfl ?_
       refine s_take hM54 rfl (gn rfl) rfl rfl (fun w h => r_pickF rfl h56 rfl) ?_
       refine s_take hM54 rfl (gn rfl) rfl rfl (fun w h => r_assign rfl) ?_
       refine s_nil ?_
       exact jn () hM54 ⟨rfl, rfl, rfl, rfl, rfl, rfl, rfl, okB (by simp only [h30, h33, h56, Bool.false_and, Bool.or_false]), trivial⟩
   ·skip
    rintro - w65 hM66
    refine ways ((hasK Seat.key S.seats a.who.E || (inv && hasK Invite.key S.invites a.who.E) || (asked && hasK Ask.key S.asks a.who.E))) (fun h67 => ?_) (fun h67 => ?_)
    ·skip
     refine c_condT rfl h67 ?_
     refine c_sr ?_
     refine l_v rfl (r_assign rfl) ?_
     refine l_nil ?_
     refine c_ret ?_
     refine ret1 rfl rfl ?_
     exact ⟨by simp only [newcE, h19, h67, cond_true, cond_false] <;> rfl, hM66.kp⟩
    ·skip
     refine c_condF rfl h67 ?_
     refine c_sr ?_
     refine l_v rfl (r_move rfl) ?_
     refine l_v rfl (r_neq (b := (!(decide ((link : UInt8) = 0)))) rfl rfl (congrArg Bool.not (u8eq link 0))) ?_
     refine l_v rfl (r_move rfl) ?_
     refine ways (decide ((link : UInt8) = 0)) (fun h68 => ?_) (fun h68 => ?_)
     ·skip
      have hp69 : (link : UInt8) = 0 := of_decide_eq_true h68
      refine l_off (gno rfl rfl rfl rfl (congrArg Bool.not h68)) rfl rfl ?_
      refine l_off (gno rfl rfl rfl rfl (congrArg Bool.not h68)) rfl rfl ?_
      refine l_off (gno rfl rfl rfl rfl (congrArg Bool.not h68)) rfl rfl ?_
      refine l_off (gno rfl rfl rfl rfl (congrArg Bool.not h68)) rfl rfl ?_
      refine l_off (gno rfl rfl rfl rfl (congrArg Bool.not h68)) rfl rfl ?_
      refine l_off (gno rfl rfl rfl rfl (congrArg Bool.not h68)) rfl rfl ?_
      refine l_off (gno rfl rfl rfl rfl (congrArg Bool.not h68)) rfl rfl ?_
      refine l_off (gno rfl rfl rfl rfl (congrArg Bool.not h68)) rfl rfl ?_
      refine l_off (gno rfl rfl rfl rfl (congrArg Bool.not h68)) rfl rfl ?_
      refine l_off (gno rfl rfl rfl rfl (congrArg Bool.not h68)) rfl rfl ?_
      refine l_v rfl (r_pickF rfl (congrArg Bool.not h68) rfl) ?_
      refine l_v rfl (r_assign rfl) ?_
      refine l_nil ?_
      refine c_condF rfl rfl ?_
      refine c_seq ?_
      refine c_regD (Mem w [] [(b1, (Pt.cells a.who.E), 24)]) [] [(0, true), (1, true), (2, true), (3, true), (4, true), (5, true), (6, true), (7, true), (8, true), (9, true), (10, true), (11, true), (12, true), (13, true), (14, true), (15, true), (16, true), (17, true), (18, true), (19, true), (20, true), (21, true), (22, true), (23, true), (24, true), (25, false), (26, true), (27, true), (28, true), (29, true)] (by kernel_rfl) ?_
      have hM70 := hM66.drew
      refine s_take hM70 rfl (gn rfl) rfl rfl (fun w h => r_move rfl) ?_
      refine s_take hM70 rfl (gn rfl) rfl rfl (fun w h => r_neq (b := (!(decide ((link : UInt8) = 0)))) rfl rfl (congrArg Bool.not (u8eq link 0))) ?_
      refine s_take hM70 rfl (gn rfl) rfl rfl (fun w h => r_move rfl) ?_
      refine s_off hM70 rfl (gno rfl rfl rfl rfl (congrArg Bool.not h68)) rfl rfl ?_
      refine s_off hM70 rfl (gno rfl rfl rfl rfl (congrArg Bool.not h68)) rfl rfl ?_
      refine s_off hM70 rfl (gno rfl rfl rfl rfl (congrArg Bool.not h68)) rfl rfl ?_
      refine s_off hM70 rfl (gno rfl rfl rfl rfl (congrArg Bool.not h68)) rfl rfl ?_
      refine s_off hM70 rfl (gno rfl rfl rfl rfl (congrArg Bool.not h68)) rfl rfl ?_
      refine s_off hM70 rfl (gno rfl rfl rfl rfl (congrArg Bool.not h68)) rfl rfl ?_
      refine s_off hM70 rfl (gno rfl rfl rfl rfl (congrArg Bool.not h68)) rfl rfl ?_
      refine s_off hM70 rfl (gno rfl rfl rfl rfl (congrArg Bool.not h68)) rfl rfl ?_
      refine s_off hM70 rfl (gno rfl rfl rfl rfl (congrArg Bool.not h68)) rfl rfl ?_
      refine s_off hM70 rfl (gno rfl rfl rfl rfl (congrArg Bool.not h68)) rfl rfl ?_
      refine s_off hM70 rfl (gnu rfl rfl rfl rfl) rfl rfl ?_
      refine s_off hM70 rfl (gnu rfl rfl rfl rfl) rfl rfl ?_
      refine s_off hM70 rfl (gnu rfl rfl rfl rfl) rfl rfl ?_
      refine s_off hM70 rfl (gnu rfl rfl rfl rfl) rfl rfl ?_
      refine s_off hM70 rfl (gnu rfl rfl rfl rfl) rfl rfl ?_
      refine s_off hM70 rfl (gnu rfl rfl rfl rfl) rfl rfl ?_
      refine s_off hM70 rfl (gnu rfl rfl rfl rfl) rfl rfl ?_
      refine s_off hM70 rfl (gnu rfl rfl rfl rfl) rfl rfl ?_
      refine s_off hM70 rfl (gnu rfl rfl rfl rfl) rfl rfl ?_
      refine s_off hM70 rfl (gnu rfl rfl rfl rfl) rfl rfl ?_
      refine s_off hM70 rfl (gnu rfl rfl rfl rfl) rfl rfl ?_
      refine s_off hM70 rfl (gnu rfl rfl rfl rfl) rfl rfl ?_
      refine s_offx (.inr hM70) rfl (gnu rfl rfl rfl rfl) rfl rfl ?_
      refine s_off hM70 rfl (gnu rfl rfl rfl rfl) rfl rfl ?_
      refine s_off hM70 rfl (gno rfl rfl rfl rfl (congrArg Bool.not h68)) rfl rfl ?_
      refine s_take hM70 rfl (gn rfl) rfl rfl (fun w h => r_pickF rfl (congrArg Bool.not h68) rfl) ?_
      refine s_take hM70 rfl (gn rfl) rfl rfl (fun w h => r_assign rfl) ?_
      refine s_nil ?_
      refine c_condF rfl rfl ?_
      refine c_skip ?_
      refine c_sr ?_
      refine l_v rfl (r_assign rfl) ?_
      refine l_nil ?_
      refine c_ret ?_
      refine ret1 rfl rfl ?_
      exact ⟨by simp only [newcE, h19, h67, h68, Bool.not_true, Bool.false_and, cond_false] <;> rfl, hM70.kp⟩
     ·skip
      have hp72 : ¬ ((link : UInt8) = 0) := of_decide_eq_false h68
      refine l_val (gy rfl rfl rfl rfl (congrArg Bool.not h68)) rfl rfl (r_move rfl) ?_
      refine l_val (gy rfl rfl rfl rfl (congrArg Bool.not h68)) rfl rfl (r_nilCheck rfl) ?_
      refine l_val (gy rfl rfl rfl rfl (congrArg Bool.not h68)) rfl rfl (r_fieldAddr StepR.fld_b rfl) ?_
      refine l_val (gy rfl rfl rfl rfl (congrArg Bool.not h68)) rfl rfl (r_load1 (v := Value.pointer (some ⟨b, 0, none⟩)) Tryz.isAgg77 rfl (Holds.sub (hx.keep hM66.kp (by simp)) (StepR.sub_b _))) ?_
      refine l_val (gy rfl rfl rfl rfl (congrArg Bool.not h68)) rfl rfl (r_nilCheck rfl) ?_
      refine l_val (gy rfl rfl rfl rfl (congrArg Bool.not h68)) rfl rfl (r_fieldAddr SRep.fld_acc rfl) ?_
      refine l_val (gy rfl rfl rfl rfl (congrArg Bool.not h68)) rfl rfl (r_fieldAddr Access.fld_link rfl) ?_
      refine l_val (gy rfl rfl rfl rfl (congrArg Bool.not h68)) rfl rfl (r_load1 (v := vU8 S.acc.link) Tryz.isAgg29 rfl (Holds.sub (Holds.sub (hB.keep0 hM66.kp).hd (SRep.sub_acc _)) (Access.sub_link _))) ?_
      refine l_val (gy rfl rfl rfl rfl (congrArg Bool.not h68)) rfl rfl (r_move rfl) ?_
      refine l_val (gy rfl rfl rfl rfl (congrArg Bool.not h68)) rfl rfl (r_neq (b := (!(decide ((S.acc.link : UInt8) = link)))) rfl rfl (congrArg Bool.not (u8eq S.acc.link link))) ?_
      refine l_v rfl (r_pickT rfl (congrArg Bool.not h68) rfl) ?_
      refine l_v rfl (r_assign rfl) ?_
      refine l_nil ?_
      refine ways (decide ((S.acc.link : UInt8) = link)) (fun h73 => ?_) (fun h73 => ?_)
      ·skip
       have hp74 : (S.acc.link : UInt8) = link := of_decide_eq_true h73
       refine c_condF rfl (congrArg Bool.not h73) ?_
       refine c_seq ?_
       refine c_regD (Mem w [] [(b1, (Pt.cells a.who.E), 24)]) [] [(0, true), (1, true), (2, true), (3, true), (4, true), (5, true), (6, true), (7, true), (8, true), (9, true), (10, true), (11, true), (12, true), (13, true), (14, true), (15, true), (16, true), (17, true), (18, true), (19, true), (20, true), (21, true), (22, true), (23, true), (24, true), (25, false), (26, true), (27, true), (28, true), (29, true)] (by kernel_rfl) ?_
       have hM75 := hM66.drew
       refine s_take hM75 rfl (gn rfl) rfl rfl (fun w h => r_move rfl) ?_
       refine s_take hM75 rfl (gn rfl) rfl rfl (fun w h => r_neq (b := (!(decide ((link : UInt8) = 0)))) rfl rfl (congrArg Bool.not (u8eq link 0))) ?_
       refine s_take hM75 rfl (gn rfl) rfl rfl (fun w h => r_move rfl) ?_
       refine s_take hM75 rfl (gy rfl rfl rfl rfl (congrArg Bool.not h68)) rfl rfl (fun w h => r_move rfl) ?_
       refine s_take hM75 rfl (gy rfl rfl rfl rfl (congrArg Bool.not h68)) rfl rfl (fun w h => r_nilCheck rfl) ?_
       refine s_take hM75 rfl (gy rfl rfl rfl rfl (congrArg Bool.not h68)) rfl rfl (fun w h => r_fieldAddr StepR.fld_b rfl) ?_
       refine s_take hM75 rfl (gy rfl rfl rfl rfl (congrArg Bool.not h68)) rfl rfl (fun w h => r_load1 (v := Value.pointer (some ⟨b, 0, none⟩)) Tryz.isAgg77 rfl (Holds.sub (hx.keep h.kp (by simp)) (StepR.sub_b _))) ?_
       refine s_take hM75 rfl (gy rfl rfl rfl rfl (congrArg Bool.not h68)) rfl rfl (fun w h => r_nilCheck rfl) ?_
       refine s_take hM75 rfl (gy rfl rfl rfl rfl (congrArg Bool.not h68)) rfl rfl (fun w h => r_fieldAddr SRep.fld_pass rfl) ?_
       refine s_take hM75 rfl (gy rfl rfl rfl rfl (congrArg Bool.not h68)) rfl rfl (fun w h => r_load1 (v := Sl.val q.p) Tryz.isAgg27 rfl (Holds.sub (hB.keep0 h.kp).hd (SRep.sub_pass _))) ?_
       refine s_take hM75 rfl (gy rfl rfl rfl rfl (congrArg Bool.not h68)) rfl rfl (fun w h => r_lenR Tryz.underlying27 rfl (hB.keep0 h.kp).own.stv.pass.len) ?_
       refine s_take hM75 rfl (gy rfl rfl rfl rfl (congrArg Bool.not h68)) rfl rfl (fun w h => r_eql (b := decide ((S.pass.length : Nat) = 0)) rfl rfl (neq' S.pass.length 0)) ?_
       refine s_take hM75 rfl (gy rfl rfl rfl rfl (congrArg Bool.not h68)) rfl rfl (fun w h => r_move rfl) ?_
       refine ways (decide ((S.pass.length : Nat) = 0)) (fun h77 => ?_) (fun h77 => ?_)
       ·skip
        have hp78 : (S.pass.length : Nat) = 0 := of_decide_eq_true h77
        refine s_off hM75 rfl (gno rfl rfl rfl rfl h77) rfl rfl ?_
        refine s_off hM75 rfl (gno rfl rfl rfl rfl h77) rfl rfl ?_
        refine s_off hM75 rfl (gno rfl rfl rfl rfl h77) rfl rfl ?_
        refine s_off hM75 rfl (gno rfl rfl rfl rfl h77) rfl rfl ?_
        refine s_off hM75 rfl (gno rfl rfl rfl rfl h77) rfl rfl ?_
        refine s_off hM75 rfl (gno rfl rfl rfl rfl h77) rfl rfl ?_
        refine s_off hM75 rfl (gno rfl rfl rfl rfl h77) rfl rfl ?_
        refine s_off hM75 rfl (gno rfl rfl rfl rfl h77) rfl rfl ?_
        refine s_off hM75 rfl (gno rfl rfl rfl rfl h77) rfl rfl ?_
        refine s_off hM75 rfl (gno rfl rfl rfl rfl h77) rfl rfl ?_
        refine s_off hM75 rfl (gno rfl rfl rfl rfl h77) rfl rfl ?_
        refine s_off hM75 rfl (gno rfl rfl rfl rfl h77) rfl rfl ?_
        refine s_offx (.inr hM75) rfl (gno rfl rfl rfl rfl h77) rfl rfl ?_
        refine s_off hM75 rfl (gno rfl rfl rfl rfl h77) rfl rfl ?_
        refine s_take hM75 rfl (gy rfl rfl rfl rfl (congrArg Bool.not h68)) rfl rfl (fun w h => r_pickT rfl h77 rfl) ?_
        refine s_take hM75 rfl (gn rfl) rfl rfl (fun w h => r_pickT rfl (congrArg Bool.not h68) rfl) ?_
        refine s_take hM75 rfl (gn rfl) rfl rfl (fun w h => r_assign rfl) ?_
        refine s_nil ?_
        refine c_condT rfl rfl ?_
        refine c_sr ?_
        refine l_v rfl (r_assign rfl) ?_
        refine l_nil ?_
        refine c_ret ?_
        refine ret1 rfl rfl ?_
        exact ⟨by simp only [newcE, h19, h67, h68, h73, h77, Bool.not_true, Bool.not_false, Bool.and_true, Bool.and_false, Bool.true_or, cond_true, cond_false] <;> rfl, hM75.kp⟩
       ·skip
        have hp79 : ¬ ((S.pass.length : Nat) = 0) := of_decide_eq_false h77
        refine s_take hM75 rfl (gy rfl rfl rfl rfl h77) rfl rfl (fun w h => r_move rfl) ?_
        refine s_take hM75 rfl (gy rfl rfl rfl rfl h77) rfl rfl (fun w h => r_nilCheck rfl) ?_
        refine s_take hM75 rfl (gy rfl rfl rfl rfl h77) rfl rfl (fun w h => r_fieldAddr StepR.fld_b rfl) ?_
        refine s_take hM75 rfl (gy rfl rfl rfl rfl h77) rfl rfl (fun w h => r_load1 (v := Value.pointer (some ⟨b, 0, none⟩)) Tryz.isAgg77 rfl (Holds.sub (hx.keep h.kp (by simp)) (StepR.sub_b _))) ?_
        refine s_take hM75 rfl (gy rfl rfl rfl rfl h77) rfl rfl (fun w h => r_nilCheck rfl) ?_
        refine s_take hM75 rfl (gy rfl rfl rfl rfl h77) rfl rfl (fun w h => r_fieldAddr SRep.fld_pass rfl) ?_
        refine s_take hM75 rfl (gy rfl rfl rfl rfl h77) rfl rfl (fun w h => r_load1 (v := Sl.val q.p) Tryz.isAgg27 rfl (Holds.sub (hB.keep0 h.kp).hd (SRep.sub_pass _))) ?_
        refine s_take hM75 rfl (gy rfl rfl rfl rfl h77) rfl rfl (fun w h => r_move rfl) ?_
        refine s_take hM75 rfl (gy rfl rfl rfl rfl h77) rfl rfl (fun w h => r_nilCheck rfl) ?_
        refine s_take hM75 rfl (gy rfl rfl rfl rfl h77) rfl rfl (fun w h => r_fieldAddr StepR.fld_a rfl) ?_
        refine s_take hM75 rfl (gy rfl rfl rfl rfl h77) rfl rfl (fun w h => r_fieldAddr ARep.fld_pass rfl) ?_
        refine s_take hM75 rfl (gy rfl rfl rfl rfl h77) rfl rfl (fun w h => r_load1 (v := Sl.val qa.p) Tryz.isAgg27 rfl (Holds.sub (Holds.sub (hx.keep h.kp (by simp)) (StepR.sub_a _)) (ARep.sub_pass _))) ?_
        refine s_call rfl (gy rfl rfl rfl rfl h77) rfl rfl (r_call Tryz.call98 rfl) (f98 (hB.keep0 hM75.kp).own.stv.pass (hA.pass.keep0 hM75.kp)) ?_
        rintro v80 w81 ⟨rfl, hK82⟩
        have hM83 := hM75.keep hK82
        refine ⟨.inr hM83, ?_⟩
        refine s_take hM83 rfl (gy rfl rfl rfl rfl h77) rfl rfl (fun w h => r_not rfl) ?_
        refine s_take hM83 rfl (gy rfl rfl rfl rfl (congrArg Bool.not h68)) rfl rfl (fun w h => r_pickF rfl h77 rfl) ?_
        refine s_take hM83 rfl (gn rfl) rfl rfl (fun w h => r_pickT rfl (congrArg Bool.not h68) rfl) ?_
        refine s_take hM83 rfl (gn rfl) rfl rfl (fun w h => r_assign rfl) ?_
        refine s_nil ?_
        refine ways (decide (S.pass = a.pass)) (fun h84 => ?_) (fun h84 => ?_)
        ·skip
         have hp85 : S.pass = a.pass := of_decide_eq_true h84
         refine c_condF rfl (congrArg Bool.not h84) ?_
         refine c_skip ?_
         refine c_sr ?_
         refine l_v rfl (r_assign rfl) ?_
         refine l_nil ?_
         refine c_ret ?_
         refine ret1 rfl rfl ?_
         exact ⟨by simp only [newcE, h19, h67, h68, h73, h77, h84, Bool.not_true, Bool.not_false, Bool.and_false, Bool.or_false, cond_false] <;> rfl, hM83.kp⟩
        ·skip
         have hp86 : ¬ (S.pass = a.pass) := of_decide_eq_false h84
         refine c_condT rfl (congrArg Bool.not h84) ?_
         refine c_sr ?_
         refine l_v rfl (r_assign rfl) ?_
         refine l_nil ?_
         refine c_ret ?_
         refine ret1 rfl rfl ?_
         exact ⟨by simp only [newcE, h19, h67, h68, h73, h77, h84, Bool.not_true, Bool.not_false, Bool.and_true, Bool.and_false, Bool.or_true, cond_true, cond_false] <;> rfl, hM83.kp⟩
      ·skip
       have hp87 : ¬ ((S.acc.link : UInt8) = link) := of_decide_eq_false h73
       refine c_condT rfl (congrArg Bool.not h73) ?_
       refine c_sr ?_
       refine l_v rfl (r_assign rfl) ?_
       refine l_nil ?_
       refine c_ret ?_
       refine ret1 rfl rfl ?_
       exact ⟨by simp only [newcE, h19, h67, h68, h73, Bool.not_false, Bool.true_and, Bool.and_true, cond_true, cond_false] <;> rfl, hM66.kp⟩
theorem f32 {w : World} {base b bx : Nat} {q : Six} {S : State} {qa : Two} {a : Action} {by_ : Pt} {mine : UInt8} (hx : Holds w bx 0 (StepR.cells ⟨b, by_, a.rep qa, mine⟩)) (hB : StB base w b q S) : Ret 32 #[.pointer (some ⟨bx, 0, none⟩)] w (fun v w' => v = .int .i64 ((mayE S by_ a mine : Nat) : Int) ∧ Keeps [] w w') := by
  have hM0 := Mem.start w
  refine enter Tryz.func32 rfl rfl ?_
  refine c_sr ?_
  refine l_v rfl (r_assign rfl) ?_
  refine l_nil ?_
  refine c_sr ?_
  refine l_v rfl (r_assign rfl) ?_
  refine l_nil ?_
  refine c_seq ?_
  refine c_sr ?_
  refine l_v rfl (r_move rfl) ?_
  refine l_v rfl (r_nilCheck rfl) ?_
  refine l_v rfl (r_fieldAddr StepR.fld_a rfl) ?_
  refine l_v rfl (r_fieldAddr ARep.fld_kind rfl) ?_
  refine l_v rfl (r_load1 (v := vU8 a.kind) Tryz.isAgg38 rfl (Holds.sub (Holds.sub (hx.keep hM0.kp (by simp)) (StepR.sub_a _)) (ARep.sub_kind _))) ?_
  refine l_nil ?_
  refine c_block ?_
  refine c_seq ?_
  refine c_sr ?_
  refine l_v rfl (r_eql (b := decide ((a.kind : UInt8) = 1)) rfl rfl (u8eq a.kind 1)) ?_
  refine l_v rfl (r_assign rfl) ?_
  refine l_nil ?_
  refine c_join (ι := Unit) (fun _ w_ => Mem w [] [] w_) (fun _ => [(0, Value.pointer (some ⟨bx, 0, none⟩)), (2, Value.int .i64 ((0 : Nat) : Int)), (3, vU8 2), (8, vU8 a.kind), (9, Value.bool ((decide ((a.kind : UInt8) = 1) || decide ((a.kind : UInt8) = 5) || decide ((a.kind : UInt8) = 12))))]) ?_ ?_
  ·skip
   refine ways (decide ((a.kind : UInt8) = 1)) (fun h1 => ?_) (fun h1 => ?_)
   ·skip
    have hp2 : (a.kind : UInt8) = 1 := of_decide_eq_true h1
    refine c_condT rfl h1 ?_
    refine c_skip ?_
    exact jn () hM0 ⟨rfl, rfl, rfl, rfl, okB (by simp only [h1, Bool.true_or]), trivial⟩
   ·skip
    have hp3 : ¬ ((a.kind : UInt8) = 1) := of_decide_eq_false h1
    refine c_condF rfl h1 ?_
    refine c_sr ?_
    refine l_v rfl (r_eql (b := decide ((a.kind : UInt8) = 5)) rfl rfl (u8eq a.kind 5)) ?_
    refine l_v rfl (r_assign rfl) ?_
    refine l_nil ?_
    refine ways (decide ((a.kind : UInt8) = 5)) (fun h4 => ?_) (fun h4 => ?_)
    ·skip
     have hp5 : (a.kind : UInt8) = 5 := of_decide_eq_true h4
     refine c_condT rfl h4 ?_
     refine c_skip ?_
     exact jn () hM0 ⟨rfl, rfl, rfl, rfl, okB (by simp only [h1, h4, Bool.true_or, Bool.or_true]), trivial⟩
    ·skip
     have hp6 : ¬ ((a.kind : UInt8) = 5) := of_decide_eq_false h4
     refine c_condF rfl h4 ?_
     refine c_reg ?_
     refine l_v rfl (r_eql (b := decide ((a.kind : UInt8) = 12)) rfl rfl (u8eq a.kind 12)) ?_
     refine l_v rfl (r_assign rfl) ?_
     refine l_nil ?_
     exact jn () hM0 ⟨rfl, rfl, rfl, rfl, okB (by simp only [h1, h4, Bool.false_or, Bool.or_false]), trivial⟩
  ·skip
   rintro - w7 hM8
   refine ways ((decide ((a.kind : UInt8) = 1) || decide ((a.kind : UInt8) = 5) || decide ((a.kind : UInt8) = 12))) (fun h9 => ?_) (fun h9 => ?_)
   ·skip
    refine c_condT rfl h9 ?_
    refine c_seq ?_
    refine c_sr ?_
    refine l_v rfl (r_move rfl) ?_
    refine l_v rfl (r_nilCheck rfl) ?_
    refine l_v rfl (r_fieldAddr StepR.fld_a rfl) ?_
    refine l_v rfl (r_fieldAddr ARep.fld_role rfl) ?_
    refine l_v rfl (r_load1 (v := vU8 a.role) Tryz.isAgg28 rfl (Holds.sub (Holds.sub (hx.keep hM8.kp (by simp)) (StepR.sub_a _)) (ARep.sub_role _))) ?_
    refine l_v rfl (r_eql (b := decide ((a.role : UInt8) = 2)) rfl rfl (u8eq a.role 2)) ?_
    refine l_v rfl (r_move rfl) ?_
    refine ways (decide ((a.role : UInt8) = 2)) (fun h10 => ?_) (fun h10 => ?_)
    ·skip
     have hp11 : (a.role : UInt8) = 2 := of_decide_eq_true h10
     refine l_val (gy rfl rfl rfl rfl h10) rfl rfl (r_move rfl) ?_
     refine l_val (gy rfl rfl rfl rfl h10) rfl rfl (r_nilCheck rfl) ?_
     refine l_val (gy rfl rfl rfl rfl h10) rfl rfl (r_fieldAddr StepR.fld_mine rfl) ?_
     refine l_val (gy rfl rfl rfl rfl h10) rfl rfl (r_load1 (v := vU8 mine) Tryz.isAgg28 rfl (Holds.sub (hx.keep hM8.kp (by simp)) (StepR.sub_mine _))) ?_
     refine l_val (gy rfl rfl rfl rfl h10) rfl rfl (r_neq (b := (!(decide ((mine : UInt8) = 2)))) rfl rfl (congrArg Bool.not (u8eq mine 2))) ?_
     refine l_v rfl (r_pickT rfl h10 rfl) ?_
     refine l_nil ?_
     refine ways (decide ((mine : UInt8) = 2)) (fun h12 => ?_) (fun h12 => ?_)
     ·skip
      have hp13 : (mine : UInt8) = 2 := of_decide_eq_true h12
      refine c_condF rfl (congrArg Bool.not h12) ?_
      refine c_skip ?_
      refine c_reg ?_
      refine l_v rfl (r_move rfl) ?_
      refine l_v rfl (r_nilCheck rfl) ?_
      refine l_v rfl (r_fieldAddr StepR.fld_b rfl) ?_
      refine l_v rfl (r_load1 (v := Value.pointer (some ⟨b, 0, none⟩)) Tryz.isAgg77 rfl (Holds.sub (hx.keep hM8.kp (by simp)) (StepR.sub_b _))) ?_
      refine l_v rfl (r_nilCheck rfl) ?_
      refine l_v rfl (r_fieldAddr SRep.fld_acc rfl) ?_
      refine l_v rfl (r_fieldAddr Access.fld_members rfl) ?_
      refine l_v rfl (r_load1 (v := vU8 S.acc.members) Tryz.isAgg28 rfl (Holds.sub (Holds.sub (hB.keep0 hM8.kp).hd (SRep.sub_acc _)) (Access.sub_members _))) ?_
      refine l_v rfl (r_assign rfl) ?_
      refine l_nil ?_
      refine c_seq ?_
      refine c_sr ?_
      refine l_v rfl (r_move rfl) ?_
      refine l_v rfl (r_nilCheck rfl) ?_
      refine l_v rfl (r_fieldAddr StepR.fld_mine rfl) ?_
      refine l_v rfl (r_load1 (v := vU8 mine) Tryz.isAgg28 rfl (Holds.sub (hx.keep hM8.kp (by simp)) (StepR.sub_mine _))) ?_
      refine l_v rfl (r_eql (b := decide ((mine : UInt8) = 0)) rfl rfl (u8eq mine 0)) ?_
      refine l_v rfl (r_move rfl) ?_
      refine ways (decide ((mine : UInt8) = 0)) (fun h14 => ?_) (fun h14 => ?_)
      ·skip
       have hp15 : (mine : UInt8) = 0 := of_decide_eq_true h14
       refine l_off (gno rfl rfl rfl rfl h14) rfl rfl ?_
       refine l_off (gno rfl rfl rfl rfl h14) rfl rfl ?_
       refine l_off (gno rfl rfl rfl rfl h14) rfl rfl ?_
       refine l_off (gno rfl rfl rfl rfl h14) rfl rfl ?_
       refine l_off (gno rfl rfl rfl rfl h14) rfl rfl ?_
       refine l_off (gno rfl rfl rfl rfl h14) rfl rfl ?_
       refine l_v rfl (r_pickT rfl h14 rfl) ?_
       refine l_nil ?_
       refine c_condT rfl rfl ?_
       refine c_sr ?_
       refine l_v rfl (r_assign rfl) ?_
       refine l_nil ?_
       refine c_ret ?_
       refine ret1 rfl rfl ?_
       exact ⟨by simp only [mayE, rightE, h9, h10, h12, h14, Bool.not_true, Bool.and_false, Bool.true_or, cond_true, cond_false] <;> rfl, hM8.kp⟩
      ·skip
       have hp16 : ¬ ((mine : UInt8) = 0) := of_decide_eq_false h14
       refine l_val (gy rfl rfl rfl rfl h14) rfl rfl (r_move rfl) ?_
       refine l_val (gy rfl rfl rfl rfl h14) rfl rfl (r_nilCheck rfl) ?_
       refine l_val (gy rfl rfl rfl rfl h14) rfl rfl (r_fieldAddr StepR.fld_mine rfl) ?_
       refine l_val (gy rfl rfl rfl rfl h14) rfl rfl (r_load1 (v := vU8 mine) Tryz.isAgg28 rfl (Holds.sub (hx.keep hM8.kp (by simp)) (StepR.sub_mine _))) ?_
       refine l_val (gy rfl rfl rfl rfl h14) rfl rfl (r_move rfl) ?_
       refine l_val (gy rfl rfl rfl rfl h14) rfl rfl (r_lss (b := decide ((mine : UInt8) < S.acc.members)) rfl rfl (u8lt mine S.acc.members)) ?_
       refine l_v rfl (r_pickF rfl h14 rfl) ?_
       refine l_nil ?_
       refine ways (decide ((mine : UInt8) < S.acc.members)) (fun h17 => ?_) (fun h17 => ?_)
       ·skip
        have hp18 : (mine : UInt8) < S.acc.members := of_decide_eq_true h17
        refine c_condT rfl h17 ?_
        refine c_sr ?_
        refine l_v rfl (r_assign rfl) ?_
        refine l_nil ?_
        refine c_ret ?_
        refine ret1 rfl rfl ?_
        exact ⟨by simp only [mayE, rightE, h9, h10, h12, h14, h17, Bool.not_true, Bool.and_false, Bool.or_true, Bool.false_or, cond_true, cond_false] <;> rfl, hM8.kp⟩
       ·skip
        have hp19 : ¬ ((mine : UInt8) < S.acc.members) := of_decide_eq_false h17
        refine c_condF rfl h17 ?_
        refine c_skip ?_
        refine c_sr ?_
        refine l_v rfl (r_assign rfl) ?_
        refine l_nil ?_
        refine c_ret ?_
        refine ret1 rfl rfl ?_
        exact ⟨by simp only [mayE, rightE, h9, h10, h12, h14, h17, Bool.not_true, Bool.and_false, Bool.false_or, Bool.or_false, cond_true, cond_false] <;> rfl, hM8.kp⟩
     ·skip
      have hp20 : ¬ ((mine : UInt8) = 2) := of_decide_eq_false h12
      refine c_condT rfl (congrArg Bool.not h12) ?_
      refine c_sr ?_
      refine l_v rfl (r_assign rfl) ?_
      refine l_nil ?_
      refine c_ret ?_
      refine ret1 rfl rfl ?_
      exact ⟨by simp only [mayE, rightE, h9, h10, h12, Bool.not_false, Bool.and_true, cond_true] <;> rfl, hM8.kp⟩
    ·skip
     have hp21 : ¬ ((a.role : UInt8) = 2) := of_decide_eq_false h10
     refine l_off (gno rfl rfl rfl rfl h10) rfl rfl ?_
     refine l_off (gno rfl rfl rfl rfl h10) rfl rfl ?_
     refine l_off (gno rfl rfl rfl rfl h10) rfl rfl ?_
     refine l_off (gno rfl rfl rfl rfl h10) rfl rfl ?_
     refine l_off (gno rfl rfl rfl rfl h10) rfl rfl ?_
     refine l_v rfl (r_pickF rfl h10 rfl) ?_
     refine l_nil ?_
     refine c_condF rfl rfl ?_
     refine c_skip ?_
     refine c_reg ?_
     refine l_v rfl (r_move rfl) ?_
     refine l_v rfl (r_nilCheck rfl) ?_
     refine l_v rfl (r_fieldAddr StepR.fld_b rfl) ?_
     refine l_v rfl (r_load1 (v := Value.pointer (some ⟨b, 0, none⟩)) Tryz.isAgg77 rfl (Holds.sub (hx.keep hM8.kp (by simp)) (StepR.sub_b _))) ?_
     refine l_v rfl (r_nilCheck rfl) ?_
     refine l_v rfl (r_fieldAddr SRep.fld_acc rfl) ?_
     refine l_v rfl (r_fieldAddr Access.fld_members rfl) ?_
     refine l_v rfl (r_load1 (v := vU8 S.acc.members) Tryz.isAgg28 rfl (Holds.sub (Holds.sub (hB.keep0 hM8.kp).hd (SRep.sub_acc _)) (Access.sub_members _))) ?_
     refine l_v rfl (r_assign rfl) ?_
     refine l_nil ?_
     refine c_seq ?_
     refine c_sr ?_
     refine l_v rfl (r_move rfl) ?_
     refine l_v rfl (r_nilCheck rfl) ?_
     refine l_v rfl (r_fieldAddr StepR.fld_mine rfl) ?_
     refine l_v rfl (r_load1 (v := vU8 mine) Tryz.isAgg28 rfl (Holds.sub (hx.keep hM8.kp (by simp)) (StepR.sub_mine _))) ?_
     refine l_v rfl (r_eql (b := decide ((mine : UInt8) = 0)) rfl rfl (u8eq mine 0)) ?_
     refine l_v rfl (r_move rfl) ?_
     refine ways (decide ((mine : UInt8) = 0)) (fun h22 => ?_) (fun h22 => ?_)
     ·skip
      have hp23 : (mine : UInt8) = 0 := of_decide_eq_true h22
      refine l_off (gno rfl rfl rfl rfl h22) rfl rfl ?_
      refine l_off (gno rfl rfl rfl rfl h22) rfl rfl ?_
      refine l_off (gno rfl rfl rfl rfl h22) rfl rfl ?_
      refine l_off (gno rfl rfl rfl rfl h22) rfl rfl ?_
      refine l_off (gno rfl rfl rfl rfl h22) rfl rfl ?_
      refine l_off (gno rfl rfl rfl rfl h22) rfl rfl ?_
      refine l_v rfl (r_pickT rfl h22 rfl) ?_
      refine l_nil ?_
      refine c_condT rfl rfl ?_
      refine c_sr ?_
      refine l_v rfl (r_assign rfl) ?_
      refine l_nil ?_
      refine c_ret ?_
      refine ret1 rfl rfl ?_
      exact ⟨by simp only [mayE, rightE, h9, h10, h22, Bool.false_and, Bool.true_or, cond_true, cond_false] <;> rfl, hM8.kp⟩
     ·skip
      have hp24 : ¬ ((mine : UInt8) = 0) := of_decide_eq_false h22
      refine l_val (gy rfl rfl rfl rfl h22) rfl rfl (r_move rfl) ?_
      refine l_val (gy rfl rfl rfl rfl h22) rfl rfl (r_nilCheck rfl) ?_
      refine l_val (gy rfl rfl rfl rfl h22) rfl rfl (r_fieldAddr StepR.fld_mine rfl) ?_
      refine l_val (gy rfl rfl rfl rfl h22) rfl rfl (r_load1 (v := vU8 mine) Tryz.isAgg28 rfl (Holds.sub (hx.keep hM8.kp (by simp)) (StepR.sub_mine _))) ?_
      refine l_val (gy rfl rfl rfl rfl h22) rfl rfl (r_move rfl) ?_
      refine l_val (gy rfl rfl rfl rfl h22) rfl rfl (r_lss (b := decide ((mine : UInt8) < S.acc.members)) rfl rfl (u8lt mine S.acc.members)) ?_
      refine l_v rfl (r_pickF rfl h22 rfl) ?_
      refine l_nil ?_
      refine ways (decide ((mine : UInt8) < S.acc.members)) (fun h25 => ?_) (fun h25 => ?_)
      ·skip
       have hp26 : (mine : UInt8) < S.acc.members := of_decide_eq_true h25
       refine c_condT rfl h25 ?_
       refine c_sr ?_
       refine l_v rfl (r_assign rfl) ?_
       refine l_nil ?_
       refine c_ret ?_
       refine ret1 rfl rfl ?_
       exact ⟨by simp only [mayE, rightE, h9, h10, h22, h25, Bool.false_and, Bool.or_true, Bool.false_or, cond_true, cond_false] <;> rfl, hM8.kp⟩
      ·skip
       have hp27 : ¬ ((mine : UInt8) < S.acc.members) := of_decide_eq_false h25
       refine c_condF rfl h25 ?_
       refine c_skip ?_
       refine c_sr ?_
       refine l_v rfl (r_assign rfl) ?_
       refine l_nil ?_
       refine c_ret ?_
       refine ret1 rfl rfl ?_
       exact ⟨by simp only [mayE, rightE, h9, h10, h22, h25, Bool.false_and, Bool.false_or, Bool.or_false, cond_true, cond_false] <;> rfl, hM8.kp⟩
   ·skip
    refine c_condF rfl h9 ?_
    refine c_sr ?_
    refine l_v rfl (r_eql (b := decide ((a.kind : UInt8) = 16)) rfl rfl (u8eq a.kind 16)) ?_
    refine l_v rfl (r_assign rfl) ?_
    refine l_nil ?_
    refine ways (decide ((a.kind : UInt8) = 16)) (fun h28 => ?_) (fun h28 => ?_)
    ·skip
     have hp29 : (a.kind : UInt8) = 16 := of_decide_eq_true h28
     refine c_condT rfl h28 ?_
     refine c_reg ?_
     refine l_v rfl (r_move rfl) ?_
     refine l_v rfl (r_nilCheck rfl) ?_
     refine l_v rfl (r_fieldAddr StepR.fld_b rfl) ?_
     refine l_v rfl (r_load1 (v := Value.pointer (some ⟨b, 0, none⟩)) Tryz.isAgg77 rfl (Holds.sub (hx.keep hM8.kp (by simp)) (StepR.sub_b _))) ?_
     refine l_v rfl (r_nilCheck rfl) ?_
     refine l_v rfl (r_fieldAddr SRep.fld_acc rfl) ?_
     refine l_v rfl (r_fieldAddr Access.fld_title rfl) ?_
     refine l_v rfl (r_load1 (v := vU8 S.acc.title) Tryz.isAgg28 rfl (Holds.sub (Holds.sub (hB.keep0 hM8.kp).hd (SRep.sub_acc _)) (Access.sub_title _))) ?_
     refine l_v rfl (r_assign rfl) ?_
     refine l_nil ?_
     refine c_seq ?_
     refine c_sr ?_
     refine l_v rfl (r_move rfl) ?_
     refine l_v rfl (r_nilCheck rfl) ?_
     refine l_v rfl (r_fieldAddr StepR.fld_mine rfl) ?_
     refine l_v rfl (r_load1 (v := vU8 mine) Tryz.isAgg28 rfl (Holds.sub (hx.keep hM8.kp (by simp)) (StepR.sub_mine _))) ?_
     refine l_v rfl (r_eql (b := decide ((mine : UInt8) = 0)) rfl rfl (u8eq mine 0)) ?_
     refine l_v rfl (r_move rfl) ?_
     refine ways (decide ((mine : UInt8) = 0)) (fun h30 => ?_) (fun h30 => ?_)
     ·skip
      have hp31 : (mine : UInt8) = 0 := of_decide_eq_true h30
      refine l_off (gno rfl rfl rfl rfl h30) rfl rfl ?_
      refine l_off (gno rfl rfl rfl rfl h30) rfl rfl ?_
      refine l_off (gno rfl rfl rfl rfl h30) rfl rfl ?_
      refine l_off (gno rfl rfl rfl rfl h30) rfl rfl ?_
      refine l_off (gno rfl rfl rfl rfl h30) rfl rfl ?_
      refine l_off (gno rfl rfl rfl rfl h30) rfl rfl ?_
      refine l_v rfl (r_pickT rfl h30 rfl) ?_
      refine l_nil ?_
      refine c_condT rfl rfl ?_
      refine c_sr ?_
      refine l_v rfl (r_assign rfl) ?_
      refine l_nil ?_
      refine c_ret ?_
      refine ret1 rfl rfl ?_
      exact ⟨by simp only [mayE, rightE, h9, h28, h30, Bool.true_or, cond_true, cond_false] <;> rfl, hM8.kp⟩
     ·skip
      have hp32 : ¬ ((mine : UInt8) = 0) := of_decide_eq_false h30
      refine l_val (gy rfl rfl rfl rfl h30) rfl rfl (r_move rfl) ?_
      refine l_val (gy rfl rfl rfl rfl h30) rfl rfl (r_nilCheck rfl) ?_
      refine l_val (gy rfl rfl rfl rfl h30) rfl rfl (r_fieldAddr StepR.fld_mine rfl) ?_
      refine l_val (gy rfl rfl rfl rfl h30) rfl rfl (r_load1 (v := vU8 mine) Tryz.isAgg28 rfl (Holds.sub (hx.keep hM8.kp (by simp)) (StepR.sub_mine _))) ?_
      refine l_val (gy rfl rfl rfl rfl h30) rfl rfl (r_move rfl) ?_
      refine l_val (gy rfl rfl rfl rfl h30) rfl rfl (r_lss (b := decide ((mine : UInt8) < S.acc.title)) rfl rfl (u8lt mine S.acc.title)) ?_
      refine l_v rfl (r_pickF rfl h30 rfl) ?_
      refine l_nil ?_
      refine ways (decide ((mine : UInt8) < S.acc.title)) (fun h33 => ?_) (fun h33 => ?_)
      ·skip
       have hp34 : (mine : UInt8) < S.acc.title := of_decide_eq_true h33
       refine c_condT rfl h33 ?_
       refine c_sr ?_
       refine l_v rfl (r_assign rfl) ?_
       refine l_nil ?_
       refine c_ret ?_
       refine ret1 rfl rfl ?_
       exact ⟨by simp only [mayE, rightE, h9, h28, h30, h33, Bool.or_true, Bool.false_or, cond_true, cond_false] <;> rfl, hM8.kp⟩
      ·skip
       have hp35 : ¬ ((mine : UInt8) < S.acc.title) := of_decide_eq_false h33
       refine c_condF rfl h33 ?_
       refine c_skip ?_
       refine c_sr ?_
       refine l_v rfl (r_assign rfl) ?_
       refine l_nil ?_
       refine c_ret ?_
       refine ret1 rfl rfl ?_
       exact ⟨by simp only [mayE, rightE, h9, h28, h30, h33, Bool.false_or, Bool.or_false, cond_true, cond_false] <;> rfl, hM8.kp⟩
    ·skip
     have hp36 : ¬ ((a.kind : UInt8) = 16) := of_decide_eq_false h28
     refine c_condF rfl h28 ?_
     refine c_seq ?_
     refine c_sr ?_
     refine l_v rfl (r_eql (b := decide ((a.kind : UInt8) = 4)) rfl rfl (u8eq a.kind 4)) ?_
     refine l_v rfl (r_assign rfl) ?_
     refine l_nil ?_
     refine c_join (ι := Unit) (fun _ w_ => Mem w [] [] w_) (fun _ => [(0, Value.pointer (some ⟨bx, 0, none⟩)), (2, Value.int .i64 ((0 : Nat) : Int)), (3, vU8 2), (8, vU8 a.kind), (9, Value.bool ((decide ((a.kind : UInt8) = 1) || decide ((a.kind : UInt8) = 5) || decide ((a.kind : UInt8) = 12)))), (34, Value.bool (decide ((a.kind : UInt8) = 16))), (44, Value.bool ((decide ((a.kind : UInt8) = 4) || decide ((a.kind : UInt8) = 6))))]) ?_ ?_
     ·skip
      refine ways (decide ((a.kind : UInt8) = 4)) (fun h37 => ?_) (fun h37 => ?_)
      ·skip
       have hp38 : (a.kind : UInt8) = 4 := of_decide_eq_true h37
       refine c_condT rfl h37 ?_
       refine c_skip ?_
       exact jn () hM8 ⟨rfl, rfl, rfl, rfl, rfl, rfl, okB (by simp only [h37, Bool.true_or]), trivial⟩
      ·skip
       have hp39 : ¬ ((a.kind : UInt8) = 4) := of_decide_eq_false h37
       refine c_condF rfl h37 ?_
       refine c_reg ?_
       refine l_v rfl (r_eql (b := decide ((a.kind : UInt8) = 6)) rfl rfl (u8eq a.kind 6)) ?_
       refine l_v rfl (r_assign rfl) ?_
       refine l_nil ?_
       exact jn () hM8 ⟨rfl, rfl, rfl, rfl, rfl, rfl, okB (by simp only [h37, Bool.false_or]), trivial⟩
     ·skip
      rintro - w40 hM41
      refine ways ((decide ((a.kind : UInt8) = 4) || decide ((a.kind : UInt8) = 6))) (fun h42 => ?_) (fun h42 => ?_)
      ·skip
       refine c_condT rfl h42 ?_
       refine c_reg ?_
       refine l_v rfl (r_assign rfl) ?_
       refine l_nil ?_
       refine c_seq ?_
       refine c_sr ?_
       refine l_v rfl (r_move rfl) ?_
       refine l_v rfl (r_nilCheck rfl) ?_
       refine l_v rfl (r_fieldAddr StepR.fld_mine rfl) ?_
       refine l_v rfl (r_load1 (v := vU8 mine) Tryz.isAgg28 rfl (Holds.sub (hx.keep hM41.kp (by simp)) (StepR.sub_mine _))) ?_
       refine l_v rfl (r_eql (b := decide ((mine : UInt8) = 0)) rfl rfl (u8eq mine 0)) ?_
       refine l_v rfl (r_move rfl) ?_
       refine ways (decide ((mine : UInt8) = 0)) (fun h43 => ?_) (fun h43 => ?_)
       ·skip
        have hp44 : (mine : UInt8) = 0 := of_decide_eq_true h43
        refine l_off (gno rfl rfl rfl rfl h43) rfl rfl ?_
        refine l_off (gno rfl rfl rfl rfl h43) rfl rfl ?_
        refine l_off (gno rfl rfl rfl rfl h43) rfl rfl ?_
        refine l_off (gno rfl rfl rfl rfl h43) rfl rfl ?_
        refine l_off (gno rfl rfl rfl rfl h43) rfl rfl ?_
        refine l_off (gno rfl rfl rfl rfl h43) rfl rfl ?_
        refine l_v rfl (r_pickT rfl h43 rfl) ?_
        refine l_nil ?_
        refine c_condT rfl rfl ?_
        refine c_sr ?_
        refine l_v rfl (r_assign rfl) ?_
        refine l_nil ?_
        refine c_ret ?_
        refine ret1 rfl rfl ?_
        exact ⟨by simp only [mayE, rightE, h9, h28, h42, h43, Bool.true_or, cond_true, cond_false] <;> rfl, hM41.kp⟩
       ·skip
        have hp45 : ¬ ((mine : UInt8) = 0) := of_decide_eq_false h43
        refine l_val (gy rfl rfl rfl rfl h43) rfl rfl (r_move rfl) ?_
        refine l_val (gy rfl rfl rfl rfl h43) rfl rfl (r_nilCheck rfl) ?_
        refine l_val (gy rfl rfl rfl rfl h43) rfl rfl (r_fieldAddr StepR.fld_mine rfl) ?_
        refine l_val (gy rfl rfl rfl rfl h43) rfl rfl (r_load1 (v := vU8 mine) Tryz.isAgg28 rfl (Holds.sub (hx.keep hM41.kp (by simp)) (StepR.sub_mine _))) ?_
        refine l_val (gy rfl rfl rfl rfl h43) rfl rfl (r_move rfl) ?_
        refine l_val (gy rfl rfl rfl rfl h43) rfl rfl (r_lss (b := decide ((mine : UInt8) < 1)) rfl rfl (u8lt mine 1)) ?_
        refine l_v rfl (r_pickF rfl h43 rfl) ?_
        refine l_nil ?_
        refine ways (decide ((mine : UInt8) < 1)) (fun h46 => ?_) (fun h46 => ?_)
        ·skip
         have hp47 : (mine : UInt8) < 1 := of_decide_eq_true h46
         refine c_condT rfl h46 ?_
         refine c_sr ?_
         refine l_v rfl (r_assign rfl) ?_
         refine l_nil ?_
         refine c_ret ?_
         refine ret1 rfl rfl ?_
         exact ⟨by simp only [mayE, rightE, h9, h28, h42, h43, h46, Bool.or_true, Bool.false_or, cond_true, cond_false] <;> rfl, hM41.kp⟩
        ·skip
         have hp48 : ¬ ((mine : UInt8) < 1) := of_decide_eq_false h46
         refine c_condF rfl h46 ?_
         refine c_skip ?_
         refine c_sr ?_
         refine l_v rfl (r_assign rfl) ?_
         refine l_nil ?_
         refine c_ret ?_
         refine ret1 rfl rfl ?_
         exact ⟨by simp only [mayE, rightE, h9, h28, h42, h43, h46, Bool.false_or, Bool.or_false, cond_true, cond_false] <;> rfl, hM41.kp⟩
      ·skip
       refine c_condF rfl h42 ?_
       refine c_seq ?_
       refine c_sr ?_
       refine l_v rfl (r_eql (b := decide ((a.kind : UInt8) = 7)) rfl rfl (u8eq a.kind 7)) ?_
       refine l_v rfl (r_assign rfl) ?_
       refine l_nil ?_
       refine c_join (ι := Unit) (fun _ w_ => Mem w [] [] w_) (fun _ => [(0, Value.pointer (some ⟨bx, 0, none⟩)), (2, Value.int .i64 ((0 : Nat) : Int)), (3, vU8 2), (8, vU8 a.kind), (9, Value.bool ((decide ((a.kind : UInt8) = 1) || decide ((a.kind : UInt8) = 5) || decide ((a.kind : UInt8) = 12)))), (34, Value.bool (decide ((a.kind : UInt8) = 16))), (44, Value.bool ((decide ((a.kind : UInt8) = 4) || decide ((a.kind : UInt8) = 6)))), (47, Value.bool ((decide ((a.kind : UInt8) = 7) || decide ((a.kind : UInt8) = 8) || decide ((a.kind : UInt8) = 11))))]) ?_ ?_
       ·skip
        refine ways (decide ((a.kind : UInt8) = 7)) (fun h49 => ?_) (fun h49 => ?_)
        ·skip
         have hp50 : (a.kind : UInt8) = 7 := of_decide_eq_true h49
         refine c_condT rfl h49 ?_
         refine c_skip ?_
         exact jn () hM41 ⟨rfl, rfl, rfl, rfl, rfl, rfl, rfl, okB (by simp only [h49, Bool.true_or]), trivial⟩
        ·skip
         have hp51 : ¬ ((a.kind : UInt8) = 7) := of_decide_eq_false h49
         refine c_condF rfl h49 ?_
         refine c_sr ?_
         refine l_v rfl (r_eql (b := decide ((a.kind : UInt8) = 8)) rfl rfl (u8eq a.kind 8)) ?_
         refine l_v rfl (r_assign rfl) ?_
         refine l_nil ?_
         refine ways (decide ((a.kind : UInt8) = 8)) (fun h52 => ?_) (fun h52 => ?_)
         ·skip
          have hp53 : (a.kind : UInt8) = 8 := of_decide_eq_true h52
          refine c_condT rfl h52 ?_
          refine c_skip ?_
          exact jn () hM41 ⟨rfl, rfl, rfl, rfl, rfl, rfl, rfl, okB (by simp only [h49, h52, Bool.true_or, Bool.or_true]), trivial⟩
         ·skip
          have hp54 : ¬ ((a.kind : UInt8) = 8) := of_decide_eq_false h52
          refine c_condF rfl h52 ?_
          refine c_reg ?_
          refine l_v rfl (r_eql (b := decide ((a.kind : UInt8) = 11)) rfl rfl (u8eq a.kind 11)) ?_
          refine l_v rfl (r_assign rfl) ?_
          refine l_nil ?_
          exact jn () hM41 ⟨rfl, rfl, rfl, rfl, rfl, rfl, rfl, okB (by simp only [h49, h52, Bool.false_or, Bool.or_false]), trivial⟩
       ·skip
        rintro - w55 hM56
        refine ways ((decide ((a.kind : UInt8) = 7) || decide ((a.kind : UInt8) = 8) || decide ((a.kind : UInt8) = 11))) (fun h57 => ?_) (fun h57 => ?_)
        ·skip
         refine c_condT rfl h57 ?_
         refine c_sr ?_
         refine l_v rfl (r_assign rfl) ?_
         refine l_nil ?_
         refine c_ret ?_
         refine ret1 rfl rfl ?_
         exact ⟨by simp only [mayE, rightE, h9, h28, h42, h57, cond_true, cond_false] <;> rfl, hM56.kp⟩
        ·skip
         refine c_condF rfl h57 ?_
         refine c_seq ?_
         refine c_sr ?_
         refine l_v rfl (r_eql (b := decide ((a.kind : UInt8) = 9)) rfl rfl (u8eq a.kind 9)) ?_
         refine l_v rfl (r_assign rfl) ?_
         refine l_nil ?_
         refine c_join (ι := Unit) (fun _ w_ => Mem w [] [] w_) (fun _ => [(0, Value.pointer (some ⟨bx, 0, none⟩)), (2, Value.int .i64 ((0 : Nat) : Int)), (3, vU8 2), (8, vU8 a.kind), (9, Value.bool ((decide ((a.kind : UInt8) = 1) || decide ((a.kind : UInt8) = 5) || decide ((a.kind : UInt8) = 12)))), (34, Value.bool (decide ((a.kind : UInt8) = 16))), (44, Value.bool ((decide ((a.kind : UInt8) = 4) || decide ((a.kind : UInt8) = 6)))), (47, Value.bool ((decide ((a.kind : UInt8) = 7) || decide ((a.kind : UInt8) = 8) || decide ((a.kind : UInt8) = 11)))), (51, Value.bool ((decide ((a.kind : UInt8) = 9) || decide ((a.kind : UInt8) = 10))))]) ?_ ?_
         ·skip
          refine ways (decide ((a.kind : UInt8) = 9)) (fun h58 => ?_) (fun h58 => ?_)
          ·skip
           have hp59 : (a.kind : UInt8) = 9 := of_decide_eq_true h58
           refine c_condT rfl h58 ?_
           refine c_skip ?_
           exact jn () hM56 ⟨rfl, rfl, rfl, rfl, rfl, rfl, rfl, rfl, okB (by simp only [h58, Bool.true_or]), trivial⟩
          ·skip
           have hp60 : ¬ ((a.kind : UInt8) = 9) := of_decide_eq_false h58
           refine c_condF rfl h58 ?_
           refine c_reg ?_
           refine l_v rfl (r_eql (b := decide ((a.kind : UInt8) = 10)) rfl rfl (u8eq a.kind 10)) ?_
           refine l_v rfl (r_assign rfl) ?_
           refine l_nil ?_
           exact jn () hM56 ⟨rfl, rfl, rfl, rfl, rfl, rfl, rfl, rfl, okB (by simp only [h58, Bool.false_or]), trivial⟩
         ·skip
          rintro - w61 hM62
          refine ways ((decide ((a.kind : UInt8) = 9) || decide ((a.kind : UInt8) = 10))) (fun h63 => ?_) (fun h63 => ?_)
          ·skip
           refine c_condT rfl h63 ?_
           refine c_seq ?_
           refine c_seq ?_
           refine c_regD (Mem w [] []) [] [(0, true), (1, true), (2, true), (3, true), (4, true), (5, true), (6, true), (7, true), (8, true), (9, true), (10, true)] (by kernel_rfl) ?_
           have hM64 := hM62.drew
           refine s_take hM64 rfl (gn rfl) rfl rfl (fun w h => r_move rfl) ?_
           refine s_take hM64 rfl (gn rfl) rfl rfl (fun w h => r_nilCheck rfl) ?_
           refine s_take hM64 rfl (gn rfl) rfl rfl (fun w h => r_fieldAddr StepR.fld_a rfl) ?_
           refine s_take hM64 rfl (gn rfl) rfl rfl (fun w h => r_fieldAddr ARep.fld_who rfl) ?_
           refine s_take hM64 rfl (gn rfl) rfl rfl (fun w h => r_fieldAddr Cipher.fld_E rfl) ?_
           refine s_take hM64 rfl (gn rfl) rfl rfl (fun w h => r_loadA Tryz.isAgg24 Tryz.sizeOf24 (Pt.size _) rfl (Holds.sub (Holds.sub (Holds.sub (hx.keep h.kp (by simp)) (StepR.sub_a _)) (ARep.sub_who _)) (Cipher.sub_E _))) ?_
           refine s_take hM64 rfl (gn rfl) rfl rfl (fun w h => r_move rfl) ?_
           refine s_take hM64 rfl (gn rfl) rfl rfl (fun w h => r_nilCheck rfl) ?_
           refine s_take hM64 rfl (gn rfl) rfl rfl (fun w h => r_fieldAddr StepR.fld_by_ rfl) ?_
           refine s_take hM64 rfl (gn rfl) rfl rfl (fun w h => r_loadA Tryz.isAgg24 Tryz.sizeOf24 (Pt.size _) rfl (Holds.sub (hx.keep h.kp (by simp)) (StepR.sub_by_ _))) ?_
           refine s_take hM64 rfl (gn rfl) rfl rfl (fun w h => r_nePt Tryz.eqGuardType24 Tryz.underlying24 rfl rfl) ?_
           refine s_nil ?_
           refine ways (decide (a.who.E = by_)) (fun h66 => ?_) (fun h66 => ?_)
           ·skip
            have hp67 : a.who.E = by_ := of_decide_eq_true h66
            refine c_condF rfl (congrArg Bool.not h66) ?_
            refine c_skip ?_
            refine c_sr ?_
            refine l_v rfl (r_assign rfl) ?_
            refine l_nil ?_
            refine c_ret ?_
            refine ret1 rfl rfl ?_
            exact ⟨by simp only [mayE, rightE, h9, h28, h42, h57, h63, h66, cond_true, cond_false] <;> rfl, hM64.kp⟩
           ·skip
            have hp68 : ¬ (a.who.E = by_) := of_decide_eq_false h66
            refine c_condT rfl (congrArg Bool.not h66) ?_
            refine c_sr ?_
            refine l_v rfl (r_assign rfl) ?_
            refine l_nil ?_
            refine c_ret ?_
            refine ret1 rfl rfl ?_
            exact ⟨by simp only [mayE, rightE, h9, h28, h42, h57, h63, h66, cond_true, cond_false] <;> rfl, hM64.kp⟩
          ·skip
           refine c_condF rfl h63 ?_
           refine c_skip ?_
           refine c_seq ?_
           refine c_sr ?_
           refine l_v rfl (r_move rfl) ?_
           refine l_v rfl (r_nilCheck rfl) ?_
           refine l_v rfl (r_fieldAddr StepR.fld_mine rfl) ?_
           refine l_v rfl (r_load1 (v := vU8 mine) Tryz.isAgg28 rfl (Holds.sub (hx.keep hM62.kp (by simp)) (StepR.sub_mine _))) ?_
           refine l_v rfl (r_eql (b := decide ((mine : UInt8) = 0)) rfl rfl (u8eq mine 0)) ?_
           refine l_v rfl (r_move rfl) ?_
           refine ways (decide ((mine : UInt8) = 0)) (fun h69 => ?_) (fun h69 => ?_)
           ·skip
            have hp70 : (mine : UInt8) = 0 := of_decide_eq_true h69
            refine l_off (gno rfl rfl rfl rfl h69) rfl rfl ?_
            refine l_off (gno rfl rfl rfl rfl h69) rfl rfl ?_
            refine l_off (gno rfl rfl rfl rfl h69) rfl rfl ?_
            refine l_off (gno rfl rfl rfl rfl h69) rfl rfl ?_
            refine l_off (gno rfl rfl rfl rfl h69) rfl rfl ?_
            refine l_off (gno rfl rfl rfl rfl h69) rfl rfl ?_
            refine l_v rfl (r_pickT rfl h69 rfl) ?_
            refine l_nil ?_
            refine c_condT rfl rfl ?_
            refine c_sr ?_
            refine l_v rfl (r_assign rfl) ?_
            refine l_nil ?_
            refine c_ret ?_
            refine ret1 rfl rfl ?_
            exact ⟨by simp only [mayE, rightE, h9, h28, h42, h57, h63, h69, Bool.true_or, cond_true, cond_false] <;> rfl, hM62.kp⟩
           ·skip
            have hp71 : ¬ ((mine : UInt8) = 0) := of_decide_eq_false h69
            refine l_val (gy rfl rfl rfl rfl h69) rfl rfl (r_move rfl) ?_
            refine l_val (gy rfl rfl rfl rfl h69) rfl rfl (r_nilCheck rfl) ?_
            refine l_val (gy rfl rfl rfl rfl h69) rfl rfl (r_fieldAddr StepR.fld_mine rfl) ?_
            refine l_val (gy rfl rfl rfl rfl h69) rfl rfl (r_load1 (v := vU8 mine) Tryz.isAgg28 rfl (Holds.sub (hx.keep hM62.kp (by simp)) (StepR.sub_mine _))) ?_
            refine l_val (gy rfl rfl rfl rfl h69) rfl rfl (r_move rfl) ?_
            refine l_val (gy rfl rfl rfl rfl h69) rfl rfl (r_lss (b := decide ((mine : UInt8) < 2)) rfl rfl (u8lt mine 2)) ?_
            refine l_v rfl (r_pickF rfl h69 rfl) ?_
            refine l_nil ?_
            refine ways (decide ((mine : UInt8) < 2)) (fun h72 => ?_) (fun h72 => ?_)
            ·skip
             have hp73 : (mine : UInt8) < 2 := of_decide_eq_true h72
             refine c_condT rfl h72 ?_
             refine c_sr ?_
             refine l_v rfl (r_assign rfl) ?_
             refine l_nil ?_
             refine c_ret ?_
             refine ret1 rfl rfl ?_
             exact ⟨by simp only [mayE, rightE, h9, h28, h42, h57, h63, h69, h72, Bool.or_true, Bool.false_or, cond_true, cond_false] <;> rfl, hM62.kp⟩
            ·skip
             have hp74 : ¬ ((mine : UInt8) < 2) := of_decide_eq_false h72
             refine c_condF rfl h72 ?_
             refine c_skip ?_
             refine c_sr ?_
             refine l_v rfl (r_assign rfl) ?_
             refine l_nil ?_
             refine c_ret ?_
             refine ret1 rfl rfl ?_
             exact ⟨by simp only [mayE, rightE, h9, h28, h42, h57, h63, h69, h72, Bool.false_or, Bool.or_false, cond_false] <;> rfl, hM62.kp⟩
end Go.Proofs.YtekhaogjmmmniaaGreat
namespace Go.Proofs.YtekhaogjmmmniaaGreat
open Go Go.RowKit

/-- An action's bytes: of one's own, in blocks that are none of the state's. -/
structure ActM (base : Nat) (w : World) (b : Nat) (q : Six) (qa : Two) (a : Action) : Prop where
  t : Own base 5 w qa.t 1 encB a.title
  p : Own base 5 w qa.p 1 encB a.pass
  ht : ∀ x ∈ b :: q.bs, qa.t.val.ownBlock ≠ some x
  hp : ∀ x ∈ b :: q.bs, qa.p.val.ownBlock ≠ some x
section act
variable {base b : Nat} {w w' W : World} {q q' q0 : Six} {S S' : State} {qa : Two} {a : Action} {L : List Ent} {X xs ys : List Nat}
theorem Row.but {α : Type} {A : Nat → Prop} {s : Sl} {sz : Nat} {enc : α → Array Value} {l : List α} (h : Row A w s sz enc l) (hx : ∀ x ∈ X, s.val.ownBlock ≠ some x) : Row (fun k => k ∉ X) w s sz enc l :=
  ⟨h.len, h.cap, h.big, h.nil0, fun i e hi => by
    obtain ⟨b, off, h1, _, h3⟩ := h.at_ i e hi
    exact ⟨b, off, h1, fun hm => hx b hm (by simp [Sl.val, h1, Value.ownBlock]), h3⟩⟩
theorem ActM.acv (h : ActM base w b q qa a) : AcV (fun k => k ∉ b :: q.bs) w qa a := ⟨(h.t.row enB).but h.ht, (h.p.row enB).but h.hp⟩
theorem ActM.keep (h : ActM base w b q qa a) (k : Keeps (b :: q.bs) w w') : ActM base w' b q qa a := ⟨h.t.keep k h.ht, h.p.keep k h.hp, h.ht, h.hp⟩
theorem StB.nb (h : StB base w b q S) : b ∉ q.bs := fun hm => by have := (h.own.lo b hm).1; have := h.lt; omega
theorem StB.setT (h : StB base w b q S) (hA : ActM base w b q qa a) (k : Keeps [b] w w') : OwnSt base w' { q with t := qa.t } { S with title := a.title } := by
  have h1 := h.own.keepX k (by simpa using h.nb)
  have sep := h1.sep
  simp only [List.pairwise_cons] at sep
  have hs : ∀ s ∈ q.sls, Sep2 qa.t s := fun s hs x hx hy => hA.ht x (List.mem_cons_of_mem _ (mem_bs.2 ⟨s, hs, hy⟩)) hx
  refine ⟨hA.t.keep k (fun x hx => hA.ht x (by simp only [List.mem_cons, List.not_mem_nil, or_false] at hx; simp [hx])), h1.p, h1.s, h1.i, h1.a, h1.b, ?_⟩
  simp only [List.pairwise_cons]
  exact ⟨fun s hm => hs s (List.mem_cons_of_mem _ hm), sep.2⟩
theorem StB.setP (h : StB base w b q S) (hA : ActM base w b q qa a) (k : Keeps [b] w w') : OwnSt base w' { q with p := qa.p } { S with pass := a.pass } := by
  have h1 := h.own.keepX k (by simpa using h.nb)
  have sep := h1.sep
  simp only [List.pairwise_cons] at sep
  have hs : ∀ s ∈ q.sls, Sep2 qa.p s := fun s hs x hx hy => hA.hp x (List.mem_cons_of_mem _ (mem_bs.2 ⟨s, hs, hy⟩)) hx
  refine ⟨h1.t, hA.p.keep k (fun x hx => hA.hp x (by simp only [List.mem_cons, List.not_mem_nil, or_false] at hx; simp [hx])), h1.s, h1.i, h1.a, h1.b, ?_⟩
  simp only [List.pairwise_cons]
  refine ⟨fun s hm => ?_, fun s hm => hs s (List.mem_cons_of_mem _ (List.mem_cons_of_mem _ hm)), sep.2.2⟩
  cases hm with
  | head => exact (hs q.t (by simp [Six.sls])).symm
  | tail _ hm => exact sep.1 s (List.mem_cons_of_mem _ hm)
theorem StB.setA (h : StB base w b q S) (k : Keeps [b] w w') (acc : Access) : OwnSt base w' q { S with acc := acc } := by
  have h1 := h.own.keepX k (by simpa using h.nb)
  exact ⟨h1.t, h1.p, h1.s, h1.i, h1.a, h1.b, h1.sep⟩
/-- A store within a seat. -/
theorem StB.setSeat (h : StB base w b q S) {i g o off : Nat} {x x' : Seat} {v : Array Value} (hi : S.seats[i]? = some x) (ha : q.s.a = some ⟨g, o, none⟩) (hput : put (Seat.cells x) off v = Seat.cells x') (hk : off + v.size ≤ 66) :
    ∃ cur, Blk w g cur 73 ∧ o + i * 66 + off + v.size ≤ cur.size ∧ StB base (w.setRow g (put cur (o + i * 66 + off) v)) b q { S with seats := S.seats.set i x' } ∧ g ∈ q.bs := by
  obtain ⟨cur, h0, h1, h2, h3, h4⟩ := h.own.s.set enSeat hi ha hput hk
  have hg : q.s.val.ownBlock = some g := by simp [Sl.val, ha, Value.ownBlock]
  have k := Keeps.setRow w g (put cur (o + i * 66 + off) v)
  have hgb : g ≠ b := fun e => by have := h.lt; omega
  have sep := h.own.sep
  simp only [List.pairwise_cons, List.mem_cons, List.not_mem_nil, or_false, forall_eq_or_imp, forall_eq, false_imp_iff, implies_true, List.Pairwise.nil, and_true] at sep
  obtain ⟨⟨s01, s02, s03, s04, s05⟩, ⟨s12, s13, s14, s15⟩, ⟨s23, s24, s25⟩, ⟨s34, s35⟩, s45⟩ := sep
  have ne : ∀ {s : Sl}, Sep2 s q.s → ∀ x ∈ [g], s.val.ownBlock ≠ some x := fun hs x hx hc => by
    simp only [List.mem_cons, List.not_mem_nil, or_false] at hx
    subst hx
    exact hs x hc hg
  refine ⟨cur, h2, h3, ⟨h.blk.keep k (by simpa using (Ne.symm hgb)), h.lt, ⟨h.own.t.keep k (ne s02), h.own.p.keep k (ne s12), h4, h.own.i.keep k (ne s23.symm), h.own.a.keep k (ne s24.symm), h.own.b.keep k (ne s25.symm), h.own.sep⟩⟩, mem_bs.2 ⟨q.s, by simp [Six.sls], hg⟩⟩
end act

section steps
variable {n : Nat} {env : List (Nat × Value)} {W w : World} {L : List Ent} {N : Pst} {E : List (Nat × Pst)} {R : Pst} {ops : Array Oper}
variable {ty : TypeId} {pos : String} {af : Array Edge} {p y : Operand} {T : TypeId} {v : Value} {base b off k : Nat} {q q' q0 : Six} {Z Z' : State}
variable {S : World → Prop} {late : List Nat} {r : List (Nat × Bool)} {ld : Bool} {j : Nat}
theorem s_storeSt (hM : Mem W (b :: q0.bs) L w) (hB : StB base w b q Z) (hF : NS W q0 q) (hA : Apt b q (L.map Prod.fst)) (hj : ops[j]? = some ⟨none, .store T p y, ty, pos, af, none⟩) (hs : ∀ w, (sizeOf T).run Tryz.prog w = .ok k w)
    (hx : ev env p = some (.pointer (some ⟨b, off, none⟩))) (hv : ev env y = some v) (hk : v.cells.size = k) (hl : off + k ≤ 74) (h1 : ∀ c ∈ v.cells, c.oneCell' = true) (hput : put (Z.rep q).cells off v.cells = (Z'.rep q').cells)
    (hO : ∀ w', Keeps [b] w w' → OwnSt base w' q' Z')
    (h : ∀ w', Mem W (b :: q0.bs) L w' → Keeps [b] w w' → StB base w' b q' Z' → ((ld || late.contains j) = true ∨ S w') ∧ AT n env w' (SW ops S late r (ld || late.contains j) N E R)) :
    AT n env w (SW ops S late ((j, false) :: r) ld N E R) := by
  subst hk
  have kk := Keeps.setRow w b (put (Z.rep q).cells off v.cells)
  have hb := setRow_heap w b _ (put (Z.rep q).cells off v.cells) 37 _ hB.blk
  have h' := h _ (hM.st (kk.mono (by simp)) hF hA) kk ⟨by rw [← hput]; exact hb, hB.lt, hO _ kk⟩
  exact s_skip hj (gn rfl) rfl (r_store hs hx hv rfl hB.blk (by rw [SRep.size]; exact hl) h1) h'.1 h'.2
theorem s_storeRole (hM : Mem W (b :: q0.bs) L w) (hB : StB base w b q Z) (hF : NS W q0 q) (hA : Apt b q (L.map Prod.fst)) {i g o : Nat} {x : Seat} {rr : UInt8} (hi : Z.seats[i]? = some x) (ha : q.s.a = some ⟨g, o, none⟩)
    (hj : ops[j]? = some ⟨none, .store 28 p y, ty, pos, af, none⟩)
    (hx : ev env p = some (.pointer (some ⟨g, o + i * 66 + 64, none⟩))) (hv : ev env y = some (vU8 rr))
    (h : ∀ w', Mem W (b :: q0.bs) L w' → Keeps (b :: q.bs) w w' → StB base w' b q { Z with seats := Z.seats.set i { x with role := rr } } → ((ld || late.contains j) = true ∨ S w') ∧ AT n env w' (SW ops S late r (ld || late.contains j) N E R)) :
    AT n env w (SW ops S late ((j, false) :: r) ld N E R) := by
  obtain ⟨cur, h2, h3, h4, h5⟩ := hB.setSeat (v := #[vU8 rr]) hi ha (Seat.put_role x rr) (by simp)
  have kk : Keeps (b :: q.bs) w (w.setRow g (put cur (o + i * 66 + 64) #[vU8 rr])) := (Keeps.setRow w g _).mono fun y hy => by
    simp only [List.mem_cons, List.not_mem_nil, or_false] at hy
    subst hy; exact List.mem_cons_of_mem _ h5
  have h' := h _ (hM.st kk hF hA) kk h4
  exact s_skip hj (gn rfl) rfl (r_store (v := vU8 rr) Tryz.sizeOf28 hx hv rfl h2 h3 (one_one rfl)) h'.1 h'.2
end steps
end Go.Proofs.YtekhaogjmmmniaaGreat
namespace Go.Proofs.YtekhaogjmmmniaaGreat
open Go Go.RowKit

theorem f70 {w : World} {base b bx : Nat} {q : Six} {S : State} {qa : Two} {a : Action} {by_ : Pt} {mine : UInt8} (hx : Holds w bx 0 (StepR.cells ⟨b, by_, a.rep qa, mine⟩)) (hbx : bx ∉ b :: q.bs) (hB : StB base w b q S) (hbw : base ≤ w.heap.size) (hu : UpK Seat.key S.seats) (hl : S.seats.length ≤ 40) (who : Cipher) (r : UInt8) : Ret 70 #[.pointer (some ⟨bx, 0, none⟩), .agg who.cells, vU8 r] w (fun v w' => ∃ q', v = .int .i64 ((0 : Nat) : Int) ∧ StB base w' b q' (putS S ⟨who, r, a.ver⟩) ∧ Keeps (b :: q.bs) w w') := by
  have hM0 : Mem w (b :: q.bs) [] w := ⟨Keeps.refl _ _, by simp, by simp, by simp⟩
  have hF0 := NS.refl w q
  have hAp0 : Apt b q [] := Apt.nil
  have hU1 := hl
  refine enter Tryz.func70 rfl rfl ?_
  refine c_sr ?_
  refine l_box hM0 rfl rfl ?_
  intro b1 w2 hM3 hK4 hB5
  replace hM3 : Mem w (b :: q.bs) [(b1, (Cipher.cells who), 40)] w2 := hM3
  have hAp6 : Apt b q [b1] := hAp0.cons hB hB5
  refine l_v rfl (r_assign rfl) ?_
  refine l_nil ?_
  refine c_seq ?_
  refine c_regD (Mem w (b :: q.bs) [(b1, (Cipher.cells who), 40)]) [] [(0, true), (1, true), (2, true), (3, true), (5, true), (6, true), (7, true), (8, true), (9, true), (10, true), (11, true), (12, true), (4, false), (13, false)] (by kernel_rfl) ?_
  have hM7 := hM3.drew
  refine s_take hM7 rfl (gn rfl) rfl rfl (fun w h => r_move rfl) ?_
  refine s_take hM7 rfl (gn rfl) rfl rfl (fun w h => r_nilCheck rfl) ?_
  refine s_take hM7 rfl (gn rfl) rfl rfl (fun w h => r_fieldAddr StepR.fld_b rfl) ?_
  refine s_take hM7 rfl (gn rfl) rfl rfl (fun w h => r_load1 (v := Value.pointer (some ⟨b, 0, none⟩)) Tryz.isAgg77 rfl (Holds.sub (hx.keep h.kp hbx) (StepR.sub_b _))) ?_
  refine s_take hM7 rfl (gn rfl) rfl rfl (fun w h => r_loadA Tryz.isAgg40 Tryz.sizeOf40 (Cipher.size _) rfl (h.base (i := 0) rfl)) ?_
  refine s_take hM7 rfl (gn rfl) rfl rfl (fun w h => r_move rfl) ?_
  refine s_take hM7 rfl (gn rfl) rfl rfl (fun w h => r_move rfl) ?_
  refine s_take hM7 rfl (gn rfl) rfl rfl (fun w h => r_nilCheck rfl) ?_
  refine s_take hM7 rfl (gn rfl) rfl rfl (fun w h => r_fieldAddr StepR.fld_a rfl) ?_
  refine s_take hM7 rfl (gn rfl) rfl rfl (fun w h => r_fieldAddr ARep.fld_ver rfl) ?_
  refine s_take hM7 rfl (gn rfl) rfl rfl (fun w h => r_load1 (v := vU32 a.ver) Tryz.isAgg22 rfl (Holds.sub (Holds.sub (hx.keep h.kp hbx) (StepR.sub_a _)) (ARep.sub_ver _))) ?_
  refine s_take hM7 rfl (gn rfl) rfl rfl (fun w h => r_build rfl ((Seat.built _).trans (fill_cons rfl (Cipher.size _) (by rw [Seat.size]; decide) (Seat.put_who _ who) (fill_cons rfl rfl (by rw [Seat.size]; decide) (Seat.put_role _ r) (fill_cons rfl rfl (by rw [Seat.size]; decide) (Seat.put_joined _ a.ver) (fill_nil)))))) ?_
  refine s_call rfl (gn rfl) rfl rfl (r_call Tryz.call63 rfl) (f63 _) ?_
  rintro v9 w10 ⟨rfl, hK11⟩
  have hM12 := hM7.keep hK11
  refine ⟨.inr hM12, ?_⟩
  refine s_call rfl (gn rfl) rfl rfl (r_call Tryz.call103 rfl) (put_s (((hB.keep0 hK4).keep0 (Keeps.drew _)).keep0 hK11) hu (Nat.le_trans hl (by decide)) (Nat.le_trans hbw hM12.kp.size) ((Seat.mk who r a.ver))) ?_
  rintro v16 w17 ⟨q13, rfl, hB14, hK18, hS15⟩
  have hM19 := hM12.st hK18 hF0 hAp6
  have hC20 : StB base w17 b q13 (putS S ((Seat.mk who r a.ver))) := hB14
  have hF20 := hF0.trans hS15 hM12.kp.size
  have hAp20 : Apt b q13 [b1] := hAp6.ns hS15 hM12.blks
  refine ⟨.inr hM19, ?_⟩
  refine s_nil ?_
  refine c_sr ?_
  refine l_v rfl (r_assign rfl) ?_
  refine l_nil ?_
  refine c_ret ?_
  refine ret1 rfl rfl ?_
  exact ⟨q13, rfl, hC20, hM19.kp⟩
end Go.Proofs.YtekhaogjmmmniaaGreat
