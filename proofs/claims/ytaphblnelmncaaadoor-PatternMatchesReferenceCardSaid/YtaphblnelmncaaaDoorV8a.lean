/- What the statement's proof stands on, part 1: the walks over the program's functions and the plain laws. -/
import Derived.Test.YtaphblnelmncaaaDoorPAx0
import Derived.RegionTactic
import Derived.ChangeAlike
import Derived.Deep.QuietTactic
import Derived.BigQuiet
import Derived.KernelRfl
import Derived.WalkLawsBesides
import Derived.Lib.Hide
import Derived.Handy
import Derived.BigCall
import Derived.Laws.Concat
import Derived.Laws.BitsAllLaws
import Derived.Lib.TrailingZeros
import Derived.Test.YtaphblnelmncaaaDoorWWords
import Derived.Shelf.Spec.TrailingZeros
import Derived.Deep.RegionWith
import Derived.Laws.EntriesVeiled
import Derived.Deep.RegionHeld3
set_option linter.unusedSimpArgs false
set_option linter.unusedVariables false
section
/- Plain words on blocks of memory, lists of cells, and sets of places as numbers: for the walks over package pattern. -/
namespace Go.Proofs.YtaphblnelmncaaaDoor.PA
open Go.RowKit Go.Proofs.YtaphblnelmncaaaDoorW.PrintWords Go.Proofs.YtaphblnelmncaaaDoorW.PrintLast Go.Proofs.YtaphblnelmncaaaDoorW.PrintMore

theorem ret_bool {a b : Bool} (h : a = b) : Ending.returned (.bool a) = .returned (.bool b) := by rw [h]
theorem ret_int {k : IntKind} {a b : Int} (h : a = b) : Ending.returned (.int k a) = .returned (.int k b) := by rw [h]
theorem ret_str {a b : ByteArray} (h : a = b) : Ending.returned (.string a) = .returned (.string b) := by rw [h]

/-- Block g of w holds the cells cs of element type t, none frozen. -/
def Blk (w : World) (g t : Nat) (cs : List Value) : Prop := w.heap[g]? = some (.cells cs.toArray t (0, 0))

/-- Of the blocks that w has, only those in L may have changed. -/
structure Chg (L : List Nat) (w w' : World) : Prop where
  os : w'.os = w.os
  tape : w'.tape = w.tape
  output : w'.output = w.output
  size : w.heap.size ≤ w'.heap.size
  block : ∀ k, k < w.heap.size → k ∉ L → w'.heap[k]? = w.heap[k]?

theorem Chg.refl (L : List Nat) (w : World) : Chg L w w := ⟨rfl, rfl, rfl, Nat.le_refl _, fun _ _ _ => rfl⟩
theorem Chg.mono {L L' : List Nat} {w w' : World} (h : Chg L w w') (hs : ∀ k, k ∈ L → k ∈ L' ∨ w.heap.size ≤ k) : Chg L' w w' :=
  ⟨h.os, h.tape, h.output, h.size, fun k hk hn => h.block k hk (fun hm => by rcases hs k hm with h | h; exact hn h; omega)⟩
theorem Chg.trans {L : List Nat} {a b c : World} (h : Chg L a b) (k : Chg L b c) : Chg L a c :=
  ⟨k.os.trans h.os, k.tape.trans h.tape, k.output.trans h.output, Nat.le_trans h.size k.size, fun i hi hn => (k.block i (Nat.lt_of_lt_of_le hi h.size) hn).trans (h.block i hi hn)⟩
/-- A second step that changes L' as well, each of which is in L or new. -/
theorem Chg.then {L L' : List Nat} {a b c : World} (h : Chg L a b) (k : Chg L' b c) (hs : ∀ k, k ∈ L' → k ∈ L ∨ a.heap.size ≤ k) : Chg L a c :=
  ⟨k.os.trans h.os, k.tape.trans h.tape, k.output.trans h.output, Nat.le_trans h.size k.size, fun i hi hn => (k.block i (Nat.lt_of_lt_of_le hi h.size) (fun hm => by rcases hs i hm with h | h; exact hn h; omega)).trans (h.block i hi hn)⟩
theorem Chg.below {w w' : World} (h : Chg [] w w') : Below w.heap.size w w' := ⟨h.os, h.tape, h.output, h.size, fun k hk => h.block k hk (by simp)⟩
theorem Chg.of_below {L : List Nat} {w w' : World} (h : Below w.heap.size w w') : Chg L w w' := ⟨h.os, h.tape, h.output, h.size, fun k hk _ => h.block k hk⟩
theorem Chg.drew {L : List Nat} {a w : World} (h : Chg L a w) : Chg L a w.drew := ⟨h.os, h.tape, h.output, h.size, h.block⟩
theorem Chg.drewN {L : List Nat} {a w : World} (h : Chg L a w) (n : Nat) : Chg L a (w.drewN n) := ⟨h.os, h.tape, h.output, h.size, h.block⟩
theorem Chg.alloc {L : List Nat} {a w : World} (h : Chg L a w) (o : Obj) : Chg L a (w.alloc o) :=
  h.then (L' := []) ⟨rfl, rfl, rfl, by simp, fun k hk _ => Below.heap_alloc _ _ _ hk⟩ (by simp)
theorem Chg.setCell {L : List Nat} {a w : World} (h : Chg L a w) {p : Addr} (hp : p.block ∈ L ∨ a.heap.size ≤ p.block) (u : Value) : Chg L a (w.setCell p u) :=
  h.then (L' := [p.block]) ⟨rfl, rfl, rfl, by simp [World.setCell], fun k hk hn => Below.heap_setCell _ _ _ _ (by simpa using hn)⟩ (by simpa using hp)

theorem Blk.lt {w : World} {g t : Nat} {cs : List Value} (h : Blk w g t cs) : g < w.heap.size := (Array.getElem?_eq_some_iff.1 h).1
theorem Blk.cell {w : World} {g t : Nat} {cs : List Value} (h : Blk w g t cs) (i : Nat) : w.cell? ⟨g, i, none⟩ = cs[i]? := by
  have := blk_cell h i; simpa using this
theorem Blk.frozen {w : World} {g t : Nat} {cs : List Value} (h : Blk w g t cs) (i : Nat) : w.frozen? ⟨g, i, none⟩ = false := blk_frozen h i
theorem Blk.keep {w w' : World} {g t : Nat} {cs : List Value} {L : List Nat} (h : Blk w g t cs) (k : Chg L w w') (hg : g ∉ L) : Blk w' g t cs := (k.block g h.lt hg).trans h
theorem Blk.below {w w' : World} {g t : Nat} {cs : List Value} (h : Blk w g t cs) (k : Below w.heap.size w w') : Blk w' g t cs := (k.block g h.lt).trans h
theorem Blk.drew {w : World} {g t : Nat} {cs : List Value} (h : Blk w g t cs) : Blk w.drew g t cs := h
theorem Blk.drewN {w : World} {g t : Nat} {cs : List Value} (h : Blk w g t cs) (n : Nat) : Blk (w.drewN n) g t cs := h
theorem Blk.alloc {w : World} {g t : Nat} {cs : List Value} (h : Blk w g t cs) (o : Obj) : Blk (w.alloc o) g t cs := (Below.heap_alloc _ _ _ h.lt).trans h
theorem Blk.far {w : World} {g t : Nat} {cs : List Value} (h : Blk w g t cs) {p : Addr} (hp : g ≠ p.block) (u : Value) : Blk (w.setCell p u) g t cs := (Below.heap_setCell _ _ _ _ hp).trans h
theorem Blk.set {w : World} {g t : Nat} {cs : List Value} (h : Blk w g t cs) (i : Nat) (u : Value) : Blk (w.setCell ⟨g, i, none⟩ u) g t (cs.set i u) := by
  have := blk_set h i u; simpa [Blk] using this
theorem Blk.new (w : World) (cs : Array Value) (t : Nat) : Blk (w.alloc (.cells cs t)) w.heap.size t cs.toList := by
  have := heap_alloc_new w (.cells cs t)
  simpa [Blk] using this
theorem Blk.ne {w : World} {g g' t t' : Nat} {cs cs' : List Value} (h : Blk w g t cs) (h' : Blk w g' t' cs') (hne : t ≠ t') : g ≠ g' := blk_ne h h' hne

/-! ### sets of places as numbers -/
/-- Limb k of a set of places: 64 bits. -/
def limb (S : Nat) (k : Nat) : Int := ((S / 2 ^ (64 * k) % 2 ^ 64 : Nat) : Int)
/-- The cells of a set of places. -/
def pl (S : Nat) : List Value := (List.range 8).map fun k => .int .u64 (limb S k)
theorem pl_length (S : Nat) : (pl S).length = 8 := by simp [pl]
theorem pl_get (S k : Nat) (h : k < 8) : (pl S)[k]? = some (.int .u64 (limb S k)) := by
  simp [pl, List.getElem?_range h]

/-- The eight cells written out. -/
theorem pl_eq (S : Nat) : pl S = [.int .u64 (limb S 0), .int .u64 (limb S 1), .int .u64 (limb S 2), .int .u64 (limb S 3), .int .u64 (limb S 4), .int .u64 (limb S 5), .int .u64 (limb S 6), .int .u64 (limb S 7)] := rfl
/-- A set of places as a value. -/
theorem pl_agg (S : Nat) : Value.agg (pl S).toArray = .agg #[.int .u64 (limb S 0), .int .u64 (limb S 1), .int .u64 (limb S 2), .int .u64 (limb S 3), .int .u64 (limb S 4), .int .u64 (limb S 5), .int .u64 (limb S 6), .int .u64 (limb S 7)] := rfl
/-- The eight cells of a set of places that lie in a block from o on. -/
theorem cells8 {w : World} {g t o S : Nat} {cs : List Value} (h : w.heap[g]? = some (.cells cs.toArray t (0, 0))) (ha : ∀ k, k < 8 → cs[o + k]? = some (.int .u64 (limb S k))) :
    w.cell? ⟨g, o, none⟩ = some (.int .u64 (limb S 0)) ∧ w.cell? ⟨g, o + 1, none⟩ = some (.int .u64 (limb S 1)) ∧ w.cell? ⟨g, o + 2, none⟩ = some (.int .u64 (limb S 2)) ∧ w.cell? ⟨g, o + 3, none⟩ = some (.int .u64 (limb S 3)) ∧
    w.cell? ⟨g, o + 4, none⟩ = some (.int .u64 (limb S 4)) ∧ w.cell? ⟨g, o + 5, none⟩ = some (.int .u64 (limb S 5)) ∧ w.cell? ⟨g, o + 6, none⟩ = some (.int .u64 (limb S 6)) ∧ w.cell? ⟨g, o + 7, none⟩ = some (.int .u64 (limb S 7)) := by
  have hc : ∀ k, k < 8 → w.cell? ⟨g, o + k, none⟩ = some (.int .u64 (limb S k)) := fun k hk => by
    have := blk_cell h (o + k); rw [this]; simpa using ha k hk
  exact ⟨hc 0 (by omega), hc 1 (by omega), hc 2 (by omega), hc 3 (by omega), hc 4 (by omega), hc 5 (by omega), hc 6 (by omega), hc 7 (by omega)⟩

/-- A row of cells in which the eight from o on are a set of places. -/
def put8 (cs : List Value) (o S : Nat) : List Value := cs.take o ++ pl S ++ cs.drop (o + 8)
/-- The eight cells from o on are the set S. -/
def At8 (cs : List Value) (o S : Nat) : Prop := o + 8 ≤ cs.length ∧ put8 cs o S = cs

theorem put8_length {cs : List Value} {o S : Nat} (h : o + 8 ≤ cs.length) : (put8 cs o S).length = cs.length := by
  simp [put8, pl_length]; omega
theorem put8_get_in {cs : List Value} {o S k : Nat} (h : o + 8 ≤ cs.length) (hk : k < 8) : (put8 cs o S)[o + k]? = some (.int .u64 (limb S k)) := by
  unfold put8
  rw [List.append_assoc, List.getElem?_append_right (by simp; omega), List.getElem?_append_left (by simp [pl_length]; omega)]
  rw [← pl_get S k hk]; congr 1; simp; omega
theorem put8_get_out {cs : List Value} {o S j : Nat} (h : o + 8 ≤ cs.length) (hj : j < o ∨ o + 8 ≤ j) : (put8 cs o S)[j]? = cs[j]? := by
  unfold put8
  rcases hj with hj | hj
  · rw [List.append_assoc, List.getElem?_append_left (by simp; omega), List.getElem?_take_of_lt hj]
  · rw [List.getElem?_append_right (by simp [pl_length]; omega), List.getElem?_drop]
    congr 1; simp [pl_length]; omega
theorem At8.get {cs : List Value} {o S k : Nat} (h : At8 cs o S) (hk : k < 8) : cs[o + k]? = some (.int .u64 (limb S k)) := by
  rw [← h.2]; rw [put8_get_in (by have := h.1; exact this) hk]
theorem put8_at8 {cs : List Value} {o S : Nat} (h : o + 8 ≤ cs.length) : At8 (put8 cs o S) o S := by
  refine ⟨by rw [put8_length h]; exact h, ?_⟩
  apply List.ext_getElem?
  intro j
  by_cases hj : j < o ∨ o + 8 ≤ j
  · rw [put8_get_out (by rw [put8_length h]; exact h) hj]
  · obtain ⟨k, rfl⟩ : ∃ k, j = o + k := ⟨j - o, by omega⟩
    rw [put8_get_in (by rw [put8_length h]; exact h) (by omega), put8_get_in h (by omega)]
theorem put8_put8 {cs : List Value} {o S S' : Nat} (h : o + 8 ≤ cs.length) : put8 (put8 cs o S) o S' = put8 cs o S' := by
  apply List.ext_getElem?
  intro j
  by_cases hj : j < o ∨ o + 8 ≤ j
  · rw [put8_get_out (by rw [put8_length h]; exact h) hj, put8_get_out h hj, put8_get_out h hj]
  · obtain ⟨k, rfl⟩ : ∃ k, j = o + k := ⟨j - o, by omega⟩
    rw [put8_get_in (by rw [put8_length h]; exact h) (by omega), put8_get_in h (by omega)]
theorem At8.of_get {cs : List Value} {o S : Nat} (hl : o + 8 ≤ cs.length) (h : ∀ k, k < 8 → cs[o + k]? = some (.int .u64 (limb S k))) : At8 cs o S := by
  refine ⟨hl, ?_⟩
  apply List.ext_getElem?
  intro j
  by_cases hj : j < o ∨ o + 8 ≤ j
  · rw [put8_get_out hl hj]
  · obtain ⟨k, rfl⟩ : ∃ k, j = o + k := ⟨j - o, by omega⟩
    rw [put8_get_in hl (by omega), h k (by omega)]
/-- Cells changed one by one come to a set again. -/
theorem put8_of_get {cs cs' : List Value} {o S : Nat} (hl : o + 8 ≤ cs.length) (h : ∀ k, k < 8 → cs'[o + k]? = some (.int .u64 (limb S k))) (ho : ∀ j, j < o ∨ o + 8 ≤ j → cs'[j]? = cs[j]?) : cs' = put8 cs o S := by
  apply List.ext_getElem?
  intro j
  by_cases hj : j < o ∨ o + 8 ≤ j
  · rw [put8_get_out hl hj, ho j hj]
  · obtain ⟨k, rfl⟩ : ∃ k, j = o + k := ⟨j - o, by omega⟩
    rw [put8_get_in hl (by omega), h k (by omega)]
theorem pl_at8 (S : Nat) : At8 (pl S) 0 S := At8.of_get (by simp [pl_length]) (fun k hk => by rw [Nat.zero_add]; exact pl_get S k hk)
theorem pl_put8 (S S' : Nat) : put8 (pl S) 0 S' = pl S' := by
  unfold put8; simp [pl_length]
theorem limb_range (S k : Nat) : 0 ≤ limb S k ∧ limb S k < 18446744073709551616 := by
  unfold limb
  have : S / 2 ^ (64 * k) % 2 ^ 64 < 2 ^ 64 := Nat.mod_lt _ (by decide)
  omega
theorem limb_bit (S k j : Nat) (hj : j < 64) : (S / 2 ^ (64 * k) % 2 ^ 64).testBit j = S.testBit (64 * k + j) := by
  rw [Nat.testBit_mod_two_pow, ← Nat.shiftRight_eq_div_pow, Nat.testBit_shiftRight]; simp [hj]
theorem limb_eq {S T k : Nat} (h : ∀ j, j < 64 → S.testBit (64 * k + j) = T.testBit (64 * k + j)) : limb S k = limb T k := by
  unfold limb
  congr 1
  apply Nat.eq_of_testBit_eq
  intro j
  by_cases hj : j < 64
  · rw [limb_bit _ _ _ hj, limb_bit _ _ _ hj, h j hj]
  · rw [Nat.testBit_mod_two_pow, Nat.testBit_mod_two_pow]; simp [hj]
end Go.Proofs.YtaphblnelmncaaaDoor.PA
end

section
/- Steps through a region that draws its order, the frame being a variable of which single slots are known. -/
namespace Go.Proofs.YtaphblnelmncaaaDoor.PA
open Go Go.Proofs.YtaphblnelmncaaaDoorW.PrintLast

/-- Slot i of the frame holds v. -/
def Sl (a : Act) (i : Nat) (v : Value) : Prop := a.tmps[i]? = some v
theorem Sl.eval {a : Act} {i : Nat} {v : Value} (h : Sl a i v) : a.eval (.tmp i) = v := by
  have h : a.tmps[i]? = some v := h
  show a.tmps.getD i undef = v
  rw [Array.getD_eq_getD_getElem?, h]; rfl
theorem Sl.put {a : Act} {i j : Nat} {v u : Value} (h : Sl a i v) (hne : (i == j) = false) : Sl (a.put (some j) u) i v := by
  have h : a.tmps[i]? = some v := h
  unfold Sl Act.put
  have : i ≠ j := by simpa using hne
  simp only
  rw [Array.getElem?_setIfInBounds_ne (by omega)]; exact h
theorem Sl.new {a : Act} {i : Nat} {v : Value} (h : i < a.tmps.size) : Sl (a.put (some i) v) i v := by
  unfold Sl Act.put
  simp only
  rw [Array.getElem?_setIfInBounds_self_of_lt h]
theorem size_put (a : Act) (d : Option Tmp) (v : Value) : (a.put d v).tmps.size = a.tmps.size := by
  cases d <;> simp [Act.put]

/-- At a panic the post does not look at the frame. -/
def PanicAlike (Q : Exit → Act → World → Prop) : Prop := ∀ (c : List PanicEntry) (a : Act) (d : Option Tmp) (v : Value) (w : World), Q (.panic c) (a.put d v) w → Q (.panic c) a w
/-- Operation i of the region: where it goes, what it is, its guard. -/
def OpAt (ops : Array Oper) (i : Nat) (N : Option Tmp) (op : Op) (g : Option (Nat × Bool)) : Prop := (ops[i]?).map (fun o => (o.dst, o.op, o.guard)) = some (N, op, g)
theorem OpAt.ex {ops : Array Oper} {i : Nat} {N : Option Tmp} {op : Op} {g : Option (Nat × Bool)} (h : OpAt ops i N op g) : ∃ o, ops[i]? = some o ∧ o.dst = N ∧ o.op = op ∧ o.guard = g := by
  obtain ⟨o, ho, e⟩ := Option.map_eq_some_iff.1 h
  simp only [Prod.mk.injEq] at e
  exact ⟨o, ho, e.1, e.2.1, e.2.2⟩
/-- The guard is met, or not (t). -/
def Want (ops : Array Oper) (g : Option (Nat × Bool)) (a : Act) (t : Bool) : Prop := match g with | none => t = true | some (j, u) => ∃ d b, (ops[j]?).bind (·.dst) = some d ∧ Sl a d (.bool b) ∧ (b == u) = t

section
variable {P : Program} {ops : Array Oper} {Q : Exit → Act → World → Prop} {fuel : Nat} {l : Array Bool} {a : Act} {w : World} {op : Op} {g : Option (Nat × Bool)}

theorem want_none : Want ops none a true := rfl
theorem want_at {j d : Nat} {t : Bool} (hd : (ops[j]?).bind (·.dst) = some d) (h : Sl a d (.bool t)) : Want ops (some (j, true)) a t := ⟨d, t, hd, h, by cases t <;> rfl⟩
theorem Want.wanted {t : Bool} {oi : Oper} (h : Want ops g a t) (hg : oi.guard = g) : Region.wanted oi (yielded ops a.tmps) = t := by
  unfold Region.wanted
  rw [hg]
  cases g with
  | none => exact (h : t = true).symm
  | some ju =>
    obtain ⟨j, u⟩ := ju
    obtain ⟨d, b, hd, hs, ht⟩ := h
    have hs : a.tmps[d]? = some (.bool b) := hs
    have e : yielded ops a.tmps j = some b := by
      unfold yielded
      rw [hd]
      show (match a.tmps[d]? with | some (.bool b) => some b | _ => none) = some b
      rw [hs]
    simp only [e]
    subst ht
    cases b <;> cases u <;> rfl

/-- The beginning. -/
theorem r_begin (n : Nat) {id : Nat} (hm : P.follows .mixedOrders = true) (hn : ops.size = n) (hQ : PanicAlike Q) (h : PanicAlike Q → wpAny P .any ops Q n (Array.replicate n false) a w.drew) : (Code.region id ops true).wp P Q a w := by
  subst hn; exact wp_region_any hm (h hQ)
/-- An operation that is wanted and yields v in whatever world is taken first. -/
theorem r_val (N : Option Tmp) (i : Nat) (op : Op) (g : Option (Nat × Bool)) (v : Value) (hi : OpAt ops i N op g) (hs : Region.noSelect ops = true) (hf : Region.free .any ops l i = true) (hr : (Region.ready .any ops l).contains i = true)
    (hQ : PanicAlike Q) (hw : Want ops g a true) (hv : ∀ oi : Oper, oi.op = op → ∀ w, (execOp a.eval oi).run P w = .ok (.value v) w)
    (h : wpAny P .any ops Q fuel (l.setIfInBounds i true) (a.put N v) w) : wpAny P .any ops Q (fuel + 1) l a w := by
  obtain ⟨o, ho, rfl, hop, hg⟩ := hi.ex
  exact wpAny_take ho hs hf hr (fun c a w h => hQ c a _ _ w h) (.inl ⟨hw.wanted hg, hv o hop⟩) h
/-- A copy. -/
theorem r_move (N : Option Tmp) (i : Nat) (g : Option (Nat × Bool)) (v : Value) (x : Operand) (hx : a.eval x = v) (hi : OpAt ops i N (.move x) g) (hs : Region.noSelect ops = true) (hf : Region.free .any ops l i = true) (hr : (Region.ready .any ops l).contains i = true)
    (hQ : PanicAlike Q) (hw : Want ops g a true)
    (h : wpAny P .any ops Q fuel (l.setIfInBounds i true) (a.put N v) w) : wpAny P .any ops Q (fuel + 1) l a w :=
  r_val N i _ g v hi hs hf hr hQ hw (fun oi hop w => by rw [BigFrame.run_move x hop, hx]) h
/-- '&&', '||': the second's value, or the constant. -/
theorem r_pick (N : Option Tmp) (i : Nat) (g : Option (Nat × Bool)) (v : Value) (t : Bool) (x y z : Operand) (hx : a.eval x = .bool t) (hv : (if t then a.eval y else a.eval z) = v) (hi : OpAt ops i N (.pick x y z) g) (hs : Region.noSelect ops = true) (hf : Region.free .any ops l i = true) (hr : (Region.ready .any ops l).contains i = true)
    (hQ : PanicAlike Q) (hw : Want ops g a true)
    (h : wpAny P .any ops Q fuel (l.setIfInBounds i true) (a.put N v) w) : wpAny P .any ops Q (fuel + 1) l a w :=
  r_val N i _ g v hi hs hf hr hQ hw (fun oi hop w => by
    unfold execOp; rw [hop]; subst hv
    cases t <;> simp [hx, asBool]) h
/-- An operation that is passed over. -/
theorem r_skip (N : Option Tmp) (i : Nat) (op : Op) (g : Option (Nat × Bool)) (hi : OpAt ops i N op g) (hs : Region.noSelect ops = true) (hf : Region.free .any ops l i = true) (hr : (Region.ready .any ops l).contains i = true)
    (hQ : PanicAlike Q) (hw : Want ops g a false)
    (h : wpAny P .any ops Q fuel (l.setIfInBounds i true) (a.put N undef) w) : wpAny P .any ops Q (fuel + 1) l a w := by
  obtain ⟨o, ho, rfl, hop, hg⟩ := hi.ex
  exact wpAny_take ho hs hf hr (fun c a w h => hQ c a _ _ w h) (.inr ⟨hw.wanted hg, rfl⟩) h
/-- An operation that reads, one of those that may come next. -/
theorem s_read (N : Option Tmp) (i : Nat) (op : Op) (g : Option (Nat × Bool)) (v : Value) (hi : OpAt ops i N op g) (hw : Want ops g a true) (hrun : ∀ oi : Oper, oi.op = op → (execOp a.eval oi).run P w = .ok (.value v) w) {rs : List Nat}
    (h : wpAny P .any ops Q fuel (l.setIfInBounds i true) (a.put N v) w) (hs : AllReady P .any ops Q fuel l a w rs) : AllReady P .any ops Q fuel l a w (i :: rs) := by
  obtain ⟨o, ho, rfl, hop, hg⟩ := hi.ex
  refine AllReady.cons ho (fun K' hK => ?_) hs
  rw [if_pos (hw.wanted hg)]
  unfold Oper.wp
  rw [hrun o hop]
  exact hK _ _ h
/-- A call that alone may come next. -/
theorem r_call (N : Option Tmp) (i : Nat) (g : Option (Nat × Bool)) {f : FuncId} {fn : Func} {xs : Array Operand} {ts : Array TypeId} (hf : P.funcs[f]? = some fn) (hname : (fn.name == "runtime.NumGoroutine") = false) (hb : fn.body.isSome = true) (args : Array Value)
    (hi : OpAt ops i N (.call { callee := .value (.func f), args := xs, argTypes := ts }) g) (hr : Region.ready .any ops l = [i]) (hw : Want ops g a true) (hargs : xs.map a.eval = args)
    (h : Calls P f args w fun e w' => ∃ v, e = .returned v ∧ wpAny P .any ops Q fuel (l.setIfInBounds i true) (a.put N v) w') : wpAny P .any ops Q (fuel + 1) l a w := by
  obtain ⟨o, ho, rfl, hop, hg⟩ := hi.ex
  exact wpAny_ready hr (by simp) (AllReady.cons ho (fun K' hK => goes_ hf hname hb args (hw.wanted hg) rfl hop hargs (h.mono (fun e w' hp => by
    obtain ⟨v, he, hp⟩ := hp
    exact ⟨v, he, hK _ _ hp⟩))) AllReady.nil)
theorem args_pc {x : Operand} {v c : Value} (h : a.eval x = v) : #[x, .const c].map a.eval = #[v, c] := by
  simp only [List.map_toArray, List.map_cons, List.map_nil, h]; rfl
end
end Go.Proofs.YtaphblnelmncaaaDoor.PA
end

section
/- A rule for regions that draw their order: each operation has one value, whatever the order; the operations with effects come in a fixed order. -/
set_option linter.unusedVariables false
namespace Go.Proofs.YtaphblnelmncaaaDoor.PA
open Go

/-- The slot that operation i writes. -/
def dstAt (ops : Array Oper) (i : Nat) : Option Tmp := (ops[i]?).bind (·.dst)
/-- The operation that writes slot d. -/
def owner (ops : Array Oper) (d : Nat) : Option Nat := (List.range ops.size).find? fun j => dstAt ops j == some d
/-- The operands' values, the operations' values being vs. -/
def rho (ops : Array Oper) (a0 : Act) (vs : List Value) : Operand → Value
  | .tmp d => match owner ops d with
    | some j => vs.getD j undef
    | none => a0.eval (.tmp d)
  | x => a0.eval x
def yv (vs : List Value) (j : Nat) : Option Bool := match vs.getD j undef with
  | .bool b => some b
  | _ => none
def wantedV (o : Oper) (vs : List Value) : Bool := Region.wanted o (yv vs)
/-- Operation o waits for operation j. -/
def dep (o : Oper) (j : Nat) : Bool := o.after.any fun e => Region.binds .any e && e.on == j
def goodAt (ops : Array Oper) (ms : List Nat) (m : Nat) (i : Nat) : Bool :=
  match ops[i]? with
  | none => false
  | some o =>
    (match o.dst with
      | some d => owner ops d == some i && decide (d < m)
      | none => true) &&
    o.op.operands.all (fun x => match x with
      | .tmp d => (match owner ops d with
        | some j => dep o j
        | none => true)
      | _ => true) &&
    (match o.guard with
      | some (g, _) => dep o g && (dstAt ops g).isSome
      | none => true) &&
    o.after.all (fun e => !Region.binds .any e || decide (e.on < i)) &&
    (List.range i).all (fun j => !(ms.getD i 0).testBit j || o.after.any fun e => Region.binds .any e && (e.on == j || (ms.getD e.on 0).testBit j)) &&
    decide (ms.getD i 0 < 2 ^ i)
/-- The region's form fits the rule: ms tells, for each operation, those that come ahead of it. -/
def goodR (ops : Array Oper) (ms : List Nat) (m : Nat) : Bool := Region.noSelect ops && (List.range ops.size).all (goodAt ops ms m)

section
variable {P : Program} {ops : Array Oper} {Q : Exit → Act → World → Prop} {a0 : Act} {ms : List Nat} {m : Nat}

theorem dep_spec {o : Oper} {j : Nat} (h : dep o j = true) : ∃ e ∈ o.after, Region.binds .any e = true ∧ e.on = j := by
  obtain ⟨e, he, h⟩ := Array.any_eq_true'.1 h
  simp only [Bool.and_eq_true, beq_iff_eq] at h
  exact ⟨e, he, h⟩

structure GoodAt (ops : Array Oper) (ms : List Nat) (m : Nat) (i : Nat) (o : Oper) : Prop where
  dst : ∀ d, o.dst = some d → owner ops d = some i ∧ d < m
  opnd : ∀ d j, Operand.tmp d ∈ o.op.operands → owner ops d = some j → ∃ e ∈ o.after, Region.binds .any e = true ∧ e.on = j
  guard : ∀ g t, o.guard = some (g, t) → (∃ e ∈ o.after, Region.binds .any e = true ∧ e.on = g) ∧ ∃ d, dstAt ops g = some d
  lt : ∀ e ∈ o.after, Region.binds .any e = true → e.on < i
  mask : ∀ j, (ms.getD i 0).testBit j = true → ∃ e ∈ o.after, Region.binds .any e = true ∧ (e.on = j ∨ (ms.getD e.on 0).testBit j = true)

theorem goodAt_spec {i : Nat} {o : Oper} (ho : ops[i]? = some o) (h : goodAt ops ms m i = true) : GoodAt ops ms m i o := by
  unfold goodAt at h
  simp only [ho, Bool.and_eq_true, decide_eq_true_eq] at h
  obtain ⟨⟨⟨⟨⟨h1, h2⟩, h3⟩, h4⟩, h5⟩, h6⟩ := h
  refine ⟨fun d hd => ?_, fun d j hd hj => ?_, fun g t hg => ?_, fun e he hb => ?_, fun j hj => ?_⟩
  · simp only [hd, Bool.and_eq_true, beq_iff_eq, decide_eq_true_eq] at h1; exact h1
  · have := Array.all_eq_true_iff_forall_mem.1 h2 _ hd
    simp only [hj] at this
    exact dep_spec this
  · simp only [hg, Bool.and_eq_true] at h3
    exact ⟨dep_spec h3.1, Option.isSome_iff_exists.1 h3.2⟩
  · have := Array.all_eq_true_iff_forall_mem.1 h4 e he
    simpa [hb] using this
  · have hji : j < i := by
      rcases Nat.lt_or_ge j i with h | h
      · exact h
      · rw [Nat.testBit_lt_two_pow (Nat.lt_of_lt_of_le h6 (Nat.pow_le_pow_right (by decide) h))] at hj; cases hj
    have := List.all_eq_true.1 h5 j (List.mem_range.2 hji)
    rw [hj] at this
    simp only [Bool.not_true, Bool.false_or] at this
    obtain ⟨e, he, h⟩ := Array.any_eq_true'.1 this
    simp only [Bool.and_eq_true, Bool.or_eq_true, beq_iff_eq] at h
    exact ⟨e, he, h⟩

/-- The frame, the operations in L having been carried out. -/
structure Rel (ops : Array Oper) (a0 : Act) (vs : List Value) (L : Nat → Bool) (a : Act) : Prop where
  size : a.tmps.size = a0.tmps.size
  defers : a.defers = a0.defers
  at_ : ∀ d, a.tmps[d]? = match owner ops d with
    | some j => if L j = true then (if d < a0.tmps.size then some (vs.getD j undef) else none) else a0.tmps[d]?
    | none => a0.tmps[d]?

theorem Rel.unique {vs : List Value} {L : Nat → Bool} {a b : Act} (h : Rel ops a0 vs L a) (k : Rel ops a0 vs L b) : a = b := by
  obtain ⟨ta, da⟩ := a
  obtain ⟨tb, db⟩ := b
  have h2 : da = db := h.defers.trans k.defers.symm
  have h1 : ta = tb := Array.ext_getElem? fun i => (h.at_ i).trans (k.at_ i).symm
  subst h1; subst h2; rfl
theorem Rel.start (vs : List Value) : Rel ops a0 vs (fun _ => false) a0 := ⟨rfl, rfl, fun d => by cases owner ops d <;> simp⟩
theorem Rel.congr {vs vs' : List Value} {L L' : Nat → Bool} {a : Act} (h : Rel ops a0 vs L a) (hL : ∀ j, L j = L' j) (hv : ∀ j, L j = true → vs'.getD j undef = vs.getD j undef) : Rel ops a0 vs' L' a := by
  refine ⟨h.size, h.defers, fun d => ?_⟩
  rw [h.at_ d]
  cases ho : owner ops d with
  | none => rfl
  | some j =>
    simp only [← hL j]
    by_cases hl : L j = true
    · simp only [hl, if_true, hv j hl]
    · simp [hl]
theorem Rel.put {vs : List Value} {L : Nat → Bool} {a : Act} {i : Nat} {o : Oper} (h : Rel ops a0 vs L a) (ho : ops[i]? = some o) (hd : ∀ d, o.dst = some d → owner ops d = some i) :
    Rel ops a0 vs (fun j => L j || j == i) (a.put o.dst (vs.getD i undef)) := by
  cases hds : o.dst with
  | none =>
    refine ⟨h.size, h.defers, fun d => ?_⟩
    rw [show (a.put none (vs.getD i undef)) = a from rfl, h.at_ d]
    cases hw : owner ops d with
    | none => rfl
    | some j =>
      have hji : (j == i) = false := by
        rw [beq_eq_false_iff_ne]; rintro rfl
        have := List.find?_some hw
        simp [dstAt, ho, hds] at this
      simp [hji]
  | some t =>
    refine ⟨by simpa [Act.put] using h.size, h.defers, fun d => ?_⟩
    have hs := h.size
    by_cases hdt : t = d
    · subst hdt
      rw [hd t hds]
      simp only [beq_self_eq_true, Bool.or_true, if_true, Act.put, Array.getElem?_setIfInBounds, hs]
    · simp only [Act.put, Array.getElem?_setIfInBounds_ne hdt, h.at_ d]
      cases hw : owner ops d with
      | none => rfl
      | some j =>
        have hji : (j == i) = false := by
          rw [beq_eq_false_iff_ne]; rintro rfl
          have := List.find?_some hw
          simp [dstAt, ho, hds] at this
          exact hdt this
        simp [hji]

/-- The frame behind the region. -/
def finA (ops : Array Oper) (vs : List Value) : Nat → Act → Act
  | 0, a => a
  | n + 1, a => (finA ops vs n a).put (dstAt ops n) (vs.getD n undef)

theorem finA_rel {vs : List Value} (hg : ∀ i o, ops[i]? = some o → GoodAt ops ms m i o) : ∀ n, n ≤ ops.size → Rel ops a0 vs (fun j => decide (j < n)) (finA ops vs n a0)
  | 0, _ => (Rel.start vs).congr (fun j => by simp) (fun j h => rfl)
  | n + 1, h => by
    have ho : ops[n]? = some ops[n] := Array.getElem?_eq_getElem (by omega)
    have := (finA_rel (vs := vs) hg n (by omega)).put ho (fun d hd => ((hg n _ ho).dst d hd).1)
    have e : dstAt ops n = (ops[n]).dst := by simp [dstAt, ho]
    unfold finA
    rw [e]
    refine this.congr (fun j => ?_) (fun j h => rfl)
    by_cases h1 : j < n
    · have : j < n + 1 := by omega
      simp [h1, this]
    · by_cases h2 : j = n
      · subst h2; simp
      · have : ¬ j < n + 1 := by omega
        simp [h1, h2, this]

theorem Rel.eval {vs : List Value} {L : Nat → Bool} {a : Act} {i : Nat} {o : Oper} (h : Rel ops a0 vs L a) (hm : a0.tmps.size = m) (hg : ∀ i o, ops[i]? = some o → GoodAt ops ms m i o) (ho : ops[i]? = some o)
    (hL : ∀ e ∈ o.after, Region.binds .any e = true → L e.on = true) (x : Operand) (hx : x ∈ o.op.operands) : a.eval x = rho ops a0 vs x := by
  cases x with
  | tmp d =>
    show a.tmps.getD d undef = match owner ops d with
      | some j => vs.getD j undef
      | none => a0.eval (.tmp d)
    rw [Array.getD_eq_getD_getElem?, h.at_ d]
    cases hw : owner ops d with
    | none => simp [Act.eval, Array.getD_eq_getD_getElem?]
    | some j =>
      obtain ⟨e, he, hb, rfl⟩ := (hg i o ho).opnd d j hx hw
      have hj : dstAt ops e.on = some d := by simpa using List.find?_some hw
      obtain ⟨oj, hoj, hd⟩ := Option.bind_eq_some_iff.1 hj
      have := ((hg _ oj hoj).dst d hd).2
      simp only [hL e he hb, if_true, hm, this, Option.getD_some]
  | _ => rfl

theorem Rel.wanted {vs : List Value} {L : Nat → Bool} {a : Act} {i : Nat} {o : Oper} (h : Rel ops a0 vs L a) (hm : a0.tmps.size = m) (hg : ∀ i o, ops[i]? = some o → GoodAt ops ms m i o) (ho : ops[i]? = some o)
    (hL : ∀ e ∈ o.after, Region.binds .any e = true → L e.on = true) : Region.wanted o (yielded ops a.tmps) = wantedV o vs := by
  unfold wantedV Region.wanted
  cases hgd : o.guard with
  | none => rfl
  | some gt =>
    obtain ⟨g, t⟩ := gt
    obtain ⟨⟨e, he, hb, rfl⟩, d, hd⟩ := (hg i o ho).guard g t hgd
    obtain ⟨oj, hoj, hd'⟩ := Option.bind_eq_some_iff.1 hd
    obtain ⟨hw, hlt⟩ := (hg _ oj hoj).dst d hd'
    have hy : yielded ops a.tmps e.on = yv vs e.on := by
      unfold yielded yv
      have hd2 : (ops[e.on]?).bind (·.dst) = some d := hd
      simp only [hd2, Option.bind_some, h.at_ d, hw, hL e he hb, if_true, hm, hlt]
      cases vs.getD e.on undef <;> rfl
    simp only [hy]

/-- Those ahead of a listed or ready one are listed. -/
theorem anc_listed {L : Nat → Bool} (hg : ∀ i o, ops[i]? = some o → GoodAt ops ms m i o) (hdown : ∀ i o, ops[i]? = some o → L i = true → ∀ e ∈ o.after, Region.binds .any e = true → L e.on = true) :
    ∀ (i : Nat) (o : Oper), ops[i]? = some o → (∀ e ∈ o.after, Region.binds .any e = true → L e.on = true) → ∀ j, (ms.getD i 0).testBit j = true → L j = true := by
  intro i
  induction i using Nat.strongRecOn with
  | ind i ih =>
    intro o ho hL j hj
    obtain ⟨e, he, hb, h⟩ := (hg i o ho).mask j hj
    rcases h with rfl | h
    · exact hL e he hb
    · have hlt := (hg i o ho).lt e he hb
      obtain ⟨oe, hoe⟩ : ∃ oe, ops[e.on]? = some oe := by
        have : i < ops.size := (Array.getElem?_eq_some_iff.1 ho).1
        exact ⟨_, Array.getElem?_eq_getElem (by omega)⟩
      exact ih e.on hlt oe hoe (hdown _ oe hoe (hL e he hb)) j h

/-- How many of the operations with effects have been carried out. -/
def cnt (effs : List Nat) (L : Nat → Bool) : Nat := effs.countP L
theorem cnt_out {effs : List Nat} {L : Nat → Bool} {i : Nat} (h : i ∉ effs) : cnt effs (fun j => L j || j == i) = cnt effs L := by
  unfold cnt
  apply List.countP_congr
  intro j hj
  have : j ≠ i := fun e => h (e ▸ hj)
  simp [this]
theorem cnt_in {effs : List Nat} {L : Nat → Bool} {i : Nat} (hn : effs.Nodup) (h : i ∈ effs) (hL : L i = false) : cnt effs (fun j => L j || j == i) = cnt effs L + 1 := by
  unfold cnt
  induction effs with
  | nil => cases h
  | cons a l ih =>
    rw [List.nodup_cons] at hn
    by_cases ha : a = i
    · subst ha
      have := cnt_out (L := L) hn.1
      unfold cnt at this
      rw [List.countP_cons, List.countP_cons, this]
      simp [hL]
    · have hi : i ∈ l := by
        rcases List.mem_cons.1 h with e | h
        · exact absurd e.symm ha
        · exact h
      rw [List.countP_cons, List.countP_cons, ih hn.2 hi]
      simp [ha]; omega

variable {ε : Type}
/-- What is owed for operation i. -/
def Ob (P : Program) (ops : Array Oper) (Q : Exit → Act → World → Prop) (a0 : Act) (ms effs : List Nat) (vs : ε → List Value) (W : Nat → ε → World → Prop) (i : Nat) : Prop :=
  ∀ oi, ops[i]? = some oi → ∀ (k : Nat) (env : ε) (w : World), effs.countP (fun e => (ms.getD i 0).testBit e) ≤ k → k ≤ effs.countP (fun e => !(ms.getD e 0).testBit i && e != i) → W k env w →
    if effs.contains i then
      wantedV oi (vs env) = true ∧ ∀ a : Act, (∀ x ∈ oi.op.operands, a.eval x = rho ops a0 (vs env) x) →
        oi.wp P a w (fun a' w' => ∃ env', a' = a.put oi.dst ((vs env').getD i undef) ∧ W (k + 1) env' w' ∧ ∀ j, (ms.getD j 0).testBit i = false → j ≠ i → (vs env').getD j undef = (vs env).getD j undef) Q
    else (wantedV oi (vs env) = true ∧ (execOp (rho ops a0 (vs env)) oi).run P w = .ok (.value ((vs env).getD i undef)) w) ∨ (wantedV oi (vs env) = false ∧ (vs env).getD i undef = undef)

theorem region_loop {effs : List Nat} {vs : ε → List Value} {W : Nat → ε → World → Prop} (hg : ∀ i o, ops[i]? = some o → GoodAt ops ms m i o) (hs : Region.noSelect ops = true) (hm : a0.tmps.size = m) (hn : effs.Nodup) (hr : ∀ e ∈ effs, e < ops.size)
    (hob : ∀ i, i < ops.size → Ob P ops Q a0 ms effs vs W i) (hend : ∀ env w, W effs.length env w → Q .normal (finA ops (vs env) ops.size a0) w) :
    ∀ (fuel : Nat) (listed : Array Bool) (a : Act) (w : World) (env : ε), listed.size = ops.size → (List.range ops.size).countP (fun i => !listed.getD i true) ≤ fuel →
      (∀ i o, ops[i]? = some o → listed.getD i false = true → ∀ e ∈ o.after, Region.binds .any e = true → listed.getD e.on false = true) →
      Rel ops a0 (vs env) (fun j => listed.getD j false) a → W (cnt effs fun j => listed.getD j false) env w → wpAny P .any ops Q fuel listed a w := by
  have hdone : ∀ (listed : Array Bool) (a : Act) (w : World) (env : ε), listed.size = ops.size → Region.ready .any ops listed = [] → Rel ops a0 (vs env) (fun j => listed.getD j false) a → W (cnt effs fun j => listed.getD j false) env w → Q .normal a w := by
    intro listed a w env hsz hre hrel hW
    have hall : ∀ i, i < ops.size → listed.getD i false = true := by
      intro i
      induction i using Nat.strongRecOn with
      | ind i ih =>
        intro hi
        cases hl : listed.getD i false with
        | true => rfl
        | false =>
          exfalso
          have ho : ops[i]? = some ops[i] := Array.getElem?_eq_getElem hi
          have hmem : i ∈ Region.ready .any ops listed := mem_ready.2 ⟨by
            rw [Array.getD_eq_getD_getElem?] at hl ⊢
            rw [Array.getElem?_eq_getElem (by omega)] at hl ⊢
            simpa using hl, _, ho, fun e he hb => ih e.on ((hg i _ ho).lt e he hb) (by have := (hg i _ ho).lt e he hb; omega)⟩
          rw [hre] at hmem; cases hmem
    have e1 : a = finA ops (vs env) ops.size a0 := by
      refine (hrel.congr (L' := fun j => decide (j < ops.size)) (fun j => ?_) (fun j h => rfl)).unique (finA_rel hg ops.size (Nat.le_refl _))
      by_cases hj : j < ops.size
      · simp [hj, hall j hj]
      · simp [hj, Array.getD_eq_getD_getElem?, Array.getElem?_eq_none (show listed.size ≤ j by omega)]
    have e2 : (cnt effs fun j => listed.getD j false) = effs.length := by
      unfold cnt
      rw [List.countP_eq_length]
      intro e he
      exact hall e (hr e he)
    rw [e2] at hW
    rw [e1]
    exact hend env w hW
  intro fuel
  induction fuel with
  | zero =>
    intro listed a w env hsz hf hd hrel hW
    have hre : Region.ready .any ops listed = [] := by
      cases h : Region.ready .any ops listed with
      | nil => rfl
      | cons i l =>
        have hi : i ∈ Region.ready .any ops listed := by rw [h]; exact List.mem_cons_self
        obtain ⟨h1, o, ho, _⟩ := mem_ready.1 hi
        have hlt := (Array.getElem?_eq_some_iff.1 ho).1
        have := List.countP_eq_zero.1 (Nat.le_zero.1 hf) i (List.mem_range.2 hlt)
        simp [h1] at this
    exact ⟨hre, hdone listed a w env hsz hre hrel hW⟩
  | succ fuel ih =>
    intro listed a w env hsz hf hd hrel hW
    refine ⟨fun hre => hdone listed a w env hsz hre hrel hW, fun i hi => ?_⟩
    obtain ⟨h1, oi, ho, hL⟩ := mem_ready.1 hi
    have hlt := (Array.getElem?_eq_some_iff.1 ho).1
    have hl0 : listed.getD i false = false := by
      rw [Array.getD_eq_getD_getElem?, Array.getElem?_eq_getElem (by omega)] at h1 ⊢
      simpa using h1
    have hset : ∀ j, (listed.setIfInBounds i true).getD j false = (listed.getD j false || j == i) := by
      intro j
      by_cases hj : i = j
      · subst hj
        rw [Array.getD_eq_getD_getElem?, Array.getElem?_setIfInBounds_self_of_lt (by omega)]; simp
      · rw [getD_set_ne false hj]
        have : (j == i) = false := by simpa using fun e : j = i => hj e.symm
        simp [this]
    have hcount : (List.range ops.size).countP (fun j => !(listed.setIfInBounds i true).getD j true) ≤ fuel := by
      have e : (List.range ops.size).countP (fun j => !(listed.setIfInBounds i true).getD j true) + 1 = (List.range ops.size).countP (fun j => !listed.getD j true) := by
        have := cnt_in (effs := List.range ops.size) (L := fun j => !(listed.setIfInBounds i true).getD j true) (i := i) List.nodup_range (List.mem_range.2 hlt) (by
          show (!(listed.setIfInBounds i true).getD i true) = false
          rw [Array.getD_eq_getD_getElem?, Array.getElem?_setIfInBounds_self_of_lt (by omega)]; rfl)
        unfold cnt at this
        rw [← this]
        apply List.countP_congr
        intro j hj
        by_cases hji : i = j
        · subst hji; simp [h1]
        · rw [getD_set_ne true hji]
          have : (j == i) = false := by simpa using fun e : j = i => hji e.symm
          simp [this]
      omega
    have hdown' : ∀ j o, ops[j]? = some o → (listed.setIfInBounds i true).getD j false = true → ∀ e ∈ o.after, Region.binds .any e = true → (listed.setIfInBounds i true).getD e.on false = true := by
      intro j o hj hl e he hb
      rw [hset] at hl ⊢
      rw [Bool.or_eq_true] at hl
      rcases hl with hl | hl
      · rw [hd j o hj hl e he hb]; rfl
      · have : j = i := by simpa using hl
        subst this
        rw [ho] at hj; cases hj
        rw [hL e he hb]; rfl
    have hanc := anc_listed (L := fun j => listed.getD j false) hg hd
    have hlo : effs.countP (fun e => (ms.getD i 0).testBit e) ≤ cnt effs fun j => listed.getD j false :=
      List.countP_mono_left fun e he h => hanc i oi ho hL e h
    have hhi : (cnt effs fun j => listed.getD j false) ≤ effs.countP (fun e => !(ms.getD e 0).testBit i && e != i) := by
      refine List.countP_mono_left fun e he h => ?_
      have hee : ops[e]? = some (ops[e]'(hr e he)) := Array.getElem?_eq_getElem (hr e he)
      have hne : e ≠ i := by rintro rfl; rw [hl0] at h; cases h
      cases hb : (ms.getD e 0).testBit i with
      | false => simp [hne]
      | true =>
        have := hanc e _ hee (hd e _ hee h) i hb
        rw [hl0] at this; cases this
    have hO := hob i hlt oi ho _ env w hlo hhi hW
    have hnext : ∀ env' w', W (cnt effs fun j => (listed.setIfInBounds i true).getD j false) env' w' → (∀ j, (ms.getD j 0).testBit i = false → j ≠ i → (vs env').getD j undef = (vs env).getD j undef) →
        wpAny P .any ops Q fuel (listed.setIfInBounds i true) (a.put oi.dst ((vs env').getD i undef)) w' := by
      intro env' w' hW' hk
      refine ih _ _ w' env' (by simpa using hsz) hcount hdown' ?_ hW'
      have h3 : Rel ops a0 (vs env') (fun j => listed.getD j false) a := hrel.congr (fun j => rfl) (fun j hj => by
        refine hk j ?_ (by rintro rfl; rw [hl0] at hj; cases hj)
        cases hb : (ms.getD j 0).testBit i with
        | false => rfl
        | true =>
          have hjl : j < ops.size := by
            rcases Nat.lt_or_ge j ops.size with h | h
            · exact h
            · rw [Array.getD_eq_getD_getElem?, Array.getElem?_eq_none (by omega)] at hj; cases hj
          have hee : ops[j]? = some ops[j] := Array.getElem?_eq_getElem hjl
          have := hanc j _ hee (hd j _ hee hj) i hb
          rw [hl0] at this; cases this)
      exact (h3.put ho (fun d hd => ((hg i _ ho).dst d hd).1)).congr (fun j => (hset j).symm) (fun j h => rfl)
    have hev := hrel.eval hm hg ho hL
    have hwa := hrel.wanted hm hg ho hL
    unfold wpOp
    simp only [ho, hwa]
    by_cases hin : effs.contains i = true
    · rw [if_pos hin] at hO
      obtain ⟨hw, hwp⟩ := hO
      rw [if_pos hw]
      refine .inl (Oper.wp_mono ?_ (hwp a hev))
      rintro a' w' ⟨env', rfl, hW', hk⟩
      refine hnext env' w' ?_ hk
      have e : (cnt effs fun j => (listed.setIfInBounds i true).getD j false) = (cnt effs fun j => listed.getD j false) + 1 := by
        rw [← cnt_in hn (by simpa using hin) hl0]
        unfold cnt
        apply List.countP_congr
        intro j hj
        rw [hset j]
      rw [e]; exact hW'
    · rw [if_neg hin] at hO
      have e : (cnt effs fun j => (listed.setIfInBounds i true).getD j false) = cnt effs fun j => listed.getD j false := by
        rw [← cnt_out (L := fun j => listed.getD j false) (i := i) (by simpa using hin)]
        unfold cnt
        apply List.countP_congr
        intro j hj
        rw [hset j]
      have h4 := hnext env w (by rw [e]; exact hW) (fun j _ _ => rfl)
      rcases hO with ⟨hw, hrun⟩ | ⟨hw, hu⟩
      · rw [if_pos hw]
        refine .inl ?_
        unfold Oper.wp
        rw [execOp_congr oi (fun cs b => Region.noSelect_spec hs i oi cs b ho) hev, hrun]
        exact h4
      · rw [if_neg (by simp [hw])]
        rw [hu] at h4
        exact h4

/-- The frame behind the region, written out. -/
def putsL : List (Option Tmp) → List Value → Act → Act
  | [], _, a => a
  | d :: ds, vs, a => putsL ds vs.tail (a.put d (vs.headD undef))
theorem putsL_snoc (ds : List (Option Tmp)) (d : Option Tmp) : ∀ (vs : List Value) (a : Act), putsL (ds ++ [d]) vs a = (putsL ds vs a).put d (vs.getD ds.length undef) := by
  induction ds with
  | nil => intro vs a; cases vs <;> rfl
  | cons e ds ih =>
    intro vs a
    show putsL (ds ++ [d]) vs.tail (a.put e (vs.headD undef)) = _
    rw [ih]
    cases vs <;> rfl
theorem finA_puts (ops : Array Oper) (vs : List Value) (a : Act) : ∀ n, finA ops vs n a = putsL ((List.range n).map (dstAt ops)) vs a
  | 0 => rfl
  | n + 1 => by
    rw [List.range_succ, List.map_append, List.map_singleton, putsL_snoc, ← finA_puts ops vs a n]
    simp [finA]

/-- THE RULE: whatever order is drawn, each operation yields its value, and behind the region the world is as behind the operations with effects in their order. -/
theorem region_rule {id : Nat} {w : World} (n : Nat) (ms effs : List Nat) (ds : List (Option Tmp)) (vs : ε → List Value) (W : Nat → ε → World → Prop) (m : Nat) (env0 : ε) (hf : P.follows .mixedOrders = true) (hsz : ops.size = n) (hm : a0.tmps.size = m) (hgood : goodR ops ms m = true) (heff : (effs.all fun e => decide (e < n)) = true) (hn : effs.Nodup) (hds : (List.range n).map (dstAt ops) = ds)
    (h0 : W 0 env0 w.drew) (hob : ∀ i, i < n → Ob P ops Q a0 ms effs vs W i) (hend : ∀ env w, W effs.length env w → Q .normal (putsL ds (vs env) a0) w) : (Code.region id ops true).wp P Q a0 w := by
  subst hsz
  subst hds
  have hend : ∀ env w, W effs.length env w → Q .normal (finA ops (vs env) ops.size a0) w := fun env w h => by rw [finA_puts]; exact hend env w h
  unfold goodR at hgood
  rw [Bool.and_eq_true] at hgood
  have hg : ∀ i o, ops[i]? = some o → GoodAt ops ms m i o := fun i o ho => goodAt_spec ho (List.all_eq_true.1 hgood.2 i (List.mem_range.2 (Array.getElem?_eq_some_iff.1 ho).1))
  refine wp_region_any hf ?_
  refine region_loop hg hgood.1 hm hn (fun e he => by simpa using List.all_eq_true.1 heff e he) hob hend _ _ _ _ env0 (by simp) ?_ ?_ ?_ ?_
  · refine Nat.le_trans List.countP_le_length ?_
    simp
  · intro i o ho hl
    exfalso
    rw [Array.getD_eq_getD_getElem?] at hl
    by_cases hi : i < ops.size
    · simp [hi] at hl
    · simp [hi] at hl
  · refine (Rel.start (vs env0)).congr (fun j => ?_) (fun j h => rfl)
    by_cases hi : j < ops.size
    · simp [hi]
    · simp [hi]
  · have : (cnt effs fun j => (Array.replicate ops.size false).getD j false) = 0 := by
      unfold cnt
      rw [List.countP_eq_zero]
      intro e he
      by_cases hi : e < ops.size
      · simp [hi]
      · simp [hi]
    rw [this]
    exact h0
end
end Go.Proofs.YtaphblnelmncaaaDoor.PA
end

section
/- What single operations yield, their operands' values being known. -/
set_option linter.unusedVariables false
namespace Go.Proofs.YtaphblnelmncaaaDoor.PA
open Go Go.RowKit

section
variable {ρ : Operand → Value} {x y : Operand} {b o : Nat}
theorem x_nil (hx : ρ x = .pointer (some ⟨b, o, none⟩)) : ∀ oi : Oper, oi.op = .nilCheck x → ∀ w : World, (execOp ρ oi).run Tryd.prog w = .ok (.value (.pointer (some ⟨b, o, none⟩))) w := by
  intro oi hop w
  obtain ⟨d, op, ty, po, af, gu⟩ := oi
  simp only at hop; subst hop
  go_simp
theorem x_f0 (hx : ρ x = .pointer (some ⟨b, o, none⟩)) : ∀ oi : Oper, oi.op = .fieldAddr 83 x 0 → ∀ w : World, (execOp ρ oi).run Tryd.prog w = .ok (.value (.pointer (some ⟨b, o, none⟩))) w := by
  intro oi hop w
  obtain ⟨d, op, ty, po, af, gu⟩ := oi
  simp only at hop; subst hop
  go_simp
theorem x_f1 (hx : ρ x = .pointer (some ⟨b, o, none⟩)) : ∀ oi : Oper, oi.op = .fieldAddr 83 x 1 → ∀ w : World, (execOp ρ oi).run Tryd.prog w = .ok (.value (.pointer (some ⟨b, o + 1, none⟩))) w := by
  intro oi hop w
  obtain ⟨d, op, ty, po, af, gu⟩ := oi
  simp only at hop; subst hop
  go_simp
theorem x_load3 {v : Value} (hx : ρ x = .pointer (some ⟨b, o, none⟩)) (w : World) (hc : w.cell? ⟨b, o, none⟩ = some v) : ∀ oi : Oper, oi.op = .load 3 x → (execOp ρ oi).run Tryd.prog w = .ok (.value v) w := by
  intro oi hop
  obtain ⟨d, op, ty, po, af, gu⟩ := oi
  simp only at hop; subst hop
  go_simp
theorem x_load9 {v : Value} (hx : ρ x = .pointer (some ⟨b, o, none⟩)) (w : World) (hc : w.cell? ⟨b, o, none⟩ = some v) : ∀ oi : Oper, oi.op = .load 9 x → (execOp ρ oi).run Tryd.prog w = .ok (.value v) w := by
  intro oi hop
  obtain ⟨d, op, ty, po, af, gu⟩ := oi
  simp only at hop; subst hop
  go_simp
theorem x_len9 {s : ByteArray} (hx : ρ x = .string s) : ∀ oi : Oper, oi.op = .call { callee := .builtin .len, args := #[x], argTypes := #[9] } → ∀ w : World, (execOp ρ oi).run Tryd.prog w = .ok (.value (.int .i64 s.size)) w := by
  intro oi hop w
  obtain ⟨d, op, ty, po, af, gu⟩ := oi
  simp only at hop; subst hop
  go_simp
theorem x_add1 {z : Int} (hx : ρ x = .int .i64 z) (h1 : ρ (.const (.int .i64 1)) = .int .i64 1) (hz : IntKind.i64.wrap (z + 1) = z + 1) : ∀ oi : Oper, oi.op = .binOp .add 3 x (.const (.int .i64 1)) 3 → ∀ w : World, (execOp ρ oi).run Tryd.prog w = .ok (.value (.int .i64 (z + 1))) w := by
  intro oi hop w
  obtain ⟨d, op, ty, po, af, gu⟩ := oi
  simp only at hop; subst hop
  go_simp
theorem x_lss {z u : Int} {t : Bool} (hx : ρ x = .int .i64 z) (hy : ρ y = .int .i64 u) (hz : decide (z < u) = t) : ∀ oi : Oper, oi.op = .binOp .lss 3 x y 3 → ∀ w : World, (execOp ρ oi).run Tryd.prog w = .ok (.value (.bool t)) w := by
  intro oi hop w
  obtain ⟨d, op, ty, po, af, gu⟩ := oi
  simp only at hop; subst hop; subst hz
  go_simp
end
end Go.Proofs.YtaphblnelmncaaaDoor.PA
end

section
/- What is owed for one operation of a region, form by form. -/
set_option linter.unusedVariables false
namespace Go.Proofs.YtaphblnelmncaaaDoor.PA
open Go Go.Proofs.YtaphblnelmncaaaDoorW.PrintLast

def AllOb (p : Nat → Prop) : Nat → Prop
  | 0 => True
  | n + 1 => AllOb p n ∧ p n
theorem AllOb.lt {p : Nat → Prop} : ∀ {n : Nat}, AllOb p n → ∀ i, i < n → p i
  | 0, _, i, h => absurd h (Nat.not_lt_zero i)
  | n + 1, h, i, hi => by
    by_cases e : i = n
    · subst e; exact h.2
    · exact h.1.lt i (by omega)

/-- The guard is met, or not (t). -/
def WantV (g : Option (Nat × Bool)) (vs : List Value) : Bool := match g with
  | none => true
  | some (j, u) => yv vs j == some u
theorem WantV.wanted {g : Option (Nat × Bool)} {vs : List Value} {o : Oper} (h : o.guard = g) : wantedV o vs = WantV g vs := by
  subst h; unfold wantedV Region.wanted WantV
  cases o.guard <;> rfl

section
variable {P : Program} {ops : Array Oper} {Q : Exit → Act → World → Prop} {a0 : Act} {ms effs : List Nat} {ε : Type} {vs : ε → List Value} {W : Nat → ε → World → Prop} {i : Nat}

theorem ob_val (N : Option Tmp) (op : Op) (g : Option (Nat × Bool)) (hi : OpAt ops i N op g) (hin : effs.contains i = false) (hw : ∀ env, WantV g (vs env) = true)
    (hv : ∀ env (oi : Oper), oi.op = op → ∀ w, (execOp (rho ops a0 (vs env)) oi).run P w = .ok (.value ((vs env).getD i undef)) w) : Ob P ops Q a0 ms effs vs W i := by
  obtain ⟨o, ho, _, hop, hg⟩ := hi.ex
  intro oi hoi k env w _ _ _
  rw [ho] at hoi; cases hoi
  rw [if_neg (by simpa using hin)]
  exact .inl ⟨(WantV.wanted hg).trans (hw env), hv env o hop w⟩
theorem ob_read (N : Option Tmp) (op : Op) (g : Option (Nat × Bool)) (hi : OpAt ops i N op g) (hin : effs.contains i = false) (hw : ∀ env, WantV g (vs env) = true)
    (hv : ∀ (k : Nat) env w, effs.countP (fun e => (ms.getD i 0).testBit e) ≤ k → k ≤ effs.countP (fun e => !(ms.getD e 0).testBit i && e != i) → W k env w → ∀ oi : Oper, oi.op = op → (execOp (rho ops a0 (vs env)) oi).run P w = .ok (.value ((vs env).getD i undef)) w) : Ob P ops Q a0 ms effs vs W i := by
  obtain ⟨o, ho, _, hop, hg⟩ := hi.ex
  intro oi hoi k env w h1 h2 h3
  rw [ho] at hoi; cases hoi
  rw [if_neg (by simpa using hin)]
  exact .inl ⟨(WantV.wanted hg).trans (hw env), hv k env w h1 h2 h3 o hop⟩
theorem ob_skip (N : Option Tmp) (op : Op) (g : Option (Nat × Bool)) (hi : OpAt ops i N op g) (hin : effs.contains i = false) (hw : ∀ env, WantV g (vs env) = false)
    (hv : ∀ env, (vs env).getD i undef = undef) : Ob P ops Q a0 ms effs vs W i := by
  obtain ⟨o, ho, _, hop, hg⟩ := hi.ex
  intro oi hoi k env w h1 h2 h3
  rw [ho] at hoi; cases hoi
  rw [if_neg (by simpa using hin)]
  exact .inr ⟨(WantV.wanted hg).trans (hw env), hv env⟩
/-- A copy. -/
theorem ob_move (N : Option Tmp) (x : Operand) (g : Option (Nat × Bool)) (hi : OpAt ops i N (.move x) g) (hin : effs.contains i = false) (hw : ∀ env, WantV g (vs env) = true)
    (hv : ∀ env, rho ops a0 (vs env) x = (vs env).getD i undef) : Ob P ops Q a0 ms effs vs W i :=
  ob_val N _ g hi hin hw fun env oi hop w => by
    have : (execOp (rho ops a0 (vs env)) oi).run P w = .ok (.value (rho ops a0 (vs env) x)) w := by
      unfold execOp; rw [hop]; rfl
    rw [this, hv env]
/-- '&&', '||'. -/
theorem ob_pick (N : Option Tmp) (x y z : Operand) (t : Bool) (g : Option (Nat × Bool)) (hi : OpAt ops i N (.pick x y z) g) (hin : effs.contains i = false) (hw : ∀ env, WantV g (vs env) = true)
    (hx : ∀ env, rho ops a0 (vs env) x = .bool t) (hv : ∀ env, (if t then rho ops a0 (vs env) y else rho ops a0 (vs env) z) = (vs env).getD i undef) : Ob P ops Q a0 ms effs vs W i :=
  ob_val N _ g hi hin hw fun env oi hop w => by
    rw [← hv env]
    unfold execOp; rw [hop]
    cases t <;> simp [hx env, asBool]
/-- A call of a function. -/
theorem ob_call (N : Option Tmp) (g : Option (Nat × Bool)) {f : FuncId} {fn : Func} {xs : Array Operand} {ts : Array TypeId} (hf : P.funcs[f]? = some fn) (hname : (fn.name == "runtime.NumGoroutine") = false) (hb : fn.body.isSome = true) (args : ε → Array Value)
    (hi : OpAt ops i N (.call { callee := .value (.func f), args := xs, argTypes := ts }) g) (hin : effs.contains i = true) (hw : ∀ env, WantV g (vs env) = true) (hargs : ∀ env, xs.map (rho ops a0 (vs env)) = args env)
    (h : ∀ (k : Nat) env w, effs.countP (fun e => (ms.getD i 0).testBit e) ≤ k → k ≤ effs.countP (fun e => !(ms.getD e 0).testBit i && e != i) → W k env w →
      Calls P f (args env) w fun e w' => ∃ env', e = .returned ((vs env').getD i undef) ∧ W (k + 1) env' w' ∧ ∀ j, (ms.getD j 0).testBit i = false → j ≠ i → (vs env').getD j undef = (vs env).getD j undef) : Ob P ops Q a0 ms effs vs W i := by
  obtain ⟨o, ho, _, hop, hg⟩ := hi.ex
  intro oi hoi k env w h1 h2 h3
  rw [ho] at hoi; cases hoi
  rw [if_pos hin]
  refine ⟨(WantV.wanted hg).trans (hw env), fun a ha => ?_⟩
  have hmem : ∀ x ∈ xs, a.eval x = rho ops a0 (vs env) x := fun x hx => ha x (by rw [hop]; simp [Op.operands, Call.operands, hx])
  have he := enters_ hf hname hb (args env) w
  have hrun : (execOp a.eval o).run P w = .ok (.enter f (args env)) w := by
    have e1 : xs.map a.eval = args env := by rw [← hargs env]; exact Array.map_congr_left hmem
    unfold execOp
    simp [hop, resolve, Deferred.ofValue, invoke, Act.eval, e1, he]
  unfold Oper.wp
  rw [hrun, Oper.upon_enter]
  refine (h k env w h1 h2 h3).mono fun e w'' hh => ?_
  obtain ⟨env', rfl, h4, h5⟩ := hh
  exact ⟨env', rfl, h4, h5⟩
end
end Go.Proofs.YtaphblnelmncaaaDoor.PA
end

section
/- More of what single operations yield; calls through function values in regions. -/
set_option linter.unusedVariables false
namespace Go.Proofs.YtaphblnelmncaaaDoor.PA
open Go Go.RowKit Go.Proofs.YtaphblnelmncaaaDoorW.PrintWords Go.Proofs.YtaphblnelmncaaaDoorW.PrintLast

section
variable {ρ : Operand → Value} {x y : Operand} {b o : Nat}
theorem x_load66 {v : Value} (hx : ρ x = .pointer (some ⟨b, o, none⟩)) (w : World) (hc : w.cell? ⟨b, o, none⟩ = some v) : ∀ oi : Oper, oi.op = .load 66 x → (execOp ρ oi).run Tryd.prog w = .ok (.value v) w := by
  intro oi hop
  obtain ⟨d, op, ty, po, af, gu⟩ := oi
  simp only at hop; subst hop
  go_simp
theorem x_f3t50 (hx : ρ x = .pointer (some ⟨b, o, none⟩)) : ∀ oi : Oper, oi.op = .fieldAddr 50 x 3 → ∀ w : World, (execOp ρ oi).run Tryd.prog w = .ok (.value (.pointer (some ⟨b, o + 3, none⟩))) w := by
  intro oi hop w
  obtain ⟨d, op, ty, po, af, gu⟩ := oi
  simp only at hop; subst hop
  go_simp
theorem x_f4t50 (hx : ρ x = .pointer (some ⟨b, o, none⟩)) : ∀ oi : Oper, oi.op = .fieldAddr 50 x 4 → ∀ w : World, (execOp ρ oi).run Tryd.prog w = .ok (.value (.pointer (some ⟨b, o + 4, none⟩))) w := by
  intro oi hop w
  obtain ⟨d, op, ty, po, af, gu⟩ := oi
  simp only at hop; subst hop
  go_simp
theorem x_cat {s t : ByteArray} (hx : ρ x = .string s) (hy : ρ y = .string t) (hs : s.size + t.size ≤ 1000000000) : ∀ oi : Oper, oi.op = .binOp .add 9 x y 9 → ∀ w : World, (execOp ρ oi).run Tryd.prog w = .ok (.value (.string (s ++ t))) w := by
  intro oi hop w
  obtain ⟨d, op, ty, po, af, gu⟩ := oi
  simp only at hop; subst hop
  have h2 : s.size + t.size ≤ 9223372036854775807 := by omega
  go_simp
end

section
variable {P : Program} {ops : Array Oper} {Q : Exit → Act → World → Prop} {a0 : Act} {ms effs : List Nat} {ε : Type} {vs : ε → List Value} {W : Nat → ε → World → Prop} {i : Nat}
/-- A copy into a variable. -/
theorem ob_assign (N : Option Tmp) (x : Operand) (g : Option (Nat × Bool)) (hi : OpAt ops i N (.assign x) g) (hin : effs.contains i = false) (hw : ∀ env, WantV g (vs env) = true)
    (hv : ∀ env, rho ops a0 (vs env) x = (vs env).getD i undef) : Ob P ops Q a0 ms effs vs W i :=
  ob_val N _ g hi hin hw fun env oi hop w => by
    have : (execOp (rho ops a0 (vs env)) oi).run P w = .ok (.value (rho ops a0 (vs env) x)) w := by
      unfold execOp; rw [hop]; rfl
    rw [this, hv env]
/-- A call of a function value. -/
theorem ob_callv (N : Option Tmp) (g : Option (Nat × Bool)) {f : FuncId} {fn : Func} {fx : Operand} {xs : Array Operand} {ts : Array TypeId} (caps : ε → Array Value) (hf : P.funcs[f]? = some fn) (hname : (fn.name == "runtime.NumGoroutine") = false) (hb : fn.body.isSome = true) (args : ε → Array Value)
    (hi : OpAt ops i N (.call { callee := .value fx, args := xs, argTypes := ts }) g) (hin : effs.contains i = true) (hw : ∀ env, WantV g (vs env) = true) (hfx : ∀ env, rho ops a0 (vs env) fx = .func (.func f) #[] (caps env)) (hargs : ∀ env, xs.map (rho ops a0 (vs env)) ++ caps env = args env)
    (h : ∀ (k : Nat) env w, effs.countP (fun e => (ms.getD i 0).testBit e) ≤ k → k ≤ effs.countP (fun e => !(ms.getD e 0).testBit i && e != i) → W k env w →
      Calls P f (args env) w fun e w' => ∃ env', e = .returned ((vs env').getD i undef) ∧ W (k + 1) env' w' ∧ ∀ j, (ms.getD j 0).testBit i = false → j ≠ i → (vs env').getD j undef = (vs env).getD j undef) : Ob P ops Q a0 ms effs vs W i := by
  obtain ⟨o, ho, _, hop, hg⟩ := hi.ex
  intro oi hoi k env w h1 h2 h3
  rw [ho] at hoi; cases hoi
  rw [if_pos hin]
  refine ⟨(WantV.wanted hg).trans (hw env), fun a ha => ?_⟩
  have hmem : ∀ x ∈ xs, a.eval x = rho ops a0 (vs env) x := fun x hx => ha x (by rw [hop]; simp [Op.operands, Call.operands, hx])
  have hfe : a.eval fx = .func (.func f) #[] (caps env) := by rw [← hfx env]; exact ha fx (by rw [hop]; simp [Op.operands, Call.operands])
  have he := enters_ hf hname hb (args env) w
  have hrun : (execOp a.eval o).run P w = .ok (.enter f (args env)) w := by
    have e1 : xs.map a.eval = xs.map (rho ops a0 (vs env)) := Array.map_congr_left hmem
    unfold execOp
    simp [hop, resolve, Deferred.ofValue, invoke, hfe, e1, hargs env, he]
  unfold Oper.wp
  rw [hrun, Oper.upon_enter]
  refine (h k env w h1 h2 h3).mono fun e w'' hh => ?_
  obtain ⟨env', rfl, h4, h5⟩ := hh
  exact ⟨env', rfl, h4, h5⟩
end
end Go.Proofs.YtaphblnelmncaaaDoor.PA
end

section
/- Maps whose keys are pairs of whole numbers, in memory. -/
set_option linter.unusedVariables false
namespace Go.Proofs.YtaphblnelmncaaaDoor.PA
open Go Go.RowKit Go.Proofs.YtaphblnelmncaaaDoorW.PrintWords Go.Proofs.YtaphblnelmncaaaDoorW.PrintLast

/-- A pair as a value. -/
def pairV (k : Int × Int) : Value := .agg #[.int .i64 k.1, .int .i64 k.2]
theorem pairV_inj {a b : Int × Int} (h : pairV a = pairV b) : a = b := by
  unfold pairV at h
  injection h with h
  have := congrArg Array.toList h
  simp at this
  exact Prod.ext this.1 this.2

open Classical in
/-- What the entries say of a key. -/
noncomputable def lookE : List MapEntry → Int × Int → Option Value
  | [], _ => none
  | e :: es, k => if e.key = pairV k then some e.val else lookE es k
theorem lookE_append (a b : List MapEntry) (k : Int × Int) : lookE (a ++ b) k = (lookE a k).or (lookE b k) := by
  induction a with
  | nil => rfl
  | cons e a ih => simp only [List.cons_append, lookE, ih]; split <;> rfl

theorem eq_int (d : Nat) (a b : Int) (w : World) : (Op.equalIn (d + 1) 3 (.int .i64 a) (.int .i64 b)).run Tryd.prog w = .ok (decide (a = b)) w := by
  unfold Op.equalIn
  go_simp
  by_cases h : a = b <;> simp [h]
theorem held92 : Tryd.prog.stoodInHeld 92 = false := by kernel_rfl
theorem eq_pair (a b : Int × Int) (w : World) : (Op.equal 92 (pairV a) (pairV b)).run Tryd.prog w = .ok (decide (a = b)) w := by
  unfold Op.equal
  rw [show Op.maxDepth = 9998 + 1 + 1 from rfl]
  unfold Op.equalIn
  have h := held92
  unfold pairV
  go_simp
  by_cases h1 : a.1 = b.1
  · by_cases h2 : a.2 = b.2
    · have : a = b := Prod.ext h1 h2
      rw [if_pos h1, if_pos h2]; simp [this]
    · have : a ≠ b := fun e => h2 (e ▸ rfl)
      rw [if_pos h1, if_neg h2]; simp [this]
  · have : a ≠ b := fun e => h1 (e ▸ rfl)
    rw [if_neg h1]; simp [this]
set_option maxRecDepth 100000 in
theorem check_pair (a : Int × Int) (e : Bool) (w : World) : (Instr.checkKey e 10000 92 (pairV a)).run Tryd.prog w = .ok () w := by
  unfold pairV
  unfold Instr.checkKey
  go_simp
  unfold Instr.checkKey
  go_simp

/-- All keys are pairs. -/
def Pairs (es : List MapEntry) : Prop := ∀ e ∈ es, ∃ k, e.key = pairV k
theorem find_asking (k : Int × Int) (w : World) : ∀ (es : List MapEntry) (n : Nat), Pairs es →
    (lookE es k = none ∧ (Instr.findAsking 92 (pairV k) es n).run Tryd.prog w = .ok none w) ∨
    ∃ a e b, es = a ++ e :: b ∧ lookE a k = none ∧ e.key = pairV k ∧ (Instr.findAsking 92 (pairV k) es n).run Tryd.prog w = .ok (some (n + a.length, e.val)) w
  | [], n, _ => .inl ⟨rfl, by unfold Instr.findAsking; rfl⟩
  | e :: es, n, h => by
    obtain ⟨k', hk'⟩ := h e List.mem_cons_self
    by_cases hk : k = k'
    · subst hk
      right
      refine ⟨[], e, es, rfl, rfl, hk', ?_⟩
      unfold Instr.findAsking
      rw [hk']
      have := eq_pair k k w
      simp only [Sem.run_bind, this, Result.andThen]
      simp
    · have h1 : ¬ e.key = pairV k := by rw [hk']; exact fun e => hk (pairV_inj e).symm
      have hrun : (Instr.findAsking 92 (pairV k) (e :: es) n).run Tryd.prog w = (Instr.findAsking 92 (pairV k) es (n + 1)).run Tryd.prog w := by
        conv => lhs; unfold Instr.findAsking
        rw [hk']
        have := eq_pair k k' w
        simp only [Sem.run_bind, this, Result.andThen]
        simp [hk]
      rcases find_asking k w es (n + 1) (fun x hx => h x (List.mem_cons_of_mem _ hx)) with ⟨h2, h3⟩ | ⟨a, x, b, h2, h3, h4, h5⟩
      · left
        exact ⟨by simp only [lookE]; rw [if_neg h1]; exact h2, by rw [hrun]; exact h3⟩
      · right
        refine ⟨e :: a, x, b, by rw [h2]; rfl, by simp only [lookE]; rw [if_neg h1]; exact h3, h4, ?_⟩
        rw [hrun, h5]; simp; omega
theorem find_key (k : Int × Int) (w : World) (es : List MapEntry) (h : Pairs es) :
    (lookE es k = none ∧ (Instr.findKey 92 (pairV k) es).run Tryd.prog w = .ok none w) ∨
    ∃ a e b, es = a ++ e :: b ∧ lookE a k = none ∧ e.key = pairV k ∧ (Instr.findKey 92 (pairV k) es).run Tryd.prog w = .ok (some (a.length, e.val)) w := by
  cases es with
  | nil => exact .inl ⟨rfl, by unfold Instr.findKey; go_simp; rfl⟩
  | cons e es =>
    have hrun : (Instr.findKey 92 (pairV k) (e :: es)).run Tryd.prog w = (Instr.findAsking 92 (pairV k) (e :: es) 0).run Tryd.prog w := by
      unfold Instr.findKey
      have hu := Tryd.underlying92
      go_simp
      rfl
    rcases find_asking k w (e :: es) 0 h with h1 | ⟨a, x, b, h2, h3, h4, h5⟩
    · exact .inl ⟨h1.1, by rw [hrun]; exact h1.2⟩
    · exact .inr ⟨a, x, b, h2, h3, h4, by rw [hrun, h5, Nat.zero_add]⟩

/-- Block r of w is a map that answers as f. -/
def PMap (w : World) (r : Nat) (f : Int × Int → Option Value) : Prop := ∃ es clock, w.heap[r]? = some (.map es clock) ∧ Pairs es.toList ∧ ∀ k, lookE es.toList k = f k
theorem PMap.lt {w : World} {r : Nat} {f : Int × Int → Option Value} (h : PMap w r f) : r < w.heap.size := by obtain ⟨es, c, h, _⟩ := h; exact (Array.getElem?_eq_some_iff.1 h).1
theorem PMap.keep {w w' : World} {r : Nat} {f : Int × Int → Option Value} {L : List Nat} (h : PMap w r f) (k : Chg L w w') (hr : r ∉ L) : PMap w' r f := by
  obtain ⟨es, c, h1, h2⟩ := h
  exact ⟨es, c, (k.block r (Array.getElem?_eq_some_iff.1 h1).1 hr).trans h1, h2⟩
theorem PMap.below {w w' : World} {r : Nat} {f : Int × Int → Option Value} (h : PMap w r f) (k : Below w.heap.size w w') : PMap w' r f := by
  obtain ⟨es, c, h1, h2⟩ := h
  exact ⟨es, c, (k.block r (Array.getElem?_eq_some_iff.1 h1).1).trans h1, h2⟩
theorem PMap.new (w : World) : PMap (w.alloc (.map #[] 0)) w.heap.size (fun _ => none) := ⟨#[], 0, by have := heap_alloc_new w (.map #[] 0); simpa using this, fun e he => by simp at he, fun k => rfl⟩

set_option maxRecDepth 100000 in
/-- A look-up. -/
theorem run_look {w : World} {r : Nat} {f : Int × Int → Option Value} (h : PMap w r f) {t e : TypeId} (ht : Tryd.prog.underlying t = some (.map 92 e)) {z : Value} (hz : (zeroValue e).run Tryd.prog w = .ok z w) (k : Int × Int) (c : Bool) :
    (Instr.lookup t (.map (some r)) (pairV k) c).run Tryd.prog w = .ok (if c then .tuple #[(f k).getD z, .bool (f k).isSome] else (f k).getD z) w := by
  obtain ⟨es, cl, h1, h2, h3⟩ := h
  rw [← h3 k]
  rcases find_key k w es.toList h2 with ⟨h4, h5⟩ | ⟨a, x, b, h4, h5, h6, h7⟩
  · rw [h4]
    simp [Instr.lookup, run_underlying ht, MapKept.run_getObj_map h1, check_pair, h5, hz, Result.andThen]
  · have h8 : lookE es.toList k = some x.val := by rw [h4, lookE_append, h5]; simp [lookE, h6]
    rw [h8]
    simp [Instr.lookup, run_underlying ht, MapKept.run_getObj_map h1, check_pair, h7, Result.andThen]

theorem lookE_put (a b : List MapEntry) (e e' : MapEntry) (k k' : Int × Int) (ha : lookE a k = none) (he : e.key = pairV k) (he' : e'.key = pairV k) : lookE (a ++ e' :: b) k' = if k' = k then some e'.val else lookE (a ++ e :: b) k' := by
  rw [lookE_append, lookE_append]
  by_cases h : k' = k
  · subst h
    rw [ha, if_pos rfl]; simp [lookE, he']
  · rw [if_neg h]
    have h1 : ¬ e.key = pairV k' := by rw [he]; exact fun x => h (pairV_inj x).symm
    have h2 : ¬ e'.key = pairV k' := by rw [he']; exact fun x => h (pairV_inj x).symm
    simp only [lookE, if_neg h1, if_neg h2]

theorem stays_pair (k : Int × Int) (w : World) : (Instr.keyThatStays (pairV k) (pairV k)).run Tryd.prog w = .ok (pairV k) w := by
  have : Instr.sameBits 10000 (pairV k) (pairV k) = true := by
    unfold pairV
    rw [show (10000 : Nat) = 9998 + 1 + 1 from rfl]
    simp [Instr.sameBits]
  unfold Instr.keyThatStays
  rw [if_pos this]; rfl

/-- The world behind a change of a map. -/
theorem chg_block (w : World) (r : Nat) (o : Obj) : Chg [r] w (ChangeMaps.setBlock w r o) :=
  ⟨rfl, rfl, rfl, by simp [ChangeMaps.setBlock], fun k hk hn => by
    have : r ≠ k := fun e => hn (by simp [e])
    simp [ChangeMaps.setBlock, Array.getElem?_setIfInBounds_ne this]⟩
set_option maxRecDepth 100000 in
/-- A store. -/
theorem run_put {w : World} {r : Nat} {f : Int × Int → Option Value} (h : PMap w r f) {t e : TypeId} (ht : Tryd.prog.underlying t = some (.map 92 e)) (k : Int × Int) (v : Value) :
    ∃ o, (Instr.mapUpdate t (.map (some r)) (pairV k) v).run Tryd.prog w = .ok () (ChangeMaps.setBlock w r o) ∧ PMap (ChangeMaps.setBlock w r o) r (fun k' => if k' = k then some v else f k') := by
  have hlt := h.lt
  obtain ⟨es, cl, h1, h2, h3⟩ := h
  rcases find_key k w es.toList h2 with ⟨h4, h5⟩ | ⟨a, x, b, h4, h5, h6, h7⟩
  · refine ⟨.map (es.push { key := pairV k, val := v, born := cl }) (cl + 1), ?_, es.push { key := pairV k, val := v, born := cl }, cl + 1, by simp [ChangeMaps.setBlock, hlt], ?_, ?_⟩
    · simp [Instr.mapUpdate, run_underlying ht, MapKept.run_getObj_map h1, check_pair, h5, MapKept.run_setObj_map _ h1, Result.andThen, ChangeMaps.setBlock]
    · intro e he
      simp only [Array.toList_push, List.mem_append, List.mem_singleton] at he
      rcases he with he | he
      · exact h2 e he
      · exact ⟨k, by rw [he]⟩
    · intro k'
      show _ = if k' = k then some v else f k'
      rw [Array.toList_push, lookE_append, h3 k']
      by_cases hk : k' = k
      · subst hk
        rw [← h3 k', h4, if_pos rfl]; simp [lookE]
      · have : ¬ pairV k = pairV k' := fun e => hk (pairV_inj e).symm
        rw [if_neg hk]; simp [lookE, this]
  · have hx : es[a.length]? = some x := by
      rw [← Array.getElem?_toList, h4]; simp
    have hm : (es.modify a.length fun e => { e with key := pairV k, val := v }).toList = a ++ { x with key := pairV k, val := v } :: b := by
      rw [Array.toList_modify, h4]
      apply List.ext_getElem?
      intro i
      rw [List.getElem?_modify]
      by_cases hi : i < a.length
      · have : ¬ a.length = i := by omega
        rw [List.getElem?_append_left hi, List.getElem?_append_left hi]; simp [this]
      · rw [List.getElem?_append_right (by omega), List.getElem?_append_right (by omega)]
        by_cases hi2 : i = a.length
        · subst hi2; simp
        · have : ¬ a.length = i := by omega
          obtain ⟨j, hj⟩ : ∃ j, i - a.length = j + 1 := ⟨i - a.length - 1, by omega⟩
          rw [hj]; simp [this]
    refine ⟨.map (es.modify a.length fun e => { e with key := pairV k, val := v }) cl, ?_, (es.modify a.length fun e => { e with key := pairV k, val := v }), cl, by simp [ChangeMaps.setBlock, hlt], ?_, ?_⟩
    · simp [Instr.mapUpdate, run_underlying ht, MapKept.run_getObj_map h1, check_pair, h7, hx, h6, stays_pair, MapKept.run_setObj_map _ h1, Result.andThen, ChangeMaps.setBlock]
    · intro e he
      rw [hm] at he
      rcases List.mem_append.1 he with he | he
      · exact h2 e (by rw [h4]; exact List.mem_append_left _ he)
      · rcases List.mem_cons.1 he with he | he
        · exact ⟨k, by rw [he]⟩
        · exact h2 e (by rw [h4]; exact List.mem_append_right _ (List.mem_cons_of_mem _ he))
    · intro k'
      show _ = if k' = k then some v else f k'
      rw [hm, ← h3 k', h4]
      exact lookE_put a b x _ k k' h5 h6 rfl
end Go.Proofs.YtaphblnelmncaaaDoor.PA
end

section
/- Sets of places as numbers: the limbs of a union, of an intersection, of one place; the places in ascending order. -/
namespace Go.Proofs.YtaphblnelmncaaaDoor.PA
open Go.RowKit

theorem limb_toNat (S k : Nat) : (limb S k).toNat = S / 2 ^ (64 * k) % 2 ^ 64 := by unfold limb; exact Int.toNat_natCast _
theorem limb_lt' (S k : Nat) : S / 2 ^ (64 * k) % 2 ^ 64 < 18446744073709551616 := Nat.mod_lt _ (by decide)
theorem bits_or_limb (S T k : Nat) : bits .or .u64 (limb S k) (limb T k) = limb (S ||| T) k := by
  unfold limb
  rw [u64_or_nat _ _ (limb_lt' S k) (limb_lt' T k)]
  congr 1
  apply Nat.eq_of_testBit_eq
  intro j
  by_cases hj : j < 64
  · rw [Nat.testBit_or, limb_bit _ _ _ hj, limb_bit _ _ _ hj, limb_bit _ _ _ hj, Nat.testBit_or]
  · rw [Nat.testBit_or, Nat.testBit_mod_two_pow, Nat.testBit_mod_two_pow, Nat.testBit_mod_two_pow]; simp [hj]
theorem bits_and_limb (S T k : Nat) : bits .and .u64 (limb S k) (limb T k) = limb (S &&& T) k := by
  unfold limb
  rw [u64_and_nat _ _ (limb_lt' S k) (limb_lt' T k)]
  congr 1
  apply Nat.eq_of_testBit_eq
  intro j
  by_cases hj : j < 64
  · rw [Nat.testBit_and, limb_bit _ _ _ hj, limb_bit _ _ _ hj, limb_bit _ _ _ hj, Nat.testBit_and]
  · rw [Nat.testBit_and, Nat.testBit_mod_two_pow, Nat.testBit_mod_two_pow, Nat.testBit_mod_two_pow]; simp [hj]
theorem limb_one_shl (n : Nat) : IntKind.u64.wrap (2 ^ (n % 64)) = limb (1 <<< n) (n / 64) := by
  have h : IntKind.u64.wrap (2 ^ (n % 64)) = ((2 ^ (n % 64) % 18446744073709551616 : Nat) : Int) := by
    simp [IntKind.wrap, IntKind.bits, IntKind.signed]
  rw [h]
  unfold limb
  congr 1
  rw [Nat.shiftLeft_eq, Nat.one_mul]
  have e : 2 ^ n = 2 ^ (n % 64) * 2 ^ (64 * (n / 64)) := by rw [← Nat.pow_add]; congr 1; omega
  rw [e, Nat.mul_div_cancel _ (Nat.two_pow_pos _)]
theorem limb_or_far (S n k : Nat) (h : k ≠ n / 64) : limb (S ||| 1 <<< n) k = limb S k := by
  apply limb_eq
  intro j hj
  rw [Nat.testBit_or, Nat.shiftLeft_eq, Nat.one_mul, Nat.testBit_two_pow]
  have : ¬ (n = 64 * k + j) := by omega
  simp [this]
theorem limb_zero (k : Nat) : limb 0 k = 0 := by simp [limb]
theorem pl_zero : pl 0 = List.replicate 8 (.int .u64 0) := by
  simp [pl, limb_zero, List.range, List.range.loop, List.replicate]

theorem pl_zero8 : pl 0 = [.int .u64 0, .int .u64 0, .int .u64 0, .int .u64 0, .int .u64 0, .int .u64 0, .int .u64 0, .int .u64 0] := by rw [pl_zero]; rfl
theorem Blk.new2 (w : World) (cs ds : Array Value) (t u : Nat) : Blk ((w.alloc (.cells cs t)).alloc (.cells ds u)) (w.heap.size + 1) u ds.toList := by
  have := Blk.new (w.alloc (.cells cs t)) ds u
  simpa using this

theorem Blk.new3 (w : World) (cs ds es : Array Value) (t u v : Nat) : Blk (((w.alloc (.cells cs t)).alloc (.cells ds u)).alloc (.cells es v)) (w.heap.size + 2) v es.toList := by
  have := Blk.new ((w.alloc (.cells cs t)).alloc (.cells ds u)) es v
  simpa using this

theorem Blk.newE (w : World) (cs : Array Value) (t g : Nat) (l : List Value) (hg : g = w.heap.size) (hl : l = cs.toList) : Blk (w.alloc (.cells cs t)) g t l := by
  subst hg; subst hl; exact Blk.new w cs t

/-- A set of places below 512. -/
def Small (T : Nat) : Prop := ∀ i, 512 ≤ i → T.testBit i = false
theorem Small.zero : Small 0 := fun i _ => Nat.zero_testBit i
theorem Small.or {S T : Nat} (h : Small S) (k : Small T) : Small (S ||| T) := fun i hi => by rw [Nat.testBit_or, h i hi, k i hi]; rfl
theorem Small.one {n : Nat} (h : n < 512) : Small (1 <<< n) := fun i hi => by
  rw [Nat.shiftLeft_eq, Nat.one_mul, Nat.testBit_two_pow]; simp; omega

/-- The world behind a store of a whole set of places. -/
def store8 (w : World) (g o S : Nat) : World :=
  (((((((w.setCell ⟨g, o, none⟩ (.int .u64 (limb S 0))).setCell ⟨g, o + 1, none⟩ (.int .u64 (limb S 1))).setCell ⟨g, o + 2, none⟩ (.int .u64 (limb S 2))).setCell ⟨g, o + 3, none⟩ (.int .u64 (limb S 3))).setCell
    ⟨g, o + 4, none⟩ (.int .u64 (limb S 4))).setCell ⟨g, o + 5, none⟩ (.int .u64 (limb S 5))).setCell ⟨g, o + 6, none⟩ (.int .u64 (limb S 6))).setCell ⟨g, o + 7, none⟩ (.int .u64 (limb S 7))
theorem store8_list {cs : List Value} {o S : Nat} (hl : o + 8 ≤ cs.length) :
    (((((((cs.set o (.int .u64 (limb S 0))).set (o + 1) (.int .u64 (limb S 1))).set (o + 2) (.int .u64 (limb S 2))).set (o + 3) (.int .u64 (limb S 3))).set (o + 4) (.int .u64 (limb S 4))).set (o + 5) (.int .u64 (limb S 5))).set
      (o + 6) (.int .u64 (limb S 6))).set (o + 7) (.int .u64 (limb S 7)) = put8 cs o S := by
  apply put8_of_get hl
  · intro k hk
    rcases (show k = 0 ∨ k = 1 ∨ k = 2 ∨ k = 3 ∨ k = 4 ∨ k = 5 ∨ k = 6 ∨ k = 7 by omega) with rfl | rfl | rfl | rfl | rfl | rfl | rfl | rfl <;>
      simp [List.getElem?_set] <;> omega
  · intro j hj
    rw [List.getElem?_set_ne (by omega), List.getElem?_set_ne (by omega), List.getElem?_set_ne (by omega), List.getElem?_set_ne (by omega), List.getElem?_set_ne (by omega), List.getElem?_set_ne (by omega), List.getElem?_set_ne (by omega), List.getElem?_set_ne (by omega)]
theorem Blk.store8 {w : World} {g t : Nat} {cs : List Value} (h : Blk w g t cs) (o S : Nat) (hl : o + 8 ≤ cs.length) : Blk (store8 w g o S) g t (put8 cs o S) := by
  have := ((((((((h.set o (.int .u64 (limb S 0))).set (o + 1) (.int .u64 (limb S 1))).set (o + 2) (.int .u64 (limb S 2))).set (o + 3) (.int .u64 (limb S 3))).set (o + 4) (.int .u64 (limb S 4))).set (o + 5) (.int .u64 (limb S 5))).set (o + 6) (.int .u64 (limb S 6))).set (o + 7) (.int .u64 (limb S 7)))
  rw [store8_list hl] at this
  exact this
theorem Chg.store8 {L : List Nat} {a w : World} {g : Nat} (h : Chg L a w) (hp : g ∈ L ∨ a.heap.size ≤ g) (o S : Nat) : Chg L a (store8 w g o S) :=
  (((((((h.setCell hp _).setCell hp _).setCell hp _).setCell hp _).setCell hp _).setCell hp _).setCell hp _).setCell hp _
theorem store8_self (w : World) (g o S : Nat) : Chg [g] w (PA.store8 w g o S) := (Chg.refl _ _).store8 (by simp) o S

/-- The places of a set in ascending order. -/
def places (S : Nat) : List Nat := (List.range 512).filter fun i => S.testBit i
end Go.Proofs.YtaphblnelmncaaaDoor.PA
end

section
/- The walks over places.add and places.join, places.meets. -/
namespace Go.Proofs.YtaphblnelmncaaaDoor.PA
open Go.RowKit Go.Proofs.YtaphblnelmncaaaDoorW.PrintWords Go.Proofs.YtaphblnelmncaaaDoorW.PrintLast Go.Proofs.YtaphblnelmncaaaDoorW.PrintMore

theorem add_done {g t o n : Nat} {cs : List Value} {S : Nat} {w : World} (h1 : n < 512) (hb : Blk w g t cs) (ha : At8 cs o S) :
    Blk (w.setCell ⟨g, o + n / 64, none⟩ (.int .u64 (bits .or .u64 (limb S (n / 64)) (IntKind.u64.wrap (2 ^ (n % 64)))))).drew g t (put8 cs o (S ||| 1 <<< n)) ∧
    Chg [g] w (w.setCell ⟨g, o + n / 64, none⟩ (.int .u64 (bits .or .u64 (limb S (n / 64)) (IntKind.u64.wrap (2 ^ (n % 64)))))).drew := by
  refine ⟨?_, ((Chg.refl _ _).setCell (by simp) _).drew⟩
  have := hb.set (o + n / 64) (.int .u64 (bits .or .u64 (limb S (n / 64)) (IntKind.u64.wrap (2 ^ (n % 64)))))
  refine Blk.drew ?_
  rw [limb_one_shl, bits_or_limb] at this ⊢
  have e : cs.set (o + n / 64) (.int .u64 (limb (S ||| 1 <<< n) (n / 64))) = put8 cs o (S ||| 1 <<< n) := by
    have hl := ha.1
    apply put8_of_get ha.1
    · intro k hk
      by_cases hkn : k = n / 64
      · subst hkn; rw [List.getElem?_set_self (by omega)]
      · rw [List.getElem?_set_ne (by omega), ha.get hk, limb_or_far _ _ _ hkn]
    · intro j hj
      rw [List.getElem?_set_ne (by omega)]
  rw [e] at this
  exact this

set_option maxHeartbeats 400000 in
/-- places.add: place n joins the set. -/
theorem add_any (g t o : Nat) (cs : List Value) (S : Nat) (n : Nat) (w : World) (h1 : n < 512) (hb : Blk w g t cs) (ha : At8 cs o S) :
    Calls Tryd.prog 70 #[.pointer (some ⟨g, o, none⟩), .int .i64 n] w fun e w' => e = .returned (.tuple #[]) ∧ Blk w' g t (put8 cs o (S ||| 1 <<< n)) ∧ Chg [g] w w' := by
  have hc : w.cell? ⟨g, o + n / 64, none⟩ = some (.int .u64 (limb S (n/64))) := (hb.cell _).trans (ha.get (by omega))
  have hf : w.frozen? ⟨g, o + n / 64, none⟩ = false := hb.frozen _
  have hq : IntKind.i64.wrap ((n : Int).tdiv 64) = ((n / 64 : Nat) : Int) := by
    rw [Int.tdiv_eq_ediv_of_nonneg (by omega)]
    rw [show ((n:Int) / 64) = ((n / 64 : Nat) : Int) by omega]
    exact IntWalk.i64_in _ (by omega)
  have hr : IntKind.i64.wrap ((n : Int).tmod 64) = ((n % 64 : Nat) : Int) := by
    rw [Int.tmod_eq_emod_of_nonneg (by omega)]
    rw [show ((n:Int) % 64) = ((n % 64 : Nat) : Int) by omega]
    exact IntWalk.i64_in _ (by omega)
  have hb' : (n / 64 : Nat) < (8:Int) := by omega
  have HB := Lib.hid hb
  have HA := Lib.hid ha
  clear hb ha
  go_enter Tryd.func70, Tryd.ntmps70
  go_wp2
  go_region
  all_goals (go_end0; exact ⟨rfl, add_done h1 HB.out HA.out⟩)

/-- What has been joined behind k rounds. -/
def upto (S T k : Nat) : Nat := S ||| T % 2 ^ (64 * k)
theorem upto_zero (S T : Nat) : upto S T 0 = S := by simp [upto, Nat.mod_one]
theorem upto_ge (S T k : Nat) (h : Small T) (hk : 512 ≤ 64 * k) : upto S T k = S ||| T := by
  unfold upto
  have e : T % 2 ^ (64 * k) = T := by
    apply Nat.eq_of_testBit_eq
    intro j
    rw [Nat.testBit_mod_two_pow]
    by_cases hj : j < 64 * k
    · simp [hj]
    · rw [h j (by omega)]; simp
  rw [e]
theorem upto_all (S T : Nat) (h : Small T) : upto S T 8 = S ||| T := upto_ge S T 8 h (by omega)
theorem upto_limb (S T k i : Nat) : limb (upto S T k) i = if i < k then limb (S ||| T) i else limb S i := by
  unfold upto
  split
  · apply limb_eq; intro j hj
    rw [Nat.testBit_or, Nat.testBit_or, Nat.testBit_mod_two_pow]
    have : 64 * i + j < 64 * k := by omega
    simp [this]
  · apply limb_eq; intro j hj
    rw [Nat.testBit_or, Nat.testBit_mod_two_pow]
    have : ¬ 64 * i + j < 64 * k := by omega
    simp [this]
theorem upto_step {cs : List Value} {o S T k : Nat} (hl : o + 8 ≤ cs.length) (hk : k < 8) :
    (put8 cs o (upto S T k)).set (o + k) (.int .u64 (bits .or .u64 (limb S k) (limb T k))) = put8 cs o (upto S T (k + 1)) := by
  have hl' := put8_length (S := upto S T k) hl
  apply put8_of_get hl
  · intro i hi
    by_cases h : i = k
    · subst h
      rw [List.getElem?_set_self (by omega), bits_or_limb, upto_limb, if_pos (by omega)]
    · rw [List.getElem?_set_ne (by omega), put8_get_in hl hi, upto_limb, upto_limb]
      by_cases h2 : i < k
      · rw [if_pos h2, if_pos (by omega)]
      · rw [if_neg h2, if_neg (by omega)]
  · intro j hj
    rw [List.getElem?_set_ne (by omega), put8_get_out hl hj]

theorem join_step {g t o S T k : Nat} {cs : List Value} {wr : World} (hl : o + 8 ≤ cs.length) (hk : k < 8) (hb : Blk wr g t (put8 cs o (upto S T k))) :
    Blk (wr.setCell ⟨g, o + k, none⟩ (.int .u64 (bits .or .u64 (limb S k) (limb T k)))).drew g t (put8 cs o (upto S T (k + 1))) := by
  have := hb.set (o + k) (.int .u64 (bits .or .u64 (limb S k) (limb T k)))
  rw [upto_step hl hk] at this
  exact this.drew

set_option maxHeartbeats 1000000 in
/-- places.join: the union. -/
theorem join_any (g t o : Nat) (cs : List Value) (S T : Nat) (w : World) (hT : Small T) (hb : Blk w g t cs) (ha : At8 cs o S) :
    Calls Tryd.prog 68 #[.pointer (some ⟨g, o, none⟩), .agg (pl T).toArray] w fun e w' => e = .returned (.tuple #[]) ∧ Blk w' g t (put8 cs o (S ||| T)) ∧ Chg [g] w w' := by
  obtain ⟨TT, hTT⟩ : ∃ x, x = (pl T).toArray := ⟨_, rfl⟩
  have HT := Lib.hid hTT
  have hgl := hb.lt
  have HB := Lib.hid hb
  have HA := Lib.hid ha
  clear hb ha
  rw [← HT.out]
  clear hTT
  go_enter Tryd.func68, Tryd.ntmps68
  go_wp2
  go_loopw [5] (fun c wr => ∃ k : Nat, k ≤ 8 ∧ c = .int .i64 k ∧ Hid (Blk wr g t (put8 cs o (upto S T k))) ∧ Hid (Blk wr w.heap.size 76 (pl T)) ∧ Hid (Chg [g] w wr)) (fun c _ => 8 - (intOf c).toNat)
  case atStart =>
    refine ⟨0, by omega, rfl, ?_, ?_, Lib.hid ((Chg.refl _ _).alloc _)⟩
    · rw [upto_zero, HA.out.2]; exact Lib.hid (HB.out.alloc _)
    · have := Blk.new w TT 76
      rw [HT.out] at this ⊢
      exact Lib.hid this
  case round =>
    obtain ⟨k, hk, rfl, hB, hC, hG⟩ := hrel
    have hlen := put8_length (S := upto S T k) HA.out.1
    have hl := HA.out.1
    by_cases hlt : k < 8
    · have c1 : wr.cell? ⟨g, o + k, none⟩ = some (.int .u64 (limb S k)) := by
        rw [hB.out.cell, put8_get_in hl hlt, upto_limb, if_neg (by omega)]
      have f1 := hB.out.frozen (o + k)
      have c2 : wr.cell? ⟨w.heap.size, k, none⟩ = some (.int .u64 (limb T k)) := by
        rw [hC.out.cell, pl_get _ _ hlt]
      clear hlen hl
      go_wp2
      go_region
      all_goals go_wp2
      all_goals go_roundw
      case rel => exact ⟨k + 1, by omega, by go_num, Lib.hid (join_step HA.out.1 hlt hB.out), Lib.hid (hC.out.far (by simp; omega) _).drew, Lib.hid (hG.out.setCell (by simp) _).drew⟩
      case measure => simp [intOf]; omega
    · go_wp2
      have : k = 8 := by omega
      subst this
      go_end0
      have h := hB.out
      rw [upto_all _ _ hT] at h
      exact ⟨rfl, h, hG.out⟩
end Go.Proofs.YtaphblnelmncaaaDoor.PA
end

section
/- The places of a set, limb by limb: the lowest bit first. -/
namespace Go.Proofs.YtaphblnelmncaaaDoor.PA

/-- The places of a set below n. -/
def below (S n : Nat) : List Nat := (List.range n).filter fun i => S.testBit i
/-- The places that the bits of x stand for in limb k. -/
def bitsAt (k x : Nat) : List Nat := ((List.range 64).filter fun i => x.testBit i).map fun i => 64 * k + i

theorem filter_lowest {p q : Nat → Bool} {c n : Nat} (hc : c < n) (h1 : p c = true) (h0 : ∀ j, j < c → p j = false) (hq : ∀ j, q j = (p j && !(j == c))) :
    (List.range n).filter p = c :: (List.range n).filter q := by
  have e : List.range n = List.range c ++ (c :: List.range' (c + 1) (n - c - 1)) := by
    rw [List.range_eq_range', List.range_eq_range', ← List.range'_succ]
    have := List.range'_append_1 (s := 0) (m := c) (n := n - c - 1 + 1)
    rw [Nat.zero_add] at this
    rw [this]
    congr 1; omega
  rw [e, List.filter_append, List.filter_append]
  have a : (List.range c).filter p = [] := by
    rw [List.filter_eq_nil_iff]; intro j hj; rw [List.mem_range] at hj; simp [h0 j hj]
  have b : (List.range c).filter q = [] := by
    rw [List.filter_eq_nil_iff]; intro j hj; rw [List.mem_range] at hj; simp [hq, h0 j hj]
  rw [a, b, List.nil_append, List.nil_append, List.filter_cons_of_pos h1, List.filter_cons_of_neg (by simp [hq])]
  congr 1
  apply List.filter_congr
  intro j hj
  rw [List.mem_range'_1] at hj
  rw [hq j]
  have : (j == c) = false := by simp; omega
  rw [this]; simp

theorem low_bits (x : Nat) (h0 : x ≠ 0) (hx : x < 18446744073709551616) :
    Lib.ctz 64 x < 64 ∧ x.testBit (Lib.ctz 64 x) = true ∧ (∀ j, j < Lib.ctz 64 x → x.testBit j = false) ∧ ∀ j, (x &&& (x - 1)).testBit j = (x.testBit j && !(j == Lib.ctz 64 x)) := by
  obtain ⟨m, hm, hk⟩ := Lib.ctzFrom_spec 64 x (by omega) (by omega)
  have e : Lib.ctz 64 x = Lib.ctzFrom 64 x := by simp [Lib.ctz, h0]
  rw [e]
  generalize Lib.ctzFrom 64 x = c at *
  have hp := Nat.two_pow_pos c
  have ht : ∀ j, x.testBit j = (decide (c ≤ j) && (2 * m + 1).testBit (j - c)) := by
    intro j
    rw [hm, Nat.mul_comm, Nat.testBit_mul_two_pow]
  have hx1 : ∀ j, (x - 1).testBit j = if j < c then true else (2 * m).testBit (j - c) := by
    intro j
    have e1 : x - 1 = 2 ^ c * (2 * m) + (2 ^ c - 1) := by
      rw [hm, Nat.mul_add]; omega
    rw [e1, Nat.testBit_two_pow_mul_add _ (by omega)]
    by_cases hj : j < c
    · simp [hj, Nat.testBit_two_pow_sub_one]
    · simp [hj]
  refine ⟨hk, ?_, ?_, ?_⟩
  · rw [ht]; simp [Nat.testBit_zero]
  · intro j hj; rw [ht]
    have : ¬ c ≤ j := by omega
    simp [this]
  · intro j
    rw [Nat.testBit_and, ht, hx1]
    by_cases h1 : j < c
    · have : ¬ c ≤ j := by omega
      simp [this]
    · by_cases h2 : j = c
      · subst h2; simp [Nat.testBit_zero]
      · obtain ⟨i, rfl⟩ : ∃ i, j = c + (i + 1) := ⟨j - c - 1, by omega⟩
        have e3 : c + (i + 1) - c = i + 1 := by omega
        have h3 : c ≤ c + (i + 1) := by omega
        have h4 : ¬ c + (i + 1) = c := by omega
        rw [if_neg h1, e3, Nat.testBit_succ, Nat.testBit_succ]
        have d1 : (2 * m + 1) / 2 = m := by omega
        have d2 : 2 * m / 2 = m := by omega
        rw [d1, d2]
        simp

theorem bitsAt_step (k x : Nat) (h0 : x ≠ 0) (hx : x < 18446744073709551616) : bitsAt k x = (64 * k + Lib.ctz 64 x) :: bitsAt k (x &&& (x - 1)) := by
  obtain ⟨h1, h2, h3, h4⟩ := low_bits x h0 hx
  unfold bitsAt
  rw [filter_lowest h1 h2 h3 h4, List.map_cons]
theorem bitsAt_zero (k : Nat) : bitsAt k 0 = [] := by simp [bitsAt]
theorem below_succ (S k : Nat) : below S (64 * (k + 1)) = below S (64 * k) ++ bitsAt k (S / 2 ^ (64 * k) % 2 ^ 64) := by
  unfold below bitsAt
  have e : List.range (64 * (k + 1)) = List.range (64 * k) ++ (List.range 64).map fun i => 64 * k + i := by
    rw [show 64 * (k + 1) = 64 * k + 64 by omega, List.range_add]
  rw [e, List.filter_append, List.filter_map]
  congr 1
  congr 1
  apply List.filter_congr
  intro i hi
  rw [List.mem_range] at hi
  rw [limb_bit _ _ _ hi]; rfl
theorem below_prefix (S n m : Nat) (h : n ≤ m) : ∃ q, below S m = below S n ++ q := by
  unfold below
  have e : List.range m = List.range n ++ (List.range (m - n)).map fun i => n + i := by
    rw [← List.range_add]; congr 1; omega
  exact ⟨_, by rw [e, List.filter_append]⟩
theorem and_pred_lt (x : Nat) (h0 : x ≠ 0) : x &&& (x - 1) < x := by
  have := Nat.and_le_right (n := x) (m := x - 1)
  omega
end Go.Proofs.YtaphblnelmncaaaDoor.PA
end

section
/- The cells of a list of sets; the trees of patterns; what compile reckons of a tree. -/
namespace Go.Proofs.YtaphblnelmncaaaDoor.PA

/-- The cells of a list of sets of places. -/
def fcells (F : List Nat) : List Value := (F.map pl).flatten
theorem fcells_length (F : List Nat) : (fcells F).length = 8 * F.length := by
  unfold fcells
  induction F with
  | nil => rfl
  | cons a F ih => rw [List.map_cons, List.flatten_cons, List.length_append, ih, pl_length, List.length_cons]; omega
theorem fcells_cons (a : Nat) (F : List Nat) : fcells (a :: F) = pl a ++ fcells F := rfl
theorem fcells_get (F : List Nat) (i k : Nat) (hi : i < F.length) (hk : k < 8) : (fcells F)[8 * i + k]? = some (.int .u64 (limb (F.getD i 0) k)) := by
  induction F generalizing i with
  | nil => simp at hi
  | cons a F ih =>
    rw [fcells_cons]
    cases i with
    | zero => rw [List.getElem?_append_left (by rw [pl_length]; omega)]; simpa using pl_get a k hk
    | succ i =>
      rw [List.getElem?_append_right (by rw [pl_length]; omega), pl_length, show 8 * (i + 1) + k - 8 = 8 * i + k by omega]
      rw [ih i (by simpa using hi)]
      simp
theorem fcells_at8 (F : List Nat) (i : Nat) (hi : i < F.length) : At8 (fcells F) (8 * i) (F.getD i 0) :=
  At8.of_get (by rw [fcells_length]; omega) (fun k hk => fcells_get F i k hi hk)
theorem fcells_put (F : List Nat) (i S : Nat) (hi : i < F.length) : put8 (fcells F) (8 * i) S = fcells (F.set i S) := by
  symm
  apply put8_of_get (by rw [fcells_length]; omega)
  · intro k hk
    rw [fcells_get _ _ _ (by simpa using hi) hk]
    simp [List.getD_eq_getElem?_getD, List.getElem?_set_self hi]
  · intro j hj
    by_cases hjl : j < 8 * F.length
    · obtain ⟨q, r, hr, rfl⟩ : ∃ q r, r < 8 ∧ j = 8 * q + r := ⟨j / 8, j % 8, by omega, by omega⟩
      rw [fcells_get _ q r (by simp; omega) hr, fcells_get _ q r (by omega) hr]
      simp [List.getD_eq_getElem?_getD, List.getElem?_set_ne (show i ≠ q by omega)]
    · rw [List.getElem?_eq_none (by rw [fcells_length]; simpa using hjl), List.getElem?_eq_none (by rw [fcells_length]; omega)]
theorem fcells_zero (n : Nat) : fcells (List.replicate n 0) = List.replicate (8 * n) (.int .u64 0) := by
  induction n with
  | zero => rfl
  | succ n ih =>
    rw [List.replicate_succ, fcells_cons, ih, pl_zero, List.replicate_append_replicate]; congr 1; omega

/-- Each place of a list is followed by the set T as well. -/
def linkAll (T : Nat) (l : List Nat) (F : List Nat) : List Nat := l.foldl (fun F i => F.set i (F.getD i 0 ||| T)) F
theorem linkAll_length (T : Nat) (l F : List Nat) : (linkAll T l F).length = F.length := by
  induction l generalizing F with
  | nil => rfl
  | cons a l ih => unfold linkAll at *; rw [List.foldl_cons, ih]; simp
theorem linkAll_snoc (T : Nat) (l : List Nat) (i : Nat) (F : List Nat) : linkAll T (l ++ [i]) F = (linkAll T l F).set i ((linkAll T l F).getD i 0 ||| T) := by
  unfold linkAll; rw [List.foldl_append]; rfl

/-- A regular expression: the tree of a pattern; leaves bear their places. -/
inductive Re where
  | emp
  | rng (lo hi : Int) (at_ : Nat)
  | seq (a b : Re)
  | alt (a b : Re)
  | rep (a : Re)

namespace Re
def null : Re → Bool
  | emp => true
  | rng _ _ _ => false
  | seq a b => a.null && b.null
  | alt a b => a.null || b.null
  | rep _ => true
def first : Re → Nat
  | emp => 0
  | rng _ _ i => 0 ||| 1 <<< i
  | seq a b => if a.null then a.first ||| b.first else a.first
  | alt a b => a.first ||| b.first
  | rep a => a.first
def last : Re → Nat
  | emp => 0
  | rng _ _ i => 0 ||| 1 <<< i
  | seq a b => if b.null then b.last ||| a.last else b.last
  | alt a b => a.last ||| b.last
  | rep a => a.last
def link (F : List Nat) : Re → List Nat
  | emp => F
  | rng _ _ _ => F
  | seq a b => linkAll b.first (below a.last 512) (b.link (a.link F))
  | alt a b => b.link (a.link F)
  | rep a => linkAll a.first (below a.last 512) (a.link F)
def size : Re → Nat
  | emp => 1
  | rng _ _ _ => 1
  | seq a b => a.size + b.size + 1
  | alt a b => a.size + b.size + 1
  | rep a => a.size + 1
theorem link_length (t : Re) : ∀ F, (t.link F).length = F.length := by
  induction t with
  | emp => exact fun F => rfl
  | rng => exact fun F => rfl
  | seq a b ha hb => intro F; simp only [link]; rw [linkAll_length, hb, ha]
  | alt a b ha hb => intro F; simp only [link]; rw [hb, ha]
  | rep a ha => intro F; simp only [link]; rw [linkAll_length, ha]
end Re

/-- Node i of the pattern p is the tree t. -/
inductive IsRe (p : List S50) : Nat → Re → Prop where
  | emp (i : Nat) (x : S50) (h : p[i]? = some x) (hk : x.f0 = 0) : IsRe p i .emp
  | rng (i : Nat) (x : S50) (h : p[i]? = some x) (hk : x.f0 = 1) : IsRe p i (.rng x.f1 x.f2 i)
  | seq (i : Nat) (x : S50) (a b : Nat) (s t : Re) (h : p[i]? = some x) (hk : x.f0 = 2) (ha : x.f3 = a) (hb : x.f4 = b) (hs : IsRe p a s) (ht : IsRe p b t) : IsRe p i (.seq s t)
  | alt (i : Nat) (x : S50) (a b : Nat) (s t : Re) (h : p[i]? = some x) (hk : x.f0 = 3) (ha : x.f3 = a) (hb : x.f4 = b) (hs : IsRe p a s) (ht : IsRe p b t) : IsRe p i (.alt s t)
  | rep (i : Nat) (x : S50) (a : Nat) (s : Re) (h : p[i]? = some x) (hk : x.f0 = 4) (ha : x.f3 = a) (hs : IsRe p a s) : IsRe p i (.rep s)
theorem IsRe.lt {p : List S50} {i : Nat} {t : Re} (h : IsRe p i t) : i < p.length := by
  cases h <;> (rename_i h; exact (List.getElem?_eq_some_iff.1 (by assumption)).1)
theorem IsRe.small {p : List S50} (hp : p.length ≤ 512) {i : Nat} {t : Re} (h : IsRe p i t) : Small t.first ∧ Small t.last := by
  induction h with
  | emp => exact ⟨Small.zero, Small.zero⟩
  | rng i x h => have := (List.getElem?_eq_some_iff.1 h).1; exact ⟨Small.zero.or (Small.one (by omega)), Small.zero.or (Small.one (by omega))⟩
  | seq i x a b s t h hk ha hb hs ht ihs iht =>
    simp only [Re.first, Re.last]
    refine ⟨?_, ?_⟩
    · split; exact ihs.1.or iht.1; exact ihs.1
    · split; exact iht.2.or ihs.2; exact iht.2
  | alt i x a b s t h hk ha hb hs ht ihs iht => exact ⟨ihs.1.or iht.1, ihs.2.or iht.2⟩
  | rep i x a s h hk ha hs ih => exact ih
/-- The places of a tree are nodes of the pattern. -/
theorem IsRe.places {p : List S50} {i : Nat} {t : Re} (h : IsRe p i t) : (∀ j, t.first.testBit j = true → j < p.length) ∧ ∀ j, t.last.testBit j = true → j < p.length := by
  induction h with
  | emp => exact ⟨fun j hj => by simp [Re.first] at hj, fun j hj => by simp [Re.last] at hj⟩
  | rng i x h =>
    have hl := (List.getElem?_eq_some_iff.1 h).1
    have : ∀ j, (0 ||| 1 <<< i).testBit j = true → j < p.length := fun j hj => by
      rw [Nat.zero_or, Nat.shiftLeft_eq, Nat.one_mul, Nat.testBit_two_pow] at hj
      simp at hj; omega
    exact ⟨this, this⟩
  | seq i x a b s t h hk ha hb hs ht ihs iht =>
    refine ⟨fun j hj => ?_, fun j hj => ?_⟩
    · simp only [Re.first] at hj
      split at hj
      · rw [Nat.testBit_or, Bool.or_eq_true] at hj; exact hj.elim (ihs.1 j) (iht.1 j)
      · exact ihs.1 j hj
    · simp only [Re.last] at hj
      split at hj
      · rw [Nat.testBit_or, Bool.or_eq_true] at hj; exact hj.elim (iht.2 j) (ihs.2 j)
      · exact iht.2 j hj
  | alt i x a b s t h hk ha hb hs ht ihs iht =>
    exact ⟨fun j hj => by simp only [Re.first] at hj; rw [Nat.testBit_or, Bool.or_eq_true] at hj; exact hj.elim (ihs.1 j) (iht.1 j),
      fun j hj => by simp only [Re.last] at hj; rw [Nat.testBit_or, Bool.or_eq_true] at hj; exact hj.elim (ihs.2 j) (iht.2 j)⟩
  | rep i x a s h hk ha hs ih => exact ih
theorem mem_below {S n i : Nat} : i ∈ below S n ↔ i < n ∧ S.testBit i = true := by simp [below]
end Go.Proofs.YtaphblnelmncaaaDoor.PA
end

section
/- What a machine does with a string, byte by byte. -/
namespace Go.Proofs.YtaphblnelmncaaaDoor.PA
open Go.Proofs.YtaphblnelmncaaaDoorW.PrintWords

/-- Does node i of the pattern take the byte b? -/
def hit (p : List S50) (i : Nat) (b : Int) : Bool := decide ((rd_T50 p i).f1 ≤ b) && decide (b ≤ (rd_T50 p i).f2)
/-- The places of a list that take the byte b, added to R. -/
def stepR (p : List S50) (b : Int) (l : List Nat) (R : Nat) : Nat := l.foldl (fun R i => if hit p i b then R ||| 1 <<< i else R) R
/-- What follows the places of a list that take the byte b, added to X. -/
def stepN (p : List S50) (F : List Nat) (b : Int) (l : List Nat) (X : Nat) : Nat := l.foldl (fun X i => if hit p i b then X ||| F.getD i 0 else X) X
theorem stepR_snoc (p : List S50) (b : Int) (l : List Nat) (i R : Nat) : stepR p b (l ++ [i]) R = if hit p i b then stepR p b l R ||| 1 <<< i else stepR p b l R := by
  unfold stepR; rw [List.foldl_append]; rfl
theorem stepN_snoc (p : List S50) (F : List Nat) (b : Int) (l : List Nat) (i X : Nat) : stepN p F b (l ++ [i]) X = if hit p i b then stepN p F b l X ||| F.getD i 0 else stepN p F b l X := by
  unfold stepN; rw [List.foldl_append]; rfl
theorem stepR_bit (p : List S50) (b : Int) (l : List Nat) (R j : Nat) : (stepR p b l R).testBit j = (R.testBit j || decide (j ∈ l ∧ hit p j b = true)) := by
  induction l generalizing R with
  | nil => simp [stepR]
  | cons a l ih =>
    have : stepR p b (a :: l) R = stepR p b l (if hit p a b then R ||| 1 <<< a else R) := rfl
    rw [this, ih]
    by_cases h : hit p a b = true
    · rw [if_pos h, Nat.testBit_or, Nat.shiftLeft_eq, Nat.one_mul, Nat.testBit_two_pow]
      by_cases hj : a = j
      · subst hj; simp [h]
      · have : ¬ j = a := fun e => hj e.symm
        simp [hj, this]
    · rw [if_neg h]
      have : (j ∈ a :: l ∧ hit p j b = true) ↔ (j ∈ l ∧ hit p j b = true) := by
        constructor
        · rintro ⟨h1, h2⟩
          rcases List.mem_cons.1 h1 with rfl | h1
          · exact absurd h2 h
          · exact ⟨h1, h2⟩
        · rintro ⟨h1, h2⟩; exact ⟨List.mem_cons_of_mem _ h1, h2⟩
      simp only [this]
theorem stepN_bit (p : List S50) (F : List Nat) (b : Int) (l : List Nat) (X j : Nat) : (stepN p F b l X).testBit j = true ↔ X.testBit j = true ∨ ∃ i, i ∈ l ∧ hit p i b = true ∧ (F.getD i 0).testBit j = true := by
  induction l generalizing X with
  | nil => simp [stepN]
  | cons a l ih =>
    have : stepN p F b (a :: l) X = stepN p F b l (if hit p a b then X ||| F.getD a 0 else X) := rfl
    rw [this, ih]
    by_cases h : hit p a b = true
    · rw [if_pos h, Nat.testBit_or, Bool.or_eq_true]
      constructor
      · rintro ((h1 | h1) | ⟨i, h1, h2, h3⟩)
        · exact .inl h1
        · exact .inr ⟨a, List.mem_cons_self, h, h1⟩
        · exact .inr ⟨i, List.mem_cons_of_mem _ h1, h2, h3⟩
      · rintro (h1 | ⟨i, h1, h2, h3⟩)
        · exact .inl (.inl h1)
        · rcases List.mem_cons.1 h1 with rfl | h1
          · exact .inl (.inr h3)
          · exact .inr ⟨i, h1, h2, h3⟩
    · rw [if_neg h]
      constructor
      · rintro (h1 | ⟨i, h1, h2, h3⟩)
        · exact .inl h1
        · exact .inr ⟨i, List.mem_cons_of_mem _ h1, h2, h3⟩
      · rintro (h1 | ⟨i, h1, h2, h3⟩)
        · exact .inl h1
        · rcases List.mem_cons.1 h1 with rfl | h1
          · exact absurd h2 h
          · exact .inr ⟨i, h1, h2, h3⟩
/-- Do two sets have a common place? -/
def meetsB (S T : Nat) : Bool := !(S &&& T == 0)
/-- For each nonempty prefix that some way through the machine reads: is it matched? -/
def runs (p : List S50) (F : List Nat) (last : Nat) : List Int → Nat → List Bool
  | [], _ => []
  | b :: bs, S => if stepR p b (below S 512) 0 = 0 then [] else meetsB (stepR p b (below S 512) 0) last :: runs p F last bs (stepN p F b (below S 512) 0)
theorem small_of {S : Nat} (h : ∀ i, S.testBit i = true → i < 512) : Small S := fun i hi => by
  cases e : S.testBit i
  · rfl
  · have := h i e; omega
theorem Small.lt {S : Nat} (h : Small S) {i : Nat} (hi : S.testBit i = true) : i < 512 := by
  rcases Nat.lt_or_ge i 512 with h1 | h1
  · exact h1
  · rw [h i h1] at hi; cases hi
/-- All sets of a list lie below n. -/
def Within (F : List Nat) (n : Nat) : Prop := ∀ i j, (F.getD i 0).testBit j = true → j < n
theorem within_zero (n m : Nat) : Within (List.replicate n 0) m := fun i j h => by
  simp [List.getD_eq_getElem?_getD, List.getElem?_replicate] at h
  split at h <;> simp at h
theorem linkAll_within {F : List Nat} {n T : Nat} (h : Within F n) (hT : ∀ j, T.testBit j = true → j < n) (l : List Nat) : Within (linkAll T l F) n := by
  induction l generalizing F with
  | nil => exact h
  | cons a l ih =>
    have e : linkAll T (a :: l) F = linkAll T l (F.set a (F.getD a 0 ||| T)) := rfl
    rw [e]
    refine ih fun i j hj => ?_
    by_cases hia : a = i
    · subst hia
      by_cases ha : a < F.length
      · simp only [List.getD_eq_getElem?_getD, List.getElem?_set_self ha, Option.getD_some, Nat.testBit_or, Bool.or_eq_true] at hj
        rcases hj with hj | hj
        · exact h a j (by rw [List.getD_eq_getElem?_getD]; exact hj)
        · exact hT j hj
      · rw [List.set_eq_of_length_le (by omega)] at hj
        exact h a j hj
    · rw [List.getD_eq_getElem?_getD, List.getElem?_set_ne hia] at hj
      exact h i j (by rw [List.getD_eq_getElem?_getD]; exact hj)
theorem link_within {p : List S50} {i : Nat} {t : Re} (h : IsRe p i t) : ∀ F, Within F p.length → Within (t.link F) p.length := by
  induction h with
  | emp => exact fun F hF => hF
  | rng => exact fun F hF => hF
  | seq i x a b s t h hk ha hb hs ht ihs iht => exact fun F hF => linkAll_within (iht _ (ihs _ hF)) ht.places.1 _
  | alt i x a b s t h hk ha hb hs ht ihs iht => exact fun F hF => iht _ (ihs _ hF)
  | rep i x a s h hk ha hs ih => exact fun F hF => linkAll_within (ih _ hF) hs.places.1 _
end Go.Proofs.YtaphblnelmncaaaDoor.PA
end

section
/- The walks over bits.TrailingZeros64, places.meets and places.each. -/
namespace Go.Proofs.YtaphblnelmncaaaDoor.PA
open Go.RowKit Go.Proofs.YtaphblnelmncaaaDoorW.PrintWords Go.Proofs.YtaphblnelmncaaaDoorW.PrintLast Go.Proofs.YtaphblnelmncaaaDoorW.PrintMore

/-- The library's table lies in its variable. -/
def Tab (w : World) : Prop := 0 < w.heap.size ∧ TabAt 0 Lib.deBruijn64tab w
theorem Tab.chg {L : List Nat} {w w' : World} (h : Tab w) (k : Chg L w w') (h0 : 0 ∉ L) : Tab w' :=
  ⟨Nat.lt_of_lt_of_le h.1 k.size, fun j hj => (World.cell?_of_block (k.block 0 h.1 h0)).trans (h.2 j hj)⟩

set_option maxHeartbeats 1000000 in
theorem tz64_core (x k idx : Nat) (w : World) (hx0 : ((x : Int) == 0) = false)
    (key : IntKind.u64.wrap (bits BinOp.and IntKind.u64 (x : Int) (IntKind.u64.wrap (-(x : Int))) * 285870213051353865) / 288230376151711744 = (idx : Int))
    (hi : idx < 64) (hk : k < 64) (hcell : w.cell? ⟨0, idx, none⟩ = some (.int .u8 k)) :
    Calls Tryd.prog 89 #[.int .u64 x] w fun e w' => e = .returned (.int .i64 k) ∧ w = w' := by
  go_enter Tryd.func89, Tryd.ntmps89
  go_wp2_with (simp only [key])
  go_ret
  exact ⟨rfl, rfl⟩

/-- bits.TrailingZeros64 of a number that is not 0. -/
theorem tz64_any (x : Nat) (hx : x < 18446744073709551616) (hx0 : x ≠ 0) (w : World) (hT : Tab w) :
    Calls Tryd.prog 89 #[.int .u64 x] w fun e w' => e = .returned (.int .i64 (Lib.ctz 64 x)) ∧ w = w' := by
  obtain ⟨hlow, hk⟩ := Lib.lowest_bit 64 x hx0 hx
  obtain ⟨hi, htab⟩ := Lib.deBruijn64_at _ hk
  have hcell := hT.2 _ hi
  rw [htab] at hcell
  exact tz64_core x _ _ w (by simp; omega) (tz64_key x _ hx hx0 hlow) hi hk hcell

theorem meet_limbs {S T : Nat} (hS : Small S) (h : ∀ k, k < 8 → limb (S &&& T) k = 0) : meetsB S T = false := by
  have : S &&& T = 0 := by
    apply Nat.eq_of_testBit_eq
    intro j
    rw [Nat.zero_testBit]
    by_cases hj : j < 512
    · have := h (j / 64) (by omega)
      have e := limb_bit (S &&& T) (j / 64) (j % 64) (by omega)
      rw [show (S &&& T) / 2 ^ (64 * (j / 64)) % 2 ^ 64 = 0 by unfold limb at this; omega] at e
      rw [Nat.zero_testBit] at e
      rw [show j = 64 * (j / 64) + j % 64 by omega, ← e]
    · rw [Nat.testBit_and, hS j (by omega)]; rfl
  simp [meetsB, this]
theorem meet_limb {S T k : Nat} (h : limb (S &&& T) k ≠ 0) : meetsB S T = true := by
  have : S &&& T ≠ 0 := by intro e; rw [e, limb_zero] at h; exact h rfl
  simp [meetsB, this]

set_option maxHeartbeats 1000000 in
/-- places.meets. -/
theorem meets_any (g t o : Nat) (cs : List Value) (S T : Nat) (w : World) (hS : Small S) (hb : Blk w g t cs) (ha : At8 cs o S) :
    Calls Tryd.prog 72 #[.pointer (some ⟨g, o, none⟩), .agg (pl T).toArray] w fun e w' => e = .returned (.bool (meetsB S T)) ∧ Chg [] w w' := by
  obtain ⟨TT, hTT⟩ : ∃ x, x = (pl T).toArray := ⟨_, rfl⟩
  have HT := Lib.hid hTT
  have hgl := hb.lt
  have HB := Lib.hid hb
  have HA := Lib.hid ha
  clear hb ha
  rw [← HT.out]
  clear hTT
  go_enter Tryd.func72, Tryd.ntmps72
  go_wp2
  go_loopw [6] (fun c wr => ∃ k : Nat, k ≤ 8 ∧ c = .int .i64 k ∧ Hid (∀ i, i < k → limb (S &&& T) i = 0) ∧ Hid (Blk wr w.heap.size 76 (pl T)) ∧ Hid (Chg [] w wr)) (fun c _ => 8 - (intOf c).toNat)
  case atStart =>
    refine ⟨0, by omega, rfl, Lib.hid (fun i hi => by omega), ?_, Lib.hid ((Chg.refl _ _).alloc _)⟩
    · have := Blk.new w TT 76
      rw [HT.out] at this ⊢
      exact Lib.hid this
  case round =>
    obtain ⟨k, hk, rfl, hZ, hC, hG⟩ := hrel
    by_cases hlt : k < 8
    · have c1 : wr.cell? ⟨g, o + k, none⟩ = some (.int .u64 (limb S k)) := by
        rw [(HB.out.keep hG.out (by simp)).cell, HA.out.get hlt]
      have c2 : wr.cell? ⟨w.heap.size, k, none⟩ = some (.int .u64 (limb T k)) := by
        rw [hC.out.cell, pl_get _ _ hlt]
      by_cases hz : limb (S &&& T) k = 0
      · have hz' : (bits .and .u64 (limb S k) (limb T k) != 0) = false := by rw [bits_and_limb, hz]; rfl
        have HZ := Lib.hid hz
        clear hz
        go_wp2
        go_quiet (fail)
        go_wp2
        go_roundw
        case rel => exact ⟨k + 1, by omega, by go_num, Lib.hid (fun i hi => by rcases Nat.lt_or_ge i k with h | h; exact hZ.out i h; rw [show i = k by omega]; exact HZ.out), Lib.hid (hC.out.drewN _), Lib.hid (hG.out.drewN _)⟩
        case measure => simp [intOf]; omega
      · have hz' : (bits .and .u64 (limb S k) (limb T k) != 0) = true := by rw [bits_and_limb]; simpa using hz
        have HZ := Lib.hid hz
        clear hz
        go_wp2
        go_quiet (fail)
        go_wp2
        go_ret
        exact ⟨ret_bool (meet_limb HZ.out).symm, hG.out.drewN _⟩
    · go_wp2
      have : k = 8 := by omega
      subst this
      go_ret
      exact ⟨ret_bool (meet_limbs hS hZ.out).symm, hG.out⟩
end Go.Proofs.YtaphblnelmncaaaDoor.PA
end

section
/- The walk over places.each: the function value is called with each place in ascending order. -/
namespace Go.Proofs.YtaphblnelmncaaaDoor.PA
open Go.RowKit Go.Proofs.YtaphblnelmncaaaDoorW.PrintWords Go.Proofs.YtaphblnelmncaaaDoorW.PrintLast Go.Proofs.YtaphblnelmncaaaDoorW.PrintMore

theorem limb_cast (S k : Nat) : limb S k = ((S / 2 ^ (64 * k) % 2 ^ 64 : Nat) : Int) := rfl
theorem u64_and_pred (x : Nat) (h0 : x ≠ 0) (hx : x < 18446744073709551616) : bits .and .u64 (x : Int) (IntKind.u64.wrap ((x : Int) - 1)) = ((x &&& (x - 1) : Nat) : Int) := by
  have e : IntKind.u64.wrap ((x : Int) - 1) = ((x - 1 : Nat) : Int) := by
    simp [IntKind.wrap, IntKind.bits, IntKind.signed]; omega
  rw [e, u64_and_nat _ _ hx (by omega)]

set_option maxHeartbeats 2000000 in
theorem each_any (g t o S F : Nat) (caps : Array Value) (I : List Nat → World → Prop) (w : World)
    (hF : ∀ args w, (callFunc F args).run Tryd.prog w = .ok (.enter F args) w)
    (h0 : I [] w) (hd : ∀ l w n, I l w → I l (w.drewN n))
    (hr : ∀ l w, I l w → Tab w ∧ ∃ cs, Blk w g t cs ∧ At8 cs o S)
    (hI : ∀ l i r, below S 512 = l ++ i :: r → ∀ w, I l w → Calls Tryd.prog F (#[.int .i64 (i : Int)] ++ caps) w fun e w' => e = .returned (.tuple #[]) ∧ I (l ++ [i]) w') :
    Calls Tryd.prog 66 #[.pointer (some ⟨g, o, none⟩), .func (.func F) #[] caps] w fun e w' => e = .returned (.tuple #[]) ∧ I (below S 512) w' := by
  have H0 := Lib.hid h0
  have HD := Lib.hid hd
  have HR := Lib.hid hr
  have HI := Lib.hid hI
  clear h0 hd hr hI
  go_enter Tryd.func66, Tryd.ntmps66
  go_wp2
  go_loopw [7] (fun c wr => ∃ k : Nat, k ≤ 8 ∧ c = .int .i64 k ∧ Hid (I (below S (64 * k)) wr)) (fun c _ => 8 - (intOf c).toNat)
  case atStart => exact ⟨0, by omega, rfl, Lib.hid (by simpa [below] using H0.out)⟩
  case round =>
    obtain ⟨k, hk, rfl, hL⟩ := hrel
    by_cases hlt : k < 8
    · obtain ⟨hT, cs, hB, hA⟩ := HR.out _ _ hL.out
      have c1 : wr.cell? ⟨g, o + k, none⟩ = some (.int .u64 (limb S k)) := by rw [hB.cell, hA.get hlt]
      obtain ⟨x0, hx0⟩ : ∃ x0 : Nat, x0 = S / 2 ^ (64 * k) % 2 ^ 64 := ⟨_, rfl⟩
      have HX0 : Hid (limb S k = (x0 : Int)) := Lib.hid (by rw [hx0]; rfl)
      have HBK : Hid (below S (64 * (k + 1)) = below S (64 * k) ++ bitsAt k x0) := Lib.hid (by rw [hx0]; exact below_succ S k)
      have hx64 : x0 < 18446744073709551616 := by rw [hx0]; exact limb_lt' S k
      rw [HX0.out] at c1
      clear hx0
      have hkI : decide ((k : Int) < 8) = true := by simp; omega
      clear hT hB hA
      go_wp2
      go_quiet (fail)
      go_wp2
      obtain ⟨wo, hwo⟩ : ∃ wo : World, wo = wr.drewN nq := ⟨_, rfl⟩
      have hLo : Hid (I (below S (64 * k)) wo) := Lib.hid (by rw [hwo]; exact HD.out _ _ _ hL.out)
      rw [← hwo]
      clear hwo hL c1
      go_loopw [5] (fun c wi => ∃ (x : Nat) (l : List Nat), c = .int .u64 x ∧ x < 18446744073709551616 ∧ Hid (l ++ bitsAt k x = below S (64 * (k + 1))) ∧ Hid (I l wi)) (fun c _ => (intOf c).toNat)
      case atStart => exact ⟨_, _, rfl, hx64, Lib.hid HBK.out.symm, hLo⟩
      case round =>
        obtain ⟨x, l, rfl, hx, hl, hi⟩ := hrel
        by_cases hx0 : x = 0
        · subst hx0
          have HL : Hid (l = below S (64 * (k + 1))) := Lib.hid (by have := hl.out; rwa [bitsAt_zero, List.append_nil] at this)
          clear hl
          go_wp2
          go_roundw
          case rel => exact ⟨k + 1, by omega, by go_num, Lib.hid (by rw [← HL.out]; exact hi.out)⟩
          case measure => simp [intOf]; omega
        · obtain ⟨hT, cs', hB', hA'⟩ := HR.out _ _ hi.out
          clear hB' hA'
          have hc64 : Lib.ctz 64 x < 64 := (low_bits x hx0 hx).1
          have HS : Hid (bitsAt k x = (64 * k + Lib.ctz 64 x) :: bitsAt k (x &&& (x - 1))) := Lib.hid (bitsAt_step k x hx0 hx)
          have HN : Hid ((l ++ [64 * k + Lib.ctz 64 x]) ++ bitsAt k (x &&& (x - 1)) = below S (64 * (k + 1))) := Lib.hid (by have := hl.out; rw [HS.out] at this; simpa using this)
          have HP : Hid (∃ r, below S 512 = l ++ (64 * k + Lib.ctz 64 x) :: r) := Lib.hid (by
            obtain ⟨q, hq⟩ := below_prefix S (64 * (k + 1)) 512 (by omega)
            have := hl.out; rw [HS.out] at this
            exact ⟨bitsAt k (x &&& (x - 1)) ++ q, by rw [hq, ← this]; simp⟩)
          have HX : Hid (x &&& (x - 1) < x) := Lib.hid (and_pred_lt x hx0)
          have hx0b : ((x : Int) != 0) = true := by simp; omega
          have HU := Lib.hid (u64_and_pred x hx0 hx)
          have HT89 := Lib.hid (tz64_any x hx hx0 wr hT)
          have HX0 := Lib.hid hx0
          clear hx0 hT
          generalize Lib.ctz 64 x = c at *
          go_wp2_with (go_at_call 89; refine HT89.out.mono ?_; rintro e w' ⟨rfl, rfl⟩)
          rw [show (64 * (k : Int) + (c : Int)) = ((64 * k + c : Nat) : Int) by omega]
          obtain ⟨r, hr'⟩ := HP.out
          refine (HI.out l (64 * k + c) r hr' wr hi.out).mono ?_
          clear hr'
          rintro e w2 ⟨rfl, hi2⟩
          have HI2 := Lib.hid hi2
          clear hi2
          go_wp2
          go_roundw
          case rel => exact ⟨x &&& (x - 1), _, by rw [HU.out], by have := HX.out; omega, HN, HI2⟩
          case measure => rw [HU.out]; simp [intOf]; exact HX.out
    · go_wp2
      have : k = 8 := by omega
      subst this
      go_end0
      exact ⟨rfl, hL.out⟩
end Go.Proofs.YtaphblnelmncaaaDoor.PA
end

section
/- The walks over compile's closures: link and what it does at one place. -/
namespace Go.Proofs.YtaphblnelmncaaaDoor.PA
open Go.RowKit Go.Proofs.YtaphblnelmncaaaDoorW.PrintWords Go.Proofs.YtaphblnelmncaaaDoorW.PrintLast Go.Proofs.YtaphblnelmncaaaDoorW.PrintMore

/-- join, the argument written out. -/
theorem join_ex (g t o : Nat) (cs : List Value) (S T : Nat) (w : World) (hT : Small T) (hb : Blk w g t cs) (ha : At8 cs o S) :
    Calls Tryd.prog 68 #[.pointer (some ⟨g, o, none⟩), .agg #[.int .u64 (limb T 0), .int .u64 (limb T 1), .int .u64 (limb T 2), .int .u64 (limb T 3), .int .u64 (limb T 4), .int .u64 (limb T 5), .int .u64 (limb T 6), .int .u64 (limb T 7)]] w fun e w' => e = .returned (.tuple #[]) ∧ Blk w' g t (put8 cs o (S ||| T)) ∧ Chg [g] w w' := join_any g t o cs S T w hT hb ha

set_option maxHeartbeats 1000000 in
/-- compile$1$1: place i is followed by the set in the captured variable, too. -/
theorem link1_any (mv tv mb fb T i n : Nat) (mc : List Value) (F : List Nat) (w : World) (hT : Small T)
    (hm : Blk w mv 61 [.pointer (some ⟨mb, 0, none⟩)]) (ht : Blk w tv 76 (pl T)) (hmb : Blk w mb 79 mc) (hf : mc[17]? = some (.slice (some ⟨fb, 0, none⟩) n n))
    (hfb : Blk w fb 76 (fcells F)) (hn : F.length = n) (hi : i < n) (hn5 : n ≤ 512) :
    Calls Tryd.prog 67 #[.int .i64 (i : Int), .pointer (some ⟨mv, 0, none⟩), .pointer (some ⟨tv, 0, none⟩)] w fun e w' => e = .returned (.tuple #[]) ∧ Blk w' fb 76 (fcells (F.set i (F.getD i 0 ||| T))) ∧ Chg [fb] w w' := by
  subst hn
  have c1 : w.cell? ⟨mv, 0, none⟩ = some (.pointer (some ⟨mb, 0, none⟩)) := hm.cell 0
  have c2 : w.cell? ⟨mb, 17, none⟩ = some (.slice (some ⟨fb, 0, none⟩) F.length F.length) := (hmb.cell 17).trans hf
  have hib : (i : Int) < (F.length : Int) := by omega
  obtain ⟨e0, e1, e2, e3, e4, e5, e6, e7⟩ := cells8 (o := 0) ht (fun k hk => by rw [Nat.zero_add]; exact pl_get T k hk)
  simp only [Nat.zero_add] at e1 e2 e3 e4 e5 e6 e7
  have HA := Lib.hid (Nat.mul_comm 8 i ▸ fcells_at8 F i hi : At8 (fcells F) (i * 8) (F.getD i 0))
  have HB := Lib.hid hfb
  clear hfb hmb hm ht
  go_enter Tryd.func67, Tryd.ntmps67
  go_wp2
  go_region_with (go_at_call 68; refine (join_ex fb 76 (i * 8) (fcells F) (F.getD i 0) T _ hT (HB.out.drew) HA.out).mono ?_; rintro e w' ⟨rfl, h1, h2⟩; have HO := Lib.hid (And.intro h1 h2); clear h1 h2)
  all_goals (go_end0; refine ⟨rfl, ?_, (Chg.refl _ _).drew.then HO.out.2 (by simp)⟩; have h := HO.out.1; rw [Nat.mul_comm i 8, fcells_put F i _ hi] at h; exact h)

theorem enters67 : ∀ args w, (callFunc 67 args).run Tryd.prog w = .ok (.enter 67 args) w := enters_of Tryd.func67 (by kernel_rfl) rfl

/-- What stands while link goes through its places. -/
structure LinkInv (mv tv fv mb fb T S n : Nat) (mc : List Value) (F : List Nat) (w0 : World) (l : List Nat) (w : World) : Prop where
  tab : Tab w
  hm : Blk w mv 61 [.pointer (some ⟨mb, 0, none⟩)]
  ht : Blk w tv 76 (pl T)
  hs : Blk w fv 76 (pl S)
  hmb : Blk w mb 79 mc
  hfb : Blk w fb 76 (fcells (linkAll T l F))
  chg : Chg [fb] w0 w

set_option maxHeartbeats 1000000 in
/-- compile$1, link: each place of S is followed by T. -/
theorem link_any (mv mb fb S T n : Nat) (mc : List Value) (F : List Nat) (w : World) (hS : Small S) (hSn : ∀ j, S.testBit j = true → j < n) (hT : Small T) (htab : Tab w) (hfb0 : fb ≠ 0)
    (hm : Blk w mv 61 [.pointer (some ⟨mb, 0, none⟩)]) (hmb : Blk w mb 79 mc) (hf : mc[17]? = some (.slice (some ⟨fb, 0, none⟩) n n))
    (hfb : Blk w fb 76 (fcells F)) (hn : F.length = n) (hn5 : n ≤ 512) :
    Calls Tryd.prog 65 #[.agg (pl S).toArray, .agg (pl T).toArray, .pointer (some ⟨mv, 0, none⟩)] w fun e w' => e = .returned (.tuple #[]) ∧ Blk w' fb 76 (fcells (linkAll T (below S 512) F)) ∧ Chg [fb] w w' := by
  obtain ⟨SS, hSS⟩ : ∃ x, x = (pl S).toArray := ⟨_, rfl⟩
  obtain ⟨TT, hTT⟩ : ∃ x, x = (pl T).toArray := ⟨_, rfl⟩
  have HS := Lib.hid hSS
  have HT := Lib.hid hTT
  rw [← HS.out, ← HT.out]
  clear hSS hTT
  have HM := Lib.hid hm
  have HMB := Lib.hid hmb
  have HFB := Lib.hid hfb
  have HF := Lib.hid hf
  have HN := Lib.hid hn
  have l1 := hm.lt
  have l2 := hmb.lt
  have l3 := hfb.lt
  have n1 : mv ≠ fb := hm.ne hfb (by decide)
  have n2 : mb ≠ fb := hmb.ne hfb (by decide)
  clear hm hmb hfb hf hn
  have h1 := Blk.new w SS 76
  have h2 := Blk.new (w.alloc (.cells SS 76)) TT 76
  rw [HS.out] at h1
  rw [HT.out] at h2
  have key := each_any w.heap.size 76 0 S 67 #[.pointer (some ⟨mv, 0, none⟩), .pointer (some ⟨w.heap.size + 1, 0, none⟩)] (LinkInv mv (w.heap.size + 1) w.heap.size mb fb T S n mc F w)
    ((w.alloc (.cells SS 76)).alloc (.cells TT 76)) enters67
    ⟨htab.chg (((Chg.refl [] w).alloc _).alloc _) (by simp), (HM.out.alloc _).alloc _, by rw [HT.out]; simpa using h2, by rw [HS.out]; exact Blk.alloc (by simpa using h1) _, (HMB.out.alloc _).alloc _, (HFB.out.alloc _).alloc _, ((Chg.refl _ w).alloc _).alloc _⟩
    (fun l w n h => ⟨h.tab.chg ((Chg.refl [] w).drewN n) (by simp), h.hm.drewN n, h.ht.drewN n, h.hs.drewN n, h.hmb.drewN n, h.hfb.drewN n, h.chg.drewN n⟩)
    (fun l w h => ⟨h.tab, _, h.hs, pl_at8 S⟩)
    (fun l i r hl w h => by
      have hi : i < n := hSn i (mem_below.1 (by rw [hl]; simp)).2
      refine (link1_any mv _ mb fb T i n mc _ w hT h.hm h.ht h.hmb HF.out h.hfb (by rw [linkAll_length]; exact HN.out) hi hn5).mono ?_
      rintro e w' ⟨rfl, hb, hc⟩
      have g1 := h.ht.lt
      refine ⟨rfl, h.tab.chg hc (by simpa using Ne.symm hfb0), h.hm.keep hc (by simpa using n1), h.ht.keep hc (by simp; omega), h.hs.keep hc (by simp; omega), h.hmb.keep hc (by simpa using n2), by rw [linkAll_snoc]; exact hb, h.chg.then hc (by simp)⟩)
  have KEY := Lib.hid key
  clear key h1 h2
  go_enter Tryd.func65, Tryd.ntmps65
  go_wp2_with (go_at_call 66; refine KEY.out.mono ?_; rintro e w' ⟨rfl, hi⟩; have HI := Lib.hid hi; clear hi)
  go_end0
  exact ⟨rfl, HI.out.hfb, HI.out.chg⟩
end Go.Proofs.YtaphblnelmncaaaDoor.PA
end

section
/- The walk over compile's recursive closure. -/
set_option linter.unusedVariables false
namespace Go.Proofs.YtaphblnelmncaaaDoor.PA
open Go.RowKit Go.Proofs.YtaphblnelmncaaaDoorW.PrintWords Go.Proofs.YtaphblnelmncaaaDoorW.PrintLast Go.Proofs.YtaphblnelmncaaaDoorW.PrintMore

/-- What stands while compile's closure walks over the pattern. -/
structure WalkPre (pv wv lv mv mb fb n : Nat) (A : Option Addr) (c : Nat) (p : List S50) (mc : List Value) (F : List Nat) (w0 w : World) : Prop where
  tab : Tab w
  below : Below w0.heap.size w0 w
  hp : Blk w pv 25 [.slice A p.length c]
  hC : Kd.C k50 w0 A p.length p
  hw : Blk w wv 104 [.func (.func 69) #[] #[.pointer (some ⟨pv, 0, none⟩), .pointer (some ⟨wv, 0, none⟩), .pointer (some ⟨lv, 0, none⟩)]]
  hl : Blk w lv 108 [.func (.func 65) #[] #[.pointer (some ⟨mv, 0, none⟩)]]
  hm : Blk w mv 61 [.pointer (some ⟨mb, 0, none⟩)]
  hmb : Blk w mb 79 mc
  hf : mc[17]? = some (.slice (some ⟨fb, 0, none⟩) n n)
  hfb : Blk w fb 76 (fcells F)
  hn : F.length = n
  hnp : n = p.length
  hn5 : n ≤ 512
  hfb0 : w0.heap.size ≤ fb
  h0 : 0 < w0.heap.size

theorem WalkPre.next {pv wv lv mv mb fb n : Nat} {A : Option Addr} {c : Nat} {p : List S50} {mc : List Value} {F F' : List Nat} {w0 w w' : World} (h : WalkPre pv wv lv mv mb fb n A c p mc F w0 w)
    (hF : F'.length = F.length) (k : Chg [fb] w w') (hb : Blk w' fb 76 (fcells F')) : WalkPre pv wv lv mv mb fb n A c p mc F' w0 w' where
  tab := h.tab.chg k (by have := h.hfb0; have := h.h0; simp; omega)
  below := h.below.trans ⟨k.os, k.tape, k.output, k.size, fun i hi => k.block i (Nat.lt_of_lt_of_le hi h.below.size) (by have := h.hfb0; simp; omega)⟩
  hp := h.hp.keep k (by simpa using h.hp.ne h.hfb (by decide))
  hC := h.hC
  hw := h.hw.keep k (by simpa using h.hw.ne h.hfb (by decide))
  hl := h.hl.keep k (by simpa using h.hl.ne h.hfb (by decide))
  hm := h.hm.keep k (by simpa using h.hm.ne h.hfb (by decide))
  hmb := h.hmb.keep k (by simpa using h.hmb.ne h.hfb (by decide))
  hf := h.hf
  hfb := hb
  hn := by rw [hF]; exact h.hn
  hnp := h.hnp
  hn5 := h.hn5
  hfb0 := h.hfb0
  h0 := h.h0
theorem WalkPre.keep {pv wv lv mv mb fb n : Nat} {A : Option Addr} {c : Nat} {p : List S50} {mc : List Value} {F : List Nat} {w0 w w' : World} (h : WalkPre pv wv lv mv mb fb n A c p mc F w0 w) (k : Chg [] w w') : WalkPre pv wv lv mv mb fb n A c p mc F w0 w' :=
  h.next rfl (k.mono (by simp)) (h.hfb.keep k (by simp))

/-- What compile's closure answers and leaves for a tree. -/
def WalkPost (fb : Nat) (t : Re) (F : List Nat) (w : World) (e : Ending) (w' : World) : Prop :=
  e = .returned (.tuple #[.agg (pl t.first).toArray, .agg (pl t.last).toArray, .bool t.null]) ∧ Blk w' fb 76 (fcells (t.link F)) ∧ Chg [fb] w w'

/-- The two results of compile's closure lie in memory. -/
theorem results_walk (tmps : Array Value) (W : World) (g h S T : Nat) (e : Bool) (t5 : tmps[5]? = some (.pointer (some ⟨g, 0, none⟩))) (t6 : tmps[6]? = some (.pointer (some ⟨h, 0, none⟩))) (t7 : tmps[7]? = some (.bool e))
    (e1 : Blk W g 76 (pl S)) (e2 : Blk W h 76 (pl T)) : (results Tryd.f69 tmps).run Tryd.prog W = .ok (.tuple #[.agg (pl S).toArray, .agg (pl T).toArray, .bool e]) W := by
  obtain ⟨u0, u1, u2, u3, u4, u5, u6, u7⟩ := cells8 (o := 0) e1 (fun k hk => by rw [Nat.zero_add]; exact pl_get _ k hk)
  obtain ⟨v0, v1, v2, v3, v4, v5, v6, v7⟩ := cells8 (o := 0) e2 (fun k hk => by rw [Nat.zero_add]; exact pl_get _ k hk)
  simp only [Nat.zero_add] at u0 u1 u2 u3 u4 u5 u6 u7 v0 v1 v2 v3 v4 v5 v6 v7
  rw [pl_agg, pl_agg]
  simp [results, Tryd.results69, go_sem, t5, t6, t7, u0, u1, u2, u3, u4, u5, u6, u7, v0, v1, v2, v3, v4, v5, v6, v7]

theorem walk_end {W : World} {g S' T' : Nat} (S T : Nat) (e1 : Blk W g 76 (pl S')) (e2 : Blk W (g + 1) 76 (pl T')) :
    Blk (store8 (store8 W g 0 S) (g + 1) 0 T) g 76 (pl S) ∧ Blk (store8 (store8 W g 0 S) (g + 1) 0 T) (g + 1) 76 (pl T) ∧ Chg [g, g + 1] W (store8 (store8 W g 0 S) (g + 1) 0 T) := by
  have a := e1.store8 0 S (by simp [pl_length])
  have b := (e2.keep (store8_self W g 0 S) (by simp)).store8 0 T (by simp [pl_length])
  rw [pl_put8] at a b
  exact ⟨a.keep (store8_self _ _ _ _) (by simp), b, ((Chg.refl _ _).store8 (by simp) 0 S).store8 (by simp) 0 T⟩

/-- The end: the results have been stored in blocks of the call's own. -/
theorem walk_post {fb g : Nat} {t : Re} {F : List Nat} {w W W' : World} {e : Ending} (hg : w.heap.size = g) (hb : fb < g) (he : e = .returned (.tuple #[.agg (pl t.first).toArray, .agg (pl t.last).toArray, .bool t.null]))
    (hfb : Blk W fb 76 (fcells (t.link F))) (hc : Chg [fb] w W) (hc2 : Chg [g, g + 1] W W') : WalkPost fb t F w e W'.drew :=
  ⟨he, (hfb.keep hc2 (by simp; omega)).drew, (hc.then hc2 (by simp; omega)).drew⟩
theorem walk_post' {fb g : Nat} {t : Re} {F : List Nat} {w W W' : World} {e : Ending} (hg : w.heap.size = g) (hb : fb < g) (he : e = .returned (.tuple #[.agg (pl t.first).toArray, .agg (pl t.last).toArray, .bool t.null]))
    (hfb : Blk W fb 76 (fcells (t.link F))) (hc : Chg [fb] w W) (hc2 : Chg [g, g + 1] W W') : WalkPost fb t F w e W' :=
  ⟨he, hfb.keep hc2 (by simp; omega), hc.then hc2 (by simp; omega)⟩

/-- link, the arguments written out. -/
theorem link_ex (mv mb fb S T n : Nat) (mc : List Value) (F : List Nat) (w : World) (hS : Small S) (hSn : ∀ j, S.testBit j = true → j < n) (hT : Small T) (htab : Tab w) (hfb0 : fb ≠ 0)
    (hm : Blk w mv 61 [.pointer (some ⟨mb, 0, none⟩)]) (hmb : Blk w mb 79 mc) (hf : mc[17]? = some (.slice (some ⟨fb, 0, none⟩) n n))
    (hfb : Blk w fb 76 (fcells F)) (hn : F.length = n) (hn5 : n ≤ 512) :
    Calls Tryd.prog 65 #[.agg #[.int .u64 (limb S 0), .int .u64 (limb S 1), .int .u64 (limb S 2), .int .u64 (limb S 3), .int .u64 (limb S 4), .int .u64 (limb S 5), .int .u64 (limb S 6), .int .u64 (limb S 7)],
      .agg #[.int .u64 (limb T 0), .int .u64 (limb T 1), .int .u64 (limb T 2), .int .u64 (limb T 3), .int .u64 (limb T 4), .int .u64 (limb T 5), .int .u64 (limb T 6), .int .u64 (limb T 7)], .pointer (some ⟨mv, 0, none⟩)] w
      fun e w' => e = .returned (.tuple #[]) ∧ Blk w' fb 76 (fcells (linkAll T (below S 512) F)) ∧ Chg [fb] w w' := link_any mv mb fb S T n mc F w hS hSn hT htab hfb0 hm hmb hf hfb hn hn5

set_option maxHeartbeats 2000000 in
theorem walk_emp (pv wv lv mv mb fb n : Nat) (A : Option Addr) (c : Nat) (p : List S50) (mc : List Value) (F : List Nat) (w0 w : World) (i : Nat) (lo hi a b : Int)
    (h : WalkPre pv wv lv mv mb fb n A c p mc F w0 w) (hx : p[i]? = some ⟨0, lo, hi, a, b⟩) :
    Calls Tryd.prog 69 #[.int .i64 (i : Int), .pointer (some ⟨pv, 0, none⟩), .pointer (some ⟨wv, 0, none⟩), .pointer (some ⟨lv, 0, none⟩)] w (WalkPost fb .emp F w) := by
  have hip := (List.getElem?_eq_some_iff.1 hx).1
  have hibI : (i : Int) < (p.length : Int) := by omega
  have hc1 : w.cell? ⟨pv, 0, none⟩ = some (.slice A p.length c) := h.hp.cell 0
  obtain ⟨ad, rfl, x0, x1, x2, x3, x4⟩ := at_T50 (Kd.C_below h.hC h.below) i (by omega) hibI
  have hrd : rd_T50 p i = ⟨0, lo, hi, a, b⟩ := by simp [rd_T50, List.getD_eq_getElem?_getD, hx]
  rw [hrd] at x0 x1 x2 x3 x4
  simp only [Int.toNat_natCast] at x0 x1 x2 x3 x4
  have b1 := h.hp.lt
  have b2 := World.block_lt_of_cell? w _ x0
  have b3 := h.hw.lt
  have b4 := h.hl.lt
  have b5 := h.hfb.lt
  have hcw : w.cell? ⟨wv, 0, none⟩ = some (.func (.func 69) #[] #[.pointer (some ⟨pv, 0, none⟩), .pointer (some ⟨wv, 0, none⟩), .pointer (some ⟨lv, 0, none⟩)]) := h.hw.cell 0
  have b6 : wv < w.heap.size + 1 := by omega
  have b7 : wv < w.heap.size + 1 + 1 := by omega
  have H := Lib.hid h
  clear h hx hrd
  go_enter Tryd.func69, Tryd.ntmps69
  go_wp2
  generalize hg5 : w.heap.size = g5 at *
  generalize hW : World.alloc _ _ = W
  have e1 : Blk W g5 76 (pl 0) := by subst hW; subst hg5; exact pl_zero8 ▸ (((Blk.new w _ 76).alloc _).alloc _)
  have e2 : Blk W (g5 + 1) 76 (pl 0) := by subst hW; subst hg5; refine Blk.alloc ?_ _; exact pl_zero8 ▸ (Blk.new2 w _ _ 76 76)
  have e3 : Blk W (g5 + 1 + 1) 50 [.int .i64 (⟨0, lo, hi, a, b⟩ : S50).f0, .int .i64 (⟨0, lo, hi, a, b⟩ : S50).f1, .int .i64 (⟨0, lo, hi, a, b⟩ : S50).f2, .int .i64 (⟨0, lo, hi, a, b⟩ : S50).f3, .int .i64 (⟨0, lo, hi, a, b⟩ : S50).f4] := by subst hW; subst hg5; exact Blk.new3 w _ _ _ 76 76 50
  have hCh := Lib.hid (show Chg [] w W by subst hW; exact (((Chg.refl _ _).alloc _).alloc _).alloc _)
  clear hW
  have P0 := Lib.hid (H.out.keep hCh.out)
  obtain ⟨u0, u1, u2, u3, u4, u5, u6, u7⟩ := cells8 (o := 0) (S := 0) e1 (fun k hk => by rw [Nat.zero_add]; exact pl_get _ k hk)
  simp only [Nat.zero_add] at u0 u1 u2 u3 u4 u5 u6 u7
  obtain ⟨v0, v1, v2, v3, v4, v5, v6, v7⟩ := cells8 (o := 0) (S := 0) e2 (fun k hk => by rw [Nat.zero_add]; exact pl_get _ k hk)
  simp only [Nat.zero_add] at v0 v1 v2 v3 v4 v5 v6 v7
  have fr1 : ∀ k, W.frozen? ⟨g5, k, none⟩ = false := fun k => e1.frozen k
  have fr2 : ∀ k, W.frozen? ⟨g5 + 1, k, none⟩ = false := fun k => e2.frozen k
  have E1 := Lib.hid e1
  have E2 := Lib.hid e2
  clear e1 e2 e3
  go_region
  all_goals go_wp2
  all_goals (
    have q := walk_end 0 0 E1.out E2.out
    refine bodyPost_ret (results_walk _ _ g5 (g5 + 1) 0 0 true rfl rfl rfl q.1.drew q.2.1.drew) rfl ?_
    exact walk_post hg5 b5 (t := .emp) rfl (P0.out.hfb) (hCh.out.mono (by simp)) q.2.2)

set_option maxHeartbeats 2000000 in
theorem walk_rng (pv wv lv mv mb fb n : Nat) (A : Option Addr) (c : Nat) (p : List S50) (mc : List Value) (F : List Nat) (w0 w : World) (i : Nat) (lo hi a b : Int)
    (h : WalkPre pv wv lv mv mb fb n A c p mc F w0 w) (hx : p[i]? = some ⟨1, lo, hi, a, b⟩) :
    Calls Tryd.prog 69 #[.int .i64 (i : Int), .pointer (some ⟨pv, 0, none⟩), .pointer (some ⟨wv, 0, none⟩), .pointer (some ⟨lv, 0, none⟩)] w (WalkPost fb (.rng lo hi i) F w) := by
  have hip := (List.getElem?_eq_some_iff.1 hx).1
  have hibI : (i : Int) < (p.length : Int) := by omega
  have hc1 : w.cell? ⟨pv, 0, none⟩ = some (.slice A p.length c) := h.hp.cell 0
  obtain ⟨ad, rfl, x0, x1, x2, x3, x4⟩ := at_T50 (Kd.C_below h.hC h.below) i (by omega) hibI
  have hrd : rd_T50 p i = ⟨1, lo, hi, a, b⟩ := by simp [rd_T50, List.getD_eq_getElem?_getD, hx]
  rw [hrd] at x0 x1 x2 x3 x4
  simp only [Int.toNat_natCast] at x0 x1 x2 x3 x4
  have b1 := h.hp.lt
  have b2 := World.block_lt_of_cell? w _ x0
  have b3 := h.hw.lt
  have b4 := h.hl.lt
  have b5 := h.hfb.lt
  have hcw : w.cell? ⟨wv, 0, none⟩ = some (.func (.func 69) #[] #[.pointer (some ⟨pv, 0, none⟩), .pointer (some ⟨wv, 0, none⟩), .pointer (some ⟨lv, 0, none⟩)]) := h.hw.cell 0
  have b6 : wv < w.heap.size + 1 := by omega
  have b7 : wv < w.heap.size + 1 + 1 := by omega
  have H := Lib.hid h
  clear h hx hrd
  go_enter Tryd.func69, Tryd.ntmps69
  go_wp2_with fail
  generalize hg5 : w.heap.size = g5 at *
  generalize hW : World.alloc _ _ = W
  have e1 : Blk W g5 76 (pl 0) := by subst hW; subst hg5; exact pl_zero8 ▸ (((Blk.new w _ 76).alloc _).alloc _)
  have e2 : Blk W (g5 + 1) 76 (pl 0) := by subst hW; subst hg5; refine Blk.alloc ?_ _; exact pl_zero8 ▸ (Blk.new2 w _ _ 76 76)
  have e3 : Blk W (g5 + 1 + 1) 50 [.int .i64 (⟨1, lo, hi, a, b⟩ : S50).f0, .int .i64 (⟨1, lo, hi, a, b⟩ : S50).f1, .int .i64 (⟨1, lo, hi, a, b⟩ : S50).f2, .int .i64 (⟨1, lo, hi, a, b⟩ : S50).f3, .int .i64 (⟨1, lo, hi, a, b⟩ : S50).f4] := by subst hW; subst hg5; exact Blk.new3 w _ _ _ 76 76 50
  have hCh := Lib.hid (show Chg [] w W by subst hW; exact (((Chg.refl _ _).alloc _).alloc _).alloc _)
  clear hW
  have P0 := Lib.hid (H.out.keep hCh.out)
  have hin : i < 512 := by have := H.out.hn5; have := H.out.hnp; omega
  have key := Lib.hid (add_any g5 76 0 _ 0 i W hin e1 (pl_at8 0))
  have E2 := Lib.hid e2
  clear e1 e2 e3
  refine key.out.mono ?_
  rintro e w1 ⟨rfl, k1, k2⟩
  rw [pl_put8] at k1
  obtain ⟨S1, hS1⟩ : ∃ x, x = 0 ||| 1 <<< i := ⟨_, rfl⟩
  rw [← hS1] at k1
  have HS := Lib.hid hS1
  clear hS1
  have E1 := Lib.hid k1
  have C1 := Lib.hid k2
  have E2' := Lib.hid (E2.out.keep k2 (by simp))
  have F1 := Lib.hid (P0.out.hfb.keep k2 (by simp; omega))
  clear k1 k2 key
  obtain ⟨u0, u1, u2, u3, u4, u5, u6, u7⟩ := cells8 (o := 0) (S := _) E1.out (fun k hk => by rw [Nat.zero_add]; exact pl_get _ k hk)
  simp only [Nat.zero_add] at u0 u1 u2 u3 u4 u5 u6 u7
  have fr1 : ∀ k, w1.frozen? ⟨g5, k, none⟩ = false := fun k => E1.out.frozen k
  have fr2 : ∀ k, w1.frozen? ⟨g5 + 1, k, none⟩ = false := fun k => E2'.out.frozen k
  obtain ⟨v0, v1, v2, v3, v4, v5, v6, v7⟩ := cells8 (o := 0) (S := _) E2'.out (fun k hk => by rw [Nat.zero_add]; exact pl_get _ k hk)
  simp only [Nat.zero_add] at v0 v1 v2 v3 v4 v5 v6 v7
  go_wp2
  have q := walk_end S1 S1 E1.out E2'.out
  refine bodyPost_ret (results_walk _ _ g5 (g5 + 1) S1 S1 false rfl rfl rfl q.1 q.2.1) rfl ?_
  exact walk_post' hg5 b5 (t := .rng lo hi i) (by rw [HS.out]; rfl) F1.out ((hCh.out.mono (by simp)).then C1.out (by simp; omega)) q.2.2

end Go.Proofs.YtaphblnelmncaaaDoor.PA
end

section
/- The walk over compile's recursive closure: one kind of node. -/
set_option linter.unusedVariables false
namespace Go.Proofs.YtaphblnelmncaaaDoor.PA
open Go.RowKit Go.Proofs.YtaphblnelmncaaaDoorW.PrintWords Go.Proofs.YtaphblnelmncaaaDoorW.PrintLast Go.Proofs.YtaphblnelmncaaaDoorW.PrintMore

set_option maxHeartbeats 2000000 in
theorem walk_alt (pv wv lv mv mb fb n : Nat) (A : Option Addr) (c : Nat) (p : List S50) (mc : List Value) (F : List Nat) (w0 w : World) (i : Nat) (lo hi : Int) (a b : Nat) (s t : Re) (hs : IsRe p a s) (ht : IsRe p b t) (iha : ∀ F w, WalkPre pv wv lv mv mb fb n A c p mc F w0 w → Calls Tryd.prog 69 #[.int .i64 (a : Int), .pointer (some ⟨pv, 0, none⟩), .pointer (some ⟨wv, 0, none⟩), .pointer (some ⟨lv, 0, none⟩)] w (WalkPost fb s F w)) (ihb : ∀ F w, WalkPre pv wv lv mv mb fb n A c p mc F w0 w → Calls Tryd.prog 69 #[.int .i64 (b : Int), .pointer (some ⟨pv, 0, none⟩), .pointer (some ⟨wv, 0, none⟩), .pointer (some ⟨lv, 0, none⟩)] w (WalkPost fb t F w))
    (h : WalkPre pv wv lv mv mb fb n A c p mc F w0 w) (hx : p[i]? = some ⟨3, lo, hi, (a : Int), (b : Int)⟩) :
    Calls Tryd.prog 69 #[.int .i64 (i : Int), .pointer (some ⟨pv, 0, none⟩), .pointer (some ⟨wv, 0, none⟩), .pointer (some ⟨lv, 0, none⟩)] w (WalkPost fb (.alt s t) F w) := by
  have hip := (List.getElem?_eq_some_iff.1 hx).1
  have hibI : (i : Int) < (p.length : Int) := by omega
  have hc1 : w.cell? ⟨pv, 0, none⟩ = some (.slice A p.length c) := h.hp.cell 0
  obtain ⟨ad, rfl, x0, x1, x2, x3, x4⟩ := at_T50 (Kd.C_below h.hC h.below) i (by omega) hibI
  have hrd : rd_T50 p i = ⟨3, lo, hi, (a : Int), (b : Int)⟩ := by simp [rd_T50, List.getD_eq_getElem?_getD, hx]
  rw [hrd] at x0 x1 x2 x3 x4
  simp only [Int.toNat_natCast] at x0 x1 x2 x3 x4
  have b1 := h.hp.lt
  have b2 := World.block_lt_of_cell? w _ x0
  have b3 := h.hw.lt
  have b4 := h.hl.lt
  have b5 := h.hfb.lt
  have hcw : w.cell? ⟨wv, 0, none⟩ = some (.func (.func 69) #[] #[.pointer (some ⟨pv, 0, none⟩), .pointer (some ⟨wv, 0, none⟩), .pointer (some ⟨lv, 0, none⟩)]) := h.hw.cell 0
  have b6 : wv < w.heap.size + 1 := by omega
  have b7 : wv < w.heap.size + 1 + 1 := by omega
  have H := Lib.hid h
  clear h hx hrd
  go_enter Tryd.func69, Tryd.ntmps69
  go_wp2_with fail
  generalize hg5 : w.heap.size = g5 at *
  generalize hW : World.alloc _ _ = W
  have e1 : Blk W g5 76 (pl 0) := by subst hW; subst hg5; exact pl_zero8 ▸ (((Blk.new w _ 76).alloc _).alloc _)
  have e2 : Blk W (g5 + 1) 76 (pl 0) := by subst hW; subst hg5; refine Blk.alloc ?_ _; exact pl_zero8 ▸ (Blk.new2 w _ _ 76 76)
  have e3 : Blk W (g5 + 1 + 1) 50 [.int .i64 (⟨3, lo, hi, (a : Int), (b : Int)⟩ : S50).f0, .int .i64 (⟨3, lo, hi, (a : Int), (b : Int)⟩ : S50).f1, .int .i64 (⟨3, lo, hi, (a : Int), (b : Int)⟩ : S50).f2, .int .i64 (⟨3, lo, hi, (a : Int), (b : Int)⟩ : S50).f3, .int .i64 (⟨3, lo, hi, (a : Int), (b : Int)⟩ : S50).f4] := by subst hW; subst hg5; exact Blk.new3 w _ _ _ 76 76 50
  have hCh := Lib.hid (show Chg [] w W by subst hW; exact (((Chg.refl _ _).alloc _).alloc _).alloc _)
  clear hW
  have P0 := Lib.hid (H.out.keep hCh.out)
  have K1 := Lib.hid (iha F W P0.out)
  have E1 := Lib.hid e1
  have E2 := Lib.hid e2
  have E3 := Lib.hid e3
  clear e1 e2 e3
  refine K1.out.mono ?_
  intro e w1 hp
  obtain ⟨he, k1, k2⟩ := hp
  rw [pl_agg, pl_agg] at he
  subst he
  have P1 := Lib.hid (P0.out.next (Re.link_length s F) k2 k1)
  have C1 := Lib.hid ((hCh.out.mono (by simp)).trans k2)
  have D1 := Lib.hid (E1.out.keep k2 (by simp; omega))
  have D2 := Lib.hid (E2.out.keep k2 (by simp; omega))
  have D3 := Lib.hid (E3.out.keep k2 (by simp; omega))
  have z1 := P1.out.hw.lt
  have z2 : g5 + 1 + 1 < w1.heap.size := D3.out.lt
  have z3 : g5 + 1 < w1.heap.size := by omega
  have z4 : wv < w1.heap.size + 1 := by omega
  have hcw1 : w1.cell? ⟨wv, 0, none⟩ = some (.func (.func 69) #[] #[.pointer (some ⟨pv, 0, none⟩), .pointer (some ⟨wv, 0, none⟩), .pointer (some ⟨lv, 0, none⟩)]) := P1.out.hw.cell 0
  have d4 : w1.cell? ⟨g5 + 1 + 1, 4, none⟩ = some (.int .i64 (b : Int)) := D3.out.cell 4
  clear k1 k2 K1 hcw E1 E2 E3 hCh P0
  go_wp2_with fail
  generalize hg9 : w1.heap.size = g9 at *
  generalize hW2 : World.alloc _ _ = W2
  have f1 : Blk W2 g9 76 (pl s.first) := by subst hW2; subst hg9; exact (Blk.new w1 _ 76).alloc _
  have f2 : Blk W2 (g9 + 1) 76 (pl s.last) := by subst hW2; subst hg9; exact Blk.new2 w1 _ _ 76 76
  have c2 := Lib.hid (show Chg [] w1 W2 by subst hW2; exact ((Chg.refl _ _).alloc _).alloc _)
  clear hW2
  have P2 := Lib.hid (P1.out.keep c2.out)
  have G1 := Lib.hid (D1.out.keep c2.out (by simp))
  have G2 := Lib.hid (D2.out.keep c2.out (by simp))
  have G3 := Lib.hid (D3.out.keep c2.out (by simp))
  have C2 := Lib.hid (C1.out.then c2.out (by simp))
  have K2 := Lib.hid (ihb (s.link F) W2 P2.out)
  have F1 := Lib.hid f1
  have F2 := Lib.hid f2
  clear f1 f2 hcw1
  refine K2.out.mono ?_
  intro e w2 hp
  obtain ⟨he, k1, k2⟩ := hp
  rw [pl_agg, pl_agg] at he
  subst he
  have fbw := P1.out.hfb.lt
  have wsz : w.heap.size ≤ w1.heap.size := C1.out.size
  have P3 := Lib.hid (P2.out.next (Re.link_length t _) k2 k1)
  have C3 := Lib.hid (C2.out.trans k2)
  have I1 := Lib.hid (G1.out.keep k2 (by simp; omega))
  have I2 := Lib.hid (G2.out.keep k2 (by simp; omega))
  have I3 := Lib.hid (F1.out.keep k2 (by simp; omega))
  have I4 := Lib.hid (F2.out.keep k2 (by simp; omega))
  have y1 := P3.out.hl.lt
  have y2 : g9 + 1 < w2.heap.size := I4.out.lt
  have y3 : g9 < w2.heap.size := by omega
  have y4 : lv < w2.heap.size + 1 := by omega
  have y5 : g9 + 1 < w2.heap.size + 1 := by omega
  have hcl : w2.cell? ⟨lv, 0, none⟩ = some (.func (.func 65) #[] #[.pointer (some ⟨mv, 0, none⟩)]) := P3.out.hl.cell 0
  clear k1 k2 K2 F1 F2 G1 G2 G3 D1 D2 D3 c2 hcl
  cases hsn : s.null <;> cases htn : t.null
  all_goals (
    go_wp2_with fail
    generalize hg12 : w2.heap.size = g12 at *
    generalize hW3 : World.alloc _ _ = W3
    have f1 : Blk W3 g12 76 (pl t.first) := by subst hW3; subst hg12; exact (Blk.new w2 _ 76).alloc _
    have f2 : Blk W3 (g12 + 1) 76 (pl t.last) := by subst hW3; subst hg12; exact Blk.new2 w2 _ _ 76 76
    have c3 := Lib.hid (show Chg [] w2 W3 by subst hW3; exact ((Chg.refl _ _).alloc _).alloc _)
    clear hW3
    have P4 := Lib.hid (P3.out.keep c3.out)
    have J1 := Lib.hid ((I1.out.keep c3.out (by simp)))
    have J2 := Lib.hid ((I2.out.keep c3.out (by simp)))
    have J3 := Lib.hid ((I3.out.keep c3.out (by simp)))
    have J4 := Lib.hid ((I4.out.keep c3.out (by simp)))
    have J5 := Lib.hid f1
    have J6 := Lib.hid f2
    have sm1 := hs.small (by have := H.out.hn5; have := H.out.hnp; omega)
    have sm2 := ht.small (by have := H.out.hn5; have := H.out.hnp; omega)
    have fb12 : fb < g12 := by have := P3.out.hfb.lt; omega
    have g9lt : g9 + 1 < g12 := y2
    have g59 : g5 + 1 + 1 < g9 := z2
    have C4 := Lib.hid (C3.out.then c3.out (by simp))
    have LF := Lib.hid P4.out.hfb
    clear f1 f2 c3
    refine (join_ex g9 76 0 _ s.first t.first W3 sm2.1 J3.out (pl_at8 _)).mono ?_
    rintro e w4 ⟨rfl, k1, k2⟩
    rw [pl_put8] at k1
    obtain ⟨SF, hSF⟩ : ∃ x, x = s.first ||| t.first := ⟨_, rfl⟩
    rw [← hSF] at k1
    have HSF := Lib.hid hSF
    clear hSF
    have A3 := Lib.hid k1
    have A1 := Lib.hid (J1.out.keep k2 (by simp; omega))
    have A2 := Lib.hid (J2.out.keep k2 (by simp; omega))
    have A4 := Lib.hid (J4.out.keep k2 (by simp))
    have A6 := Lib.hid (J6.out.keep k2 (by simp; omega))
    have AF := Lib.hid (LF.out.keep k2 (by simp; omega))
    have AC := Lib.hid (C4.out.then k2 (by simp; omega))
    clear k1 k2 J1 J2 J3 J4 J5 J6
    obtain ⟨r0, r1, r2, r3, r4, r5, r6, r7⟩ := cells8 (o := 0) (S := _) A6.out (fun k hk => by rw [Nat.zero_add]; exact pl_get _ k hk)
    simp only [Nat.zero_add] at r0 r1 r2 r3 r4 r5 r6 r7
    go_wp2_with fail
    refine (join_ex (g9 + 1) 76 0 _ s.last t.last w4 sm2.2 A4.out (pl_at8 _)).mono ?_
    rintro e w5 ⟨rfl, k1, k2⟩
    rw [pl_put8] at k1
    obtain ⟨SL, hSL⟩ : ∃ x, x = s.last ||| t.last := ⟨_, rfl⟩
    rw [← hSL] at k1
    have HSL := Lib.hid hSL
    clear hSL
    have B4 := Lib.hid k1
    have B1 := Lib.hid (A1.out.keep k2 (by simp; omega))
    have B2 := Lib.hid (A2.out.keep k2 (by simp; omega))
    have B3 := Lib.hid (A3.out.keep k2 (by simp))
    have BF := Lib.hid (AF.out.keep k2 (by simp; omega))
    have BC := Lib.hid (AC.out.then k2 (by simp; omega))
    clear k1 k2 r0 r1 r2 r3 r4 r5 r6 r7
    obtain ⟨s0, s1, s2, s3, s4, s5, s6, s7⟩ := cells8 (o := 0) (S := _) B3.out (fun k hk => by rw [Nat.zero_add]; exact pl_get _ k hk)
    simp only [Nat.zero_add] at s0 s1 s2 s3 s4 s5 s6 s7
    obtain ⟨x0, x1, x2, x3, x4, x5, x6, x7⟩ := cells8 (o := 0) (S := _) B4.out (fun k hk => by rw [Nat.zero_add]; exact pl_get _ k hk)
    simp only [Nat.zero_add] at x0 x1 x2 x3 x4 x5 x6 x7
    obtain ⟨ga0, ga1, ga2, ga3, ga4, ga5, ga6, ga7⟩ := cells8 (o := 0) (S := _) B1.out (fun k hk => by rw [Nat.zero_add]; exact pl_get _ k hk)
    simp only [Nat.zero_add] at ga0 ga1 ga2 ga3 ga4 ga5 ga6 ga7
    obtain ⟨gb0, gb1, gb2, gb3, gb4, gb5, gb6, gb7⟩ := cells8 (o := 0) (S := _) B2.out (fun k hk => by rw [Nat.zero_add]; exact pl_get _ k hk)
    simp only [Nat.zero_add] at gb0 gb1 gb2 gb3 gb4 gb5 gb6 gb7
    have fr1 : ∀ k, w5.frozen? ⟨g5, k, none⟩ = false := fun k => B1.out.frozen k
    have fr2 : ∀ k, w5.frozen? ⟨g5 + 1, k, none⟩ = false := fun k => B2.out.frozen k
    go_wp2
    have q := walk_end SF SL B1.out B2.out
    refine bodyPost_ret (results_walk _ _ g5 (g5 + 1) SF SL _ rfl rfl rfl q.1 q.2.1) rfl ?_
    exact walk_post' hg5 b5 (t := (.alt s t)) (by simp [Re.first, Re.last, Re.null, hsn, htn, HSF.out, HSL.out]) BF.out BC.out q.2.2)

end Go.Proofs.YtaphblnelmncaaaDoor.PA
end

section
/- The walk over compile's recursive closure: one kind of node. -/
set_option linter.unusedVariables false
namespace Go.Proofs.YtaphblnelmncaaaDoor.PA
open Go.RowKit Go.Proofs.YtaphblnelmncaaaDoorW.PrintWords Go.Proofs.YtaphblnelmncaaaDoorW.PrintLast Go.Proofs.YtaphblnelmncaaaDoorW.PrintMore

set_option maxHeartbeats 2000000 in
theorem walk_rep (pv wv lv mv mb fb n : Nat) (A : Option Addr) (c : Nat) (p : List S50) (mc : List Value) (F : List Nat) (w0 w : World) (i : Nat) (lo hi : Int) (a : Nat) (b : Int) (s : Re) (hs : IsRe p a s) (iha : ∀ F w, WalkPre pv wv lv mv mb fb n A c p mc F w0 w → Calls Tryd.prog 69 #[.int .i64 (a : Int), .pointer (some ⟨pv, 0, none⟩), .pointer (some ⟨wv, 0, none⟩), .pointer (some ⟨lv, 0, none⟩)] w (WalkPost fb s F w))
    (h : WalkPre pv wv lv mv mb fb n A c p mc F w0 w) (hx : p[i]? = some ⟨4, lo, hi, (a : Int), b⟩) :
    Calls Tryd.prog 69 #[.int .i64 (i : Int), .pointer (some ⟨pv, 0, none⟩), .pointer (some ⟨wv, 0, none⟩), .pointer (some ⟨lv, 0, none⟩)] w (WalkPost fb (.rep s) F w) := by
  have hip := (List.getElem?_eq_some_iff.1 hx).1
  have hibI : (i : Int) < (p.length : Int) := by omega
  have hc1 : w.cell? ⟨pv, 0, none⟩ = some (.slice A p.length c) := h.hp.cell 0
  obtain ⟨ad, rfl, x0, x1, x2, x3, x4⟩ := at_T50 (Kd.C_below h.hC h.below) i (by omega) hibI
  have hrd : rd_T50 p i = ⟨4, lo, hi, (a : Int), b⟩ := by simp [rd_T50, List.getD_eq_getElem?_getD, hx]
  rw [hrd] at x0 x1 x2 x3 x4
  simp only [Int.toNat_natCast] at x0 x1 x2 x3 x4
  have b1 := h.hp.lt
  have b2 := World.block_lt_of_cell? w _ x0
  have b3 := h.hw.lt
  have b4 := h.hl.lt
  have b5 := h.hfb.lt
  have hcw : w.cell? ⟨wv, 0, none⟩ = some (.func (.func 69) #[] #[.pointer (some ⟨pv, 0, none⟩), .pointer (some ⟨wv, 0, none⟩), .pointer (some ⟨lv, 0, none⟩)]) := h.hw.cell 0
  have b6 : wv < w.heap.size + 1 := by omega
  have b7 : wv < w.heap.size + 1 + 1 := by omega
  have H := Lib.hid h
  clear h hx hrd
  go_enter Tryd.func69, Tryd.ntmps69
  go_wp2_with fail
  generalize hg5 : w.heap.size = g5 at *
  generalize hW : World.alloc _ _ = W
  have e1 : Blk W g5 76 (pl 0) := by subst hW; subst hg5; exact pl_zero8 ▸ (((Blk.new w _ 76).alloc _).alloc _)
  have e2 : Blk W (g5 + 1) 76 (pl 0) := by subst hW; subst hg5; refine Blk.alloc ?_ _; exact pl_zero8 ▸ (Blk.new2 w _ _ 76 76)
  have e3 : Blk W (g5 + 1 + 1) 50 [.int .i64 (⟨4, lo, hi, (a : Int), b⟩ : S50).f0, .int .i64 (⟨4, lo, hi, (a : Int), b⟩ : S50).f1, .int .i64 (⟨4, lo, hi, (a : Int), b⟩ : S50).f2, .int .i64 (⟨4, lo, hi, (a : Int), b⟩ : S50).f3, .int .i64 (⟨4, lo, hi, (a : Int), b⟩ : S50).f4] := by subst hW; subst hg5; exact Blk.new3 w _ _ _ 76 76 50
  have hCh := Lib.hid (show Chg [] w W by subst hW; exact (((Chg.refl _ _).alloc _).alloc _).alloc _)
  clear hW
  have P0 := Lib.hid (H.out.keep hCh.out)
  have K1 := Lib.hid (iha F W P0.out)
  have E1 := Lib.hid e1
  have E2 := Lib.hid e2
  have E3 := Lib.hid e3
  clear e1 e2 e3
  refine K1.out.mono ?_
  intro e w1 hp
  obtain ⟨he, k1, k2⟩ := hp
  rw [pl_agg, pl_agg] at he
  subst he
  have P1 := Lib.hid (P0.out.next (Re.link_length s F) k2 k1)
  have C1 := Lib.hid ((hCh.out.mono (by simp)).trans k2)
  have D1 := Lib.hid (E1.out.keep k2 (by simp; omega))
  have D2 := Lib.hid (E2.out.keep k2 (by simp; omega))
  have D3 := Lib.hid (E3.out.keep k2 (by simp; omega))
  have z1 := P1.out.hw.lt
  have z2 : g5 + 1 + 1 < w1.heap.size := D3.out.lt
  have z3 : g5 + 1 < w1.heap.size := by omega
  have z4 : wv < w1.heap.size + 1 := by omega
  have hcw1 : w1.cell? ⟨wv, 0, none⟩ = some (.func (.func 69) #[] #[.pointer (some ⟨pv, 0, none⟩), .pointer (some ⟨wv, 0, none⟩), .pointer (some ⟨lv, 0, none⟩)]) := P1.out.hw.cell 0
  have hcl : w1.cell? ⟨lv, 0, none⟩ = some (.func (.func 65) #[] #[.pointer (some ⟨mv, 0, none⟩)]) := P1.out.hl.cell 0
  have y1 := P1.out.hl.lt
  have y4 : lv < w1.heap.size + 1 := by omega
  have fbw1 := P1.out.hfb.lt
  clear k1 k2 K1 hcw E1 E2 E3 hCh P0
  go_wp2_with fail
  generalize hg9 : w1.heap.size = g9 at *
  generalize hW2 : World.alloc _ _ = W2
  have f1 : Blk W2 g9 76 (pl s.first) := by subst hW2; subst hg9; exact (Blk.new w1 _ 76).alloc _
  have f2 : Blk W2 (g9 + 1) 76 (pl s.last) := by subst hW2; subst hg9; exact Blk.new2 w1 _ _ 76 76
  have c2 := Lib.hid (show Chg [] w1 W2 by subst hW2; exact ((Chg.refl _ _).alloc _).alloc _)
  clear hW2
  have P2 := Lib.hid (P1.out.keep c2.out)
  have G1 := Lib.hid (D1.out.keep c2.out (by simp))
  have G2 := Lib.hid (D2.out.keep c2.out (by simp))
  have G3 := Lib.hid (D3.out.keep c2.out (by simp))
  have C2 := Lib.hid (C1.out.then c2.out (by simp))
  have fb9 : fb < g9 := fbw1
  have g59 : g5 + 1 + 1 < g9 := z2
  clear hcw1
  have sm1 := hs.small (by have := H.out.hn5; have := H.out.hnp; omega)
  have key := Lib.hid (link_ex mv mb fb s.last s.first n mc (s.link F) W2 sm1.2 (fun j hj => by have := hs.places.2 j hj; have := H.out.hnp; omega) sm1.1 P2.out.tab (by have := H.out.hfb0; have := H.out.h0; omega) P2.out.hm P2.out.hmb P2.out.hf P2.out.hfb P2.out.hn P2.out.hn5)
  refine key.out.mono ?_
  intro e w3 hp
  obtain ⟨he, k1, k2⟩ := hp
  subst he
  have C4 := Lib.hid (C2.out.trans k2)
  have M1 := Lib.hid (G1.out.keep k2 (by simp; omega))
  have M2 := Lib.hid (G2.out.keep k2 (by simp; omega))
  have M3 := Lib.hid (f1.keep k2 (by simp; omega))
  have M4 := Lib.hid (f2.keep k2 (by simp; omega))
  have LF : Hid (Blk w3 fb 76 (fcells ((Re.rep s).link F))) := Lib.hid k1
  clear f1 f2 k1 k2 key c2 hcl
  obtain ⟨s0, s1, s2, s3, s4, s5, s6, s7⟩ := cells8 (o := 0) (S := _) M3.out (fun k hk => by rw [Nat.zero_add]; exact pl_get _ k hk)
  simp only [Nat.zero_add] at s0 s1 s2 s3 s4 s5 s6 s7
  obtain ⟨x0, x1, x2, x3, x4, x5, x6, x7⟩ := cells8 (o := 0) (S := _) M4.out (fun k hk => by rw [Nat.zero_add]; exact pl_get _ k hk)
  simp only [Nat.zero_add] at x0 x1 x2 x3 x4 x5 x6 x7
  obtain ⟨ga0, ga1, ga2, ga3, ga4, ga5, ga6, ga7⟩ := cells8 (o := 0) (S := _) M1.out (fun k hk => by rw [Nat.zero_add]; exact pl_get _ k hk)
  simp only [Nat.zero_add] at ga0 ga1 ga2 ga3 ga4 ga5 ga6 ga7
  obtain ⟨gb0, gb1, gb2, gb3, gb4, gb5, gb6, gb7⟩ := cells8 (o := 0) (S := _) M2.out (fun k hk => by rw [Nat.zero_add]; exact pl_get _ k hk)
  simp only [Nat.zero_add] at gb0 gb1 gb2 gb3 gb4 gb5 gb6 gb7
  have fr1 : ∀ k, w3.frozen? ⟨g5, k, none⟩ = false := fun k => M1.out.frozen k
  have fr2 : ∀ k, w3.frozen? ⟨g5 + 1, k, none⟩ = false := fun k => M2.out.frozen k
  go_wp2
  go_region
  all_goals go_wp2
  all_goals (
    have q := walk_end s.first s.last M1.out M2.out
    refine bodyPost_ret (results_walk _ _ g5 (g5 + 1) s.first s.last true rfl rfl rfl q.1.drew q.2.1.drew) rfl ?_
    exact walk_post hg5 b5 (t := .rep s) rfl LF.out C4.out q.2.2)

end Go.Proofs.YtaphblnelmncaaaDoor.PA
end

section
/- The walk over compile's recursive closure: one kind of node. -/
set_option linter.unusedVariables false
namespace Go.Proofs.YtaphblnelmncaaaDoor.PA
open Go.RowKit Go.Proofs.YtaphblnelmncaaaDoorW.PrintWords Go.Proofs.YtaphblnelmncaaaDoorW.PrintLast Go.Proofs.YtaphblnelmncaaaDoorW.PrintMore

set_option maxHeartbeats 2000000 in
theorem walk_seq (pv wv lv mv mb fb n : Nat) (A : Option Addr) (c : Nat) (p : List S50) (mc : List Value) (F : List Nat) (w0 w : World) (i : Nat) (lo hi : Int) (a b : Nat) (s t : Re) (hs : IsRe p a s) (ht : IsRe p b t) (iha : ∀ F w, WalkPre pv wv lv mv mb fb n A c p mc F w0 w → Calls Tryd.prog 69 #[.int .i64 (a : Int), .pointer (some ⟨pv, 0, none⟩), .pointer (some ⟨wv, 0, none⟩), .pointer (some ⟨lv, 0, none⟩)] w (WalkPost fb s F w)) (ihb : ∀ F w, WalkPre pv wv lv mv mb fb n A c p mc F w0 w → Calls Tryd.prog 69 #[.int .i64 (b : Int), .pointer (some ⟨pv, 0, none⟩), .pointer (some ⟨wv, 0, none⟩), .pointer (some ⟨lv, 0, none⟩)] w (WalkPost fb t F w))
    (h : WalkPre pv wv lv mv mb fb n A c p mc F w0 w) (hx : p[i]? = some ⟨2, lo, hi, (a : Int), (b : Int)⟩) :
    Calls Tryd.prog 69 #[.int .i64 (i : Int), .pointer (some ⟨pv, 0, none⟩), .pointer (some ⟨wv, 0, none⟩), .pointer (some ⟨lv, 0, none⟩)] w (WalkPost fb (.seq s t) F w) := by
  have hip := (List.getElem?_eq_some_iff.1 hx).1
  have hibI : (i : Int) < (p.length : Int) := by omega
  have hc1 : w.cell? ⟨pv, 0, none⟩ = some (.slice A p.length c) := h.hp.cell 0
  obtain ⟨ad, rfl, x0, x1, x2, x3, x4⟩ := at_T50 (Kd.C_below h.hC h.below) i (by omega) hibI
  have hrd : rd_T50 p i = ⟨2, lo, hi, (a : Int), (b : Int)⟩ := by simp [rd_T50, List.getD_eq_getElem?_getD, hx]
  rw [hrd] at x0 x1 x2 x3 x4
  simp only [Int.toNat_natCast] at x0 x1 x2 x3 x4
  have b1 := h.hp.lt
  have b2 := World.block_lt_of_cell? w _ x0
  have b3 := h.hw.lt
  have b4 := h.hl.lt
  have b5 := h.hfb.lt
  have hcw : w.cell? ⟨wv, 0, none⟩ = some (.func (.func 69) #[] #[.pointer (some ⟨pv, 0, none⟩), .pointer (some ⟨wv, 0, none⟩), .pointer (some ⟨lv, 0, none⟩)]) := h.hw.cell 0
  have b6 : wv < w.heap.size + 1 := by omega
  have b7 : wv < w.heap.size + 1 + 1 := by omega
  have H := Lib.hid h
  clear h hx hrd
  go_enter Tryd.func69, Tryd.ntmps69
  go_wp2_with fail
  generalize hg5 : w.heap.size = g5 at *
  generalize hW : World.alloc _ _ = W
  have e1 : Blk W g5 76 (pl 0) := by subst hW; subst hg5; exact pl_zero8 ▸ (((Blk.new w _ 76).alloc _).alloc _)
  have e2 : Blk W (g5 + 1) 76 (pl 0) := by subst hW; subst hg5; refine Blk.alloc ?_ _; exact pl_zero8 ▸ (Blk.new2 w _ _ 76 76)
  have e3 : Blk W (g5 + 1 + 1) 50 [.int .i64 (⟨2, lo, hi, (a : Int), (b : Int)⟩ : S50).f0, .int .i64 (⟨2, lo, hi, (a : Int), (b : Int)⟩ : S50).f1, .int .i64 (⟨2, lo, hi, (a : Int), (b : Int)⟩ : S50).f2, .int .i64 (⟨2, lo, hi, (a : Int), (b : Int)⟩ : S50).f3, .int .i64 (⟨2, lo, hi, (a : Int), (b : Int)⟩ : S50).f4] := by subst hW; subst hg5; exact Blk.new3 w _ _ _ 76 76 50
  have hCh := Lib.hid (show Chg [] w W by subst hW; exact (((Chg.refl _ _).alloc _).alloc _).alloc _)
  clear hW
  have P0 := Lib.hid (H.out.keep hCh.out)
  have K1 := Lib.hid (iha F W P0.out)
  have E1 := Lib.hid e1
  have E2 := Lib.hid e2
  have E3 := Lib.hid e3
  clear e1 e2 e3
  refine K1.out.mono ?_
  intro e w1 hp
  obtain ⟨he, k1, k2⟩ := hp
  rw [pl_agg, pl_agg] at he
  subst he
  have P1 := Lib.hid (P0.out.next (Re.link_length s F) k2 k1)
  have C1 := Lib.hid ((hCh.out.mono (by simp)).trans k2)
  have D1 := Lib.hid (E1.out.keep k2 (by simp; omega))
  have D2 := Lib.hid (E2.out.keep k2 (by simp; omega))
  have D3 := Lib.hid (E3.out.keep k2 (by simp; omega))
  have z1 := P1.out.hw.lt
  have z2 : g5 + 1 + 1 < w1.heap.size := D3.out.lt
  have z3 : g5 + 1 < w1.heap.size := by omega
  have z4 : wv < w1.heap.size + 1 := by omega
  have hcw1 : w1.cell? ⟨wv, 0, none⟩ = some (.func (.func 69) #[] #[.pointer (some ⟨pv, 0, none⟩), .pointer (some ⟨wv, 0, none⟩), .pointer (some ⟨lv, 0, none⟩)]) := P1.out.hw.cell 0
  have d4 : w1.cell? ⟨g5 + 1 + 1, 4, none⟩ = some (.int .i64 (b : Int)) := D3.out.cell 4
  clear k1 k2 K1 hcw E1 E2 E3 hCh P0
  go_wp2_with fail
  generalize hg9 : w1.heap.size = g9 at *
  generalize hW2 : World.alloc _ _ = W2
  have f1 : Blk W2 g9 76 (pl s.first) := by subst hW2; subst hg9; exact (Blk.new w1 _ 76).alloc _
  have f2 : Blk W2 (g9 + 1) 76 (pl s.last) := by subst hW2; subst hg9; exact Blk.new2 w1 _ _ 76 76
  have c2 := Lib.hid (show Chg [] w1 W2 by subst hW2; exact ((Chg.refl _ _).alloc _).alloc _)
  clear hW2
  have P2 := Lib.hid (P1.out.keep c2.out)
  have G1 := Lib.hid (D1.out.keep c2.out (by simp))
  have G2 := Lib.hid (D2.out.keep c2.out (by simp))
  have G3 := Lib.hid (D3.out.keep c2.out (by simp))
  have C2 := Lib.hid (C1.out.then c2.out (by simp))
  have K2 := Lib.hid (ihb (s.link F) W2 P2.out)
  have F1 := Lib.hid f1
  have F2 := Lib.hid f2
  clear f1 f2 hcw1
  refine K2.out.mono ?_
  intro e w2 hp
  obtain ⟨he, k1, k2⟩ := hp
  rw [pl_agg, pl_agg] at he
  subst he
  have fbw := P1.out.hfb.lt
  have wsz : w.heap.size ≤ w1.heap.size := C1.out.size
  have P3 := Lib.hid (P2.out.next (Re.link_length t _) k2 k1)
  have C3 := Lib.hid (C2.out.trans k2)
  have I1 := Lib.hid (G1.out.keep k2 (by simp; omega))
  have I2 := Lib.hid (G2.out.keep k2 (by simp; omega))
  have I3 := Lib.hid (F1.out.keep k2 (by simp; omega))
  have I4 := Lib.hid (F2.out.keep k2 (by simp; omega))
  have y1 := P3.out.hl.lt
  have y2 : g9 + 1 < w2.heap.size := I4.out.lt
  have y3 : g9 < w2.heap.size := by omega
  have y4 : lv < w2.heap.size + 1 := by omega
  have y5 : g9 + 1 < w2.heap.size + 1 := by omega
  have hcl : w2.cell? ⟨lv, 0, none⟩ = some (.func (.func 65) #[] #[.pointer (some ⟨mv, 0, none⟩)]) := P3.out.hl.cell 0
  obtain ⟨q0, q1, q2, q3, q4, q5, q6, q7⟩ := cells8 (o := 0) (S := _) I4.out (fun k hk => by rw [Nat.zero_add]; exact pl_get _ k hk)
  simp only [Nat.zero_add] at q0 q1 q2 q3 q4 q5 q6 q7
  clear k1 k2 K2 F1 F2 G1 G2 G3 D1 D2 D3 c2
  go_wp2_with fail
  generalize hg12 : w2.heap.size = g12 at *
  generalize hW3 : World.alloc _ _ = W3
  have f1 : Blk W3 g12 76 (pl t.first) := by subst hW3; subst hg12; exact (Blk.new w2 _ 76).alloc _
  have f2 : Blk W3 (g12 + 1) 76 (pl t.last) := by subst hW3; subst hg12; exact Blk.new2 w2 _ _ 76 76
  have c3 := Lib.hid (show Chg [] w2 W3 by subst hW3; exact ((Chg.refl _ _).alloc _).alloc _)
  clear hW3
  have P4 := Lib.hid (P3.out.keep c3.out)
  have J1 := Lib.hid ((I1.out.keep c3.out (by simp)))
  have J2 := Lib.hid ((I2.out.keep c3.out (by simp)))
  have J3 := Lib.hid ((I3.out.keep c3.out (by simp)))
  have J4 := Lib.hid ((I4.out.keep c3.out (by simp)))
  have J5 := Lib.hid f1
  have J6 := Lib.hid f2
  have sm1 := hs.small (by have := H.out.hn5; have := H.out.hnp; omega)
  have sm2 := ht.small (by have := H.out.hn5; have := H.out.hnp; omega)
  have key := Lib.hid (link_ex mv mb fb s.last t.first n mc (t.link (s.link F)) W3 sm1.2 (fun j hj => by have := hs.places.2 j hj; have := H.out.hnp; omega) sm2.1 P4.out.tab (by have := H.out.hfb0; have := H.out.h0; omega) P4.out.hm P4.out.hmb P4.out.hf P4.out.hfb P4.out.hn P4.out.hn5)
  refine key.out.mono ?_
  intro e w3 hp
  obtain ⟨he, k1, k2⟩ := hp
  subst he
  have fb12 : fb < g12 := by have := P3.out.hfb.lt; omega
  have g9lt : g9 + 1 < g12 := y2
  have g59 : g5 + 1 + 1 < g9 := z2
  have C4 := Lib.hid ((C3.out.then c3.out (by simp)).trans k2)
  have M1 := Lib.hid (J1.out.keep k2 (by simp; omega))
  have M2 := Lib.hid (J2.out.keep k2 (by simp; omega))
  have M3 := Lib.hid (J3.out.keep k2 (by simp; omega))
  have M4 := Lib.hid (J4.out.keep k2 (by simp; omega))
  have M5 := Lib.hid (J5.out.keep k2 (by simp; omega))
  have M6 := Lib.hid (J6.out.keep k2 (by simp; omega))
  have LF : Hid (Blk w3 fb 76 (fcells ((Re.seq s t).link F))) := Lib.hid k1
  clear f1 f2 k1 k2 key c3 q0 q1 q2 q3 q4 q5 q6 q7 hcl J1 J2 J3 J4 J5 J6
  obtain ⟨q0, q1, q2, q3, q4, q5, q6, q7⟩ := cells8 (o := 0) (S := _) M5.out (fun k hk => by rw [Nat.zero_add]; exact pl_get _ k hk)
  simp only [Nat.zero_add] at q0 q1 q2 q3 q4 q5 q6 q7
  obtain ⟨r0, r1, r2, r3, r4, r5, r6, r7⟩ := cells8 (o := 0) (S := _) M4.out (fun k hk => by rw [Nat.zero_add]; exact pl_get _ k hk)
  simp only [Nat.zero_add] at r0 r1 r2 r3 r4 r5 r6 r7
  cases hsn : s.null
  · cases htn : t.null
    · obtain ⟨s0, s1, s2, s3, s4, s5, s6, s7⟩ := cells8 (o := 0) (S := _) M3.out (fun k hk => by rw [Nat.zero_add]; exact pl_get _ k hk)
      simp only [Nat.zero_add] at s0 s1 s2 s3 s4 s5 s6 s7
      obtain ⟨x0, x1, x2, x3, x4, x5, x6, x7⟩ := cells8 (o := 0) (S := _) M6.out (fun k hk => by rw [Nat.zero_add]; exact pl_get _ k hk)
      simp only [Nat.zero_add] at x0 x1 x2 x3 x4 x5 x6 x7
      obtain ⟨ga0, ga1, ga2, ga3, ga4, ga5, ga6, ga7⟩ := cells8 (o := 0) (S := _) M1.out (fun k hk => by rw [Nat.zero_add]; exact pl_get _ k hk)
      simp only [Nat.zero_add] at ga0 ga1 ga2 ga3 ga4 ga5 ga6 ga7
      obtain ⟨gb0, gb1, gb2, gb3, gb4, gb5, gb6, gb7⟩ := cells8 (o := 0) (S := _) M2.out (fun k hk => by rw [Nat.zero_add]; exact pl_get _ k hk)
      simp only [Nat.zero_add] at gb0 gb1 gb2 gb3 gb4 gb5 gb6 gb7
      have fr1 : ∀ k, w3.frozen? ⟨g5, k, none⟩ = false := fun k => M1.out.frozen k
      have fr2 : ∀ k, w3.frozen? ⟨g5 + 1, k, none⟩ = false := fun k => M2.out.frozen k
      go_wp2
      have q := walk_end s.first t.last M1.out M2.out
      refine bodyPost_ret (results_walk _ _ g5 (g5 + 1) s.first t.last false rfl rfl rfl q.1 q.2.1) rfl ?_
      exact walk_post' hg5 b5 (t := (.seq s t)) (by simp [Re.first, Re.last, Re.null, hsn, htn]) LF.out C4.out q.2.2
    · go_wp2_with fail
      refine (join_ex (g12 + 1) 76 0 _ t.last s.last w3 sm1.2 M6.out (pl_at8 _)).mono ?_
      rintro e w5 ⟨rfl, k1, k2⟩
      rw [pl_put8] at k1
      obtain ⟨SL, hSL⟩ : ∃ x, x = t.last ||| s.last := ⟨_, rfl⟩
      rw [← hSL] at k1
      have HSL := Lib.hid hSL
      clear hSL
      have B6 := Lib.hid k1
      have B1 := Lib.hid (M1.out.keep k2 (by simp; omega))
      have B2 := Lib.hid (M2.out.keep k2 (by simp; omega))
      have B3 := Lib.hid (M3.out.keep k2 (by simp; omega))
      have BF := Lib.hid (LF.out.keep k2 (by simp; omega))
      have BC := Lib.hid (C4.out.then k2 (by simp; omega))
      clear k1 k2 r0 r1 r2 r3 r4 r5 r6 r7
      obtain ⟨s0, s1, s2, s3, s4, s5, s6, s7⟩ := cells8 (o := 0) (S := _) B3.out (fun k hk => by rw [Nat.zero_add]; exact pl_get _ k hk)
      simp only [Nat.zero_add] at s0 s1 s2 s3 s4 s5 s6 s7
      obtain ⟨x0, x1, x2, x3, x4, x5, x6, x7⟩ := cells8 (o := 0) (S := _) B6.out (fun k hk => by rw [Nat.zero_add]; exact pl_get _ k hk)
      simp only [Nat.zero_add] at x0 x1 x2 x3 x4 x5 x6 x7
      obtain ⟨ga0, ga1, ga2, ga3, ga4, ga5, ga6, ga7⟩ := cells8 (o := 0) (S := _) B1.out (fun k hk => by rw [Nat.zero_add]; exact pl_get _ k hk)
      simp only [Nat.zero_add] at ga0 ga1 ga2 ga3 ga4 ga5 ga6 ga7
      obtain ⟨gb0, gb1, gb2, gb3, gb4, gb5, gb6, gb7⟩ := cells8 (o := 0) (S := _) B2.out (fun k hk => by rw [Nat.zero_add]; exact pl_get _ k hk)
      simp only [Nat.zero_add] at gb0 gb1 gb2 gb3 gb4 gb5 gb6 gb7
      have fr1 : ∀ k, w5.frozen? ⟨g5, k, none⟩ = false := fun k => B1.out.frozen k
      have fr2 : ∀ k, w5.frozen? ⟨g5 + 1, k, none⟩ = false := fun k => B2.out.frozen k
      go_wp2
      have q := walk_end s.first SL B1.out B2.out
      refine bodyPost_ret (results_walk _ _ g5 (g5 + 1) s.first SL false rfl rfl rfl q.1 q.2.1) rfl ?_
      exact walk_post' hg5 b5 (t := (.seq s t)) (by simp [Re.first, Re.last, Re.null, hsn, htn, HSL.out]) BF.out BC.out q.2.2
  · cases htn : t.null
    · go_wp2_with fail
      refine (join_ex g9 76 0 _ s.first t.first w3 sm2.1 M3.out (pl_at8 _)).mono ?_
      rintro e w4 ⟨rfl, k1, k2⟩
      rw [pl_put8] at k1
      obtain ⟨SF, hSF⟩ : ∃ x, x = s.first ||| t.first := ⟨_, rfl⟩
      rw [← hSF] at k1
      have HSF := Lib.hid hSF
      clear hSF
      have A3 := Lib.hid k1
      have A1 := Lib.hid (M1.out.keep k2 (by simp; omega))
      have A2 := Lib.hid (M2.out.keep k2 (by simp; omega))
      have A4 := Lib.hid (M4.out.keep k2 (by simp))
      have A6 := Lib.hid (M6.out.keep k2 (by simp; omega))
      have AF := Lib.hid (LF.out.keep k2 (by simp; omega))
      have AC := Lib.hid (C4.out.then k2 (by simp; omega))
      clear k1 k2 q0 q1 q2 q3 q4 q5 q6 q7 r0 r1 r2 r3 r4 r5 r6 r7
      obtain ⟨r0, r1, r2, r3, r4, r5, r6, r7⟩ := cells8 (o := 0) (S := _) A4.out (fun k hk => by rw [Nat.zero_add]; exact pl_get _ k hk)
      simp only [Nat.zero_add] at r0 r1 r2 r3 r4 r5 r6 r7
      obtain ⟨s0, s1, s2, s3, s4, s5, s6, s7⟩ := cells8 (o := 0) (S := _) A3.out (fun k hk => by rw [Nat.zero_add]; exact pl_get _ k hk)
      simp only [Nat.zero_add] at s0 s1 s2 s3 s4 s5 s6 s7
      obtain ⟨x0, x1, x2, x3, x4, x5, x6, x7⟩ := cells8 (o := 0) (S := _) A6.out (fun k hk => by rw [Nat.zero_add]; exact pl_get _ k hk)
      simp only [Nat.zero_add] at x0 x1 x2 x3 x4 x5 x6 x7
      obtain ⟨ga0, ga1, ga2, ga3, ga4, ga5, ga6, ga7⟩ := cells8 (o := 0) (S := _) A1.out (fun k hk => by rw [Nat.zero_add]; exact pl_get _ k hk)
      simp only [Nat.zero_add] at ga0 ga1 ga2 ga3 ga4 ga5 ga6 ga7
      obtain ⟨gb0, gb1, gb2, gb3, gb4, gb5, gb6, gb7⟩ := cells8 (o := 0) (S := _) A2.out (fun k hk => by rw [Nat.zero_add]; exact pl_get _ k hk)
      simp only [Nat.zero_add] at gb0 gb1 gb2 gb3 gb4 gb5 gb6 gb7
      have fr1 : ∀ k, w4.frozen? ⟨g5, k, none⟩ = false := fun k => A1.out.frozen k
      have fr2 : ∀ k, w4.frozen? ⟨g5 + 1, k, none⟩ = false := fun k => A2.out.frozen k
      go_wp2
      have q := walk_end SF t.last A1.out A2.out
      refine bodyPost_ret (results_walk _ _ g5 (g5 + 1) SF t.last false rfl rfl rfl q.1 q.2.1) rfl ?_
      exact walk_post' hg5 b5 (t := (.seq s t)) (by simp [Re.first, Re.last, Re.null, hsn, htn, HSF.out]) AF.out AC.out q.2.2
    · go_wp2_with fail
      refine (join_ex g9 76 0 _ s.first t.first w3 sm2.1 M3.out (pl_at8 _)).mono ?_
      rintro e w4 ⟨rfl, k1, k2⟩
      rw [pl_put8] at k1
      obtain ⟨SF, hSF⟩ : ∃ x, x = s.first ||| t.first := ⟨_, rfl⟩
      rw [← hSF] at k1
      have HSF := Lib.hid hSF
      clear hSF
      have A3 := Lib.hid k1
      have A1 := Lib.hid (M1.out.keep k2 (by simp; omega))
      have A2 := Lib.hid (M2.out.keep k2 (by simp; omega))
      have A4 := Lib.hid (M4.out.keep k2 (by simp))
      have A6 := Lib.hid (M6.out.keep k2 (by simp; omega))
      have AF := Lib.hid (LF.out.keep k2 (by simp; omega))
      have AC := Lib.hid (C4.out.then k2 (by simp; omega))
      clear k1 k2 q0 q1 q2 q3 q4 q5 q6 q7 r0 r1 r2 r3 r4 r5 r6 r7
      obtain ⟨r0, r1, r2, r3, r4, r5, r6, r7⟩ := cells8 (o := 0) (S := _) A4.out (fun k hk => by rw [Nat.zero_add]; exact pl_get _ k hk)
      simp only [Nat.zero_add] at r0 r1 r2 r3 r4 r5 r6 r7
      go_wp2_with fail
      refine (join_ex (g12 + 1) 76 0 _ t.last s.last w4 sm1.2 A6.out (pl_at8 _)).mono ?_
      rintro e w5 ⟨rfl, k1, k2⟩
      rw [pl_put8] at k1
      obtain ⟨SL, hSL⟩ : ∃ x, x = t.last ||| s.last := ⟨_, rfl⟩
      rw [← hSL] at k1
      have HSL := Lib.hid hSL
      clear hSL
      have B6 := Lib.hid k1
      have B1 := Lib.hid (A1.out.keep k2 (by simp; omega))
      have B2 := Lib.hid (A2.out.keep k2 (by simp; omega))
      have B3 := Lib.hid (A3.out.keep k2 (by simp; omega))
      have BF := Lib.hid (AF.out.keep k2 (by simp; omega))
      have BC := Lib.hid (AC.out.then k2 (by simp; omega))
      clear k1 k2 r0 r1 r2 r3 r4 r5 r6 r7
      obtain ⟨s0, s1, s2, s3, s4, s5, s6, s7⟩ := cells8 (o := 0) (S := _) B3.out (fun k hk => by rw [Nat.zero_add]; exact pl_get _ k hk)
      simp only [Nat.zero_add] at s0 s1 s2 s3 s4 s5 s6 s7
      obtain ⟨x0, x1, x2, x3, x4, x5, x6, x7⟩ := cells8 (o := 0) (S := _) B6.out (fun k hk => by rw [Nat.zero_add]; exact pl_get _ k hk)
      simp only [Nat.zero_add] at x0 x1 x2 x3 x4 x5 x6 x7
      obtain ⟨ga0, ga1, ga2, ga3, ga4, ga5, ga6, ga7⟩ := cells8 (o := 0) (S := _) B1.out (fun k hk => by rw [Nat.zero_add]; exact pl_get _ k hk)
      simp only [Nat.zero_add] at ga0 ga1 ga2 ga3 ga4 ga5 ga6 ga7
      obtain ⟨gb0, gb1, gb2, gb3, gb4, gb5, gb6, gb7⟩ := cells8 (o := 0) (S := _) B2.out (fun k hk => by rw [Nat.zero_add]; exact pl_get _ k hk)
      simp only [Nat.zero_add] at gb0 gb1 gb2 gb3 gb4 gb5 gb6 gb7
      have fr1 : ∀ k, w5.frozen? ⟨g5, k, none⟩ = false := fun k => B1.out.frozen k
      have fr2 : ∀ k, w5.frozen? ⟨g5 + 1, k, none⟩ = false := fun k => B2.out.frozen k
      go_wp2
      have q := walk_end SF SL B1.out B2.out
      refine bodyPost_ret (results_walk _ _ g5 (g5 + 1) SF SL true rfl rfl rfl q.1 q.2.1) rfl ?_
      exact walk_post' hg5 b5 (t := (.seq s t)) (by simp [Re.first, Re.last, Re.null, hsn, htn, HSF.out, HSL.out]) BF.out BC.out q.2.2


end Go.Proofs.YtaphblnelmncaaaDoor.PA
end

section
/- The walk over compile: the machine of a pattern. -/
set_option linter.unusedVariables false
namespace Go.Proofs.YtaphblnelmncaaaDoor.PA
open Go.RowKit Go.Proofs.YtaphblnelmncaaaDoorW.PrintWords Go.Proofs.YtaphblnelmncaaaDoorW.PrintLast Go.Proofs.YtaphblnelmncaaaDoorW.PrintMore

/-- compile's closure at every tree. -/
theorem walk_any (pv wv lv mv mb fb n : Nat) (A : Option Addr) (c : Nat) (p : List S50) (mc : List Value) (w0 : World) {i : Nat} {t : Re} (ht : IsRe p i t) :
    ∀ F w, WalkPre pv wv lv mv mb fb n A c p mc F w0 w →
    Calls Tryd.prog 69 #[.int .i64 (i : Int), .pointer (some ⟨pv, 0, none⟩), .pointer (some ⟨wv, 0, none⟩), .pointer (some ⟨lv, 0, none⟩)] w (WalkPost fb t F w) := by
  induction ht with
  | emp i x h hk =>
    intro F w hw
    obtain ⟨k, lo, hi, a, b⟩ := x
    obtain rfl : k = 0 := hk
    exact walk_emp pv wv lv mv mb fb n A c p mc F w0 w i lo hi a b hw h
  | rng i x h hk =>
    intro F w hw
    obtain ⟨k, lo, hi, a, b⟩ := x
    obtain rfl : k = 1 := hk
    exact walk_rng pv wv lv mv mb fb n A c p mc F w0 w i lo hi a b hw h
  | seq i x a b s t h hk ha hb hs ht ihs iht =>
    intro F w hw
    obtain ⟨k, lo, hi, a', b'⟩ := x
    obtain rfl : k = 2 := hk
    obtain rfl : a' = (a : Int) := ha
    obtain rfl : b' = (b : Int) := hb
    exact walk_seq pv wv lv mv mb fb n A c p mc F w0 w i lo hi a b s t hs ht ihs iht hw h
  | alt i x a b s t h hk ha hb hs ht ihs iht =>
    intro F w hw
    obtain ⟨k, lo, hi, a', b'⟩ := x
    obtain rfl : k = 3 := hk
    obtain rfl : a' = (a : Int) := ha
    obtain rfl : b' = (b : Int) := hb
    exact walk_alt pv wv lv mv mb fb n A c p mc F w0 w i lo hi a b s t hs ht ihs iht hw h
  | rep i x a s h hk ha hs ih =>
    intro F w hw
    obtain ⟨k, lo, hi, a', b'⟩ := x
    obtain rfl : k = 4 := hk
    obtain rfl : a' = (a : Int) := ha
    exact walk_rep pv wv lv mv mb fb n A c p mc F w0 w i lo hi a b' s hs ih hw h

/-- The cells of a machine. -/
def mcells (pv : Value) (S T : Nat) (fv : Value) (e : Bool) : List Value := pv :: (pl S ++ (pl T ++ [fv, .bool e]))

theorem far1 {g g' : Nat} (h : g' ≠ g) (w : World) (o k : Nat) (v : Value) : (w.setCell ⟨g, o, none⟩ v).cell? ⟨g', k, none⟩ = w.cell? ⟨g', k, none⟩ := World.cell?_of_block (w := w) (Below.heap_setCell w ⟨g, o, none⟩ v g' h)
theorem mc_first {pv fv : Value} {S T : Nat} {e : Bool} : ∀ k, k < 8 → (mcells pv S T fv e)[1 + k]? = some (.int .u64 (limb S k)) := by
  intro k hk
  unfold mcells
  rw [Nat.add_comm 1 k, List.getElem?_cons_succ, List.getElem?_append_left (by rw [pl_length]; omega)]
  exact pl_get S k hk
theorem mc_last {pv fv : Value} {S T : Nat} {e : Bool} : ∀ k, k < 8 → (mcells pv S T fv e)[9 + k]? = some (.int .u64 (limb T k)) := by
  intro k hk
  unfold mcells
  rw [show 9 + k = (8 + k) + 1 by omega, List.getElem?_cons_succ, List.getElem?_append_right (by rw [pl_length]; omega), List.getElem?_append_left (by rw [pl_length]; rw [pl_length]; omega), pl_length, show 8 + k - 8 = k by omega]
  exact pl_get T k hk

theorem mcells_put (pv fv : Value) (S T : Nat) (e : Bool) : (put8 (put8 (mcells pv 0 0 fv false) 1 S) 9 T).set 18 (.bool e) = mcells pv S T fv e := by
  simp [put8, mcells, pl_eq]

/-- A machine in memory: its pattern, and what compile reckons of its tree. -/
structure IsMach (w0 w : World) (mb fb : Nat) (A : Option Addr) (c : Nat) (p : List S50) (t : Re) : Prop where
  hmb : Blk w mb 79 (mcells (.slice A p.length c) t.first t.last (.slice (some ⟨fb, 0, none⟩) p.length p.length) t.null)
  hfb : Blk w fb 76 (fcells (t.link (List.replicate p.length 0)))
  new1 : w0.heap.size ≤ mb
  new2 : w0.heap.size ≤ fb
  ne : mb ≠ fb

theorem info76 : (Tryd.prog.info? 76).map (fun i => (i.zero, i.size, i.bytes)) = some (some (.agg #[.int .u64 0, .int .u64 0, .int .u64 0, .int .u64 0, .int .u64 0, .int .u64 0, .int .u64 0, .int .u64 0]), 8, 64) := by kernel_rfl
theorem made76 (n : Nat) : madeCells #[.int .u64 0, .int .u64 0, .int .u64 0, .int .u64 0, .int .u64 0, .int .u64 0, .int .u64 0, .int .u64 0] (n * 8) = (fcells (List.replicate n 0)).toArray := by
  rw [fcells_zero]
  apply Array.ext
  · simp [madeCells]; omega
  · intro i h1 h2
    have h8 : i % 8 < 8 := Nat.mod_lt _ (by decide)
    have : ∀ k, k < 8 → (#[Value.int .u64 0, .int .u64 0, .int .u64 0, .int .u64 0, .int .u64 0, .int .u64 0, .int .u64 0, .int .u64 0] : Array Value)[k]! = .int .u64 0 := by
      intro k hk
      rcases (show k = 0 ∨ k = 1 ∨ k = 2 ∨ k = 3 ∨ k = 4 ∨ k = 5 ∨ k = 6 ∨ k = 7 by omega) with rfl | rfl | rfl | rfl | rfl | rfl | rfl | rfl <;> rfl
    have := this _ h8
    simpa [madeCells] using this
set_option maxRecDepth 10000 in
theorem run_make77 (n : Nat) (hn : n ≤ 512) (W : World) : (Instr.makeSlice 77 (.int .i64 (n : Int)) (.int .i64 (n : Int))).run Tryd.prog W = .ok (.slice (some ⟨W.heap.size, 0, none⟩) n n) (W.alloc (.cells (fcells (List.replicate n 0)).toArray 76)) := by
  obtain ⟨i, hi, hzz⟩ := Option.map_eq_some_iff.1 info76
  simp only [Prod.mk.injEq] at hzz
  obtain ⟨hz, hs, hb⟩ := hzz
  have := run_make (P := Tryd.prog) W 77 76 i _ Tryd.underlying77 hi hz .i64 .i64 (n : Int) (n : Int) (by omega) (by omega) (by rw [hb]; omega) (by omega)
  rw [this, hs, Int.toNat_natCast]
  congr 3
  exact congrArg _ (made76 n)

/-- What stands behind compile's first statement. -/
structure Made (w wx : World) (mv mb fb : Nat) (A : Option Addr) (c : Nat) (p : List S50) : Prop where
  hp : Blk wx w.heap.size 25 [.slice A p.length c]
  hm : Blk wx mv 61 [.pointer (some ⟨mb, 0, none⟩)]
  hmb : Blk wx mb 79 (mcells (.slice A p.length c) 0 0 (.slice (some ⟨fb, 0, none⟩) p.length p.length) false)
  hfb : Blk wx fb 76 (fcells (List.replicate p.length 0))
  below : Below w.heap.size w wx
  n1 : w.heap.size < mv
  n2 : w.heap.size < mb
  n3 : w.heap.size < fb

set_option maxHeartbeats 4000000 in
theorem compile_any (A : Option Addr) (c : Nat) (p : List S50) (t : Re) (w : World) (hC : Kd.C k50 w A p.length p) (hc : p.length ≤ c) (hn : p.length ≤ 512) (ht : IsRe p (p.length - 1) t) (htab : Tab w) :
    Calls Tryd.prog 42 #[.slice A p.length c] w fun e w' => ∃ mb fb, e = .returned (.pointer (some ⟨mb, 0, none⟩)) ∧ IsMach w w' mb fb A c p t ∧ Below w.heap.size w w' := by
  have hl := ht.lt
  have hmk := run_make77 p.length hn
  have HC := Lib.hid hC
  clear hC
  go_enter Tryd.func42, Tryd.ntmps42
  go_wp2
  go_cut [3] (fun s3 wx => ∃ mv mb fb : Nat, s3 = .pointer (some ⟨mv, 0, none⟩) ∧ Hid (Made w wx mv mb fb A c p))
  case first =>
    go_region
    all_goals go_wp2
    all_goals go_meet
    · refine ⟨_, w.heap.size + 1 + 1, w.heap.size + 1, rfl, Lib.hid ⟨?_, ?_, ?_, ?_, ?_, by omega, by omega, by omega⟩⟩
      case refine_5 => exact ((((Chg.refl [] w).alloc _).alloc _).alloc _ |>.alloc _ |>.drew).below
      all_goals (refine Blk.drew ?_; repeat (first | exact Blk.newE _ _ _ _ _ (by simp) (by simp [mcells, pl_zero8]) | refine Blk.alloc ?_ _))
    · refine ⟨_, w.heap.size + 1 + 1 + 1, w.heap.size + 1, rfl, Lib.hid ⟨?_, ?_, ?_, ?_, ?_, by omega, by omega, by omega⟩⟩
      case refine_5 => exact ((((Chg.refl [] w).alloc _).alloc _).alloc _ |>.alloc _ |>.drew).below
      all_goals (refine Blk.drew ?_; repeat (first | exact Blk.newE _ _ _ _ _ (by simp) (by simp [mcells, pl_zero8]) | refine Blk.alloc ?_ _))
    · refine ⟨_, w.heap.size + 1 + 1 + 1, w.heap.size + 1 + 1, rfl, Lib.hid ⟨?_, ?_, ?_, ?_, ?_, by omega, by omega, by omega⟩⟩
      case refine_5 => exact ((((Chg.refl [] w).alloc _).alloc _).alloc _ |>.alloc _ |>.drew).below
      all_goals (refine Blk.drew ?_; repeat (first | exact Blk.newE _ _ _ _ _ (by simp) (by simp [mcells, pl_zero8]) | refine Blk.alloc ?_ _))
  case rest =>
    obtain ⟨mv, mb, fb, rfl, hM⟩ := hcut
    have l0 := hM.out.hp.lt
    have l1 := hM.out.hm.lt
    have l2 := hM.out.hmb.lt
    have l3 := hM.out.hfb.lt
    have m1 : w.heap.size < wc.heap.size + 1 := by omega
    have m2 : mv < wc.heap.size + 1 := by omega
    have cp : wc.cell? ⟨w.heap.size, 0, none⟩ = some (.slice A p.length c) := hM.out.hp.cell 0
    have cm : wc.cell? ⟨mv, 0, none⟩ = some (.pointer (some ⟨mb, 0, none⟩)) := hM.out.hm.cell 0
    go_wp2
    generalize hg9 : wc.heap.size = g9 at *
    generalize hW2 : World.alloc _ _ = W2
    have f1 : Blk W2 g9 104 [.func (.func 69) #[] #[.pointer (some ⟨w.heap.size, 0, none⟩), .pointer (some ⟨g9, 0, none⟩), .pointer (some ⟨g9 + 1, 0, none⟩)]] := by subst hW2; subst hg9; exact (Blk.new wc _ 104).alloc _
    have f2 : Blk W2 (g9 + 1) 108 [.func (.func 65) #[] #[.pointer (some ⟨mv, 0, none⟩)]] := by subst hW2; subst hg9; exact Blk.new2 wc _ _ 104 108
    have c2 := Lib.hid (show Chg [] wc W2 by subst hW2; exact ((Chg.refl _ _).alloc _).alloc _)
    clear hW2
    have BW : Below w.heap.size w W2 := hM.out.below.trans ⟨c2.out.os, c2.out.tape, c2.out.output, c2.out.size, fun i hi => c2.out.block i (by have := hM.out.below.size; omega) (by simp)⟩
    have P0 : Hid (WalkPre w.heap.size g9 (g9 + 1) mv mb fb p.length A c p (mcells (.slice A p.length c) 0 0 (.slice (some ⟨fb, 0, none⟩) p.length p.length) false) (List.replicate p.length 0) w W2) := Lib.hid
      { tab := (htab.chg (Chg.of_below (L := []) BW) (by simp)), below := BW, hp := hM.out.hp.keep c2.out (by simp), hC := HC.out, hw := f1, hl := f2, hm := hM.out.hm.keep c2.out (by simp), hmb := hM.out.hmb.keep c2.out (by simp),
        hf := by simp [mcells, pl_eq], hfb := hM.out.hfb.keep c2.out (by simp), hn := by simp, hnp := rfl, hn5 := hn, hfb0 := by have := hM.out.n3; omega, h0 := htab.1 }
    have cp2 : W2.cell? ⟨w.heap.size, 0, none⟩ = some (.slice A p.length c) := P0.out.hp.cell 0
    have cm2 : W2.cell? ⟨mv, 0, none⟩ = some (.pointer (some ⟨mb, 0, none⟩)) := P0.out.hm.cell 0
    have cw2 : W2.cell? ⟨g9, 0, none⟩ = some (.func (.func 69) #[] #[.pointer (some ⟨w.heap.size, 0, none⟩), .pointer (some ⟨g9, 0, none⟩), .pointer (some ⟨g9 + 1, 0, none⟩)]) := f1.cell 0
    have wsub : IntKind.i64.wrap ((p.length : Int) - 1) = ((p.length - 1 : Nat) : Int) := by
      rw [show ((p.length : Int) - 1) = ((p.length - 1 : Nat) : Int) by omega]; exact IntWalk.i64_in _ (by omega)
    have P0d : Hid (WalkPre w.heap.size g9 (g9 + 1) mv mb fb p.length A c p (mcells (.slice A p.length c) 0 0 (.slice (some ⟨fb, 0, none⟩) p.length p.length) false) (List.replicate p.length 0) w W2.drew) := Lib.hid (P0.out.keep ((Chg.refl _ _).drew))
    have KEY := Lib.hid (walk_any w.heap.size g9 (g9 + 1) mv mb fb p.length A c p _ w ht _ W2.drew P0d.out)
    have nmv : mv ≠ mb := P0.out.hm.ne P0.out.hmb (by decide)
    have nwv : g9 ≠ mb := P0.out.hw.ne P0.out.hmb (by decide)
    have npv : w.heap.size ≠ mb := P0.out.hp.ne P0.out.hmb (by decide)
    clear f1 f2 cp cm
    go_region_held3 (fun w' => w'.cell? ⟨mv, 0, none⟩ = some (.pointer (some ⟨mb, 0, none⟩)) ∧ w'.cell? ⟨g9, 0, none⟩ = some (.func (.func 69) #[] #[.pointer (some ⟨w.heap.size, 0, none⟩), .pointer (some ⟨g9, 0, none⟩), .pointer (some ⟨g9 + 1, 0, none⟩)]) ∧ w'.cell? ⟨w.heap.size, 0, none⟩ = some (.slice A p.length c)) (first | go_keep | (refine ⟨?_, ?_, ?_⟩ <;> (simp only [far1 nmv, far1 nwv, far1 npv]; assumption)))
      (first
        | (go_at_call 69; refine KEY.out.mono ?_; intro e w' hp; obtain ⟨he, k1, k2⟩ := hp; rw [pl_agg, pl_agg] at he; subst he; have P1 := Lib.hid (P0d.out.next (Re.link_length t _) k2 k1); have r1 : w'.cell? ⟨mv, 0, none⟩ = some (.pointer (some ⟨mb, 0, none⟩)) := P1.out.hm.cell 0; have r2 : w'.cell? ⟨g9, 0, none⟩ = some (.func (.func 69) #[] #[.pointer (some ⟨w.heap.size, 0, none⟩), .pointer (some ⟨g9, 0, none⟩), .pointer (some ⟨g9 + 1, 0, none⟩)]) := P1.out.hw.cell 0; have r3 : w'.cell? ⟨w.heap.size, 0, none⟩ = some (.slice A p.length c) := P1.out.hp.cell 0; obtain ⟨u0, u1, u2, u3, u4, u5, u6, u7⟩ := cells8 (o := 1) (S := 0) P1.out.hmb mc_first; obtain ⟨v0, v1, v2, v3, v4, v5, v6, v7⟩ := cells8 (o := 9) (S := 0) P1.out.hmb mc_last; simp only [Nat.reduceAdd] at u0 u1 u2 u3 u4 u5 u6 u7 v0 v1 v2 v3 v4 v5 v6 v7; have x18 : w'.cell? ⟨mb, 18, none⟩ = some (.bool false) := P1.out.hmb.cell 18; have fr : ∀ k, w'.frozen? ⟨mb, k, none⟩ = false := fun k => P1.out.hmb.frozen k; have K2 := Lib.hid k2; clear k1 k2))
    generalize hW3 : World.setCell _ _ _ = W3
    have E : W3 = (store8 (store8 w' mb 1 t.first) mb 9 t.last).setCell ⟨mb, 18, none⟩ (.bool t.null) := hW3.symm
    have bm : Blk W3 mb 79 (mcells (.slice A p.length c) t.first t.last (.slice (some ⟨fb, 0, none⟩) p.length p.length) t.null) := by
      rw [E]
      have := ((P1.out.hmb.store8 1 t.first (by simp [mcells, pl_length])).store8 9 t.last (by rw [put8_length (by simp [mcells, pl_length])]; simp [mcells, pl_length])).set 18 (.bool t.null)
      rw [mcells_put] at this
      exact this
    have cg : Chg [mb] w' W3 := by rw [E]; exact (((Chg.refl _ _).store8 (by simp) _ _).store8 (by simp) _ _).setCell (by simp) _
    have cm3 : W3.cell? ⟨mv, 0, none⟩ = some (.pointer (some ⟨mb, 0, none⟩)) := (P1.out.hm.keep cg (by simpa using nmv)).cell 0
    have nfb : fb ≠ mb := P1.out.hfb.ne P1.out.hmb (by decide)
    have RES : Hid (IsMach w W3 mb fb A c p t ∧ Below w.heap.size w W3) := Lib.hid ⟨⟨bm, P1.out.hfb.keep cg (by simpa using nfb), by have := hM.out.n2; omega, by have := hM.out.n3; omega, Ne.symm nfb⟩, (Chg.of_below P1.out.below |>.then (L := []) cg (by have := hM.out.n2; simp; omega)).below⟩
    clear hW3 E bm cg u0 u1 u2 u3 u4 u5 u6 u7 v0 v1 v2 v3 v4 v5 v6 v7 x18 fr r1 r2 r3
    go_wp2
    go_ret
    exact ⟨mb, fb, rfl, RES.out.1, RES.out.2⟩
end Go.Proofs.YtaphblnelmncaaaDoor.PA
end

section
/- Lists of pairs in memory; blocks that are kept. -/
set_option linter.unusedVariables false
namespace Go.Proofs.YtaphblnelmncaaaDoor.PA
open Go.RowKit Go.Proofs.YtaphblnelmncaaaDoorW.PrintWords Go.Proofs.YtaphblnelmncaaaDoorW.PrintLast Go.Proofs.YtaphblnelmncaaaDoorW.PrintMore

theorem info92 : (Tryd.prog.info? 92).map (fun i => (i.zero, i.size, i.bytes)) = some (some (.agg #[(.int .i64 0), (.int .i64 0)]), 2, 16) := by kernel_rfl
def k92 : Kd (Int × Int) := Kd.pair (Kd.int .i64) (Kd.int .i64)
theorem k92_open {w : World} {x : Int × Int} {cs : List Value} (h : k92.K w x cs) : cs = [.int .i64 x.1, .int .i64 x.2] := by
  obtain ⟨_, _, rfl, rfl, rfl⟩ := h
  exact rfl
theorem k92_mkM (w : World) (base : Nat) (ok : Nat → Prop) (x : Int × Int) : k92.M w base ok x [.int .i64 x.1, .int .i64 x.2] := ⟨[.int .i64 x.1], [.int .i64 x.2], rfl, rfl, rfl⟩
def rd_T92 (xs : List (Int × Int)) (i : Nat) : Int × Int := xs.getD i (0, 0)
theorem at_T92 {w : World} {A : Option Addr} {n : Nat} {xs : List (Int × Int)} (h : Kd.C k92 w A n xs) (i : Nat) (h1 : i < n) : ∃ ad, A = some ad ∧ w.cell? (ad.add (i * 2)) = some (.int .i64 (rd_T92 xs i).1) ∧ w.cell? ⟨(ad.add (i * 2)).block, (ad.add (i * 2)).off + 1, none⟩ = some (.int .i64 (rd_T92 xs i).2) := by
  obtain ⟨ad, c, e, _, hK, hc0⟩ := Kd.C_get h (0, 0) i (by omega) (by omega)
  have hc : ∀ j u, c[j]? = some u → w.cell? (ad.add (i * 2 + j)) = some u := hc0
  obtain rfl := k92_open hK
  exact ⟨ad, e, hc 0 _ rfl, by rw [← add_field _ _ 1 (by omega)]; exact hc 1 _ rfl⟩

/-- Of the blocks that w has, those in P are as they were. -/
structure Kp (P : Nat → Prop) (w w' : World) : Prop where
  os : w'.os = w.os
  tape : w'.tape = w.tape
  output : w'.output = w.output
  size : w.heap.size ≤ w'.heap.size
  block : ∀ k, k < w.heap.size → P k → w'.heap[k]? = w.heap[k]?
theorem Kp.refl (P : Nat → Prop) (w : World) : Kp P w w := ⟨rfl, rfl, rfl, Nat.le_refl _, fun _ _ _ => rfl⟩
theorem Kp.trans {P : Nat → Prop} {a b c : World} (h : Kp P a b) (k : Kp P b c) : Kp P a c :=
  ⟨k.os.trans h.os, k.tape.trans h.tape, k.output.trans h.output, Nat.le_trans h.size k.size, fun i hi hp => (k.block i (Nat.lt_of_lt_of_le hi h.size) hp).trans (h.block i hi hp)⟩
theorem Kp.mono {P P' : Nat → Prop} {a b : World} (h : Kp P a b) (hp : ∀ k, k < a.heap.size → P' k → P k) : Kp P' a b := ⟨h.os, h.tape, h.output, h.size, fun k hk hk' => h.block k hk (hp k hk hk')⟩
theorem Kp.of_below {P : Nat → Prop} {w w' : World} (h : Below w.heap.size w w') : Kp P w w' := ⟨h.os, h.tape, h.output, h.size, fun k hk _ => h.block k hk⟩
theorem Kp.of_chg {P : Nat → Prop} {L : List Nat} {w w' : World} (h : Chg L w w') (hp : ∀ k, P k → k ∉ L) : Kp P w w' := ⟨h.os, h.tape, h.output, h.size, fun k hk hk' => h.block k hk (hp k hk')⟩
theorem Kp.below {P : Nat → Prop} {B : Nat} {w w' : World} (h : Kp P w w') (hp : ∀ k, k < B → P k) (hB : B ≤ w.heap.size) : Below B w w' := ⟨h.os, h.tape, h.output, h.size, fun k hk => h.block k (by omega) (hp k hk)⟩
theorem Kp.grown {P : Nat → Prop} {w w' : World} {o : Option Nat} (h : w.grownBy w' o) (hp : ∀ k, P k → some k ≠ o) : Kp P w w' :=
  ⟨h.os, h.tape, h.output, h.size, fun k hk hk' => h.block k hk (hp k hk')⟩
theorem Kp.setCell {P : Nat → Prop} {a w : World} (h : Kp P a w) {p : Addr} (hp : ¬ P p.block) (u : Value) : Kp P a (w.setCell p u) :=
  h.trans (Kp.of_chg ((Chg.refl [p.block] w).setCell (by simp) u) (fun k hk => by simp; exact fun e => hp (e ▸ hk)))
theorem Kp.drewN {P : Nat → Prop} {a w : World} (h : Kp P a w) (n : Nat) : Kp P a (w.drewN n) := ⟨h.os, h.tape, h.output, h.size, h.block⟩
theorem Kp.drew {P : Nat → Prop} {a w : World} (h : Kp P a w) : Kp P a w.drew := ⟨h.os, h.tape, h.output, h.size, h.block⟩
theorem Kp.alloc {P : Nat → Prop} {a w : World} (h : Kp P a w) (o : Obj) : Kp P a (w.alloc o) := h.trans (Kp.of_below ((Below.refl _ _).alloc (Nat.le_refl _) _))
theorem Blk.kp {P : Nat → Prop} {w w' : World} {g t : Nat} {cs : List Value} (h : Blk w g t cs) (k : Kp P w w') (hg : P g) : Blk w' g t cs := (k.block g h.lt hg).trans h
theorem Tab.kp {P : Nat → Prop} {w w' : World} (h : Tab w) (k : Kp P w w') (hg : P 0) : Tab w' :=
  ⟨Nat.lt_of_lt_of_le h.1 k.size, fun j hj => (World.cell?_of_block (k.block 0 h.1 hg)).trans (h.2 j hj)⟩
end Go.Proofs.YtaphblnelmncaaaDoor.PA
end

section
/- The walk over meeting's inner closure: one pair of places. -/
set_option linter.unusedVariables false
namespace Go.Proofs.YtaphblnelmncaaaDoor.PA
open Go.RowKit Go.Proofs.YtaphblnelmncaaaDoorW.PrintWords Go.Proofs.YtaphblnelmncaaaDoorW.PrintLast Go.Proofs.YtaphblnelmncaaaDoorW.PrintMore

def mx2 (x y : Int) : Int := if x < y then y else x
def mn2 (x y : Int) : Int := if y < x then y else x
theorem max_mx (ats : Array TypeId) (ty : TypeId) (x y : Int) : Builtin.max_ ats ty #[.int .i64 x, .int .i64 y] = pure (.int .i64 (mx2 x y)) := by rw [max_two, max2_int]; rfl
theorem min_mn (ats : Array TypeId) (ty : TypeId) (x y : Int) : Builtin.min_ ats ty #[.int .i64 x, .int .i64 y] = pure (.int .i64 (mn2 x y)) := by rw [min_two, min2_int]; rfl
attribute [local go_sem] max_mx min_mn
/-- Have two places a common byte? -/
def ovl (p q : List S50) (i j : Nat) : Bool := decide (mx2 (rd_T50 p i).f1 (rd_T50 q j).f1 ≤ mn2 (rd_T50 p i).f2 (rd_T50 q j).f2)

/-- A machine and its pattern in memory. -/
structure MachAt (w : World) (mb fb : Nat) (A : Option Addr) (c : Nat) (p : List S50) (t : Re) : Prop where
  hmb : Blk w mb 79 (mcells (.slice A p.length c) t.first t.last (.slice (some ⟨fb, 0, none⟩) p.length p.length) t.null)
  hfb : Blk w fb 76 (fcells (t.link (List.replicate p.length 0)))
  hC : Kd.C k50 w A p.length p
  hn : p.length ≤ 512
theorem MachAt.below {w w' : World} {mb fb c : Nat} {A : Option Addr} {p : List S50} {t : Re} (h : MachAt w mb fb A c p t) (k : Below w.heap.size w w') : MachAt w' mb fb A c p t :=
  ⟨h.hmb.below k, h.hfb.below k, Kd.C_below h.hC k, h.hn⟩
theorem MachAt.of {w0 w : World} {mb fb c : Nat} {A : Option Addr} {p : List S50} {t : Re} (h : IsMach w0 w mb fb A c p t) (hC : Kd.C k50 w0 A p.length p) (hn : p.length ≤ 512) (k : Below w0.heap.size w0 w) : MachAt w mb fb A c p t := ⟨h.hmb, h.hfb, Kd.C_below hC k, hn⟩

/-- The list of pairs in the variable ov. -/
def OutAt (base iv ov : Nat) (L : List (Int × Int)) (w : World) : Prop := ∃ v, Blk w ov 89 [v] ∧ Kd.R k92 92 w base (fun k => k ≠ ov ∧ k ≠ iv) v L
/-- What the inner closure keeps. -/
def Keeps (base iv ov : Nat) (k : Nat) : Prop := k ≠ ov ∧ (k < base ∨ k = iv)
/-- What one place more adds. -/
def addP (p q : List S50) (i j : Nat) : List (Int × Int) := if ovl p q i j then [((i : Int), (j : Int))] else []

set_option maxHeartbeats 2000000 in
set_option maxRecDepth 100000 in
theorem meet1_any (w0 w : World) (ma fa mb fb : Nat) (A B : Option Addr) (ca cb : Nat) (p q : List S50) (t u : Re) (base av bv iv ov : Nat) (L : List (Int × Int)) (i j : Nat)
    (hA : MachAt w0 ma fa A ca p t) (hB : MachAt w0 mb fb B cb q u) (hb : Below w0.heap.size w0 w) (h1 : Blk w av 61 [.pointer (some ⟨ma, 0, none⟩)]) (h2 : Blk w iv 3 [.int .i64 (i : Int)]) (h3 : Blk w bv 61 [.pointer (some ⟨mb, 0, none⟩)])
    (hO : OutAt base iv ov L w) (hio : iv ≠ ov) (hbo : base ≤ ov) (hbase : base ≤ w.heap.size) (hi : i < p.length) (hj : j < q.length) (hL : L.length ≤ 1000000) :
    Calls Tryd.prog 85 #[.int .i64 (j : Int), .pointer (some ⟨av, 0, none⟩), .pointer (some ⟨iv, 0, none⟩), .pointer (some ⟨bv, 0, none⟩), .pointer (some ⟨ov, 0, none⟩)] w
      fun e w' => e = .returned (.tuple #[]) ∧ OutAt base iv ov (L ++ addP p q i j) w' ∧ Kp (Keeps base iv ov) w w' := by
  obtain ⟨v, hov, hR⟩ := hO
  obtain ⟨Av, cv, rfl⟩ := Kd.R_slice hR
  have d1 : w.cell? ⟨av, 0, none⟩ = some (.pointer (some ⟨ma, 0, none⟩)) := h1.cell 0
  have d2 : w.cell? ⟨iv, 0, none⟩ = some (.int .i64 (i : Int)) := h2.cell 0
  have d3 : w.cell? ⟨bv, 0, none⟩ = some (.pointer (some ⟨mb, 0, none⟩)) := h3.cell 0
  have d4 : w.cell? ⟨ov, 0, none⟩ = some (.slice Av L.length cv) := hov.cell 0
  have hAw := hA.below hb
  have hBw := hB.below hb
  have d5 : w.cell? ⟨ma, 0, none⟩ = some (.slice A p.length ca) := hAw.hmb.cell 0
  have d6 : w.cell? ⟨mb, 0, none⟩ = some (.slice B q.length cb) := hBw.hmb.cell 0
  have hiI : (i : Int) < (p.length : Int) := by omega
  have hjI : (j : Int) < (q.length : Int) := by omega
  obtain ⟨ad, rfl, _, x1, x2, _, _⟩ := at_T50 hAw.hC i (by omega) hiI
  obtain ⟨bd, rfl, _, y1, y2, _, _⟩ := at_T50 hBw.hC j (by omega) hjI
  simp only [Int.toNat_natCast] at x1 x2 y1 y2
  have l1 := h1.lt
  have l2 := h2.lt
  have l3 := h3.lt
  have l4 := hov.lt
  have H2 := Lib.hid h2
  have HO := Lib.hid hov
  have HR := Lib.hid hR
  have hfz := hov.frozen 0
  obtain ⟨lo1, e1⟩ : ∃ z, z = (rd_T50 p i).f1 := ⟨_, rfl⟩
  obtain ⟨hi1, e2⟩ : ∃ z, z = (rd_T50 p i).f2 := ⟨_, rfl⟩
  obtain ⟨lo2, e3⟩ : ∃ z, z = (rd_T50 q j).f1 := ⟨_, rfl⟩
  obtain ⟨hi2, e4⟩ : ∃ z, z = (rd_T50 q j).f2 := ⟨_, rfl⟩
  rw [← e1] at x1
  rw [← e2] at x2
  rw [← e3] at y1
  rw [← e4] at y2
  have HV : Hid (ovl p q i j = decide (mx2 lo1 lo2 ≤ mn2 hi1 hi2)) := Lib.hid (by unfold ovl; rw [e1, e2, e3, e4])
  clear e1 e2 e3 e4 hA hB hAw hBw hb h1 h2 h3 hov hR
  by_cases hv : mx2 lo1 lo2 ≤ mn2 hi1 hi2
  · have HAdd : Hid (addP p q i j = [((i : Int), (j : Int))]) := Lib.hid (by unfold addP; rw [HV.out, if_pos (by simpa using hv)])
    go_enter Tryd.func85, Tryd.ntmps85
    go_wp2_with fail
    go_quiet (fail)
    go_wp2_with (first | ((with_reducible refine gate_builtin (b := .append) (xs := #[.tmp 41, .tmp 45]) rfl ?_); at_builtin; refine Kd.R_append k92 (w0 := w) base rfl (.tmp 41) (.tmp 45) 89 92 (.agg #[(.int .i64 0), (.int .i64 0)]) 16 rfl Tryd.underlying89 info92 rfl (by decide) (by omega) (.slice Av L.length cv) L ((i : Int), (j : Int)) [.int .i64 (i : Int), .int .i64 (j : Int)] (fun k => k ≠ ov ∧ k ≠ iv) (fun _ => False) rfl rfl ?aP (fun _ hk => hk.elim) ?aF ?aO ?aB ?aS ?aL ?_; (case aP => exact k92_mkM _ _ _ ((i : Int), (j : Int))); (case aF => exact (fun k hk => by simp only [World.drewN] at hk; omega)); (case aO => exact Kd.R_drewN HR.out _); (case aB => exact pw_below_drewN (Below.refl _ _) _); (case aS => exact hbase); (case aL => omega); intro v1 w1 ho1 hb1 hg1 hat1; obtain ⟨A1, c1, rfl⟩ := Kd.R_slice ho1; simp only [List.length_append, List.length_cons, List.length_nil, Nat.zero_add] at ho1; have HO1 := Lib.hid ho1; have HG1 := Lib.hid hg1; have n1 : w1.cell? ⟨ov, 0, none⟩ = some (.slice Av L.length cv) := (World.cell?_of_block (hg1.block ov l4 (Kd.R_away HR.out (fun k hk => hk.1)))).trans d4; have n2 : w1.frozen? ⟨ov, 0, none⟩ = false := (World.frozen?_of_block (hg1.block ov l4 (Kd.R_away HR.out (fun k hk => hk.1)))).trans hfz; clear ho1 hb1 hg1 hat1) | fail)
    go_end0
    have l5 := HO1.out
    refine ⟨rfl, ?_, ?_⟩
    · rw [HAdd.out]
      exact ⟨_, ((HO.out.drewN nq).kp (Kp.grown (P := fun k => k = ov) HG1.out (fun k hk => by subst hk; exact Kd.R_away HR.out (fun k hk => hk.1))) rfl).set 0 _, Kd.R_far HO1.out (fun k hk => hk.1) _⟩
    · refine Kp.setCell (((Kp.refl _ _).drewN nq).trans (Kp.grown HG1.out (fun k hk => ?_))) (fun h => h.1 rfl) _
      rcases hk.2 with h | h
      · intro e
        have := Kd.R_base HR.out k e.symm
        omega
      · subst h; exact Kd.R_away HR.out (fun k hk => hk.2)
  · have HAdd : Hid (addP p q i j = []) := Lib.hid (by unfold addP; rw [HV.out, if_neg (by simpa using hv)])
    go_enter Tryd.func85, Tryd.ntmps85
    go_wp2_with fail
    go_quiet (fail)
    go_wp2
    go_end0
    rw [HAdd.out, List.append_nil]
    exact ⟨rfl, ⟨_, HO.out, Kd.R_drewN HR.out _⟩, (Kp.refl _ _).drewN _⟩
end Go.Proofs.YtaphblnelmncaaaDoor.PA
end

section
/- The walks over meeting's outer closure and meeting. -/
set_option linter.unusedVariables false
namespace Go.Proofs.YtaphblnelmncaaaDoor.PA
open Go.RowKit Go.Proofs.YtaphblnelmncaaaDoorW.PrintWords Go.Proofs.YtaphblnelmncaaaDoorW.PrintLast Go.Proofs.YtaphblnelmncaaaDoorW.PrintMore

/-- The pairs of one place. -/
def rowP (p q : List S50) (i : Nat) (l : List Nat) : List (Int × Int) := l.flatMap fun j => addP p q i j
/-- The pairs of two sets. -/
def pairsP (p q : List S50) (m l : List Nat) : List (Int × Int) := l.flatMap fun i => rowP p q i m
theorem rowP_snoc (p q : List S50) (i : Nat) (l : List Nat) (j : Nat) : rowP p q i (l ++ [j]) = rowP p q i l ++ addP p q i j := by simp [rowP]
theorem pairsP_snoc (p q : List S50) (m l : List Nat) (i : Nat) : pairsP p q m (l ++ [i]) = pairsP p q m l ++ rowP p q i m := by simp [pairsP]
theorem rowP_length (p q : List S50) (i : Nat) (l : List Nat) : (rowP p q i l).length ≤ l.length := by
  induction l with
  | nil => simp [rowP]
  | cons j l ih =>
    have : (addP p q i j).length ≤ 1 := by unfold addP; split <;> simp
    simp only [rowP, List.flatMap_cons, List.length_append, List.length_cons] at *
    omega
theorem pairsP_length (p q : List S50) (m l : List Nat) : (pairsP p q m l).length ≤ m.length * l.length := by
  induction l with
  | nil => simp [pairsP]
  | cons i l ih =>
    have := rowP_length p q i m
    have e : pairsP p q m (i :: l) = rowP p q i m ++ pairsP p q m l := rfl
    rw [e, List.length_append, List.length_cons, Nat.mul_add, Nat.mul_one]
    omega
theorem below_length (S : Nat) : (below S 512).length ≤ 512 := by
  unfold below
  exact Nat.le_trans (List.length_filter_le _ _) (by simp)
theorem prefix_length {α : Type} {l a : List α} {x : α} {r : List α} (h : l = a ++ x :: r) : a.length < l.length := by rw [h]; simp

theorem enters85 : ∀ args w, (callFunc 85 args).run Tryd.prog w = .ok (.enter 85 args) w := enters_of Tryd.func85 (by kernel_rfl) rfl
theorem enters84 : ∀ args w, (callFunc 84 args).run Tryd.prog w = .ok (.enter 84 args) w := enters_of Tryd.func84 (by kernel_rfl) rfl

/-- What stands while meeting goes on: the variables a, b, s, t lie in the blocks from av on; the list is L. -/
structure MeetInv (w0 : World) (ma mb S T : Nat) (av : Nat) (L : List (Int × Int)) (w : World) : Prop where
  tab : Tab w
  low : Below w0.heap.size w0 w
  h0 : 0 < w0.heap.size
  h1 : Blk w av 61 [.pointer (some ⟨ma, 0, none⟩)]
  h2 : Blk w (av + 1) 61 [.pointer (some ⟨mb, 0, none⟩)]
  h3 : Blk w (av + 2) 76 (pl S)
  h4 : Blk w (av + 3) 76 (pl T)
  ge : w0.heap.size ≤ av
  out : ∃ v, Blk w (av + 4) 89 [v] ∧ Kd.R k92 92 w (av + 4) (fun k => k ≠ av + 4) v L
theorem MeetInv.lt {w0 w : World} {ma mb S T av : Nat} {L : List (Int × Int)} (h : MeetInv w0 ma mb S T av L w) : av + 4 < w.heap.size := by obtain ⟨v, h, _⟩ := h.out; exact h.lt
theorem MeetInv.drewN {w0 w : World} {ma mb S T av : Nat} {L : List (Int × Int)} (h : MeetInv w0 ma mb S T av L w) (n : Nat) : MeetInv w0 ma mb S T av L (w.drewN n) := by
  obtain ⟨v, o1, o2⟩ := h.out
  exact ⟨h.tab.kp ((Kp.refl (fun _ => True) _).drewN n) trivial, pw_below_drewN h.low n, h.h0, h.h1.drewN n, h.h2.drewN n, h.h3.drewN n, h.h4.drewN n, h.ge, v, o1.drewN n, Kd.R_drewN o2 n⟩

/-- While the inner closure goes through its places. -/
structure RowInv (w0 : World) (ma mb S T : Nat) (av iv i : Nat) (L : List (Int × Int)) (w : World) : Prop where
  tab : Tab w
  low : Below w0.heap.size w0 w
  h0 : 0 < w0.heap.size
  h1 : Blk w av 61 [.pointer (some ⟨ma, 0, none⟩)]
  h2 : Blk w (av + 1) 61 [.pointer (some ⟨mb, 0, none⟩)]
  h3 : Blk w (av + 2) 76 (pl S)
  h4 : Blk w (av + 3) 76 (pl T)
  h5 : Blk w iv 3 [.int .i64 (i : Int)]
  ge : w0.heap.size ≤ av
  gi : av + 4 < iv
  out : OutAt (av + 4) iv (av + 4) L w
theorem RowInv.drewN {w0 w : World} {ma mb S T av iv i : Nat} {L : List (Int × Int)} (h : RowInv w0 ma mb S T av iv i L w) (n : Nat) : RowInv w0 ma mb S T av iv i L (w.drewN n) := by
  obtain ⟨v, o1, o2⟩ := h.out
  exact ⟨h.tab.kp ((Kp.refl (fun _ => True) _).drewN n) trivial, pw_below_drewN h.low n, h.h0, h.h1.drewN n, h.h2.drewN n, h.h3.drewN n, h.h4.drewN n, h.h5.drewN n, h.ge, h.gi, v, o1.drewN n, Kd.R_drewN o2 n⟩

set_option maxHeartbeats 1000000 in
theorem meet2_any (w0 w : World) (ma fa mb fb : Nat) (A B : Option Addr) (ca cb : Nat) (p q : List S50) (t u : Re) (S T av : Nat) (L : List (Int × Int)) (i : Nat)
    (hA : MachAt w0 ma fa A ca p t) (hB : MachAt w0 mb fb B cb q u) (hM : MeetInv w0 ma mb S T av L w) (hi : i < p.length) (hT : ∀ j, T.testBit j = true → j < q.length) (hL : L.length ≤ 600000) :
    Calls Tryd.prog 84 #[.int .i64 (i : Int), .pointer (some ⟨av + 3, 0, none⟩), .pointer (some ⟨av, 0, none⟩), .pointer (some ⟨av + 1, 0, none⟩), .pointer (some ⟨av + 4, 0, none⟩)] w
      fun e w' => e = .returned (.tuple #[]) ∧ MeetInv w0 ma mb S T av (L ++ rowP p q i (below T 512)) w' := by
  have hlt := hM.lt
  have key := each_any (av + 3) 76 0 T 85 #[.pointer (some ⟨av, 0, none⟩), .pointer (some ⟨w.heap.size, 0, none⟩), .pointer (some ⟨av + 1, 0, none⟩), .pointer (some ⟨av + 4, 0, none⟩)]
    (fun l w' => RowInv w0 ma mb S T av w.heap.size i (L ++ rowP p q i l) w') (w.alloc (.cells #[.int .i64 (i : Int)] 3)) enters85
    (by
      obtain ⟨v, o1, o2⟩ := hM.out
      refine ⟨hM.tab.kp ((Kp.refl (fun _ => True) _).alloc _) trivial, hM.low.alloc hM.low.size _, hM.h0, hM.h1.alloc _, hM.h2.alloc _, hM.h3.alloc _, hM.h4.alloc _, Blk.new w _ 3, hM.ge, hlt, v, o1.alloc _, ?_⟩
      have := Kd.R_mono (Kd.R_bound o2) (ok' := fun k => k ≠ av + 4 ∧ k ≠ w.heap.size) (fun k hk => ⟨hk.1, by have := hk.2.2.1; omega⟩)
      simpa [rowP] using Kd.R_alloc this _)
    (fun l w n h => h.drewN n) (fun l w h => ⟨h.tab, _, h.h4, pl_at8 T⟩)
    (fun l j r hl w1 h => by
      have hj : j < q.length := hT j (mem_below.1 (by rw [hl]; simp)).2
      have hlen : (L ++ rowP p q i l).length ≤ 1000000 := by
        have h1 := rowP_length p q i l
        have h2 := prefix_length hl
        have h3 := below_length T
        rw [List.length_append]; omega
      refine (meet1_any w0 w1 ma fa mb fb A B ca cb p q t u (av + 4) av (av + 1) w.heap.size (av + 4) _ i j hA hB h.low h.h1 h.h5 h.h2 h.out (by omega) (Nat.le_refl _) (by have := h.h5.lt; omega) hi hj hlen).mono ?_
      rintro e w2 ⟨rfl, k1, k2⟩
      have kk : ∀ g, g < av + 4 → Keeps (av + 4) w.heap.size (av + 4) g := fun g hg => ⟨by omega, .inl hg⟩
      have hge := h.ge
      have h0 := h.h0
      refine ⟨rfl, h.tab.kp k2 (kk 0 (by omega)), h.low.trans (k2.below (fun g hg => kk g (by omega)) h.low.size), h0, h.h1.kp k2 (kk _ (by omega)), h.h2.kp k2 (kk _ (by omega)), h.h3.kp k2 (kk _ (by omega)), h.h4.kp k2 (kk _ (by omega)), h.h5.kp k2 ⟨by have := h.gi; omega, .inr rfl⟩, hge, h.gi, ?_⟩
      rw [rowP_snoc, ← List.append_assoc]
      exact k1)
  have KEY := Lib.hid key
  have HM := Lib.hid hM
  clear key hA hB hT
  go_enter Tryd.func84, Tryd.ntmps84
  go_wp2_with fail
  refine KEY.out.mono ?_
  rintro e w1 ⟨rfl, k1⟩
  have K1 := Lib.hid k1
  clear k1
  go_wp2
  go_end0
  have k := K1.out
  obtain ⟨v, o1, o2⟩ := k.out
  exact ⟨rfl, k.tab, k.low, k.h0, k.h1, k.h2, k.h3, k.h4, k.ge, v, o1, Kd.R_mono o2 (fun k hk => hk.1)⟩

/-- meeting's list. -/
def meetL (p q : List S50) (S T : Nat) : List (Int × Int) := pairsP p q (below T 512) (below S 512)

set_option maxHeartbeats 1000000 in
theorem meet_any (w : World) (ma fa mb fb : Nat) (A B : Option Addr) (ca cb : Nat) (p q : List S50) (t u : Re) (S T : Nat)
    (hA : MachAt w ma fa A ca p t) (hB : MachAt w mb fb B cb q u) (htab : Tab w) (hS : ∀ j, S.testBit j = true → j < p.length) (hT : ∀ j, T.testBit j = true → j < q.length) :
    Calls Tryd.prog 58 #[.pointer (some ⟨ma, 0, none⟩), .pointer (some ⟨mb, 0, none⟩), .agg (pl S).toArray, .agg (pl T).toArray] w
      fun e w' => ∃ v, e = .returned v ∧ Kd.R k92 92 w' w.heap.size (fun _ => True) v (meetL p q S T) ∧ Below w.heap.size w w' := by
  obtain ⟨SS, hSS⟩ : ∃ x, x = (pl S).toArray := ⟨_, rfl⟩
  obtain ⟨TT, hTT⟩ : ∃ x, x = (pl T).toArray := ⟨_, rfl⟩
  have HS := Lib.hid hSS
  have HT := Lib.hid hTT
  rw [← HS.out, ← HT.out]
  clear hSS hTT
  have key := each_any (w.heap.size + 2) 76 0 S 84 #[.pointer (some ⟨w.heap.size + 3, 0, none⟩), .pointer (some ⟨w.heap.size, 0, none⟩), .pointer (some ⟨w.heap.size + 1, 0, none⟩), .pointer (some ⟨w.heap.size + 4, 0, none⟩)]
    (fun l w' => MeetInv w ma mb S T w.heap.size (pairsP p q (below T 512) l) w') (((((w.alloc (.cells #[.pointer (some ⟨ma, 0, none⟩)] 61)).alloc (.cells #[.pointer (some ⟨mb, 0, none⟩)] 61)).alloc (.cells SS 76)).alloc (.cells TT 76)).alloc (.cells #[.slice none 0 0] 89)) enters84
    (by
      have b1 := Blk.new w #[.pointer (some ⟨ma, 0, none⟩)] 61
      have b2 := Blk.newE (w.alloc (.cells #[.pointer (some ⟨ma, 0, none⟩)] 61)) #[.pointer (some ⟨mb, 0, none⟩)] 61 (w.heap.size + 1) _ (by simp) rfl
      have b3 := Blk.newE ((w.alloc (.cells #[.pointer (some ⟨ma, 0, none⟩)] 61)).alloc (.cells #[.pointer (some ⟨mb, 0, none⟩)] 61)) SS 76 (w.heap.size + 2) (pl S) (by simp) (by rw [HS.out])
      have b4 := Blk.newE (((w.alloc (.cells #[.pointer (some ⟨ma, 0, none⟩)] 61)).alloc (.cells #[.pointer (some ⟨mb, 0, none⟩)] 61)).alloc (.cells SS 76)) TT 76 (w.heap.size + 3) (pl T) (by simp) (by rw [HT.out])
      have b5 := Blk.newE ((((w.alloc (.cells #[.pointer (some ⟨ma, 0, none⟩)] 61)).alloc (.cells #[.pointer (some ⟨mb, 0, none⟩)] 61)).alloc (.cells SS 76)).alloc (.cells TT 76)) #[.slice none 0 0] 89 (w.heap.size + 4) _ (by simp) rfl
      refine ⟨htab.kp ((((((Kp.refl (fun _ => True) _).alloc _).alloc _).alloc _).alloc _).alloc _) trivial, (((((Below.refl _ _).alloc (by simp <;> omega) _).alloc (by simp <;> omega) _).alloc (by simp <;> omega) _).alloc (by simp <;> omega) _).alloc (by simp <;> omega) _, htab.1, (((b1.alloc _).alloc _).alloc _).alloc _, ((b2.alloc _).alloc _).alloc _, (b3.alloc _).alloc _, b4.alloc _, Nat.le_refl _, _, b5, Kd.R_nil _ _ _ _ _⟩)
    (fun l w n h => h.drewN n) (fun l w h => ⟨h.tab, _, h.h3, pl_at8 S⟩)
    (fun l i r hl w1 h => by
      have hi : i < p.length := hS i (mem_below.1 (by rw [hl]; simp)).2
      have hlen : (pairsP p q (below T 512) l).length ≤ 600000 := by
        have h1 := pairsP_length p q (below T 512) l
        have h2 := prefix_length hl
        have h3 := below_length T
        have h4 := below_length S
        have h5 : (below T 512).length * l.length ≤ 512 * 512 := Nat.mul_le_mul h3 (by omega)
        omega
      refine (meet2_any w w1 ma fa mb fb A B ca cb p q t u S T w.heap.size _ i hA hB h hi hT hlen).mono ?_
      rintro e w2 ⟨rfl, k⟩
      rw [pairsP_snoc]
      exact ⟨rfl, k⟩)
  have KEY := Lib.hid key
  clear key hA hB hS hT
  go_enter Tryd.func58, Tryd.ntmps58
  go_wp2_with fail
  refine KEY.out.mono ?_
  rintro e w1 ⟨rfl, k1⟩
  have K1 := Lib.hid k1
  obtain ⟨v, o1, o2⟩ := k1.out
  obtain ⟨Av, cv, rfl⟩ := Kd.R_slice o2
  have c1 : w1.cell? ⟨w.heap.size + 4, 0, none⟩ = some _ := o1.cell 0
  have HR : Hid (Kd.R k92 92 w1 w.heap.size (fun _ => True) _ (meetL p q S T)) := Lib.hid (Kd.R_mono (Kd.R_lower o2 (by omega)) (fun _ _ => trivial))
  have HL := Lib.hid k1.low
  clear k1 o1 o2
  go_wp2
  go_ret
  exact ⟨_, rfl, HR.out, HL.out⟩
end Go.Proofs.YtaphblnelmncaaaDoor.PA
end

section
/- The walks over distances' first closure: which places come before each place. -/
set_option linter.unusedVariables false
namespace Go.Proofs.YtaphblnelmncaaaDoor.PA
open Go.RowKit Go.Proofs.YtaphblnelmncaaaDoorW.PrintWords Go.Proofs.YtaphblnelmncaaaDoorW.PrintLast Go.Proofs.YtaphblnelmncaaaDoorW.PrintMore

/-- Place i comes before the places of l. -/
def backAdd (i : Nat) (l : List Nat) (O : List Nat) : List Nat := l.foldl (fun O k => O.set k (O.getD k 0 ||| 1 <<< i)) O
/-- The first n places' followers, turned round. -/
def backTo (F : List Nat) (m : Nat) : Nat → List Nat
  | 0 => List.replicate m 0
  | n + 1 => backAdd n (below (F.getD n 0) 512) (backTo F m n)
/-- Which places come before each place. -/
def backF (F : List Nat) : List Nat := backTo F F.length F.length
theorem backAdd_length (i : Nat) (l O : List Nat) : (backAdd i l O).length = O.length := by
  induction l generalizing O with
  | nil => rfl
  | cons a l ih => unfold backAdd at *; rw [List.foldl_cons, ih]; simp
theorem backAdd_snoc (i : Nat) (l O : List Nat) (k : Nat) : backAdd i (l ++ [k]) O = (backAdd i l O).set k ((backAdd i l O).getD k 0 ||| 1 <<< i) := by
  unfold backAdd; rw [List.foldl_append]; rfl
theorem backTo_length (F : List Nat) (m n : Nat) : (backTo F m n).length = m := by
  induction n with
  | zero => simp [backTo]
  | succ n ih => simp only [backTo]; rw [backAdd_length, ih]

theorem add_ex (g t o i : Nat) (cs : List Value) (S : Nat) (w : World) (h1 : i < 512) (hb : Blk w g t cs) (ha : At8 cs o S) :
    Calls Tryd.prog 70 #[.pointer (some ⟨g, o, none⟩), .int .i64 (i : Int)] w fun e w' => e = .returned (.tuple #[]) ∧ Blk w' g t (put8 cs o (S ||| 1 <<< i)) ∧ Chg [g] w w' := add_any g t o cs S i w h1 hb ha

set_option maxHeartbeats 1000000 in
theorem back1_any (xv iv ob i k n : Nat) (O : List Nat) (w : World) (h1 : Blk w xv 77 [.slice (some ⟨ob, 0, none⟩) n n]) (h2 : Blk w iv 3 [.int .i64 (i : Int)]) (h3 : Blk w ob 76 (fcells O)) (hn : O.length = n) (hk : k < n) (hi : i < 512) (hn5 : n ≤ 512) :
    Calls Tryd.prog 83 #[.int .i64 (k : Int), .pointer (some ⟨xv, 0, none⟩), .pointer (some ⟨iv, 0, none⟩)] w fun e w' => e = .returned (.tuple #[]) ∧ Blk w' ob 76 (fcells (O.set k (O.getD k 0 ||| 1 <<< i))) ∧ Chg [ob] w w' := by
  subst hn
  have c1 : w.cell? ⟨xv, 0, none⟩ = some (.slice (some ⟨ob, 0, none⟩) O.length O.length) := h1.cell 0
  have c2 : w.cell? ⟨iv, 0, none⟩ = some (.int .i64 (i : Int)) := h2.cell 0
  have hkI : (k : Int) < (O.length : Int) := by omega
  have HA := Lib.hid (Nat.mul_comm 8 k ▸ fcells_at8 O k hk : At8 (fcells O) (k * 8) (O.getD k 0))
  have HB := Lib.hid h3
  clear h1 h2 h3
  go_enter Tryd.func83, Tryd.ntmps83
  go_wp2
  go_region_with (go_at_call 70; refine (add_ex ob 76 (k * 8) i (fcells O) (O.getD k 0) _ hi (HB.out.drew) HA.out).mono ?_; rintro e w' ⟨rfl, h1, h2⟩; have HO := Lib.hid (And.intro h1 h2); clear h1 h2)
  all_goals (go_end0; refine ⟨rfl, ?_, (Chg.refl _ _).drew.then HO.out.2 (by simp)⟩; have h := HO.out.1; rw [Nat.mul_comm k 8, fcells_put O k _ hk] at h; exact h)
theorem enters83 : ∀ args w, (callFunc 83 args).run Tryd.prog w = .ok (.enter 83 args) w := enters_of Tryd.func83 (by kernel_rfl) rfl

/-- While the places of one set are gone through. -/
structure BackInv (w0 : World) (xv iv ob fb i n : Nat) (F : List Nat) (O : List Nat) (w : World) : Prop where
  tab : Tab w
  h1 : Blk w xv 77 [.slice (some ⟨ob, 0, none⟩) n n]
  h2 : Blk w iv 3 [.int .i64 (i : Int)]
  h3 : Blk w ob 76 (fcells O)
  h4 : Blk w fb 76 (fcells F)
  len : O.length = n
  chg : Chg [ob] w0 w

theorem back2_any (w : World) (xv iv ob fb i n : Nat) (F O : List Nat) (htab : Tab w) (h1 : Blk w xv 77 [.slice (some ⟨ob, 0, none⟩) n n]) (h2 : Blk w iv 3 [.int .i64 (i : Int)]) (h3 : Blk w ob 76 (fcells O)) (h4 : Blk w fb 76 (fcells F)) (hn : O.length = n) (hF : F.length = n)
    (hi : i < n) (hn5 : n ≤ 512) (hne : fb ≠ ob) (ho0 : ob ≠ 0) (hW : Within F n) :
    Calls Tryd.prog 66 #[.pointer (some ⟨fb, i * 8, none⟩), .func (.func 83) #[] #[.pointer (some ⟨xv, 0, none⟩), .pointer (some ⟨iv, 0, none⟩)]] w fun e w' => e = .returned (.tuple #[]) ∧ Blk w' ob 76 (fcells (backAdd i (below (F.getD i 0) 512) O)) ∧ Chg [ob] w w' := by
  have n1 : xv ≠ ob := h1.ne h3 (by decide)
  have n2 : iv ≠ ob := h2.ne h3 (by decide)
  have key := each_any fb 76 (i * 8) (F.getD i 0) 83 #[.pointer (some ⟨xv, 0, none⟩), .pointer (some ⟨iv, 0, none⟩)] (fun l w' => BackInv w xv iv ob fb i n F (backAdd i l O) w') w enters83
    ⟨htab, h1, h2, h3, h4, hn, Chg.refl _ _⟩
    (fun l w n h => ⟨h.tab.chg ((Chg.refl [] w).drewN n) (by simp), h.h1.drewN n, h.h2.drewN n, h.h3.drewN n, h.h4.drewN n, h.len, h.chg.drewN n⟩)
    (fun l w h => ⟨h.tab, _, h.h4, Nat.mul_comm 8 i ▸ fcells_at8 F i (by omega)⟩)
    (fun l k r hl w1 h => by
      have hk : k < n := hW i k (mem_below.1 (by rw [hl]; simp)).2
      refine (back1_any xv iv ob i k n _ w1 h.h1 h.h2 h.h3 h.len hk (by omega) hn5).mono ?_
      rintro e w2 ⟨rfl, k1, k2⟩
      refine ⟨rfl, h.tab.chg k2 (by simpa using Ne.symm ho0), h.h1.keep k2 (by simpa using n1), h.h2.keep k2 (by simpa using n2), by rw [backAdd_snoc]; exact k1, h.h4.keep k2 (by simpa using hne), by rw [backAdd_length]; exact hn, h.chg.trans k2⟩)
  refine key.mono ?_
  rintro e w1 ⟨rfl, k⟩
  exact ⟨rfl, k.h3, k.chg⟩

set_option maxHeartbeats 2000000 in
theorem back_any (w : World) (mb fb : Nat) (A : Option Addr) (c : Nat) (p : List S50) (t : Re) (root : Nat) (hM : MachAt w mb fb A c p t) (ht : IsRe p root t) (htab : Tab w) :
    Calls Tryd.prog 82 #[.pointer (some ⟨mb, 0, none⟩)] w fun e w' => ∃ ob, e = .returned (.slice (some ⟨ob, 0, none⟩) p.length p.length) ∧ Blk w' ob 76 (fcells (backF (t.link (List.replicate p.length 0)))) ∧ w.heap.size ≤ ob ∧ Below w.heap.size w w' := by
  obtain ⟨F, hF⟩ : ∃ F, F = t.link (List.replicate p.length 0) := ⟨_, rfl⟩
  have hFl : F.length = p.length := by rw [hF, Re.link_length]; simp
  have hFw : Within F p.length := by rw [hF]; exact link_within ht _ (within_zero _ _)
  have hn := hM.hn
  have h0 : w.cell? ⟨mb, 0, none⟩ = some (.slice A p.length c) := hM.hmb.cell 0
  have hmk := run_make77 p.length hn
  have l1 := hM.hmb.lt
  have l2 := hM.hfb.lt
  have l0 := htab.1
  have HM := Lib.hid hM
  have HF := Lib.hid hF
  have HFL := Lib.hid hFl
  have HFW := Lib.hid hFw
  have HT := Lib.hid htab
  rw [← HF.out]
  obtain ⟨G, hG⟩ : ∃ G, G = backF F := ⟨_, rfl⟩
  have HG := Lib.hid hG
  rw [← HG.out]
  clear hM hF hFl hFw ht htab hG
  go_enter Tryd.func82, Tryd.ntmps82
  go_wp2_with fail
  go_loopw [16] (fun c wr => ∃ n : Nat, n ≤ p.length ∧ c = .int .i64 (n : Int) ∧ Hid (Blk wr (w.heap.size + 1) 77 [.slice (some ⟨w.heap.size, 0, none⟩) p.length p.length]) ∧ Hid (Blk wr w.heap.size 76 (fcells (backTo F p.length n))) ∧ Hid (Below w.heap.size w wr)) (fun c _ => p.length - (intOf c).toNat)
  case atStart =>
    refine ⟨0, Nat.zero_le _, rfl, Lib.hid (Blk.newE _ _ _ _ _ (by simp) rfl), Lib.hid ((Blk.newE w _ _ _ _ rfl (by simp [backTo])).alloc _), Lib.hid (((Below.refl _ _).alloc (Nat.le_refl _) _).alloc (by simp) _)⟩
  case round =>
    obtain ⟨n, hnl, rfl, k1, k2, k3⟩ := hrel
    by_cases hlt : n < p.length
    · have hI : (n : Int) < (p.length : Int) := by omega
      have hMr := HM.out.below k3.out
      have e0 : wr.cell? ⟨mb, 17, none⟩ = some (.slice (some ⟨fb, 0, none⟩) p.length p.length) := hMr.hmb.cell 17
      have m1 := hMr.hmb.lt
      have m2 := hMr.hfb.lt
      have m3 := k1.out.lt
      have m4 := k2.out.lt
      have HF4 : Hid (Blk wr fb 76 (fcells F)) := Lib.hid (by have := hMr.hfb; rw [← HF.out] at this; exact this)
      have HTr : Hid (Tab wr) := Lib.hid (HT.out.chg (Chg.of_below (L := []) k3.out) (by simp))
      clear hMr
      go_wp2_with fail
      go_region_with (go_at_call 66; refine (back2_any _ (w.heap.size + 1) wr.heap.size w.heap.size fb n p.length F (backTo F p.length n) (HTr.out.chg (((Chg.refl [] wr).alloc _).drew) (by simp)) ((k1.out.alloc _).drew) ((Blk.new wr _ 3).drew) ((k2.out.alloc _).drew) ((HF4.out.alloc _).drew) (backTo_length _ _ _) HFL.out hlt hn (by omega) (by omega) HFW.out).mono ?_; rintro e w' ⟨rfl, h1, h2⟩; have HO := Lib.hid (And.intro h1 h2); clear h1 h2)
      all_goals
        have m5 := HO.out.1.lt
        go_wp2
        go_roundw
        case rel => exact ⟨n + 1, by omega, by go_num, Lib.hid (((k1.out.alloc _).drew).keep HO.out.2 (by simp)), Lib.hid HO.out.1, Lib.hid (k3.out.trans (((Below.refl _ _).alloc k3.out.size _).drew.trans ⟨HO.out.2.os, HO.out.2.tape, HO.out.2.output, HO.out.2.size, fun g hg => HO.out.2.block g (by simp [World.drew]; omega) (by simp; omega)⟩))⟩
        case measure => simp [intOf]; omega
    · have : n = p.length := by omega
      subst this
      have e1 : wr.cell? ⟨w.heap.size + 1, 0, none⟩ = some (.slice (some ⟨w.heap.size, 0, none⟩) p.length p.length) := k1.out.cell 0
      go_wp2
      go_ret
      refine ⟨_, rfl, ?_, Nat.le_refl _, k3.out⟩
      rw [HG.out]; unfold backF; rw [HFL.out]; exact k2.out
end Go.Proofs.YtaphblnelmncaaaDoor.PA
end

section
/- The distances, the pairs that follow, and the common string as plain functions. -/
set_option linter.unusedVariables false
namespace Go.Proofs.YtaphblnelmncaaaDoor.PA
open Go.RowKit Go.Proofs.YtaphblnelmncaaaDoorW.PrintWords

/-- A list without repetitions is no longer than one that holds all of its elements. -/
theorem nodup_length {α : Type} [DecidableEq α] : ∀ (l m : List α), l.Nodup → (∀ x ∈ l, x ∈ m) → l.length ≤ m.length
  | [], m, _, _ => Nat.zero_le _
  | a :: l, m, hn, hs => by
    rw [List.nodup_cons] at hn
    have ha : a ∈ m := hs a List.mem_cons_self
    have h1 := nodup_length l (m.erase a) hn.2 (fun x hx => (List.mem_erase_of_ne (fun e => hn.1 (by rw [← e]; exact hx))).2 (hs x (List.mem_cons_of_mem _ hx)))
    have h2 := List.length_erase_of_mem ha
    have h3 := List.length_pos_of_mem ha
    simp only [List.length_cons]; omega

/-- A pair of places of two patterns. -/
def InP (n m : Nat) (x : Int × Int) : Prop := ∃ i j : Nat, x = ((i : Int), (j : Int)) ∧ i < n ∧ j < m
def allP (n m : Nat) : List (Int × Int) := (List.range n).flatMap fun (i : Nat) => (List.range m).map fun (j : Nat) => ((i : Int), (j : Int))
theorem InP.mem {n m : Nat} {x : Int × Int} (h : InP n m x) : x ∈ allP n m := by
  obtain ⟨i, j, rfl, h1, h2⟩ := h
  simp only [allP, List.mem_flatMap, List.mem_range, List.mem_map]
  exact ⟨i, h1, j, h2, rfl⟩
theorem allP_length (n m : Nat) : (allP n m).length = n * m := by
  unfold allP
  induction n with
  | zero => simp
  | succ n ih => rw [List.range_succ, List.flatMap_append, List.length_append, ih, Nat.succ_mul]; simp
theorem addP_mem {p q : List S50} {i j : Nat} {x : Int × Int} (h : x ∈ addP p q i j) : x = ((i : Int), (j : Int)) ∧ ovl p q i j = true := by
  unfold addP at h
  split at h
  · rename_i hv; exact ⟨by simpa using h, hv⟩
  · cases h
theorem meetL_mem {p q : List S50} {S T : Nat} {x : Int × Int} : x ∈ meetL p q S T ↔ ∃ i j : Nat, x = ((i : Int), (j : Int)) ∧ i ∈ below S 512 ∧ j ∈ below T 512 ∧ ovl p q i j = true := by
  simp only [meetL, pairsP, rowP, List.mem_flatMap]
  constructor
  · rintro ⟨i, hi, j, hj, hx⟩
    obtain ⟨rfl, hv⟩ := addP_mem hx
    exact ⟨i, j, rfl, hi, hj, hv⟩
  · rintro ⟨i, j, rfl, hi, hj, hv⟩
    exact ⟨i, hi, j, hj, by unfold addP; rw [if_pos hv]; simp⟩
theorem meetL_in {p q : List S50} {S T : Nat} (hS : ∀ j, S.testBit j = true → j < p.length) (hT : ∀ j, T.testBit j = true → j < q.length) : ∀ x ∈ meetL p q S T, InP p.length q.length x := by
  intro x hx
  obtain ⟨i, j, rfl, hi, hj, _⟩ := meetL_mem.1 hx
  exact ⟨i, j, rfl, hS i (mem_below.1 hi).2, hT j (mem_below.1 hj).2⟩
theorem meetL_length (p q : List S50) (S T : Nat) : (meetL p q S T).length ≤ 262144 := by
  have h1 := pairsP_length p q (below T 512) (below S 512)
  have h2 : (below T 512).length * (below S 512).length ≤ 512 * 512 := Nat.mul_le_mul (below_length T) (below_length S)
  unfold meetL; omega

/-- Which pairs have been met, and how far they are from the end. -/
abbrev DMap := Int × Int → Option Int
def putD (f : DMap) (y : Int × Int) (d : Int) : DMap := fun k => if k = y then some d else f k
/-- One pair from which x is reached. -/
def bfsAdd (x : Int × Int) (s : List (Int × Int) × DMap) (y : Int × Int) : List (Int × Int) × DMap :=
  if (s.2 y).isSome then s else (s.1 ++ [y], putD s.2 y ((s.2 x).getD 0 + 1))
def bfsRow (x : Int × Int) (ys : List (Int × Int)) (s : List (Int × Int) × DMap) : List (Int × Int) × DMap := ys.foldl (bfsAdd x) s
theorem bfsRow_snoc (x : Int × Int) (ys : List (Int × Int)) (y : Int × Int) (s : List (Int × Int) × DMap) : bfsRow x (ys ++ [y]) s = bfsAdd x (bfsRow x ys s) y := by unfold bfsRow; rw [List.foldl_append]; rfl
/-- The pairs from which x is reached. -/
def prevL (p q : List S50) (A B : List Nat) (x : Int × Int) : List (Int × Int) := meetL p q (A.getD x.1.toNat 0) (B.getD x.2.toNat 0)
def bfsF (p q : List S50) (A B : List Nat) : Nat → Nat → List (Int × Int) × DMap → Option DMap
  | 0, _, _ => none
  | n + 1, i, s => if i < s.1.length then bfsF p q A B n (i + 1) (bfsRow (rd_T92 s.1 i) (prevL p q A B (rd_T92 s.1 i)) s) else some s.2

/-- What stands while the distances are found. -/
structure BInv (n m : Nat) (init : List (Int × Int)) (s : List (Int × Int) × DMap) : Prop where
  ex : ∃ rest, s.1 = init ++ rest ∧ rest.Nodup
  inP : ∀ y ∈ s.1, InP n m y
  has : ∀ y ∈ s.1, (s.2 y).isSome = true
  rng : ∀ y d, s.2 y = some d → 0 ≤ d ∧ d ≤ s.1.length
theorem BInv.room {n m : Nat} {init : List (Int × Int)} {s : List (Int × Int) × DMap} (h : BInv n m init s) (hn : n ≤ 512) (hm : m ≤ 512) (hi : init.length ≤ 262144) : s.1.length ≤ 524288 := by
  obtain ⟨rest, h1, h2⟩ := h.ex
  have h3 := nodup_length rest (allP n m) h2 (fun x hx => (h.inP x (by rw [h1]; exact List.mem_append_right _ hx)).mem)
  rw [allP_length] at h3
  have h4 : n * m ≤ 512 * 512 := Nat.mul_le_mul hn hm
  rw [h1, List.length_append]; omega
theorem BInv.add {n m : Nat} {init : List (Int × Int)} {s : List (Int × Int) × DMap} (h : BInv n m init s) (x y : Int × Int) (hy : InP n m y) : BInv n m init (bfsAdd x s y) := by
  unfold bfsAdd
  split
  · exact h
  · rename_i hn
    obtain ⟨rest, h1, h2⟩ := h.ex
    have hny : y ∉ s.1 := fun hm => hn (h.has y hm)
    refine ⟨⟨rest ++ [y], by rw [h1]; simp, ?_⟩, fun z hz => ?_, fun z hz => ?_, fun z d hz => ?_⟩
    · rw [List.nodup_append]
      refine ⟨h2, by simp, fun a ha b hb => ?_⟩
      rw [List.mem_singleton] at hb
      subst hb
      rintro rfl
      exact hny (by rw [h1]; exact List.mem_append_right _ ha)
    · rcases List.mem_append.1 hz with hz | hz
      · exact h.inP z hz
      · rw [List.mem_singleton] at hz; subst hz; exact hy
    · show (putD s.2 y ((s.2 x).getD 0 + 1) z).isSome = true
      unfold putD
      split
      · rfl
      · rename_i hne
        rcases List.mem_append.1 hz with hz | hz
        · exact h.has z hz
        · rw [List.mem_singleton] at hz; exact absurd hz hne
    · have hz : putD s.2 y ((s.2 x).getD 0 + 1) z = some d := hz
      unfold putD at hz
      simp only [List.length_append, List.length_cons, List.length_nil]
      split at hz
      · cases hz
        cases hx : s.2 x with
        | none => simp; omega
        | some v => have := h.rng x v hx; simp; omega
      · have := h.rng z d hz; omega
theorem BInv.row {n m : Nat} {init : List (Int × Int)} (x : Int × Int) : ∀ (ys : List (Int × Int)) {s : List (Int × Int) × DMap}, BInv n m init s → (∀ y ∈ ys, InP n m y) → BInv n m init (bfsRow x ys s)
  | [], s, h, _ => h
  | y :: ys, s, h, hy => by
    show BInv n m init (bfsRow x ys (bfsAdd x s y))
    exact BInv.row x ys (h.add x y (hy y List.mem_cons_self)) (fun z hz => hy z (List.mem_cons_of_mem _ hz))
theorem prevL_in {p q : List S50} {A B : List Nat} (hA : Within A p.length) (hB : Within B q.length) (x : Int × Int) : ∀ y ∈ prevL p q A B x, InP p.length q.length y := meetL_in (fun j h => hA _ j h) (fun j h => hB _ j h)
theorem bfsAdd_le (x y : Int × Int) (s : List (Int × Int) × DMap) : s.1.length ≤ (bfsAdd x s y).1.length := by unfold bfsAdd; split <;> simp
theorem bfsRow_le (x : Int × Int) : ∀ (ys : List (Int × Int)) (s : List (Int × Int) × DMap), s.1.length ≤ (bfsRow x ys s).1.length
  | [], s => Nat.le_refl _
  | y :: ys, s => Nat.le_trans (bfsAdd_le x y s) (bfsRow_le x ys _)
theorem bfsF_total {p q : List S50} {A B : List Nat} (hA : Within A p.length) (hB : Within B q.length) (hp : p.length ≤ 512) (hq : q.length ≤ 512) {init : List (Int × Int)} (hi : init.length ≤ 262144) :
    ∀ (n i : Nat) (s : List (Int × Int) × DMap), BInv p.length q.length init s → i ≤ s.1.length → 524288 < n + i → ∃ f, bfsF p q A B n i s = some f
  | 0, i, s, h, hl, hn => by
    have := h.room hp hq hi
    omega
  | n + 1, i, s, h, hl, hn => by
    unfold bfsF
    split
    · rename_i hlt
      have := bfsRow_le (rd_T92 s.1 i) (prevL p q A B (rd_T92 s.1 i)) s
      exact bfsF_total hA hB hp hq hi n (i + 1) _ (h.row _ _ (prevL_in hA hB _)) (by omega) (by omega)
    · exact ⟨_, rfl⟩
/-- The first pairs: the ends. -/
def zeroD (l : List (Int × Int)) : DMap := l.foldl (fun f x => putD f x 0) (fun _ => none)
theorem zeroD_snoc (l : List (Int × Int)) (x : Int × Int) : zeroD (l ++ [x]) = putD (zeroD l) x 0 := by unfold zeroD; rw [List.foldl_append]; rfl
theorem zeroD_eq (l : List (Int × Int)) (k : Int × Int) : zeroD l k = if k ∈ l then some 0 else none := by
  have : ∀ (l : List (Int × Int)) (f : DMap), l.foldl (fun f x => putD f x 0) f k = if k ∈ l then some 0 else f k := by
    intro l
    induction l with
    | nil => intro f; simp
    | cons x l ih =>
      intro f
      rw [List.foldl_cons, ih]
      by_cases h : k ∈ l
      · simp [h]
      · by_cases h2 : k = x
        · subst h2; simp [putD, h]
        · simp [h, h2, putD]
  exact this l _
theorem binv_start {n m : Nat} {init : List (Int × Int)} (h : ∀ y ∈ init, InP n m y) : BInv n m init (init, zeroD init) :=
  ⟨⟨[], by simp, by simp⟩, h, fun y hy => by show (zeroD init y).isSome = true; rw [zeroD_eq, if_pos hy]; rfl, fun y d hd => by
    have hd : zeroD init y = some d := hd
    rw [zeroD_eq] at hd
    split at hd
    · cases hd; omega
    · cases hd⟩
/-- distances' answer. -/
def distF (p q : List S50) (F G : List Nat) (last last' : Nat) : Option DMap := bfsF p q (backF F) (backF G) 600000 0 (meetL p q last last', zeroD (meetL p q last last'))
end Go.Proofs.YtaphblnelmncaaaDoor.PA
end

section
/- More of what single operations yield: places, pairs, lists of sets. -/
set_option linter.unusedVariables false
namespace Go.Proofs.YtaphblnelmncaaaDoor.PA
open Go Go.RowKit Go.Proofs.YtaphblnelmncaaaDoorW.PrintWords Go.Proofs.YtaphblnelmncaaaDoorW.PrintLast

section
variable {ρ : Operand → Value} {x y : Operand} {b o : Nat}
theorem x_f0t92 (hx : ρ x = .pointer (some ⟨b, o, none⟩)) : ∀ oi : Oper, oi.op = .fieldAddr 92 x 0 → ∀ w : World, (execOp ρ oi).run Tryd.prog w = .ok (.value (.pointer (some ⟨b, o, none⟩))) w := by
  intro oi hop w
  obtain ⟨d, op, ty, po, af, gu⟩ := oi
  simp only at hop; subst hop
  go_simp
theorem x_f1t92 (hx : ρ x = .pointer (some ⟨b, o, none⟩)) : ∀ oi : Oper, oi.op = .fieldAddr 92 x 1 → ∀ w : World, (execOp ρ oi).run Tryd.prog w = .ok (.value (.pointer (some ⟨b, o + 1, none⟩))) w := by
  intro oi hop w
  obtain ⟨d, op, ty, po, af, gu⟩ := oi
  simp only at hop; subst hop
  go_simp
theorem x_f0t79 (hx : ρ x = .pointer (some ⟨b, o, none⟩)) : ∀ oi : Oper, oi.op = .fieldAddr 79 x 0 → ∀ w : World, (execOp ρ oi).run Tryd.prog w = .ok (.value (.pointer (some ⟨b, o, none⟩))) w := by
  intro oi hop w
  obtain ⟨d, op, ty, po, af, gu⟩ := oi
  simp only at hop; subst hop
  go_simp
theorem x_f3t79 (hx : ρ x = .pointer (some ⟨b, o, none⟩)) : ∀ oi : Oper, oi.op = .fieldAddr 79 x 3 → ∀ w : World, (execOp ρ oi).run Tryd.prog w = .ok (.value (.pointer (some ⟨b, o + 17, none⟩))) w := by
  intro oi hop w
  obtain ⟨d, op, ty, po, af, gu⟩ := oi
  simp only at hop; subst hop
  go_simp
theorem x_idx77 {i n c : Nat} (hx : ρ x = .slice (some ⟨b, 0, none⟩) n c) (hy : ρ y = .int .i64 (i : Int)) (hi : i < n) : ∀ oi : Oper, oi.op = .indexAddr 77 x y → ∀ w : World, (execOp ρ oi).run Tryd.prog w = .ok (.value (.pointer (some ⟨b, i * 8, none⟩))) w := by
  intro oi hop w
  obtain ⟨d, op, ty, po, af, gu⟩ := oi
  have hI : (i : Int) < (n : Int) := by omega
  simp only at hop; subst hop
  go_simp
theorem x_load77 {v : Value} {A : Option Addr} {n c : Nat} (hx : ρ x = .pointer (some ⟨b, o, none⟩)) (w : World) (hc : w.cell? ⟨b, o, none⟩ = some (.slice A n c)) : ∀ oi : Oper, oi.op = .load 77 x → (execOp ρ oi).run Tryd.prog w = .ok (.value (.slice A n c)) w := by
  intro oi hop
  obtain ⟨d, op, ty, po, af, gu⟩ := oi
  simp only at hop; subst hop
  go_simp
theorem x_load76 {S : Nat} (hx : ρ x = .pointer (some ⟨b, o, none⟩)) (w : World) (hc : ∀ k, k < 8 → w.cell? ⟨b, o + k, none⟩ = some (.int .u64 (limb S k))) : ∀ oi : Oper, oi.op = .load 76 x → (execOp ρ oi).run Tryd.prog w = .ok (.value (.agg #[.int .u64 (limb S 0), .int .u64 (limb S 1), .int .u64 (limb S 2), .int .u64 (limb S 3), .int .u64 (limb S 4), .int .u64 (limb S 5), .int .u64 (limb S 6), .int .u64 (limb S 7)])) w := by
  intro oi hop
  obtain ⟨d, op, ty, po, af, gu⟩ := oi
  have u0 := hc 0 (by omega)
  have u1 := hc 1 (by omega)
  have u2 := hc 2 (by omega)
  have u3 := hc 3 (by omega)
  have u4 := hc 4 (by omega)
  have u5 := hc 5 (by omega)
  have u6 := hc 6 (by omega)
  have u7 := hc 7 (by omega)
  rw [Nat.add_zero] at u0
  clear hc
  simp only at hop; subst hop
  go_simp
theorem x_len89 {A : Option Addr} {n c : Nat} (hx : ρ x = .slice A n c) : ∀ oi : Oper, oi.op = .call { callee := .builtin .len, args := #[x], argTypes := #[89] } → ∀ w : World, (execOp ρ oi).run Tryd.prog w = .ok (.value (.int .i64 n)) w := by
  intro oi hop w
  obtain ⟨d, op, ty, po, af, gu⟩ := oi
  simp only at hop; subst hop
  go_simp
end
theorem fc8 {w : World} {g t : Nat} {F : List Nat} {a : Nat} (h : Blk w g t (fcells F)) (ha : a < F.length) : ∀ k, k < 8 → w.cell? ⟨g, a * 8 + k, none⟩ = some (.int .u64 (limb (F.getD a 0) k)) := fun k hk => by
  rw [h.cell, Nat.mul_comm, fcells_get F a k ha hk]
end Go.Proofs.YtaphblnelmncaaaDoor.PA
end
