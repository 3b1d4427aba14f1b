/- What the statement's proof stands on, part 1: the walks over the program's functions and the plain laws. -/
import Derived.Test.YtaphblnelmncaaaDoorV8c
import Derived.Laws.Cover1
set_option linter.unusedSimpArgs false
set_option linter.unusedVariables false
section
/- Shortest and Common answer the least shortest nonempty common string. -/
set_option linter.unusedVariables false
namespace Go.Proofs.YtaphblnelmncaaaDoor.PA
open Go.RowKit Go.Proofs.YtaphblnelmncaaaDoorW.PrintWords Go.Proofs.YtaphblnelmncaaaDoorW.PrintLast Go.Proofs.YtaphblnelmncaaaDoorW.PrintMore

/-! ### breadth first -/
def Rch (E : Int × Int → Int × Int → Prop) (I : Int × Int → Prop) : Nat → Int × Int → Prop
  | 0, y => I y
  | k + 1, y => ∃ z, E y z ∧ Rch E I k z
structure BI (E : Int × Int → Int × Int → Prop) (I : Int × Int → Prop) (i : Nat) (s : List (Int × Int) × DMap) : Prop where
  sound : ∀ y ∈ s.1, ∃ k : Nat, s.2 y = some (k : Int) ∧ Rch E I k y
  mem : ∀ y m, s.2 y = some m → y ∈ s.1
  zero : ∀ y, I y → s.2 y = some 0
  mono : ∀ (a b : Nat) x y, a ≤ b → s.1[a]? = some x → s.1[b]? = some y → (s.2 x).getD 0 ≤ (s.2 y).getD 0
  near : ∀ (a : Nat) x y, i ≤ a → s.1[a]? = some x → y ∈ s.1 → (s.2 y).getD 0 ≤ (s.2 x).getD 0 + 1
  done : ∀ (a : Nat) x y, a < i → s.1[a]? = some x → E y x → ∃ m, s.2 y = some m ∧ m ≤ (s.2 x).getD 0 + 1
theorem bfsAdd_keep {x y z : Int × Int} {s : List (Int × Int) × DMap} {m : Int} (h : s.2 z = some m) : (bfsAdd x s y).2 z = some m := by
  unfold bfsAdd
  split
  · exact h
  · rename_i hn
    simp only [putD]
    rw [if_neg]
    · exact h
    · rintro rfl; rw [h] at hn; exact hn rfl
theorem mem_get {l : List (Int × Int)} {a : Nat} {x : Int × Int} (h : l[a]? = some x) : x ∈ l := List.mem_of_getElem? h
theorem BI.add {E : Int × Int → Int × Int → Prop} {I : Int × Int → Prop} {i : Nat} {s : List (Int × Int) × DMap} (h : BI E I i s) {x y : Int × Int} (hx : s.1[i]? = some x) (hE : E y x) :
    BI E I i (bfsAdd x s y) ∧ (bfsAdd x s y).1[i]? = some x ∧ (bfsAdd x s y).2 x = s.2 x ∧ ∃ m, (bfsAdd x s y).2 y = some m ∧ m ≤ (s.2 x).getD 0 + 1 := by
  obtain ⟨kx, hkx, hrx⟩ := h.sound x (mem_get hx)
  cases hy : s.2 y with
  | some m =>
    have e : bfsAdd x s y = s := by unfold bfsAdd; rw [hy]; rfl
    rw [e]
    refine ⟨h, hx, rfl, m, hy, ?_⟩
    have := h.near i x y (Nat.le_refl _) hx (h.mem y m hy)
    rw [hy] at this
    exact this
  | none =>
    have e : bfsAdd x s y = (s.1 ++ [y], putD s.2 y ((s.2 x).getD 0 + 1)) := by unfold bfsAdd; rw [hy]; rfl
    have hne : ∀ z ∈ s.1, z ≠ y := by
      rintro z hz rfl
      obtain ⟨k, hk, _⟩ := h.sound z hz
      rw [hy] at hk; cases hk
    have keep : ∀ z ∈ s.1, putD s.2 y ((s.2 x).getD 0 + 1) z = s.2 z := by
      intro z hz
      unfold putD; rw [if_neg (hne z hz)]
    have own : putD s.2 y ((s.2 x).getD 0 + 1) y = some ((s.2 x).getD 0 + 1) := by unfold putD; rw [if_pos rfl]
    have hil : i < s.1.length := (List.getElem?_eq_some_iff.1 hx).1
    have at_ : ∀ a z, (s.1 ++ [y])[a]? = some z → (a < s.1.length ∧ s.1[a]? = some z) ∨ (a = s.1.length ∧ z = y) := by
      intro a z hz
      by_cases ha : a < s.1.length
      · rw [List.getElem?_append_left ha] at hz; exact .inl ⟨ha, hz⟩
      · rw [List.getElem?_append_right (by omega)] at hz
        have h1 : a - s.1.length < 1 := by have := (List.getElem?_eq_some_iff.1 hz).1; simpa using this
        have h2 : a = s.1.length := by omega
        subst h2
        simp at hz
        exact .inr ⟨rfl, hz.symm⟩
    rw [e]
    refine ⟨⟨?_, ?_, ?_, ?_, ?_, ?_⟩, by rw [List.getElem?_append_left hil]; exact hx, keep x (mem_get hx), _, own, Int.le_refl _⟩
    · intro z hz
      rcases List.mem_append.1 hz with hz | hz
      · obtain ⟨k, hk, hr⟩ := h.sound z hz
        exact ⟨k, (keep z hz).trans hk, hr⟩
      · simp at hz
        subst hz
        refine ⟨kx + 1, ?_, x, hE, hrx⟩
        simp only
        rw [own, hkx]; rfl
    · intro z m hz
      simp only [putD] at hz
      split at hz
      · rename_i he; subst he; simp
      · exact List.mem_append_left _ (h.mem z m hz)
    · intro z hz
      have h0 := h.zero z hz
      exact (keep z (h.mem z 0 h0)).trans h0
    · intro a b z w hab hz hw
      simp only at hz hw ⊢
      rcases at_ b w hw with ⟨h1, h2⟩ | ⟨h1, rfl⟩
      · rcases at_ a z hz with ⟨h3, h4⟩ | ⟨h3, _⟩
        · rw [keep z (mem_get h4), keep w (mem_get h2)]; exact h.mono a b z w hab h4 h2
        · omega
      · rw [own]
        rcases at_ a z hz with ⟨h3, h4⟩ | ⟨h3, rfl⟩
        · rw [keep z (mem_get h4)]; exact h.near i x z (Nat.le_refl _) hx (mem_get h4)
        · rw [own]; exact Int.le_refl _
    · intro a z w hia hz hw
      simp only at hz hw ⊢
      rcases at_ a z hz with ⟨h3, h4⟩ | ⟨h3, rfl⟩
      · rw [keep z (mem_get h4)]
        rcases List.mem_append.1 hw with hw | hw
        · rw [keep w hw]; exact h.near a z w hia h4 hw
        · simp at hw; subst hw
          rw [own]
          have := h.mono i a x z hia hx h4
          simp only [Option.getD_some]; omega
      · rw [own]
        rcases List.mem_append.1 hw with hw | hw
        · rw [keep w hw]
          have := h.near i x w (Nat.le_refl _) hx hw
          simp only [Option.getD_some]; omega
        · simp at hw; subst hw
          rw [own]
          simp only [Option.getD_some]; omega
    · intro a z w hai hz hE2
      simp only at hz ⊢
      rw [List.getElem?_append_left (by omega)] at hz
      obtain ⟨m, hm, hle⟩ := h.done a z w hai hz hE2
      exact ⟨m, (keep w (h.mem w m hm)).trans hm, by rw [keep z (mem_get hz)]; exact hle⟩
theorem BI.row {E : Int × Int → Int × Int → Prop} {I : Int × Int → Prop} {i : Nat} {x : Int × Int} : ∀ (ys : List (Int × Int)) {s : List (Int × Int) × DMap}, BI E I i s → s.1[i]? = some x → (∀ y ∈ ys, E y x) →
    BI E I i (bfsRow x ys s) ∧ (bfsRow x ys s).1[i]? = some x ∧ (bfsRow x ys s).2 x = s.2 x ∧ (∀ y ∈ ys, ∃ m, (bfsRow x ys s).2 y = some m ∧ m ≤ (s.2 x).getD 0 + 1) ∧ ∀ z m, s.2 z = some m → (bfsRow x ys s).2 z = some m
  | [], s, h, hx, _ => ⟨h, hx, rfl, by simp, fun z m hz => hz⟩
  | y :: ys, s, h, hx, hE => by
    obtain ⟨h1, h2, h3, m, h4, h5⟩ := h.add hx (hE y (List.mem_cons_self ..))
    obtain ⟨g1, g2, g3, g4, g5⟩ := BI.row ys h1 h2 (fun z hz => hE z (List.mem_cons_of_mem _ hz))
    have e : bfsRow x (y :: ys) s = bfsRow x ys (bfsAdd x s y) := rfl
    rw [e]
    refine ⟨g1, g2, g3.trans h3, ?_, fun z m hz => g5 z m (bfsAdd_keep hz)⟩
    intro z hz
    rcases List.mem_cons.1 hz with rfl | hz
    · exact ⟨m, g5 _ _ h4, h5⟩
    · obtain ⟨m', a, b⟩ := g4 z hz
      rw [h3] at b
      exact ⟨m', a, b⟩
theorem BI.step {E : Int × Int → Int × Int → Prop} {I : Int × Int → Prop} {i : Nat} {x : Int × Int} {ys : List (Int × Int)} {s : List (Int × Int) × DMap} (h : BI E I i s) (hx : s.1[i]? = some x) (hE : ∀ y, y ∈ ys ↔ E y x) : BI E I (i + 1) (bfsRow x ys s) := by
  obtain ⟨g1, g2, g3, g4, g5⟩ := BI.row ys h hx (fun y hy => (hE y).1 hy)
  refine ⟨g1.sound, g1.mem, g1.zero, g1.mono, fun a z w ha => g1.near a z w (by omega), fun a z w ha hz hw => ?_⟩
  by_cases e : a = i
  · subst e
    rw [g2] at hz
    cases hz
    obtain ⟨m, h1, h2⟩ := g4 w ((hE w).2 hw)
    exact ⟨m, h1, by rw [g3]; exact h2⟩
  · exact g1.done a z w (by omega) hz hw
theorem bfs_all {p q : List S50} {A B : List Nat} {I : Int × Int → Prop} : ∀ (n i : Nat) (s : List (Int × Int) × DMap) (f : DMap), BI (fun y x => y ∈ prevL p q A B x) I i s → bfsF p q A B n i s = some f →
    ∃ s' : List (Int × Int) × DMap, ∃ i', BI (fun y x => y ∈ prevL p q A B x) I i' s' ∧ s'.1.length ≤ i' ∧ s'.2 = f
  | 0, i, s, f, h, hf => by simp [bfsF] at hf
  | n + 1, i, s, f, h, hf => by
    unfold bfsF at hf
    split at hf
    · rename_i hi
      have hx : s.1[i]? = some (rd_T92 s.1 i) := by simp [rd_T92, List.getD_eq_getElem?_getD, hi]
      exact bfs_all n (i + 1) _ f (h.step hx (fun y => Iff.rfl)) hf
    · rename_i hi
      cases hf
      exact ⟨s, i, h, by omega, rfl⟩
/-- What the distances are. -/
structure DistOf (E : Int × Int → Int × Int → Prop) (I : Int × Int → Prop) (f : DMap) : Prop where
  sound : ∀ y m, f y = some m → ∃ k : Nat, m = k ∧ Rch E I k y ∧ ∀ j, Rch E I j y → k ≤ j
  full : ∀ k y, Rch E I k y → ∃ m : Nat, f y = some (m : Int) ∧ m ≤ k
theorem BI.dist {E : Int × Int → Int × Int → Prop} {I : Int × Int → Prop} {i : Nat} {s : List (Int × Int) × DMap} (h : BI E I i s) (hi : s.1.length ≤ i) : DistOf E I s.2 := by
  have full : ∀ k y, Rch E I k y → ∃ m : Nat, s.2 y = some (m : Int) ∧ m ≤ k := by
    intro k
    induction k with
    | zero => intro y hy; exact ⟨0, h.zero y hy, Nat.le_refl _⟩
    | succ k ih =>
      rintro y ⟨z, hE, hz⟩
      obtain ⟨m, hm, hle⟩ := ih z hz
      obtain ⟨a, ha⟩ := List.mem_iff_getElem?.1 (h.mem z _ hm)
      have hal := (List.getElem?_eq_some_iff.1 ha).1
      obtain ⟨m', h1, h2⟩ := h.done a z y (by omega) ha hE
      obtain ⟨k', h3, _⟩ := h.sound y (h.mem y _ h1)
      rw [h1] at h3
      cases h3
      rw [hm] at h2
      simp only [Option.getD_some] at h2
      exact ⟨k', h1, by omega⟩
  refine ⟨fun y m hm => ?_, full⟩
  obtain ⟨k, h1, h2⟩ := h.sound y (h.mem y _ hm)
  rw [hm] at h1
  cases h1
  refine ⟨k, rfl, h2, fun j hj => ?_⟩
  obtain ⟨m', h3, h4⟩ := full j y hj
  rw [hm] at h3
  have : (k : Int) = m' := Option.some.inj h3
  omega

/-! ### which pairs follow which -/
theorem backTo_bit (F : List Nat) (m : Nat) : ∀ (n : Nat), ∀ k i, k < m → (((backTo F m n).getD k 0).testBit i = true ↔ i < n ∧ k ∈ below (F.getD i 0) 512)
  | 0, k, i, hk => by simp [backTo, List.getD_eq_getElem?_getD, hk]
  | n + 1, k, i, hk => by
    have e : backTo F m (n + 1) = linkAll (1 <<< n) (below (F.getD n 0) 512) (backTo F m n) := rfl
    have hb : (1 <<< n).testBit i = true ↔ i = n := by
      have := one_bit n i
      rwa [Nat.zero_or] at this
    rw [e, linkAll_bit _ _ _ _ _ (by rw [backTo_length]; exact hk), backTo_bit F m n k i hk, hb]
    constructor
    · rintro (⟨h1, h2⟩ | ⟨h1, rfl⟩)
      · exact ⟨by omega, h2⟩
      · exact ⟨by omega, h1⟩
    · rintro ⟨h1, h2⟩
      by_cases h : i = n
      · subst h; exact .inr ⟨h2, rfl⟩
      · exact .inl ⟨by omega, h2⟩
/-- Two patterns side by side. -/
structure Two (p q : List S50) (t u : Re) : Prop where
  a : Fine p t
  b : Fine q u
def FF (p : List S50) (t : Re) : List Nat := t.link (List.replicate p.length 0)
theorem FF_length (p : List S50) (t : Re) : (FF p t).length = p.length := by unfold FF; rw [Re.link_length]; simp
theorem back_fol {p : List S50} {t : Re} (g : Fine p t) {k i : Nat} : i ∈ below ((backF (FF p t)).getD k 0) 512 ↔ t.Fol i k := by
  have hp := g.good.len
  rw [mem_below]
  by_cases hk : k < p.length
  · unfold backF
    rw [backTo_bit _ _ _ _ _ (by rw [FF_length]; exact hk), FF_length, mem_below]
    constructor
    · rintro ⟨_, h1, _, h2⟩; exact (fol_iff g.good.is hp h1).1 h2
    · intro h
      have hi := fol_small g.good.is hp i (fol_leaf t h).1
      exact ⟨by omega, hi, by omega, (fol_iff g.good.is hp hi).2 h⟩
  · constructor
    · rintro ⟨_, h⟩
      rw [List.getD_eq_getElem?_getD, List.getElem?_eq_none (by unfold backF; rw [backTo_length, FF_length]; omega)] at h
      simp at h
    · intro h; exact absurd (fol_small g.good.is hp k (fol_leaf t h).2) hk
theorem fwd_fol {p : List S50} {t : Re} (g : Fine p t) {k i : Nat} : i ∈ below ((FF p t).getD k 0) 512 ↔ t.Fol k i := by
  have hp := g.good.len
  rw [mem_below]
  by_cases hk : k < p.length
  · constructor
    · rintro ⟨_, h⟩; exact (fol_iff g.good.is hp hk).1 h
    · intro h
      have hi := fol_small g.good.is hp i (fol_leaf t h).2
      exact ⟨by omega, (fol_iff g.good.is hp hk).2 h⟩
  · constructor
    · rintro ⟨_, h⟩
      unfold FF at h
      rw [link_far hk] at h; cases h
    · intro h; exact absurd (fol_small g.good.is hp k (fol_leaf t h).1) hk
/-- x comes before y. -/
def Ed (p q : List S50) (t u : Re) (x y : Int × Int) : Prop := x ∈ prevL p q (backF (FF p t)) (backF (FF q u)) y
def In0 (p q : List S50) (t u : Re) (x : Int × Int) : Prop := x ∈ meetL p q t.last u.last
theorem ed_iff {p q : List S50} {t u : Re} (g : Two p q t u) {x : Int × Int} {k l : Nat} : Ed p q t u x ((k : Int), (l : Int)) ↔ ∃ i j : Nat, x = ((i : Int), (j : Int)) ∧ t.Fol i k ∧ u.Fol j l ∧ ovl p q i j = true := by
  unfold Ed prevL
  rw [meetL_mem]
  simp only [Int.toNat_natCast, back_fol g.a, back_fol g.b]
theorem next_iff {p q : List S50} {t u : Re} (g : Two p q t u) {y : Int × Int} {i j : Nat} : y ∈ prevL p q (FF p t) (FF q u) ((i : Int), (j : Int)) ↔ ∃ k l : Nat, y = ((k : Int), (l : Int)) ∧ t.Fol i k ∧ u.Fol j l ∧ ovl p q k l = true := by
  unfold prevL
  rw [meetL_mem]
  simp only [Int.toNat_natCast, fwd_fol g.a, fwd_fol g.b]
theorem in0_iff {p q : List S50} {t u : Re} {x : Int × Int} : In0 p q t u x ↔ ∃ i j : Nat, x = ((i : Int), (j : Int)) ∧ i ∈ below t.last 512 ∧ j ∈ below u.last 512 ∧ ovl p q i j = true := meetL_mem

/-! ### words of pairs -/
/-- The words that are read from a pair on. -/
def Acc2 (p q : List S50) (t u : Re) : List Int → Nat → Nat → Prop
  | [], _, _ => False
  | [b], i, j => Hit p i b ∧ Hit q j b ∧ t.last.testBit i = true ∧ u.last.testBit j = true ∧ i < 512 ∧ j < 512
  | b :: c :: r, i, j => Hit p i b ∧ Hit q j b ∧ ∃ k l, t.Fol i k ∧ u.Fol j l ∧ Acc2 p q t u (c :: r) k l
theorem hit_ovl {p q : List S50} {i j : Nat} {b : Int} (h : Hit p i b) (k : Hit q j b) : ovl p q i j = true ∧ mx2 (rd_T50 p i).f1 (rd_T50 q j).f1 ≤ b := by
  unfold Hit at h k
  unfold ovl mx2 mn2
  constructor
  · simp only [decide_eq_true_eq]; split <;> split <;> omega
  · split <;> omega
theorem ovl_hit {p q : List S50} {i j : Nat} (h : ovl p q i j = true) : Hit p i (mx2 (rd_T50 p i).f1 (rd_T50 q j).f1) ∧ Hit q j (mx2 (rd_T50 p i).f1 (rd_T50 q j).f1) := by
  unfold ovl mx2 mn2 at h
  simp only [decide_eq_true_eq] at h
  unfold Hit mx2
  constructor <;> (split at h <;> split at h <;> constructor <;> split <;> omega)
theorem Acc2.ovl {p q : List S50} {t u : Re} : ∀ {w : List Int} {i j : Nat}, Acc2 p q t u w i j → PA.ovl p q i j = true
  | [], i, j, h => h.elim
  | [b], i, j, h => (hit_ovl h.1 h.2.1).1
  | b :: c :: r, i, j, h => (hit_ovl h.1 h.2.1).1
theorem Acc2.rch {p q : List S50} {t u : Re} (g : Two p q t u) : ∀ {w : List Int} {i j : Nat}, Acc2 p q t u w i j → Rch (Ed p q t u) (In0 p q t u) (w.length - 1) ((i : Int), (j : Int))
  | [], i, j, h => h.elim
  | [b], i, j, h => in0_iff.2 ⟨i, j, rfl, mem_below.2 ⟨h.2.2.2.2.1, h.2.2.1⟩, mem_below.2 ⟨h.2.2.2.2.2, h.2.2.2.1⟩, (hit_ovl h.1 h.2.1).1⟩
  | b :: c :: r, i, j, h => by
    obtain ⟨h1, h2, k, l, h3, h4, h5⟩ := h
    exact ⟨((k : Int), (l : Int)), (ed_iff g).2 ⟨i, j, rfl, h3, h4, (hit_ovl h1 h2).1⟩, h5.rch g⟩
theorem meet_pair {p q : List S50} {S T : Nat} {x : Int × Int} (h : x ∈ meetL p q S T) : ∃ i j : Nat, x = ((i : Int), (j : Int)) := by
  obtain ⟨i, j, e, _⟩ := meetL_mem.1 h; exact ⟨i, j, e⟩
/-- From a pair a word is read. -/
theorem rch_acc {p q : List S50} {t u : Re} (g : Two p q t u) : ∀ {k : Nat} {i j : Nat}, Rch (Ed p q t u) (In0 p q t u) k ((i : Int), (j : Int)) → PA.ovl p q i j = true ∧ ∀ b, Hit p i b → Hit q j b → ∃ r, r.length = k ∧ Acc2 p q t u (b :: r) i j
  | 0, i, j, h => by
    obtain ⟨i', j', e, h1, h2, h3⟩ := in0_iff.1 h
    simp only [Prod.mk.injEq, Int.natCast_inj] at e
    obtain ⟨rfl, rfl⟩ := e
    exact ⟨h3, fun b hb hc => ⟨[], rfl, hb, hc, (mem_below.1 h1).2, (mem_below.1 h2).2, (mem_below.1 h1).1, (mem_below.1 h2).1⟩⟩
  | k + 1, i, j, h => by
    obtain ⟨z, hE, hz⟩ := h
    obtain ⟨k', l', rfl⟩ := meet_pair2 g hz
    obtain ⟨i', j', e, h1, h2, h3⟩ := (ed_iff g).1 hE
    simp only [Prod.mk.injEq, Int.natCast_inj] at e
    obtain ⟨rfl, rfl⟩ := e
    obtain ⟨ho, hw⟩ := rch_acc g hz
    obtain ⟨c1, c2⟩ := ovl_hit ho
    obtain ⟨r, hr, ha⟩ := hw _ c1 c2
    exact ⟨h3, fun b hb hc => ⟨_ :: r, by simp [hr], hb, hc, k', l', h1, h2, ha⟩⟩
where
  meet_pair2 {p q : List S50} {t u : Re} (g : Two p q t u) : ∀ {k : Nat} {z : Int × Int}, Rch (Ed p q t u) (In0 p q t u) k z → ∃ i j : Nat, z = ((i : Int), (j : Int))
    | 0, z, h => meet_pair h
    | k + 1, z, h => by obtain ⟨y, hE, _⟩ := h; exact meet_pair hE
/-- The common strings are the words of pairs. -/
theorem ways_acc {p q : List S50} {t u : Re} (g : Two p q t u) : ∀ {r s : List Nat} {w : List Int} {i j : Nat}, Way t.Fol (fun k => t.last.testBit k = true) i r → Way u.Fol (fun k => u.last.testBit k = true) j s → Hits p (i :: r) w → Hits q (j :: s) w → i < 512 → j < 512 → Acc2 p q t u w i j
  | [], s, w, i, j, h1, h2, h3, h4, hi, hj => by
    cases h3 with
    | cons _ b _ bs hh hs =>
      cases hs
      cases h4 with
      | cons _ _ _ _ hh2 hs2 =>
        cases hs2
        exact ⟨hh, hh2, h1, h2, hi, hj⟩
  | k :: r, s, w, i, j, h1, h2, h3, h4, hi, hj => by
    cases h3 with
    | cons _ b _ bs hh hs =>
      cases hs with
      | cons _ c _ cs hh' hs' =>
        cases h4 with
        | cons _ _ _ _ hh2 hs2 =>
          cases s with
          | nil => cases hs2
          | cons l s =>
            exact ⟨hh, hh2, k, l, h1.1, h2.1, ways_acc g h1.2 h2.2 (.cons k c r cs hh' hs') hs2 (by have := fol_small g.a.good.is g.a.good.len k (fol_leaf t h1.1).2; have := g.a.good.len; omega) (by have := fol_small g.b.good.is g.b.good.len l (fol_leaf u h2.1).2; have := g.b.good.len; omega)⟩
theorem acc_ways {p q : List S50} {t u : Re} : ∀ {w : List Int} {i j : Nat}, Acc2 p q t u w i j → ∃ r s, Way t.Fol (fun k => t.last.testBit k = true) i r ∧ Way u.Fol (fun k => u.last.testBit k = true) j s ∧ Hits p (i :: r) w ∧ Hits q (j :: s) w
  | [], i, j, h => h.elim
  | [b], i, j, h => ⟨[], [], h.2.2.1, h.2.2.2.1, .cons i b [] [] h.1 .nil, .cons j b [] [] h.2.1 .nil⟩
  | b :: c :: r, i, j, h => by
    obtain ⟨h1, h2, k, l, h3, h4, h5⟩ := h
    obtain ⟨r', s', a1, a2, a3, a4⟩ := acc_ways h5
    exact ⟨k :: r', l :: s', ⟨h3, a1⟩, ⟨h4, a2⟩, .cons i b _ _ h1 a3, .cons j b _ _ h2 a4⟩
theorem first_small {p : List S50} {t : Re} (g : Fine p t) {i : Nat} (h : t.first.testBit i = true) : i < 512 := by
  have := fol_small g.good.is g.good.len i (first_leaf t h); have := g.good.len; omega
theorem both_iff {p q : List S50} {t u : Re} (g : Two p q t u) {w : List Int} (hw : w ≠ []) : (t.Lang w ∧ u.Lang w) ↔ ∃ i j : Nat, ((i : Int), (j : Int)) ∈ meetL p q t.first u.first ∧ Acc2 p q t u w i j := by
  constructor
  · rintro ⟨h1, h2⟩
    obtain ⟨is, a1, a2⟩ := (lang_words g.a.good.is).1 h1
    obtain ⟨js, b1, b2⟩ := (lang_words g.b.good.is).1 h2
    have hi : is ≠ [] := by rintro rfl; cases a2; exact hw rfl
    have hj : js ≠ [] := by rintro rfl; cases b2; exact hw rfl
    obtain ⟨i, r, rfl, a3, a4⟩ := words_acc t a1 hi
    obtain ⟨j, s, rfl, b3, b4⟩ := words_acc u b1 hj
    have ha := ways_acc g a4 b4 a2 b2 (first_small g.a a3) (first_small g.b b3)
    exact ⟨i, j, meetL_mem.2 ⟨i, j, rfl, mem_below.2 ⟨first_small g.a a3, a3⟩, mem_below.2 ⟨first_small g.b b3, b3⟩, ha.ovl⟩, ha⟩
  · rintro ⟨i, j, hm, ha⟩
    obtain ⟨i', j', e, h1, h2, h3⟩ := meetL_mem.1 hm
    simp only [Prod.mk.injEq, Int.natCast_inj] at e
    obtain ⟨rfl, rfl⟩ := e
    obtain ⟨r, s, a1, a2, a3, a4⟩ := acc_ways ha
    exact ⟨(lang_words g.a.good.is).2 ⟨i :: r, acc_words t g.a.once ⟨i, r, rfl, (mem_below.1 h1).2, a1⟩, a3⟩, (lang_words g.b.good.is).2 ⟨j :: s, acc_words u g.b.once ⟨j, s, rfl, (mem_below.1 h2).2, a2⟩, a4⟩⟩

/-! ### the least word -/
def LexLe : List Int → List Int → Prop
  | [], _ => True
  | _ :: _, [] => False
  | a :: l, b :: m => a < b ∨ (a = b ∧ LexLe l m)
structure Least (L : List Int → Prop) (w : List Int) : Prop where
  is : L w
  ne : w ≠ []
  min : ∀ v, L v → v ≠ [] → w.length < v.length ∨ (w.length = v.length ∧ LexLe w v)
theorem leaf_rng {p : List S50} {i : Nat} {t : Re} (h : IsRe p i t) : t.ok → ∀ k ∈ t.leaves, 0 ≤ (rd_T50 p k).f1 ∧ (rd_T50 p k).f2 ≤ 255 := by
  induction h with
  | emp => intro _ k hk; simp [Re.leaves] at hk
  | rng i x hx hk =>
    intro ho k hm
    simp [Re.leaves] at hm
    subst hm
    have hr : rd_T50 p (k : Int) = x := by simp [rd_T50, List.getD_eq_getElem?_getD, hx]
    rw [hr]; exact ⟨ho.1, ho.2.2⟩
  | seq k x a b s t hx hk ha hb hs ht ihs iht => intro ho i hi; rcases List.mem_append.1 hi with h | h; exact ihs ho.1 i h; exact iht ho.2 i h
  | alt k x a b s t hx hk ha hb hs ht ihs iht => intro ho i hi; rcases List.mem_append.1 hi with h | h; exact ihs ho.1 i h; exact iht ho.2 i h
  | rep k x a s hx hk ha hs ih => exact ih
/-- The pairs of a list are places. -/
def PlL (p q : List S50) (t u : Re) (now : List (Int × Int)) : Prop := ∀ x ∈ now, ∃ i j : Nat, x = ((i : Int), (j : Int)) ∧ i ∈ t.leaves ∧ j ∈ u.leaves ∧ ovl p q i j = true
theorem least_fold {p q : List S50} {f : DMap} {d : Int} : ∀ (now : List (Int × Int)) (l : Int), (∀ x ∈ now, f x = some d → now.foldl (leastStep p q f d) l ≤ mx2 (rd_T50 p x.1).f1 (rd_T50 q x.2).f1) ∧ now.foldl (leastStep p q f d) l ≤ l ∧
    (now.foldl (leastStep p q f d) l = l ∨ ∃ x ∈ now, f x = some d ∧ now.foldl (leastStep p q f d) l = mx2 (rd_T50 p x.1).f1 (rd_T50 q x.2).f1)
  | [], l => ⟨by simp, Int.le_refl _, .inl rfl⟩
  | x :: now, l => by
    obtain ⟨h1, h2, h3⟩ := least_fold (p := p) (q := q) (f := f) (d := d) now (leastStep p q f d l x)
    rw [List.foldl_cons]
    have hs : leastStep p q f d l x ≤ l := by unfold leastStep mn2; split <;> (try split) <;> omega
    refine ⟨fun y hy hf => ?_, by omega, ?_⟩
    · rcases List.mem_cons.1 hy with rfl | hy
      · have : leastStep p q f d l y ≤ mx2 (rd_T50 p y.1).f1 (rd_T50 q y.2).f1 := by unfold leastStep mn2; rw [if_pos hf]; split <;> omega
        omega
      · exact h1 y hy hf
    · rcases h3 with h3 | ⟨y, hy, hf, h3⟩
      · rw [h3]
        by_cases hf : f x = some d
        · unfold leastStep mn2; rw [if_pos hf]
          split
          · exact .inr ⟨x, List.mem_cons_self .., hf, rfl⟩
          · exact .inl rfl
        · unfold leastStep; rw [if_neg hf]; exact .inl rfl
      · exact .inr ⟨y, List.mem_cons_of_mem _ hy, hf, h3⟩
theorem addNew_mem : ∀ (ys out : List (Int × Int)) (z : Int × Int), z ∈ addNew out ys ↔ z ∈ out ∨ z ∈ ys
  | [], out, z => by simp [addNew]
  | y :: ys, out, z => by
    have e : addNew out (y :: ys) = addNew (if y ∈ out then out else out ++ [y]) ys := rfl
    rw [e, addNew_mem ys]
    by_cases hy : y ∈ out
    · rw [if_pos hy, List.mem_cons]
      constructor
      · rintro (h | h); exact .inl h; exact .inr (.inr h)
      · rintro (h | rfl | h); exact .inl h; exact .inl hy; exact .inr h
    · rw [if_neg hy, List.mem_append, List.mem_singleton, List.mem_cons, or_assoc]
theorem after_mem {p q : List S50} {F G : List Nat} {c : Int} {ch : Int × Int → Bool} : ∀ (now out : List (Int × Int)) (z : Int × Int), z ∈ now.foldl (afterStep p q F G c ch) out ↔ z ∈ out ∨ ∃ x ∈ now, inside p q x c = true ∧ ch x = true ∧ z ∈ prevL p q F G x
  | [], out, z => by simp
  | x :: now, out, z => by
    rw [List.foldl_cons, after_mem now]
    unfold afterStep
    by_cases h : (inside p q x c && ch x) = true
    · rw [if_pos h, addNew_mem]
      simp only [Bool.and_eq_true] at h
      constructor
      · rintro ((h1 | h1) | ⟨y, hy, h2⟩)
        · exact .inl h1
        · exact .inr ⟨x, List.mem_cons_self .., h.1, h.2, h1⟩
        · exact .inr ⟨y, List.mem_cons_of_mem _ hy, h2⟩
      · rintro (h1 | ⟨y, hy, h2⟩)
        · exact .inl (.inl h1)
        · rcases List.mem_cons.1 hy with rfl | hy
          · exact .inl (.inr h2.2.2)
          · exact .inr ⟨y, hy, h2⟩
    · rw [if_neg h]
      simp only [Bool.and_eq_true] at h
      constructor
      · rintro (h1 | ⟨y, hy, h2⟩)
        · exact .inl h1
        · exact .inr ⟨y, List.mem_cons_of_mem _ hy, h2⟩
      · rintro (h1 | ⟨y, hy, h2⟩)
        · exact .inl h1
        · rcases List.mem_cons.1 hy with rfl | hy
          · exact absurd ⟨h2.1, h2.2.1⟩ h
          · exact .inr ⟨y, hy, h2⟩
/-- What outF makes out of pairs whose least distance is n. -/
theorem out_least {p q : List S50} {t u : Re} (g : Two p q t u) {f : DMap} (hf : DistOf (Ed p q t u) (In0 p q t u) f) : ∀ (n : Nat) (now : List (Int × Int)), PlL p q t u now → (∃ x ∈ now, f x = some (n : Int)) → (∀ x ∈ now, ∀ j, Rch (Ed p q t u) (In0 p q t u) j x → n ≤ j) →
    (∃ i j : Nat, ((i : Int), (j : Int)) ∈ now ∧ Acc2 p q t u (outF p q (FF p t) (FF q u) f (n + 1) now) i j) ∧
    ∀ (v : List Int) (i j : Nat), ((i : Int), (j : Int)) ∈ now → Acc2 p q t u v i j → v.length = n + 1 → LexLe (outF p q (FF p t) (FF q u) f (n + 1) now) v
  | n, now, hpl, ⟨x0, hx0, hd0⟩, hmin => by
    have key := least_fold (p := p) (q := q) (f := f) (d := (n : Int)) now 256
    have hb : ∀ x ∈ now, mx2 (rd_T50 p x.1).f1 (rd_T50 q x.2).f1 ≤ 255 ∧ 0 ≤ mx2 (rd_T50 p x.1).f1 (rd_T50 q x.2).f1 := by
      intro x hx
      obtain ⟨i, j, rfl, h1, h2, h3⟩ := hpl x hx
      have a := leaf_rng g.a.good.is g.a.good.ok i h1
      have b := leaf_rng g.b.good.is g.b.good.ok j h2
      have c := ovl_hit h3
      unfold Hit at c
      have : (rd_T50 p (i : Int)).f1 ≤ mx2 (rd_T50 p (i : Int)).f1 (rd_T50 q (j : Int)).f1 := c.1.1
      exact ⟨by have := c.1.2; simp only; omega, by simp only; omega⟩
    obtain ⟨c, hc⟩ : ∃ c, c = leastF p q f n now := ⟨_, rfl⟩
    have hcl : ∀ x ∈ now, f x = some (n : Int) → c ≤ mx2 (rd_T50 p x.1).f1 (rd_T50 q x.2).f1 := by rw [hc]; exact key.1
    obtain ⟨x1, hx1, hd1, hce⟩ : ∃ x ∈ now, f x = some (n : Int) ∧ c = mx2 (rd_T50 p x.1).f1 (rd_T50 q x.2).f1 := by
      rcases key.2.2 with h | h
      · have h1 := key.1 x0 hx0 hd0
        have h2 := hb x0 hx0
        omega
      · rw [hc]; exact h
    have hc0 : c % 256 = c := by have := hb x1 hx1; omega
    obtain ⟨i1, j1, rfl, l1, l2, o1⟩ := hpl x1 hx1
    simp only at hce
    obtain ⟨c1, c2⟩ := ovl_hit o1
    rw [← hce] at c1 c2
    have hout : outF p q (FF p t) (FF q u) f (n + 1) now = c :: outF p q (FF p t) (FF q u) f n (afterF p q (FF p t) (FF q u) now c (fun x => decide (f x = some (n : Int)))) := by
      simp only [outF]; rw [← hc, hc0]
    obtain ⟨k1, e1, r1, m1⟩ := hf.sound _ _ hd1
    have e1 : k1 = n := by omega
    subst e1
    rw [hout]
    have hfx : ∀ (v : List Int) (i j : Nat), ((i : Int), (j : Int)) ∈ now → Acc2 p q t u v i j → v.length = k1 + 1 → f ((i : Int), (j : Int)) = some (k1 : Int) := by
      intro v i j hm ha hv
      have hr := ha.rch g
      rw [hv, Nat.add_sub_cancel] at hr
      obtain ⟨m, hm1, hm2⟩ := hf.full _ _ hr
      obtain ⟨k, h1, h2, _⟩ := hf.sound _ _ hm1
      have := hmin _ hm k h2
      rw [hm1]; congr 1; omega
    cases k1 with
    | zero =>
      have hnil : outF p q (FF p t) (FF q u) f 0 (afterF p q (FF p t) (FF q u) now c (fun x => decide (f x = some ((0 : Nat) : Int)))) = [] := rfl
      rw [hnil]
      obtain ⟨i', j', e, h1, h2, h3⟩ := in0_iff.1 r1
      simp only [Prod.mk.injEq, Int.natCast_inj] at e
      obtain ⟨rfl, rfl⟩ := e
      refine ⟨⟨i1, j1, hx1, c1, c2, (mem_below.1 h1).2, (mem_below.1 h2).2, (mem_below.1 h1).1, (mem_below.1 h2).1⟩, fun v i j hm ha hv => ?_⟩
      match v, hv with
      | [b], _ =>
        have := hcl _ hm (hfx [b] i j hm ha rfl)
        have h5 := (hit_ovl ha.1 ha.2.1).2
        simp only at this
        by_cases e : c = b
        · exact .inr ⟨e, trivial⟩
        · exact .inl (by omega)
    | succ m =>
      obtain ⟨z, hE, hz⟩ := r1
      have hN : ∀ (y : Int × Int), y ∈ afterF p q (FF p t) (FF q u) now c (fun x => decide (f x = some ((m + 1 : Nat) : Int))) ↔ ∃ x ∈ now, inside p q x c = true ∧ f x = some ((m + 1 : Nat) : Int) ∧ y ∈ prevL p q (FF p t) (FF q u) x := by
        intro y
        unfold afterF
        rw [after_mem]
        simp
      generalize afterF p q (FF p t) (FF q u) now c (fun x => decide (f x = some ((m + 1 : Nat) : Int))) = N at *
      have edge : ∀ x ∈ now, ∀ y, y ∈ prevL p q (FF p t) (FF q u) x → Ed p q t u x y := by
        intro x hx y hy
        obtain ⟨i, j, rfl, h1, h2, h3⟩ := hpl x hx
        obtain ⟨k, l, rfl, h4, h5, h6⟩ := (next_iff g).1 hy
        exact (ed_iff g).2 ⟨i, j, rfl, h4, h5, h3⟩
      obtain ⟨kz, lz, rfl⟩ := rch_acc.meet_pair2 g hz
      obtain ⟨i', j', e, f1, f2, f3⟩ := (ed_iff g).1 hE
      simp only [Prod.mk.injEq, Int.natCast_inj] at e
      obtain ⟨rfl, rfl⟩ := e
      have hzo := (rch_acc g hz).1
      have hins : ∀ (i j : Nat), Hit p i c → Hit q j c → inside p q ((i : Int), (j : Int)) c = true := by
        intro i j h1 h2
        unfold inside
        simp only [Int.toNat_natCast, Bool.and_eq_true]
        exact ⟨hit_iff.2 h1, hit_iff.2 h2⟩
      have hzN : ((kz : Int), (lz : Int)) ∈ N := (hN _).2 ⟨_, hx1, hins i1 j1 c1 c2, hd1, (next_iff g).2 ⟨kz, lz, rfl, f1, f2, hzo⟩⟩
      have hmin2 : ∀ x ∈ N, ∀ j, Rch (Ed p q t u) (In0 p q t u) j x → m ≤ j := by
        intro y hy j hj
        obtain ⟨x, hx, _, _, h3⟩ := (hN y).1 hy
        have := hmin x hx (j + 1) ⟨y, edge x hx y h3, hj⟩
        omega
      have hpl2 : PlL p q t u N := by
        intro y hy
        obtain ⟨x, hx, _, _, h3⟩ := (hN y).1 hy
        obtain ⟨i, j, rfl, _⟩ := hpl x hx
        obtain ⟨k, l, rfl, h4, h5, h6⟩ := (next_iff g).1 h3
        exact ⟨k, l, rfl, (fol_leaf t h4).2, (fol_leaf u h5).2, h6⟩
      have hfz : f ((kz : Int), (lz : Int)) = some (m : Int) := by
        obtain ⟨m', h1, h2⟩ := hf.full _ _ hz
        obtain ⟨k, h3, h4, _⟩ := hf.sound _ _ h1
        have := hmin2 _ hzN k h4
        rw [h1]; congr 1; omega
      obtain ⟨⟨i2, j2, hm2, ha2⟩, hlex⟩ := out_least g hf m N hpl2 ⟨_, hzN, hfz⟩ hmin2
      have hlen : (outF p q (FF p t) (FF q u) f (m + 1) N).length = m + 1 := outF_length _ _ _ _ _ _ _
      constructor
      · obtain ⟨x, hx, h1, h2, h3⟩ := (hN _).1 hm2
        obtain ⟨i, j, rfl, _, _, ho⟩ := hpl x hx
        obtain ⟨k, l, e, h4, h5, h6⟩ := (next_iff g).1 h3
        simp only [Prod.mk.injEq, Int.natCast_inj] at e
        obtain ⟨rfl, rfl⟩ := e
        unfold inside at h1
        simp only [Int.toNat_natCast, Bool.and_eq_true] at h1
        refine ⟨i, j, hx, ?_⟩
        cases hw : outF p q (FF p t) (FF q u) f (m + 1) N with
        | nil => rw [hw] at hlen; simp at hlen
        | cons b r =>
          rw [hw] at ha2
          exact ⟨hit_iff.1 h1.1, hit_iff.1 h1.2, i2, j2, h4, h5, ha2⟩
      · intro v i j hm ha hv
        have hfi := hfx v i j hm ha hv
        match v, hv, ha with
        | b :: c' :: r, hv, ha =>
          obtain ⟨h1, h2, k, l, h3, h4, h5⟩ := ha
          have := hcl _ hm hfi
          have h6 := (hit_ovl h1 h2).2
          simp only at this
          by_cases e : c = b
          · subst e
            refine .inr ⟨rfl, hlex (c' :: r) k l ((hN _).2 ⟨_, hm, hins i j h1 h2, hfi, (next_iff g).2 ⟨k, l, rfl, h3, h4, h5.ovl⟩⟩) h5 (by simpa using hv)⟩
          · exact .inl (by omega)
theorem best_fold {f : DMap} (hf : ∀ x d, f x = some d → 0 ≤ d) : ∀ (now : List (Int × Int)) (b : Int), (b = -1 ∨ 0 ≤ b) →
    ((now.foldl (bestStep f) b = -1 ∧ b = -1 ∧ ∀ x ∈ now, f x = none) ∨ (0 ≤ now.foldl (bestStep f) b ∧ (0 ≤ b → now.foldl (bestStep f) b ≤ b) ∧ (∀ x ∈ now, ∀ d, f x = some d → now.foldl (bestStep f) b ≤ d) ∧ (now.foldl (bestStep f) b = b ∨ ∃ x ∈ now, f x = some (now.foldl (bestStep f) b))))
  | [], b, hb => by
    rcases hb with rfl | hb
    · exact .inl ⟨rfl, rfl, by simp⟩
    · exact .inr ⟨hb, fun _ => Int.le_refl _, by simp, .inl rfl⟩
  | x :: now, b, hb => by
    rw [List.foldl_cons]
    have hs : (bestStep f b x = -1 ∨ 0 ≤ bestStep f b x) ∧ ((f x = none ∧ bestStep f b x = b) ∨ ∃ d, f x = some d ∧ 0 ≤ bestStep f b x ∧ bestStep f b x ≤ d ∧ (0 ≤ b → bestStep f b x ≤ b) ∧ (bestStep f b x = b ∨ bestStep f b x = d)) := by
      unfold bestStep
      cases hx : f x with
      | none => exact ⟨hb, .inl ⟨rfl, rfl⟩⟩
      | some d =>
        have h0 := hf x d hx
        simp only
        by_cases h : b < 0 ∨ d < b
        · rw [if_pos h]; exact ⟨.inr h0, .inr ⟨d, rfl, h0, Int.le_refl _, fun _ => by omega, .inr rfl⟩⟩
        · rw [if_neg h]; exact ⟨hb, .inr ⟨d, rfl, by omega, by omega, fun _ => Int.le_refl _, .inl rfl⟩⟩
    obtain ⟨h1, h2⟩ := hs
    rcases best_fold hf now _ h1 with ⟨h3, h4, h5⟩ | ⟨h3, h4, h5, h6⟩
    · rcases h2 with ⟨h7, h8⟩ | ⟨d, h7, h8, _⟩
      · exact .inl ⟨h3, by omega, fun y hy => by rcases List.mem_cons.1 hy with rfl | hy; exact h7; exact h5 y hy⟩
      · omega
    · refine .inr ⟨h3, fun hb0 => ?_, fun y hy d hd => ?_, ?_⟩
      · rcases h2 with ⟨h7, h8⟩ | ⟨d, h7, h8, h9, h10, _⟩
        · rw [h8] at h4 ⊢; exact h4 hb0
        · have := h4 h8; have := h10 hb0; omega
      · rcases List.mem_cons.1 hy with rfl | hy
        · rcases h2 with ⟨h7, h8⟩ | ⟨d', h7, h8, h9, _⟩
          · rw [hd] at h7; cases h7
          · rw [hd] at h7; cases h7
            have := h4 h8; omega
        · exact h5 y hy d hd
      · rcases h6 with h6 | ⟨y, hy, h6⟩
        · rcases h2 with ⟨h7, h8⟩ | ⟨d, h7, h8, _, _, h9 | h9⟩
          · exact .inl (h6.trans h8)
          · exact .inl (h6.trans h9)
          · exact .inr ⟨x, List.mem_cons_self .., by rw [h6, h9]; exact h7⟩
        · exact .inr ⟨y, List.mem_cons_of_mem _ hy, h6⟩
/-- What Common answers for two patterns in order. -/
def ComP (t u : Re) (r : ByteArray × Int) : Prop := (r.2 = 0 ∧ ∃ w, r.1 = strOfNums w ∧ ((∀ b ∈ w, 0 ≤ b ∧ b ≤ 255) ∧ w.length ≤ 1000000) ∧ Least (fun w => t.Lang w ∧ u.Lang w) w) ∨ (r = (⟨#[]⟩, 3) ∧ ∀ w, w ≠ [] → ¬ (t.Lang w ∧ u.Lang w))
theorem zeroD_mem {l : List (Int × Int)} {y : Int × Int} (h : y ∈ l) : zeroD l y = some 0 := by rw [zeroD_eq, if_pos h]
theorem zeroD_none {l : List (Int × Int)} {y : Int × Int} {m : Int} (h : zeroD l y = some m) : y ∈ l := by
  rw [zeroD_eq] at h
  split at h
  · assumption
  · cases h
theorem start_any {E : Int × Int → Int × Int → Prop} {I : Int × Int → Prop} {l : List (Int × Int)} {f : DMap} (h0 : ∀ y ∈ l, f y = some 0) (h1 : ∀ y m, f y = some m → y ∈ l) (h2 : ∀ y, I y ↔ y ∈ l) : BI E I 0 (l, f) := by
  refine ⟨fun y hy => ⟨0, h0 y hy, (h2 y).2 hy⟩, fun y m hm => h1 y m hm, fun y hy => h0 y ((h2 y).1 hy), fun a b x y hab hx hy => ?_, fun a x y ha hx hy => ?_, fun a x y ha => by omega⟩
  · simp only at hx hy ⊢; rw [h0 x (mem_get hx), h0 y (mem_get hy)]; exact Int.le_refl _
  · simp only at hx hy ⊢; rw [h0 x (mem_get hx), h0 y hy]; simp
theorem start_bi {p q : List S50} {t u : Re} : BI (fun y x => y ∈ prevL p q (backF (FF p t)) (backF (FF q u)) x) (In0 p q t u) 0 (meetL p q t.last u.last, zeroD (meetL p q t.last u.last)) :=
  start_any (fun _ h => zeroD_mem h) (fun _ _ h => zeroD_none h) (fun _ => Iff.rfl)
theorem lang_ok : ∀ (t : Re), t.ok → ∀ {w : List Int}, t.Lang w → ∀ b ∈ w, 0 ≤ b ∧ b ≤ 255
  | .emp, _, w, h => by rw [show w = [] from h]; simp
  | .rng lo hi i, ho, w, h => by
    obtain ⟨b, rfl, h1, h2⟩ := h
    obtain ⟨h3, h4, h5⟩ := ho
    intro c hc; simp at hc; subst hc; omega
  | .seq a b, ho, w, h => by
    obtain ⟨u, v, rfl, h1, h2⟩ := h
    intro c hc
    rcases List.mem_append.1 hc with hc | hc
    · exact lang_ok a ho.1 h1 c hc
    · exact lang_ok b ho.2 h2 c hc
  | .alt a b, ho, w, h => by
    rcases h with h | h
    · exact lang_ok a ho.1 h
    · exact lang_ok b ho.2 h
  | .rep a, ho, w, h => by
    have hs : Star a.Lang w := h
    clear h
    induction hs with
    | nil => simp
    | app u v hu hv ih =>
      intro c hc
      rcases List.mem_append.1 hc with hc | hc
      · exact lang_ok a ho hu c hc
      · exact ih c hc
theorem com_spec {p q : List S50} {t u : Re} (g : Two p q t u) {r : ByteArray × Int} (h : IsCom p q r) : ComP t u r := by
  rcases h with ⟨h, _⟩ | ⟨_, h, _⟩ | ⟨t', u', f, ht, hu, hf, hr⟩
  · exact absurd g.a.good.chk h
  · exact absurd g.b.good.chk h
  · obtain rfl : t' = t := isRe_unique ht.is g.a.good.is
    obtain rfl : u' = u := isRe_unique hu.is g.b.good.is
    have hD : DistOf (Ed p q t' u') (In0 p q t' u') f := by
      obtain ⟨s', i', h1, h2, h3⟩ := bfs_all _ _ _ _ (start_bi (p := p) (q := q) (t := t') (u := u')) hf
      rw [← h3]; exact h1.dist h2
    have hpl : PlL p q t' u' (meetL p q t'.first u'.first) := by
      intro x hx
      obtain ⟨i, j, e, h1, h2, h3⟩ := meetL_mem.1 hx
      exact ⟨i, j, e, first_leaf t' (mem_below.1 h1).2, first_leaf u' (mem_below.1 h2).2, h3⟩
    have hb := best_fold (f := f) (fun x d hx => by obtain ⟨k, e, _⟩ := hD.sound x d hx; omega) (meetL p q t'.first u'.first) (-1) (.inl rfl)
    have hbe : (meetL p q t'.first u'.first).foldl (bestStep f) (-1) = bestF f (meetL p q t'.first u'.first) := rfl
    rw [hbe] at hb
    rw [hr]
    unfold comF
    rw [show t'.link (List.replicate p.length 0) = FF p t' from rfl, show u'.link (List.replicate q.length 0) = FF q u' from rfl]
    rcases hb with ⟨h1, _, h2⟩ | ⟨h1, _, h2, h3⟩
    · rw [if_pos (by omega)]
      refine .inr ⟨rfl, fun w hw hl => ?_⟩
      obtain ⟨i, j, hm, ha⟩ := (both_iff g hw).1 hl
      obtain ⟨m, hm1, _⟩ := hD.full _ _ (ha.rch g)
      rw [h2 _ hm] at hm1
      cases hm1
    · rw [if_neg (by omega)]
      obtain ⟨n, hn⟩ : ∃ n : Nat, bestF f (meetL p q t'.first u'.first) = n := ⟨(bestF f (meetL p q t'.first u'.first)).toNat, by omega⟩
      rw [hn] at h2 h3 ⊢
      simp only [Int.toNat_natCast]
      have h3' : ∃ x ∈ meetL p q t'.first u'.first, f x = some (n : Int) := h3.resolve_left (by omega)
      have hmin : ∀ x ∈ meetL p q t'.first u'.first, ∀ j, Rch (Ed p q t' u') (In0 p q t' u') j x → n ≤ j := by
        intro x hx j hj
        obtain ⟨m, hm1, hm2⟩ := hD.full _ _ hj
        have := h2 x hx _ hm1
        omega
      obtain ⟨⟨i, j, hm, ha⟩, hlex⟩ := out_least g hD n _ hpl h3' hmin
      have hlen := outF_length p q (FF p t') (FF q u') f (n + 1) (meetL p q t'.first u'.first)
      have hne : outF p q (FF p t') (FF q u') f (n + 1) (meetL p q t'.first u'.first) ≠ [] := by intro e; rw [e] at hlen; simp at hlen
      have hL := (both_iff g hne).2 ⟨i, j, hm, ha⟩
      have hn9 : n ≤ 524288 := by
        obtain ⟨x, _, hx⟩ := h3'
        obtain ⟨f', hf', hrg⟩ := dist_total ht hu
        rw [hf] at hf'; cases hf'
        have := hrg x _ hx
        omega
      refine .inl ⟨rfl, _, rfl, ⟨lang_ok t' g.a.good.ok hL.1, by rw [hlen]; omega⟩, ⟨hL, hne, fun v hv hvn => ?_⟩⟩
      obtain ⟨i', j', hm', ha'⟩ := (both_iff g hvn).1 hv
      have := hmin _ hm' _ (ha'.rch g)
      have hv0 : 0 < v.length := List.length_pos_iff.2 hvn
      rw [hlen]
      by_cases e : v.length = n + 1
      · exact .inr ⟨e.symm, hlex v i' j' hm' ha' e⟩
      · exact .inl (by omega)
end Go.Proofs.YtaphblnelmncaaaDoor.PA
end

section
/- The walk over PatternCommon. -/
set_option linter.unusedVariables false
namespace Go.Proofs.YtaphblnelmncaaaDoor.PA
open Go.RowKit Go.Proofs.YtaphblnelmncaaaDoorW.PrintWords Go.Proofs.YtaphblnelmncaaaDoorW.PrintLast Go.Proofs.YtaphblnelmncaaaDoorW.PrintMore

theorem lex_anti : ∀ {a b : List Int}, LexLe a b → LexLe b a → a = b
  | [], [], _, _ => rfl
  | [], _ :: _, _, h => h.elim
  | _ :: _, [], h, _ => h.elim
  | x :: a, y :: b, h, k => by
    rcases h with h | ⟨rfl, h⟩
    · rcases k with k | ⟨rfl, k⟩ <;> omega
    · rcases k with k | ⟨_, k⟩
      · omega
      · rw [lex_anti h k]
theorem Least.unique {L : List Int → Prop} {v w : List Int} (h : Least L v) (k : Least L w) : v = w := by
  rcases h.min w k.is k.ne with h1 | ⟨h1, h2⟩ <;> rcases k.min v h.is h.ne with k1 | ⟨k1, k2⟩
  · omega
  · omega
  · omega
  · exact lex_anti h2 k2
theorem Least.swap {L M : List Int → Prop} {v : List Int} (h : Least (fun w => L w ∧ M w) v) : Least (fun w => M w ∧ L w) v := ⟨h.is.symm, h.ne, fun w hw hn => h.min w hw.symm hn⟩
theorem ComP.swap {t u : Re} {r : ByteArray × Int} (h : ComP t u r) : ComP u t r := by
  rcases h with ⟨h1, w, h2, h3, h4⟩ | ⟨h1, h2⟩
  · exact .inl ⟨h1, w, h2, h3, h4.swap⟩
  · exact .inr ⟨h1, fun w hw hl => h2 w hw hl.symm⟩
theorem ComP.unique {t u : Re} {r r' : ByteArray × Int} (h : ComP t u r) (k : ComP t u r') : r = r' := by
  rcases h with ⟨h1, w, h2, h3, h4⟩ | ⟨h1, h2⟩ <;> rcases k with ⟨k1, w', k2, k3, k4⟩ | ⟨k1, k2⟩
  · obtain rfl := h4.unique k4
    exact Prod.ext (h2.trans k2.symm) (h1.trans k1.symm)
  · exact absurd h4.is (k2 w h4.ne)
  · exact absurd k4.is (h2 w' k4.ne)
  · rw [h1, k1]
theorem toList_str (w : List Int) : (strOfNums w).toList = w.map fun n => UInt8.ofNat n.toNat := by
  rw [Go.ByteArray.toList_eq]; rfl
theorem less_of : ∀ {v w : List Int}, LexLe v w → v.length = w.length → (∀ b ∈ v, 0 ≤ b ∧ b ≤ 255) → (∀ b ∈ w, 0 ≤ b ∧ b ≤ 255) → Op.bytesLess (w.map fun n => UInt8.ofNat n.toNat) (v.map fun n => UInt8.ofNat n.toNat) = false
  | [], [], _, _, _, _ => rfl
  | [], _ :: _, _, h, _, _ => by simp at h
  | _ :: _, [], h, _, _, _ => h.elim
  | x :: a, y :: b, h, hl, hv, hw => by
    have hx := hv x (List.mem_cons_self ..)
    have hy := hw y (List.mem_cons_self ..)
    have ex : (UInt8.ofNat x.toNat).toNat = x.toNat := by rw [UInt8.toNat_ofNat']; omega
    have ey : (UInt8.ofNat y.toNat).toNat = y.toNat := by rw [UInt8.toNat_ofNat']; omega
    simp only [List.map_cons, Op.bytesLess, Bool.or_eq_false_iff, decide_eq_false_iff_not, Bool.and_eq_false_iff]
    rcases h with h | ⟨rfl, h⟩
    · refine ⟨by rw [UInt8.lt_iff_toNat_lt, ex, ey]; omega, .inl ?_⟩
      rw [beq_eq_false_iff_ne]
      intro e
      have := congrArg UInt8.toNat e
      omega
    · exact ⟨by rw [UInt8.lt_iff_toNat_lt]; omega, .inr (less_of h (by simpa using hl) (fun c hc => hv c (List.mem_cons_of_mem _ hc)) (fun c hc => hw c (List.mem_cons_of_mem _ hc)))⟩
/-- What stands between a string and one that does not come behind it. -/
structure Behind (v s : ByteArray) : Prop where
  le : v.size ≤ s.size
  lex : v.size = s.size → Op.bytesLess s.toList v.toList = false
theorem Least.behind {L : List Int → Prop} {v w : List Int} (h : Least L v) (hw : L w) (hn : w ≠ []) (bv : ∀ b ∈ v, 0 ≤ b ∧ b ≤ 255) (bw : ∀ b ∈ w, 0 ≤ b ∧ b ≤ 255) : Behind (strOfNums v) (strOfNums w) := by
  have := h.min w hw hn
  refine ⟨by rw [strOfNums_size, strOfNums_size]; omega, fun e => ?_⟩
  rw [strOfNums_size, strOfNums_size] at e
  rw [toList_str, toList_str]
  rcases this with h1 | ⟨h1, h2⟩
  · omega
  · exact less_of h2 h1 bv bw
theorem str_ne {w : List Int} (h : w ≠ []) : 0 < (strOfNums w).size := by rw [strOfNums_size]; exact List.length_pos_iff.2 h
/-- Common of two patterns in memory. -/
theorem com_law {p q : List S50} {r : ByteArray × Int} {A B : Option Addr} {ca cb : Nat} {w : World} (h : Pt w A ca p) (k : Pt w B cb q) (hp : p.length ≤ 512) (hq : q.length ≤ 512) (ht : Tab w) (hr : IsCom p q r) :
    Calls Tryd.prog 31 #[.slice A p.length ca, .slice B q.length cb] w fun e w' => e = .returned (.tuple #[.string r.1, .int .i64 r.2]) ∧ Below w.heap.size w w' :=
  com_any A B ca cb p q r w h.C k.C h.hc k.hc (by omega) (by omega) ht hr
theorem short_law {p : List S50} {r : ByteArray × Int} {A : Option Addr} {ca : Nat} {w : World} (h : Pt w A ca p) (hp : p.length ≤ 512) (ht : Tab w) (hr : IsCom p p r) :
    Calls Tryd.prog 29 #[.slice A p.length ca] w fun e w' => e = .returned (.tuple #[.string r.1, .int .i64 r.2]) ∧ Below w.heap.size w w' :=
  short_any A ca p r w h.C h.hc (by omega) ht hr

set_option maxHeartbeats 4000000 in
set_option maxRecDepth 100000 in
theorem common_row {A B : Option Addr} {ca cb : Nat} {l m : List Int} {W : World} (hl : Bt W A ca l) (hm : Bt W B cb m) (ht : Tab W) :
    Calls Tryd.prog 10 #[.slice A l.length ca, .slice B m.length cb] W fun e w' => e = .returned (.bool true) ∧ Below W.heap.size W w' := by
  obtain ⟨hp, hpl⟩ := made_pst hl.rng (most := 20) (by decide) (by decide)
  obtain ⟨hq, hql⟩ := made_pst hm.rng (most := 20) (by decide) (by decide)
  obtain ⟨t0, e0, o0, g⟩ := hp.fine (by omega)
  obtain ⟨u0, e1, o1, k⟩ := hq.fine (by omega)
  clear e0 o0 e1 o1 hp hq
  generalize t0.re 0 = t at g
  generalize u0.re 0 = u at k
  obtain ⟨r, hr⟩ := com_ex (madeF l 20) (madeF m 20)
  obtain ⟨r2, hr2⟩ := com_ex (madeF m 20) (madeF l 20)
  obtain ⟨rp, hrp⟩ := com_ex (madeF l 20) (madeF l 20)
  obtain ⟨rq, hrq⟩ := com_ex (madeF m 20) (madeF m 20)
  have c1 := com_spec ⟨g, k⟩ hr
  have c2 := com_spec ⟨k, g⟩ hr2
  have c3 := com_spec ⟨g, g⟩ hrp
  have c4 := com_spec ⟨k, k⟩ hrq
  obtain rfl : r2 = r := c2.swap.unique c1
  have hpl' : (madeF l 20).length ≤ 512 := by omega
  have hql' : (madeF m 20).length ≤ 512 := by omega
  have HP := Lib.hid hpl'
  have HQ := Lib.hid hql'
  have HL := Lib.hid hl
  have HM := Lib.hid hm
  have HG := Lib.hid g
  have HK := Lib.hid k
  have S0 := Lib.hid (LS.init ht)
  have R1 := Lib.hid hr
  have R2 := Lib.hid hr2
  have R3 := Lib.hid hrp
  have R4 := Lib.hid hrq
  have C1 := Lib.hid c1
  have C3 := Lib.hid c3
  have C4 := Lib.hid c4
  clear hl hm ht hpl hql hpl' hql' g k hr hr2 hrp hrq c1 c2 c3 c4
  obtain ⟨s, e⟩ := r2
  obtain ⟨sp, ep⟩ := rp
  obtain ⟨sq, eq⟩ := rq
  go_enter Tryd.func10, Tryd.ntmps10
  go_wp2_with fail
  refine (sanity_any W S0.out.tab).mono ?_
  rintro e1 w1 ⟨rfl, k1⟩
  have S1 := Lib.hid (S0.out.next k1)
  have L1 := Lib.hid (HL.out.next k1)
  have M1 := Lib.hid (HM.out.next k1)
  clear k1
  go_wp2_with fail
  refine (made_law L1.out 20 (by decide) (by decide)).mono ?_
  rintro e2 w2 ⟨E, ec, rfl, P2, k2⟩
  have P2 := Lib.hid P2
  have S2 := Lib.hid (S1.out.next k2)
  have M2 := Lib.hid (M1.out.next k2)
  clear k2
  go_wp2_with fail
  refine (made_law M2.out 20 (by decide) (by decide)).mono ?_
  rintro e3 w3 ⟨F, fc, rfl, Q3, k3⟩
  have Q3 := Lib.hid Q3
  have P3 := Lib.hid (P2.out.next k3)
  have S3 := Lib.hid (S2.out.next k3)
  clear k3
  go_wp2_with fail
  refine (com_law P3.out Q3.out HP.out HQ.out S3.out.tab R1.out).mono ?_
  rintro e4 w4 ⟨rfl, k4⟩
  have Q4 := Lib.hid (Q3.out.next k4)
  have P4 := Lib.hid (P3.out.next k4)
  have S4 := Lib.hid (S3.out.next k4)
  clear k4
  go_wp2_with fail
  refine (com_law Q4.out P4.out HQ.out HP.out S4.out.tab R2.out).mono ?_
  rintro e5 w5 ⟨rfl, k5⟩
  have Q5 := Lib.hid (Q4.out.next k5)
  have P5 := Lib.hid (P4.out.next k5)
  have S5 := Lib.hid (S4.out.next k5)
  clear k5
  go_wp2_with fail
  refine (com_law P5.out P5.out HP.out HP.out S5.out.tab R3.out).mono ?_
  rintro e6 w6 ⟨rfl, k6⟩
  have Q6 := Lib.hid (Q5.out.next k6)
  have P6 := Lib.hid (P5.out.next k6)
  have S6 := Lib.hid (S5.out.next k6)
  clear k6
  go_wp2_with fail
  refine (short_law P6.out HP.out S6.out.tab R3.out).mono ?_
  rintro e7 w7 ⟨rfl, k7⟩
  have Q7 := Lib.hid (Q6.out.next k7)
  have P7 := Lib.hid (P6.out.next k7)
  have S7 := Lib.hid (S6.out.next k7)
  clear k7
  go_wp2_with fail
  refine (short_law Q7.out HQ.out S7.out.tab R4.out).mono ?_
  rintro e8 w8 ⟨rfl, k8⟩
  have Q8 := Lib.hid (Q7.out.next k8)
  have P8 := Lib.hid (P7.out.next k8)
  have S8 := Lib.hid (S7.out.next k8)
  clear k8 P2 P3 P4 P5 P6 P7 Q3 Q4 Q5 Q6 Q7 S0 S1 S2 S3 S4 S5 S6 S7 L1 M1 M2 R1 R2 R3 R4
  go_upto_region 9 with fail
  rcases C1.out with ⟨he, w, hs, hb, hL⟩ | ⟨hn, hno⟩
  · obtain ⟨he3, v, hv, hvb, hvL⟩ : ep = 0 ∧ ∃ v, sp = strOfNums v ∧ ((∀ b ∈ v, 0 ≤ b ∧ b ≤ 255) ∧ v.length ≤ 1000000) ∧ Least (fun w => t.Lang w ∧ t.Lang w) v := C3.out.resolve_right (fun h => h.2 w hL.ne ⟨hL.is.1, hL.is.1⟩)
    obtain ⟨he4, z, hz, hzb, hzL⟩ : eq = 0 ∧ ∃ v, sq = strOfNums v ∧ ((∀ b ∈ v, 0 ≤ b ∧ b ≤ 255) ∧ v.length ≤ 1000000) ∧ Least (fun w => u.Lang w ∧ u.Lang w) v := C4.out.resolve_right (fun h => h.2 w hL.ne ⟨hL.is.2, hL.is.2⟩)
    have b1 := hvL.behind ⟨hL.is.1, hL.is.1⟩ hL.ne hvb.1 hb.1
    have b2 := hzL.behind ⟨hL.is.2, hL.is.2⟩ hL.ne hzb.1 hb.1
    have hbs : bytesOf s = w := by rw [show s = strOfNums w from hs]; exact bytes_strOf hb.1
    have i1 := Lib.hid (show t.Lang (bytesOf s) by rw [hbs]; exact hL.is.1)
    have i2 := Lib.hid (show u.Lang (bytesOf s) by rw [hbs]; exact hL.is.2)
    rw [← show sp = strOfNums v from hv, ← show s = strOfNums w from hs] at b1
    rw [← show sq = strOfNums z from hz, ← show s = strOfNums w from hs] at b2
    have n0 : s.toList ≠ [] := by rw [show s = strOfNums w from hs, toList_str]; simpa using hL.ne
    have n1 : (s.toList == []) = false := beq_eq_false_iff_ne.2 n0
    have n2 : s.toList.isEmpty = false := by simpa using n0
    simp only at he
    subst he
    subst he3
    subst he4
    have sz : Hid (s.size ≤ 140737488351232) := Lib.hid (by rw [show s = strOfNums w from hs, strOfNums_size]; omega)
    have q1 := b1.le
    have q2 := b2.le
    have x1 : (sp.size < s.size ∧ decide (sp.size < s.size) = true) ∨ (¬ sp.size < s.size ∧ Op.bytesLess s.toList sp.toList = false) := by
      by_cases h : sp.size < s.size
      · exact .inl ⟨h, decide_eq_true h⟩
      · exact .inr ⟨h, b1.lex (by omega)⟩
    have x2 : (sq.size < s.size ∧ decide (sq.size < s.size) = true) ∨ (¬ sq.size < s.size ∧ Op.bytesLess s.toList sq.toList = false) := by
      by_cases h : sq.size < s.size
      · exact .inl ⟨h, decide_eq_true h⟩
      · exact .inr ⟨h, b2.lex (by omega)⟩
    have HX1 := Lib.hid x1
    have HX2 := Lib.hid x2
    clear hs hb hL hv hvb hvL hz hzb hzL b1 b2 hbs C1 C3 C4 x1 x2 n0
    go_upto_region 13 with fail
    rcases HX1.out with ⟨y1, y2⟩ | ⟨y1, y2⟩ <;> rcases HX2.out with ⟨y3, y4⟩ | ⟨y3, y4⟩
    all_goals
      go_wp2_with fail
      refine (matches_yes HG.out P8.out S8.out.tab _ sz.out i1.out).mono ?_
      rintro e9 w9 ⟨rfl, k9⟩
      have Q9 := Lib.hid (Q8.out.next k9)
      have S9 := Lib.hid (S8.out.next k9)
      clear k9
      go_wp2_with fail
      refine (matches_yes HK.out Q9.out S9.out.tab _ sz.out i2.out).mono ?_
      rintro ea wa ⟨rfl, ka⟩
      have Sa := Lib.hid (S9.out.next ka)
      clear ka
      go_wp2
      go_ret
      exact ⟨rfl, Sa.out.low⟩
  · simp only [Prod.mk.injEq] at hn
    obtain ⟨rfl, rfl⟩ := hn
    have HN := Lib.hid hno
    clear hno
    have HC3 : sp = sp := rfl
    go_wp2
    go_ret
    exact ⟨rfl, S8.out.low⟩
end Go.Proofs.YtaphblnelmncaaaDoor.PA
end

section
/- The walk over PatternShortest. -/
set_option linter.unusedVariables false
namespace Go.Proofs.YtaphblnelmncaaaDoor.PA
open Go.RowKit Go.Proofs.YtaphblnelmncaaaDoorW.PrintWords Go.Proofs.YtaphblnelmncaaaDoorW.PrintLast Go.Proofs.YtaphblnelmncaaaDoorW.PrintMore

theorem info9 : (Tryd.prog.info? 9).map (fun i => (i.zero, i.size, i.bytes)) = some (some (.string ⟨#[]⟩), 1, 16) := by kernel_rfl
/-- How many words begin with one of this length. -/
def costW (n : Nat) : Nat := if n = 0 then 121 else if n = 1 then 40 else if n = 2 then 13 else if n = 3 then 4 else 1
def sumW (ws : List (List Int)) : Nat := (ws.map fun w => costW w.length).sum
theorem costW_pos (n : Nat) : 1 ≤ costW n := by unfold costW; repeat (first | split | omega)
theorem sumW_len : ∀ (ws : List (List Int)), ws.length ≤ sumW ws
  | [] => Nat.le_refl _
  | w :: ws => by have := sumW_len ws; have := costW_pos w.length; simp [sumW] at *; omega
theorem sumW_app (a b : List (List Int)) : sumW (a ++ b) = sumW a + sumW b := by simp [sumW]
/-- The words' slice: strings, of its own. -/
structure WsInv (w0 : World) (v : Value) (ws : List (List Int)) (w : World) : Prop where
  low : Below w0.heap.size w0 w
  hs : Kd.R (Kd.raw 1) 9 w w0.heap.size (fun _ => True) v (ws.map fun x => [Value.string (strOfNums x)])
theorem WsInv.below {w0 w w' : World} {v : Value} {ws : List (List Int)} (h : WsInv w0 v ws w) (k : Below w.heap.size w w') : WsInv w0 v ws w' := ⟨h.low.trans (k.mono h.low.size), Kd.R_below h.hs k⟩
theorem WsInv.push {w0 w w1 : World} {v v1 : Value} {ws : List (List Int)} {x : List Int} (h : WsInv w0 v ws w) (hR : Kd.R (Kd.raw 1) 9 w1 w0.heap.size (fun _ => True) v1 ((ws.map fun x => [Value.string (strOfNums x)]) ++ [[Value.string (strOfNums x)]])) (hG : w.grownBy w1 v.ownBlock) : WsInv w0 v1 (ws ++ [x]) w1 := by
  have kp : Kp (fun g => g < w0.heap.size) w w1 := Kp.grown hG (fun g hg e => by have := Kd.R_base h.hs g e.symm; omega)
  exact ⟨h.low.trans (kp.below (fun g hg => hg) h.low.size), by simpa using hR⟩
theorem WsInv.cell {w0 w : World} {v : Value} {ws : List (List Int)} (h : WsInv w0 v ws w) {i : Nat} (hi : i < ws.length) :
    ∃ (g c : Nat), v = .slice (some ⟨g, 0, none⟩) ws.length c ∧ w.cell? ⟨g, i, none⟩ = some (.string (strOfNums (ws.getD i []))) := by
  have hs := h.hs
  have hl : (ws.map fun x => [Value.string (strOfNums x)]).length = ws.length := by simp
  obtain ⟨A0, c0, rfl⟩ := Kd.R_slice hs
  rw [hl] at hs
  obtain ⟨g, cap, he, hg⟩ : ∃ g cap, Value.slice A0 ws.length c0 = .slice (some ⟨g, 0, none⟩) ws.length cap ∧ True := by
    obtain ⟨h0, inner, ho, hr⟩ := hs
    rcases ho.2 with ⟨e, hz⟩ | ⟨g, cap, cur, e, _⟩
    · exfalso; have := hl; injection e; omega
    · injection e with e1 e2 e3
      exact ⟨g, cap, by rw [e1, e3], trivial⟩
  injection he with e1 _ e3
  subst e1; subst e3
  obtain ⟨cc, hcl, hM, hcc, hfr⟩ := Kd.R_elem hs [] (i : Int) (by omega) (by omega)
  have e2 : cc = [.string (strOfNums (ws.getD i []))] := by
    have := hM.1
    simpa [List.getD_eq_getElem?_getD, hi] using this
  have f1 := hcc 0 _ (by rw [e2]; rfl)
  have e4 : (i : Int).toNat * (Kd.raw 1).sz + 0 = i := by simp [Kd.raw]
  rw [e4] at f1
  exact ⟨g, c0, by rw [hl], f1⟩
/-- A pattern of the call's own. -/
structure Pr (w0 w : World) (A : Option Addr) (c : Nat) (p : List S50) : Prop where
  R : Kd.R k50 50 w w0.heap.size (fun _ => True) (.slice A p.length c) p
theorem Pr.pt {w0 w : World} {A : Option Addr} {c : Nat} {p : List S50} (h : Pr w0 w A c p) : Pt w A c p := (Pt.of h.R).2
theorem Pr.next {w0 w w' : World} {A : Option Addr} {c : Nat} {p : List S50} (h : Pr w0 w A c p) (k : Below w.heap.size w w') : Pr w0 w' A c p := ⟨Kd.R_below h.R k⟩
theorem Pr.grown {w0 w w1 : World} {v : Value} {ws : List (List Int)} {A : Option Addr} {c : Nat} {p : List S50} (h : Pr w0 w A c p) (hs : WsInv w0 v ws w) (hG : w.grownBy w1 v.ownBlock) : Pr w0 w1 A c p :=
  ⟨Kd.R_mono (Kd.R_grown (Kd.R_apartR h.R hs.hs (by decide)) hG (fun k hk => hk.2)) (fun _ _ => trivial)⟩
theorem made_lawR {w0 : World} {A : Option Addr} {c : Nat} {l : List Int} {w : World} (h : Bt w A c l) (hs : w0.heap.size ≤ w.heap.size) (most : Int) (h0 : 0 ≤ most) (hm : most ≤ 400) :
    Calls Tryd.prog 16 #[.slice A l.length c, .int .i64 most] w fun e w' => ∃ E ec, e = .returned (.slice E (madeF l most).length ec) ∧ Pr w0 w' E ec (madeF l most) ∧ Below w.heap.size w w' :=
  (made_any A c l most w h.C h.hc h.rng h0 hm h.len).mono fun e w' ⟨v, he, hR, hb⟩ => by
    obtain ⟨E, ec, rfl⟩ := Kd.R_slice hR
    exact ⟨E, ec, he, ⟨Kd.R_lower hR hs⟩, hb⟩
/-- Letters: what is in the words. -/
def Abc (w : List Int) : Prop := ∀ b ∈ w, 97 ≤ b ∧ b ≤ 99
theorem Abc.bytes {w : List Int} (h : Abc w) : ∀ b ∈ w, 0 ≤ b ∧ b ≤ 255 := fun b hb => by have := h b hb; omega
theorem abc_cut (b : Nat) (h : b < 3) : (⟨#[97, 98, 99]⟩ : ByteArray).extract b (b + 1) = strOfNums [97 + (b : Int)] := by
  have : b = 0 ∨ b = 1 ∨ b = 2 := by omega
  rcases this with rfl | rfl | rfl <;> rfl
/-- How the words stand between the rounds. -/
structure Room (i : Nat) (ws : List (List Int)) : Prop where
  sum : i + sumW (ws.drop i) ≤ 121
  all : ∀ w ∈ ws, w.length ≤ 4 ∧ Abc w
theorem Room.len {i : Nat} {ws : List (List Int)} (h : Room i ws) (hi : i ≤ ws.length) : ws.length ≤ 121 := by
  have := h.sum; have := sumW_len (ws.drop i); rw [List.length_drop] at this; omega
/-- Inside a round. -/
structure Room2 (i b : Nat) (w : List Int) (ws : List (List Int)) : Prop where
  sum : i + 1 + (3 - b) * (if w.length < 4 then costW (w.length + 1) else 0) + sumW (ws.drop (i + 1)) ≤ 121
  all : ∀ w ∈ ws, w.length ≤ 4 ∧ Abc w
  at_ : ws.getD i [] = w
  lt : i < ws.length
theorem Room.open2 {i : Nat} {ws : List (List Int)} (h : Room i ws) (hi : i < ws.length) : Room2 i 0 (ws.getD i []) ws := by
  have hg : ws.getD i [] ∈ ws := by rw [List.getD_eq_getElem?_getD, List.getElem?_eq_getElem hi]; exact List.getElem_mem hi
  have h4 := (h.all _ hg).1
  have hd : ws.drop i = ws.getD i [] :: ws.drop (i + 1) := by rw [List.drop_eq_getElem_cons hi]; simp [List.getD_eq_getElem?_getD, hi]
  have hs := h.sum
  rw [hd] at hs
  have e : sumW (ws.getD i [] :: ws.drop (i + 1)) = costW (ws.getD i []).length + sumW (ws.drop (i + 1)) := by simp [sumW]
  rw [e] at hs
  refine ⟨?_, h.all, rfl, hi⟩
  generalize (ws.getD i []).length = n at *
  have hc : costW n = 1 + 3 * (if n < 4 then costW (n + 1) else 0) := by
    have : n = 0 ∨ n = 1 ∨ n = 2 ∨ n = 3 ∨ n = 4 := by omega
    rcases this with rfl | rfl | rfl | rfl | rfl <;> rfl
  omega
theorem Room2.close {i : Nat} {w : List Int} {ws : List (List Int)} (h : Room2 i 3 w ws) : Room (i + 1) ws := ⟨by have := h.sum; omega, h.all⟩
theorem Room2.same {i b : Nat} {w : List Int} {ws : List (List Int)} (h : Room2 i b w ws) (hb : b < 3) (hw : ¬ w.length < 4) : Room2 i (b + 1) w ws := ⟨by have := h.sum; rw [if_neg hw] at *; omega, h.all, h.at_, h.lt⟩
theorem Room2.add {i b : Nat} {w : List Int} {ws : List (List Int)} (h : Room2 i b w ws) (hb : b < 3) (hw : w.length < 4) (ha : Abc w) : Room2 i (b + 1) w (ws ++ [w ++ [97 + (b : Int)]]) := by
  have hl := h.lt
  refine ⟨?_, ?_, ?_, by simp; omega⟩
  · have := h.sum
    rw [if_pos hw] at *
    rw [List.drop_append_of_le_length (by omega), sumW_app]
    have e : sumW [w ++ [97 + (b : Int)]] = costW (w.length + 1) := by simp [sumW]
    rw [e]
    obtain ⟨d, hd⟩ : ∃ d, 3 - b = d + 1 := ⟨3 - b - 1, by omega⟩
    rw [hd, Nat.add_mul] at this
    rw [show 3 - (b + 1) = d by omega]
    omega
  · intro x hx
    rcases List.mem_append.1 hx with hx | hx
    · exact h.all x hx
    · rw [List.mem_singleton] at hx
      subst hx
      refine ⟨by simp; omega, fun c hc => ?_⟩
      rcases List.mem_append.1 hc with hc | hc
      · exact ha c hc
      · rw [List.mem_singleton] at hc; omega
  · rw [List.getD_eq_getElem?_getD, List.getElem?_append_left hl, ← List.getD_eq_getElem?_getD]; exact h.at_
/-- No word is matched; or none ahead of s. -/
def Ahead (t : Re) (e : Int) (s : ByteArray) : Prop := ∀ v : List Int, v ≠ [] → (∀ b ∈ v, 0 ≤ b ∧ b ≤ 255) → t.Lang v → e = 0 ∧ (s.size < v.length ∨ (v.length = s.size ∧ Op.bytesLess (strOfNums v).toList s.toList = false))
theorem ahead_of {t : Re} {s : ByteArray} {e : Int} (h : ComP t t (s, e)) : Ahead t e s := by
  intro v hv hb hL
  rcases h with ⟨h1, w, h2, h3, h4⟩ | ⟨h1, h2⟩
  · have b1 := h4.behind ⟨hL, hL⟩ hv h3.1 hb
    rw [← show s = strOfNums w from h2] at b1
    have := b1.le
    rw [strOfNums_size] at this
    refine ⟨h1, ?_⟩
    by_cases hlt : s.size < v.length
    · exact .inl hlt
    · exact .inr ⟨by omega, b1.lex (by rw [strOfNums_size]; omega)⟩
  · exact absurd ⟨hL, hL⟩ (h2 v hv)
set_option maxHeartbeats 4000000 in
set_option maxRecDepth 100000 in
theorem shortest_row {A : Option Addr} {ca : Nat} {l : List Int} {W : World} (hl : Bt W A ca l) (ht : Tab W) :
    Calls Tryd.prog 9 #[.slice A l.length ca] W fun e w' => e = .returned (.bool true) ∧ Below W.heap.size W w' := by
  obtain ⟨hp, hpl⟩ := made_pst hl.rng (most := 14) (by decide) (by decide)
  obtain ⟨t0, e0, o0, g⟩ := hp.fine (by omega)
  clear e0 o0 hp
  generalize t0.re 0 = t at g
  obtain ⟨r, hr⟩ := com_ex (madeF l 14) (madeF l 14)
  have c1 := com_spec ⟨g, g⟩ hr
  have hpl' : (madeF l 14).length ≤ 512 := by omega
  have HP := Lib.hid hpl'
  have HL := Lib.hid hl
  have HG := Lib.hid g
  have S0 := Lib.hid (LS.init ht)
  have R1 := Lib.hid hr
  have C1 := Lib.hid c1
  clear hl ht hpl hpl' g hr c1
  obtain ⟨s, e⟩ := r
  go_enter Tryd.func9, Tryd.ntmps9
  go_wp2_with fail
  refine (sanity_any W S0.out.tab).mono ?_
  rintro e1 w1 ⟨rfl, k1⟩
  have S1 := Lib.hid (S0.out.next k1)
  have L1 := Lib.hid (HL.out.next k1)
  clear k1
  go_wp2_with fail
  refine (made_lawR L1.out S1.out.low.size 14 (by decide) (by decide)).mono ?_
  rintro e2 w2 ⟨E, ec, rfl, P2, k2⟩
  have P2 := Lib.hid P2
  have S2 := Lib.hid (S1.out.next k2)
  clear k2
  go_wp2_with fail
  refine (short_law P2.out.pt HP.out S2.out.tab R1.out).mono ?_
  rintro e7 w7 ⟨rfl, k7⟩
  have P7 := Lib.hid (P2.out.next k7)
  have S7 := Lib.hid (S2.out.next k7)
  have HA := Lib.hid (ahead_of C1.out)
  clear k7 P2 S0 S1 S2 L1 HL R1
  have he : e = 0 ∨ e = 3 := by
    rcases C1.out with ⟨h, _⟩ | ⟨h, _⟩
    · exact .inl h
    · simp only [Prod.mk.injEq] at h; exact .inr h.2
  have hss : s.size ≤ 1000000 := by
    rcases C1.out with ⟨_, w, hs, hb, _⟩ | ⟨h, _⟩
    · rw [show s = strOfNums w from hs, strOfNums_size]; omega
    · simp only [Prod.mk.injEq] at h; rw [h.1]; decide
  go_upto_region 4 with fail
  go_cut [38] (fun c38 wd => c38 = .bool false ∧ Hid (LS W wd) ∧ Hid (Pr W wd E ec (madeF l 14)))
  case first =>
    rcases he with rfl | rfl
    · obtain ⟨w, hs, hb, hL⟩ : ∃ w, s = strOfNums w ∧ ((∀ b ∈ w, 0 ≤ b ∧ b ≤ 255) ∧ w.length ≤ 1000000) ∧ Least (fun w => t.Lang w ∧ t.Lang w) w := by
        rcases C1.out with ⟨_, w, h⟩ | ⟨h, _⟩
        · exact ⟨w, h⟩
        · simp at h
      have hbs : bytesOf s = w := by rw [hs]; exact bytes_strOf hb.1
      have i1 := Lib.hid (show t.Lang (bytesOf s) by rw [hbs]; exact hL.is.1)
      have n0 : s.toList ≠ [] := by rw [hs, toList_str]; simpa using hL.ne
      have n1 : (s.toList == []) = false := beq_eq_false_iff_ne.2 n0
      have n2 : s.toList.isEmpty = false := by simpa using n0
      have sz : Hid (s.size ≤ 140737488351232) := Lib.hid (by omega)
      clear hs hb hL hbs n0 C1
      go_wp2_with fail
      refine (matches_yes HG.out P7.out.pt S7.out.tab _ sz.out i1.out).mono ?_
      rintro e9 w9 ⟨rfl, k9⟩
      have P9 := Lib.hid (P7.out.next k9)
      have S9 := Lib.hid (S7.out.next k9)
      clear k9
      go_wp2
      go_meet
      exact ⟨rfl, S9, P9⟩
    · go_wp2
      go_meet
      exact ⟨rfl, S7, P7⟩
  case rest =>
  obtain ⟨rfl, S9, P9⟩ := hcut
  clear S7 P7 C1
  go_wp2_with (first | ((with_reducible refine gate_dst (N := 39) rfl ?_); refine Kd.R_lit (Kd.raw 1) _ 9 ?hg (N := 39) ?hd (xs := [[Value.string ⟨#[]⟩]]) (inner := [Value.string ⟨#[]⟩]) (ok := fun _ => True) (okp := fun _ => True) ?hr ?hp (fun _ hk => hk) trivial (Below.refl _ _) (Nat.le_refl _) (by decide) ?_; (case hd => rfl); (case hg => rfl); (case hr => first | (go_simp; done) | (go_simp; rfl)); (case hp => exact (Reps.one (raw_mk rfl) (Reps.none _ _))); intro v39 w4 ho5 hb hg_ hnew_; have HB1 := Lib.hid hb; have HO1 := Lib.hid ho5; clear hg_ hnew_ hb ho5))
  have hI : Hid (WsInv W v39 [[]] w4) := Lib.hid ⟨S9.out.low.trans (HB1.out.mono S9.out.low.size), Kd.R_lower HO1.out S9.out.low.size⟩
  have hR0 : Hid (Room 0 [[]]) := Lib.hid ⟨by decide, by intro w hw; simp at hw; subst hw; exact ⟨by decide, by intro b hb; simp at hb⟩⟩
  have S10 := Lib.hid (S9.out.next HB1.out)
  have P10 := Lib.hid (P9.out.next HB1.out)
  clear HB1 HO1 S9 P9
  go_loopw [7, 8] (fun c7 c8 wd => ∃ (i : Nat) (ws : List (List Int)), i ≤ ws.length ∧ c8 = .int .i64 (i : Int) ∧ Hid (Room i ws) ∧ Hid (WsInv W c7 ws wd) ∧ Hid (LS W wd) ∧ Hid (Pr W wd E ec (madeF l 14))) (fun _ c8 _ => 121 - (intOf c8).toNat)
  case atStart => exact ⟨0, [[]], by decide, rfl, hR0, hI, S10, P10⟩
  case round =>
    obtain ⟨i, ws, hi, rfl, hR, hV, S11, P11⟩ := hrel
    clear hR0 hI S10 P10
    have hw121 := hR.out.len hi
    obtain ⟨V, cv, hv⟩ := Kd.R_slice hV.out.hs
    rw [List.length_map] at hv
    subst hv
    by_cases hlt : i < ws.length
    · have hltb : decide ((i : Int) < (ws.length : Int)) = true := decide_eq_true (by omega)
      have hR2 := Lib.hid (hR.out.open2 hlt)
      obtain ⟨w, hw⟩ : ∃ w, w = ws.getD i [] := ⟨_, rfl⟩
      rw [← hw] at hR2
      have hwi : w.length ≤ 4 ∧ Abc w := by
        rw [hw, List.getD_eq_getElem?_getD, List.getElem?_eq_getElem hlt]; exact hR.out.all _ (List.getElem_mem hlt)
      have HW := Lib.hid hwi
      clear hw hwi
      go_wp2
      go_loopw [7, 9] (fun c7 c9 wd => ∃ (b : Nat) (us : List (List Int)), b ≤ 3 ∧ us.length ≤ 121 ∧ c9 = .int .i64 (b : Int) ∧ Hid (Room2 i b w us) ∧ Hid (WsInv W c7 us wd) ∧ Hid (LS W wd) ∧ Hid (Pr W wd E ec (madeF l 14))) (fun _ c9 _ => 3 - (intOf c9).toNat)
      case atStart => exact ⟨0, ws, by decide, hw121, rfl, hR2, hV, S11, P11⟩
      case round =>
        obtain ⟨b, us, hb3, hu121, rfl, hR3, hU, S12, P12⟩ := hrel
        clear hR2 hV S11 P11
        by_cases hb : b < 3
        · have hbb : decide ((b : Int) < 3) = true := decide_eq_true (by omega)
          have hiu := hR3.out.lt
          obtain ⟨g, cu, rfl, hcell⟩ := hU.out.cell hiu
          rw [hR3.out.at_] at hcell
          have hiI : (i : Int) < (us.length : Int) := by omega
          have hb4 : (b : Int) ≤ (b : Int) + 1 := by omega
          have hb5 : (b : Int) + 1 ≤ 3 := by omega
          have hwb : IntKind.i64.wrap ((b : Int) + 1) = (b : Int) + 1 := IntWalk.i64_in _ (by omega)
          have hb6 : (b : Int) + 1 ≤ (((⟨#[97, 98, 99]⟩ : ByteArray).size : Nat) : Int) := by show (b : Int) + 1 ≤ 3; omega
          have hb7 : ((b : Int) + 1).toNat = b + 1 := by omega
          have hcut := abc_cut b hb
          have hwl := HW.out.1
          have hsz9 : (strOfNums w).size ≤ 4 := by rw [strOfNums_size]; exact hwl
          obtain ⟨ch, hch⟩ : ∃ ch, ch = strOfNums [97 + (b : Int)] := ⟨_, rfl⟩
          have hchs : ch.size ≤ 1 := by rw [hch, strOfNums_size]; exact Nat.le_refl _
          have HX : Hid (strOfNums w ++ ch = strOfNums (w ++ [97 + (b : Int)])) := Lib.hid (by rw [hch, strOfNums_app])
          rw [← hch] at hcut
          obtain ⟨xs, hxs⟩ : ∃ xs, xs = strOfNums w := ⟨_, rfl⟩
          rw [← hxs] at hsz9 hcell HX
          have HXS := Lib.hid hxs
          clear hxs hch
          go_wp2
          go_quiet (fail)
          go_upto_region 14 with fail
          have hys : (xs ++ ch).size = w.length + 1 := by rw [HX.out, strOfNums_size, List.length_append]; rfl
          have hyb : bytesOf (xs ++ ch) = w ++ [97 + (b : Int)] := by
            rw [HX.out]
            refine bytes_strOf (fun c hc => ?_)
            rcases List.mem_append.1 hc with hc | hc
            · exact HW.out.2.bytes c hc
            · rw [List.mem_singleton] at hc; omega
          have hya : Abc (w ++ [97 + (b : Int)]) := by
            intro c hc
            rcases List.mem_append.1 hc with hc | hc
            · exact HW.out.2 c hc
            · rw [List.mem_singleton] at hc; omega
          have HYA := Lib.hid hya
          have HYB := Lib.hid hyb
          have HXY := Lib.hid HX.out
          have hbd : Below wr.heap.size wr (wr.drewN nq) := by apply pw_below_drewN; exact Below.refl _ _
          have hU2 := Lib.hid (hU.out.below hbd)
          have S13 := Lib.hid (S12.out.next hbd)
          have P13 := Lib.hid (P12.out.next hbd)
          clear hbd
          clear hyb hya HX hcut hwb hb6 hb7
          generalize xs ++ ch = y at *
          have hys1 : y.size ≤ w.length + 1 := by omega
          have hys2 : w.length + 1 ≤ y.size := by omega
          clear hys
          by_cases hP : e = 0 ∧ (s.size < y.size ∨ (y.size = s.size ∧ Op.bytesLess y.toList s.toList = false))
          · obtain ⟨rfl, hP⟩ := hP
            rcases hP with h1 | ⟨h1, h2⟩
            · have d1 : decide (s.size < y.size) = true := decide_eq_true h1
              go_wp2
              go_ret
              exact ⟨rfl, S13.out.low⟩
            · have d1 : decide (s.size < y.size) = false := decide_eq_false (by omega)
              have d2 : ((y.size : Int) == (s.size : Int)) = true := beq_iff_eq.2 (by omega)
              have H1 := Lib.hid h1
              clear h1
              go_wp2
              go_ret
              exact ⟨rfl, S13.out.low⟩
          · have hno : ¬ t.Lang (bytesOf y) := by
              intro hL
              rw [HYB.out] at hL
              obtain ⟨h1, h2⟩ := HA.out _ (by simp) HYA.out.bytes hL
              rw [← HXY.out] at h2
              exact hP ⟨h1, by rcases h2 with h2 | h2; exact .inl (by simp at h2; omega); exact .inr ⟨by simp at h2; omega, h2.2⟩⟩
            have HNO := Lib.hid hno
            clear hno
            go_cut [79] (fun c79 wd => c79 = .bool false ∧ wd = wr.drewN nq)
            case first =>
              by_cases he0 : e = 0
              · subst he0
                have d1 : decide (s.size < y.size) = false := decide_eq_false (fun h => hP ⟨rfl, .inl h⟩)
                by_cases hq : y.size = s.size
                · have d2 : ((y.size : Int) == (s.size : Int)) = true := beq_iff_eq.2 (by omega)
                  have d3 : Op.bytesLess y.toList s.toList = true := by
                    cases h : Op.bytesLess y.toList s.toList
                    · exact absurd ⟨rfl, .inr ⟨hq, h⟩⟩ hP
                    · rfl
                  have HQ := Lib.hid hq
                  clear hq hP
                  go_wp2
                  go_meet
                  exact ⟨rfl, rfl⟩
                · have d2 : ((y.size : Int) == (s.size : Int)) = false := beq_eq_false_iff_ne.2 (by omega)
                  clear hP
                  go_wp2
                  go_meet
                  exact ⟨rfl, rfl⟩
              · have d1 : (e == 0) = false := beq_eq_false_iff_ne.2 he0
                clear hP
                go_wp2
                go_meet
                exact ⟨rfl, rfl⟩
            case rest =>
            obtain ⟨rfl, rfl⟩ := hcut
            clear hP
            have ysz : Hid (y.size ≤ 140737488351232) := Lib.hid (by omega)
            go_wp2_with fail
            refine (matches_no HG.out P13.out.pt S13.out.tab _ ysz.out HNO.out).mono ?_
            rintro e9 w9 ⟨rfl, k9⟩
            have hU3 := Lib.hid (hU2.out.below k9)
            have P14 := Lib.hid (P13.out.next k9)
            have S14 := Lib.hid (S13.out.next k9)
            clear k9 hU2 P13 S13
            by_cases hw4 : w.length < 4
            · have d5 : decide (y.size < 5) = true := decide_eq_true (by omega)
              have hR5 := Lib.hid (hR3.out.add hb hw4 HW.out.2)
              have hcap := (Kd.R_reads' hU3.out.hs).2.1
              go_wp2_with (first | ((with_reducible refine gate_builtin (b := .append) (xs := #[.tmp 87, .tmp 89]) rfl ?_); at_builtin; refine Kd.R_append (Kd.raw 1) (w0 := w9) W.heap.size rfl (.tmp 87) (.tmp 89) 46 9 (.string ⟨#[]⟩) 16 rfl Tryd.underlying46 info9 rfl (by decide) (by omega) (.slice (some ⟨g, 0, none⟩) us.length cu) (us.map fun x => [Value.string (strOfNums x)]) [.string y] [.string y] (fun _ => True) (fun _ => False) rfl rfl ?aP (fun _ hk => hk.elim) ?aF ?aO ?aB ?aS ?aL ?_; (case aP => exact raw_mk rfl); (case aF => exact (fun _ _ => trivial)); (case aO => exact hU3.out.hs); (case aB => exact Below.refl _ _); (case aS => exact hU3.out.low.size); (case aL => simp only [List.length_map]; omega); intro v1 w6 ho1 hb1 hg1 hat1; have HO9 := Lib.hid ho1; have HG9 := Lib.hid hg1; have HB9 := Lib.hid hb1; clear ho1 hb1 hg1 hat1) | fail)
              have hP9 := Lib.hid (hU3.out.push (x := w ++ [97 + (b : Int)]) (by have h := HO9.out; rw [HXY.out] at h; exact h) HG9.out)
              have P15 := Lib.hid (P14.out.grown hU3.out HG9.out)
              have S15 : Hid (LS W w6) := Lib.hid ⟨hP9.out.low, S14.out.tab0⟩
              have hu2 : (us ++ [w ++ [97 + (b : Int)]]).length ≤ 121 := (by have h1 := hR5.out.sum; have h2 := sumW_len ((us ++ [w ++ [97 + (b : Int)]]).drop (i + 1)); rw [List.length_drop] at h2; omega)
              exact ⟨⟨b + 1, _, by omega, hu2, by go_num, hR5, hP9, S15, P15⟩, by simp [intOf]; omega⟩
            · have d5 : decide (y.size < 5) = false := decide_eq_false (by omega)
              have hR5 := Lib.hid (hR3.out.same hb hw4)
              go_wp2
              go_roundw
              case rel => exact ⟨b + 1, us, by omega, hu121, by go_num, hR5, hU3, S14, P14⟩
              case measure => simp [intOf]; omega
        · have hbb : decide ((b : Int) < 3) = false := decide_eq_false (by omega)
          have hb3' : b = 3 := by omega
          have hR4 : Hid (Room (i + 1) us) := by rw [hb3'] at hR3; exact Lib.hid hR3.out.close
          have hlu := hR3.out.lt
          clear hb3'
          go_wp2
          go_roundw
          case rel => exact ⟨i + 1, us, by omega, by go_num, hR4, hU, S12, P12⟩
          case measure => simp [intOf]; omega
    · have hltb : decide ((i : Int) < (ws.length : Int)) = false := decide_eq_false (by omega)
      go_wp2
      go_ret
      exact ⟨rfl, S11.out.low⟩
end Go.Proofs.YtaphblnelmncaaaDoor.PA
end
