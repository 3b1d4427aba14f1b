/- What the statement's proof stands on, part 1: the walks over the program's functions and the plain laws. -/
import Derived.Test.YtaphblnelmncaaaDoorV8c
import Derived.Test.YtaphblnelmncaaaDoorPAx12
import Derived.Test.YtaphblnelmncaaaDoorPAx13
set_option linter.unusedSimpArgs false
set_option linter.unusedVariables false
section
/- When Check answers OK: each node in order, each node but the last one used once. -/
set_option linter.unusedVariables false
namespace Go.Proofs.YtaphblnelmncaaaDoor.PA
open Go.RowKit Go.Proofs.YtaphblnelmncaaaDoorW.PrintWords Go.Proofs.YtaphblnelmncaaaDoorW.PrintLast Go.Proofs.YtaphblnelmncaaaDoorW.PrintMore

/-- The operands of a node. -/
def opsN (x : S50) : List Int := if ari x.f0 < 1 then [] else if ari x.f0 < 2 then [x.f3] else [x.f3, x.f4]
def opsL (p : List S50) : List Int := p.flatMap opsN
/-- A node is in order at index k. -/
def nodeOk (x : S50) (k : Int) : Prop := baseOk x = true ∧ ∀ a ∈ opsN x, 0 ≤ a ∧ a < k
structure Valid (p : List S50) : Prop where
  ne : p ≠ []
  ok : ∀ k, k < p.length → nodeOk (rd_T50 p (k : Int)) k
  once : ∀ j : Nat, j + 1 < p.length → (opsL p).count (j : Int) = 1
theorem ops_len (x : S50) : (opsN x).length ≤ 2 := by unfold opsN; split; simp; split <;> simp
theorem take_succ_rd {p : List S50} {k : Nat} (h : k < p.length) : p.take (k + 1) = p.take k ++ [rd_T50 p (k : Int)] := take_rd h
theorem opsL_succ {p : List S50} {k : Nat} (h : k < p.length) : opsL (p.take (k + 1)) = opsL (p.take k) ++ opsN (rd_T50 p (k : Int)) := by
  rw [take_succ_rd h]; simp [opsL]
/-- What is taken says what has been used. -/
def Says (U : List Bool) (L : List Int) : Prop := ∀ j : Nat, U.getD j false = true ↔ (j : Int) ∈ L
theorem says_set {U : List Bool} {L : List Int} (h : Says U L) {i : Nat} (hi : i < U.length) : Says (U.set i true) (L ++ [(i : Int)]) := by
  intro j
  rw [getD_set U i j hi, List.mem_append, List.mem_singleton]
  by_cases e : j = i
  · subst e; simp
  · rw [if_neg e, h j]
    constructor
    · exact .inl
    · rintro (h | h)
      · exact h
      · omega
/-- One node: it is taken exactly if it is in order and uses nothing that was used. -/
theorem node_iff {x : S50} {k : Nat} {U : List Bool} {L : List Int} (hU : Says U L) (hk : k ≤ U.length) : (∃ V, chkNode x k U = some V) ↔ nodeOk x k ∧ (opsN x).Nodup ∧ ∀ a ∈ opsN x, a ∉ L := by
  have use : ∀ (a : Int) (W : List Bool) (M : List Int), Says W M → (useOk a k W = true ↔ (0 ≤ a ∧ a < k) ∧ a ∉ M) := by
    intro a W M hW
    unfold useOk
    simp only [Bool.and_eq_true, decide_eq_true_eq, Bool.not_eq_true']
    constructor
    · rintro ⟨h1, h2, h3⟩
      obtain ⟨j, rfl⟩ := Int.eq_ofNat_of_zero_le h1
      refine ⟨⟨h1, h2⟩, fun hm => ?_⟩
      have := (hW j).2 hm
      rw [Int.toNat_natCast] at h3
      rw [h3] at this; cases this
    · rintro ⟨⟨h1, h2⟩, h3⟩
      obtain ⟨j, rfl⟩ := Int.eq_ofNat_of_zero_le h1
      refine ⟨h1, h2, ?_⟩
      rw [Int.toNat_natCast]
      cases hg : W.getD j false with
      | false => rfl
      | true => exact absurd ((hW j).1 hg) h3
  unfold chkNode nodeOk opsN
  by_cases hb : baseOk x = true
  · rw [if_neg (by simp [hb])]
    by_cases h1 : ari x.f0 < 1
    · rw [if_pos h1, if_pos h1]; simp [hb]
    · rw [if_neg h1, if_neg h1]
      have ua := use x.f3 U L hU
      by_cases h2 : ari x.f0 < 2
      · rw [if_pos h2]
        by_cases hu : useOk x.f3 k U = true
        · rw [if_neg (by simp [hu]), if_pos h2]
          have := ua.1 hu
          simp [hb, this.1, this.2]
        · rw [if_pos (by simpa using hu), if_pos h2]
          simp only [reduceCtorEq, exists_false, false_iff]
          rintro ⟨⟨_, h3⟩, _, h4⟩
          exact hu (ua.2 ⟨h3 x.f3 (by simp), h4 x.f3 (by simp)⟩)
      · rw [if_neg h2]
        by_cases hu : useOk x.f3 k U = true
        · rw [if_neg (by simp [hu]), if_neg h2]
          obtain ⟨⟨a1, a2⟩, a3⟩ := ua.1 hu
          obtain ⟨i, hi⟩ := Int.eq_ofNat_of_zero_le a1
          rw [hi] at hu a2 a3 ⊢
          have hn : useNew (i : Int) k U = U.set i true := by unfold useNew; rw [if_pos hu]; simp
          rw [hn]
          have ub := use x.f4 (U.set i true) (L ++ [(i : Int)]) (says_set hU (by omega))
          by_cases hv : useOk x.f4 k (U.set i true) = true
          · rw [if_neg (by simp [hv])]
            obtain ⟨b1, b2⟩ := ub.1 hv
            rw [List.mem_append, List.mem_singleton, not_or] at b2
            simp only [Option.some.injEq, exists_eq', true_iff]
            refine ⟨⟨hb, ?_⟩, ?_, ?_⟩
            · intro a ha
              simp only [List.mem_cons, List.not_mem_nil, or_false] at ha
              rcases ha with rfl | rfl
              · exact ⟨by omega, a2⟩
              · exact b1
            · simp only [List.nodup_cons, List.mem_singleton, List.not_mem_nil, not_false_eq_true, List.nodup_nil, and_true]
              exact fun e => b2.2 e.symm
            · intro a ha
              simp only [List.mem_cons, List.not_mem_nil, or_false] at ha
              rcases ha with rfl | rfl
              · exact a3
              · exact b2.1
          · rw [if_pos (by simpa using hv)]
            simp only [reduceCtorEq, exists_false, false_iff]
            rintro ⟨⟨_, h3⟩, h4, h5⟩
            simp only [List.nodup_cons, List.mem_singleton] at h4
            refine hv (ub.2 ⟨h3 x.f4 (by simp), ?_⟩)
            rw [List.mem_append, List.mem_singleton, not_or]
            exact ⟨h5 x.f4 (by simp), fun e => h4.1 e.symm⟩
        · rw [if_pos (by simpa using hu), if_neg h2]
          simp only [reduceCtorEq, exists_false, false_iff]
          rintro ⟨⟨_, h3⟩, _, h4⟩
          exact hu (ua.2 ⟨h3 x.f3 (by simp), h4 x.f3 (by simp)⟩)
  · rw [if_pos (by simpa using hb)]
    simp [hb]
theorem node_says {x : S50} {k : Nat} {U V : List Bool} {L : List Int} (hU : Says U L) (hk : k ≤ U.length) (h : chkNode x k U = some V) : Says V (L ++ opsN x) := by
  unfold chkNode at h
  unfold opsN
  split at h
  · cases h
  · split at h
    · rename_i h1
      cases h
      rw [if_pos h1, List.append_nil]; exact hU
    · rename_i h1
      rw [if_neg h1]
      split at h
      · cases h
      · rename_i hu
        obtain ⟨i, e1, e2, e3, e4⟩ := use_spec (i := x.f3) (a := k) (U := U) (by simpa using hu)
        have s1 := says_set hU (i := i) (by omega)
        split at h
        · rename_i h2
          cases h
          rw [if_pos h2, e4, e1]; exact s1
        · rename_i h2
          rw [if_neg h2]
          split at h
          · cases h
          · rename_i hv
            rw [e4] at hv h
            obtain ⟨j, g1, g2, g3, g4⟩ := use_spec (i := x.f4) (a := k) (U := U.set i true) (by simpa using hv)
            cases h
            rw [g4, e1, g1]
            have := says_set s1 (i := j) (by simp; omega)
            simpa using this
/-- The first k nodes. -/
theorem to_iff {p : List S50} : ∀ k, k ≤ p.length → ((∃ U, chkTo p k = some U) ↔ (∀ j, j < k → nodeOk (rd_T50 p (j : Int)) j) ∧ (opsL (p.take k)).Nodup) ∧ ∀ U, chkTo p k = some U → Says U (opsL (p.take k)) ∧ U.length = p.length
  | 0, _ => ⟨⟨fun _ => ⟨fun j hj => by omega, by simp [opsL]⟩, fun _ => ⟨_, rfl⟩⟩, fun U h => by
      cases h
      refine ⟨fun j => ?_, by simp⟩
      simp only [List.getD_eq_getElem?_getD, List.getElem?_replicate, opsL, List.take_zero, List.flatMap_nil, List.not_mem_nil, iff_false]
      split <;> simp⟩
  | k + 1, hk => by
    obtain ⟨ih1, ih2⟩ := to_iff (p := p) k (by omega)
    have hkp : k < p.length := by omega
    constructor
    · rw [opsL_succ hkp]
      constructor
      · rintro ⟨V, hV⟩
        simp only [chkTo] at hV
        obtain ⟨U, h1, h2⟩ := Option.bind_eq_some_iff.1 hV
        obtain ⟨g1, g2⟩ := ih1.1 ⟨U, h1⟩
        obtain ⟨g3, g4⟩ := ih2 U h1
        obtain ⟨n1, n2, n3⟩ := (node_iff g3 (by omega)).1 ⟨V, h2⟩
        refine ⟨fun j hj => ?_, ?_⟩
        · by_cases e : j = k
          · subst e; exact n1
          · exact g1 j (by omega)
        · rw [List.nodup_append]
          exact ⟨g2, n2, fun a ha b hb e => n3 b hb (e ▸ ha)⟩
      · rintro ⟨h1, h2⟩
        rw [List.nodup_append] at h2
        obtain ⟨U, hU⟩ := ih1.2 ⟨fun j hj => h1 j (by omega), h2.1⟩
        obtain ⟨g3, g4⟩ := ih2 U hU
        obtain ⟨V, hV⟩ := (node_iff g3 (by omega)).2 ⟨h1 k (by omega), h2.2.1, fun a ha hm => h2.2.2 a hm a ha rfl⟩
        exact ⟨V, by simp only [chkTo]; rw [hU]; exact hV⟩
    · intro V hV
      simp only [chkTo] at hV
      obtain ⟨U, h1, h2⟩ := Option.bind_eq_some_iff.1 hV
      obtain ⟨g3, g4⟩ := ih2 U h1
      rw [opsL_succ hkp]
      exact ⟨node_says g3 (by omega) h2, by rw [chkNode_length h2, g4]⟩
theorem ops_lt {p : List S50} (h : ∀ k, k < p.length → nodeOk (rd_T50 p (k : Int)) k) : ∀ a ∈ opsL p, 0 ≤ a ∧ a + 1 < p.length := by
  intro a ha
  unfold opsL at ha
  rw [List.mem_flatMap] at ha
  obtain ⟨x, hx, ha⟩ := ha
  obtain ⟨k, hk, e⟩ := List.getElem_of_mem hx
  have := (h k hk).2 a (by rw [show rd_T50 p (k : Int) = x by simp [rd_T50, List.getD_eq_getElem?_getD, hk, e]]; exact ha)
  omega
/-- Check says OK exactly if the pattern is valid. -/
theorem chk_iff {p : List S50} : chk p = 0 ↔ p.length ≤ 512 ∧ Valid p := by
  obtain ⟨h1, h2⟩ := to_iff (p := p) p.length (Nat.le_refl _)
  rw [List.take_length] at h1 h2
  unfold chk
  by_cases hl : 512 < p.length
  · rw [if_pos hl]; exact ⟨(fun h => by cases h), fun h => by omega⟩
  · rw [if_neg hl]
    cases hc : chkTo p p.length with
    | none =>
      simp only
      refine ⟨(fun h => by cases h), fun ⟨_, h⟩ => ?_⟩
      have nd : (opsL p).Nodup := by
        rw [List.nodup_iff_count]
        intro a
        by_cases ha : a ∈ opsL p
        · obtain ⟨b1, b2⟩ := ops_lt h.ok a ha
          obtain ⟨j, rfl⟩ := Int.eq_ofNat_of_zero_le b1
          rw [h.once j (by omega)]; exact Nat.le_refl _
        · rw [List.count_eq_zero.2 ha]; omega
      obtain ⟨U, hU⟩ := h1.2 ⟨h.ok, nd⟩
      rw [hc] at hU; cases hU
    | some U =>
      obtain ⟨g1, g2⟩ := h1.1 ⟨U, hc⟩
      obtain ⟨g3, g4⟩ := h2 U hc
      simp only
      have key : ((List.range (p.length - 1)).all (fun i => U.getD i false) = true ∧ p.length ≠ 0) ↔ Valid p := by
        rw [List.all_eq_true]
        constructor
        · rintro ⟨a1, a2⟩
          refine ⟨fun e => a2 (by rw [e]; rfl), g1, fun j hj => ?_⟩
          have hm := (g3 j).1 (a1 j (List.mem_range.2 (by omega)))
          have c1 := List.count_pos_iff.2 hm
          have c2 := List.nodup_iff_count.1 g2 (j : Int)
          omega
        · intro h
          refine ⟨fun j hj => ?_, fun e => h.ne (List.length_eq_zero_iff.1 e)⟩
          rw [List.mem_range] at hj
          refine (g3 j).2 (List.count_pos_iff.1 ?_)
          rw [h.once j (by omega)]; omega
      by_cases hh : Valid p
      · rw [if_pos (key.2 hh)]; exact ⟨fun _ => ⟨by omega, hh⟩, fun _ => rfl⟩
      · rw [if_neg (fun h => hh (key.1 h))]; exact ⟨(fun h => by cases h), fun h => absurd h.2 hh⟩
theorem chk_vals (p : List S50) : (512 < p.length ∧ chk p = 2) ∨ (p.length ≤ 512 ∧ (chk p = 0 ∨ chk p = 40)) := by
  unfold chk
  by_cases hl : 512 < p.length
  · exact .inl ⟨hl, by rw [if_pos hl]⟩
  · refine .inr ⟨by omega, ?_⟩
    rw [if_neg hl]
    split
    · exact .inr rfl
    · split
      · exact .inl rfl
      · exact .inr rfl
end Go.Proofs.YtaphblnelmncaaaDoor.PA
end

section
/- The reference's Check. -/
set_option linter.unusedVariables false
namespace Go.Proofs.YtaphblnelmncaaaDoor.PA
open Go.RowKit Go.Proofs.YtaphblnelmncaaaDoorW.PrintWords Go.Proofs.YtaphblnelmncaaaDoorW.PrintLast Go.Proofs.YtaphblnelmncaaaDoorW.PrintMore

/-- The kinds' numbers of operands, as the reference says them. -/
theorem roper (K n : Int) (ok : Bool) (h : (K = 0 ∧ n = 0 ∧ ok = true) ∨ (K = 1 ∧ n = 0 ∧ ok = true) ∨ (K = 4 ∧ n = 1 ∧ ok = true) ∨ (K = 2 ∧ n = 2 ∧ ok = true) ∨ (K = 3 ∧ n = 2 ∧ ok = true) ∨ (K ≠ 0 ∧ K ≠ 1 ∧ K ≠ 2 ∧ K ≠ 3 ∧ K ≠ 4 ∧ n = 0 ∧ ok = false)) (w : World) :
    Calls Tryd.prog 52 #[.int .i64 K] w fun e w' => e = .returned (.tuple #[.int .i64 n, .bool ok]) ∧ ∃ m, w' = w.drewN m := by
  have hf : koineref04_operands.f 1 K = some (n, ok) := by
    unfold koineref04_operands.f koineref04_operands.j0
    rcases h with ⟨rfl, rfl, rfl⟩ | ⟨rfl, rfl, rfl⟩ | ⟨rfl, rfl, rfl⟩ | ⟨rfl, rfl, rfl⟩ | ⟨rfl, rfl, rfl⟩ | ⟨h0, h1, h2, h3, h4, rfl, rfl⟩
    · rfl
    · rfl
    · rfl
    · rfl
    · rfl
    · simp [h0, h1, h2, h3, h4]
  exact (koineref04_operands.calls 1 K _ _ w hf).mono fun e w' ⟨he, hd⟩ => ⟨he, hd.out⟩
/-- Is a node in order at index k? -/
def vB (x : S50) (k : Int) : Bool := decide (baseOk x = true) && ((decide (ari x.f0 < 1) || (decide (0 ≤ x.f3) && decide (x.f3 < k))) && (decide (ari x.f0 < 2) || (decide (0 ≤ x.f4) && decide (x.f4 < k))))
theorem vB_iff (x : S50) (k : Int) : vB x k = true ↔ nodeOk x k := by
  unfold vB nodeOk opsN
  simp only [Bool.and_eq_true, Bool.or_eq_true, decide_eq_true_eq]
  constructor
  · rintro ⟨h1, h2, h3⟩
    refine ⟨h1, ?_⟩
    split
    · simp
    · split
      · intro a ha; simp at ha; subst ha; omega
      · intro a ha
        simp only [List.mem_cons, List.not_mem_nil, or_false] at ha
        rcases ha with rfl | rfl <;> omega
  · rintro ⟨h1, h2⟩
    refine ⟨h1, ?_⟩
    by_cases g1 : ari x.f0 < 1
    · exact ⟨.inl g1, .inl (by omega)⟩
    · rw [if_neg g1] at h2
      by_cases g2 : ari x.f0 < 2
      · rw [if_pos g2] at h2
        exact ⟨.inr (h2 _ (by simp)), .inl g2⟩
      · rw [if_neg g2] at h2
        exact ⟨.inr (h2 x.f3 (by simp)), .inr (h2 x.f4 (by simp))⟩
theorem vB_ints (K lo hi a b k : Int) : vB ⟨K, lo, hi, a, b⟩ k = true ↔ (((K = 1 ∧ 0 ≤ lo ∧ lo ≤ hi ∧ hi ≤ 255) ∨ (K ≠ 1 ∧ lo = 0 ∧ hi = 0 ∧ 0 ≤ ari K)) ∧ (1 ≤ ari K ∨ a = 0) ∧ (2 ≤ ari K ∨ b = 0)) ∧ (ari K < 1 ∨ (0 ≤ a ∧ a < k)) ∧ (ari K < 2 ∨ (0 ≤ b ∧ b < k)) := by
  unfold vB
  simp only [Bool.and_eq_true, Bool.or_eq_true, decide_eq_true_eq, baseOk_iff]

def RopOk (K n : Int) (ok : Bool) : Prop := (K = 0 ∧ n = 0 ∧ ok = true) ∨ (K = 1 ∧ n = 0 ∧ ok = true) ∨ (K = 4 ∧ n = 1 ∧ ok = true) ∨ (K = 2 ∧ n = 2 ∧ ok = true) ∨ (K = 3 ∧ n = 2 ∧ ok = true) ∨ (K ≠ 0 ∧ K ≠ 1 ∧ K ≠ 2 ∧ K ≠ 3 ∧ K ≠ 4 ∧ n = 0 ∧ ok = false)
theorem rop_cases (K : Int) : ∃ n ok, RopOk K n ok := by
  unfold RopOk
  by_cases h0 : K = 0
  · exact ⟨0, true, by simp [h0]⟩
  by_cases h1 : K = 1
  · exact ⟨0, true, by simp [h1]⟩
  by_cases h2 : K = 2
  · exact ⟨2, true, by simp [h2]⟩
  by_cases h3 : K = 3
  · exact ⟨2, true, by simp [h3]⟩
  by_cases h4 : K = 4
  · exact ⟨1, true, by simp [h4]⟩
  exact ⟨0, false, by simp [*]⟩
set_option maxHeartbeats 8000000 in
set_option maxRecDepth 100000 in
theorem rvalid_any {p : List S50} {A : Option Addr} {c : Nat} {w : World} (h : Pt w A c p) (i : Nat) (hi : i < p.length) :
    Calls Tryd.prog 51 #[.slice A p.length c, .int .i64 (i : Int)] w fun e w' => e = .returned (.bool (vB (rd_T50 p (i : Int)) i)) ∧ Below w.heap.size w w' := by
  have hiI : (i : Int) < (p.length : Int) := by omega
  obtain ⟨ad, rfl, x0, x1, x2, x3, x4⟩ := at_T50 h.C i (by omega) hiI
  simp only [Int.toNat_natCast] at x0 x1 x2 x3 x4
  generalize rd_T50 p (i : Int) = x at *
  obtain ⟨K, lo, hi, a, b⟩ := x
  obtain ⟨r, hr⟩ : ∃ r, r = vB ⟨K, lo, hi, a, b⟩ i := ⟨_, rfl⟩
  rw [← hr]
  have HR : Hid (r = true ↔ (((K = 1 ∧ 0 ≤ lo ∧ lo ≤ hi ∧ hi ≤ 255) ∨ (K ≠ 1 ∧ lo = 0 ∧ hi = 0 ∧ 0 ≤ ari K)) ∧ (1 ≤ ari K ∨ a = 0) ∧ (2 ≤ ari K ∨ b = 0)) ∧ (ari K < 1 ∨ (0 ≤ a ∧ a < (i : Int))) ∧ (ari K < 2 ∨ (0 ≤ b ∧ b < (i : Int)))) := Lib.hid (by rw [hr]; exact vB_ints K lo hi a b i)
  clear hr h
  simp only at x0 x1 x2 x3 x4
  obtain ⟨n, ok, hro⟩ := rop_cases K
  have HRO := Lib.hid hro
  unfold RopOk at hro
  rcases hro with ⟨rfl, rfl, rfl⟩ | ⟨rfl, rfl, rfl⟩ | ⟨rfl, rfl, rfl⟩ | ⟨rfl, rfl, rfl⟩ | ⟨rfl, rfl, rfl⟩ | ⟨h0, h1, h2, h3, h4, rfl, rfl⟩
  all_goals
    go_enter Tryd.func51, Tryd.ntmps51
    go_wp2_with fail
    refine (roper _ _ _ HRO.out _).mono ?_
    rintro e w1 ⟨rfl, n, rfl⟩
    go_wp2
    all_goals
      go_ret
      refine ⟨ret_bool ?_, by apply pw_below_drewN; exact (Below.refl _ _).alloc (Nat.le_refl _) _⟩
      have HH := HR.out
      simp only [ari] at HH
      first
      | (refine (HH.2 ?_).symm; simp_all; done)
      | (refine (HH.2 ?_).symm; simp_all; omega)
      | (refine Eq.symm (Bool.eq_false_iff.2 fun hr => ?_); have := HH.1 hr; simp_all; done)
      | (refine Eq.symm (Bool.eq_false_iff.2 fun hr => ?_); have := HH.1 hr; simp_all; omega)
      | (refine Bool.eq_iff_iff.2 ?_; rw [decide_eq_true_eq]; constructor <;> intro hz <;> first | (have := HH.1 hz; omega) | (refine HH.2 ?_; simp; omega))
end Go.Proofs.YtaphblnelmncaaaDoor.PA
end

section
/- The reference's Check, walked. -/
set_option linter.unusedVariables false
namespace Go.Proofs.YtaphblnelmncaaaDoor.PA
open Go.RowKit Go.Proofs.YtaphblnelmncaaaDoorW.PrintWords Go.Proofs.YtaphblnelmncaaaDoorW.PrintLast Go.Proofs.YtaphblnelmncaaaDoorW.PrintMore

/-- How often each node is used. -/
def cntV (n : Nat) (L : List Int) : List Value := (List.range n).map fun (j : Nat) => .int .i64 ((L.count (j : Int) : Nat) : Int)
theorem cntV_get (n : Nat) (L : List Int) (j : Nat) (h : j < n) : (cntV n L)[j]? = some (.int .i64 ((L.count (j : Int) : Nat) : Int)) := by
  unfold cntV; rw [List.getElem?_map, List.getElem?_range h]; rfl
theorem cntV_set (n : Nat) (L : List Int) (j : Nat) (h : j < n) : (cntV n L).set j (.int .i64 (((L.count (j : Int) : Nat) : Int) + 1)) = cntV n (L ++ [(j : Int)]) := by
  apply List.ext_getElem?
  intro i
  by_cases hi : i < n
  · rw [cntV_get _ _ _ hi, List.getElem?_set, List.count_append]
    by_cases e : j = i
    · subst e
      rw [if_pos rfl, if_pos (by simp [cntV]; omega)]
      simp
    · rw [if_neg e, cntV_get _ _ _ hi, List.count_singleton]
      rw [if_neg (by simp; omega)]; simp
  · rw [List.getElem?_eq_none (by simp [cntV]; omega), List.getElem?_eq_none (by simp [cntV]; omega)]
theorem madeInts (n : Nat) : madeCells #[.int .i64 0] n = (cntV n []).toArray := by
  apply Array.ext
  · simp [madeCells, cntV]
  · intro i h1 h2
    simp [madeCells, cntV, Nat.mod_one]
theorem opsL_len (p : List S50) : (opsL p).length ≤ 2 * p.length := by
  induction p with
  | nil => simp [opsL]
  | cons x p ih =>
    have := ops_len x
    simp only [opsL, List.flatMap_cons, List.length_append, List.length_cons] at *
    omega
theorem chk_not {p : List S50} (h : p.length ≤ 512) (hv : ¬ Valid p) : chk p = 40 := by
  rcases chk_vals p with ⟨h1, _⟩ | ⟨_, h2 | h2⟩
  · omega
  · exact absurd (chk_iff.1 h2).2 hv
  · exact h2

theorem ropOk_of {K lo hi a b : Int} (hb1 : baseOk ⟨K, lo, hi, a, b⟩ = true) : RopOk K (ari K) true ∧ (ari K = 0 ∨ ari K = 1 ∨ ari K = 2) := by
  rw [baseOk_iff] at hb1
  unfold RopOk
  unfold ari at hb1 ⊢
  repeat' split at hb1
  all_goals simp
  all_goals omega
structure RChk (ub : Nat) (n : Nat) (L : List Int) (w0 w : World) : Prop where
  hu : Blk w ub 3 (cntV n L)
  below : Below w0.heap.size w0 w
  n2 : w0.heap.size ≤ ub
theorem RChk.keep {ub n : Nat} {L : List Int} {w0 w w' : World} (h : RChk ub n L w0 w) (k : Below w.heap.size w w') : RChk ub n L w0 w' := ⟨h.hu.below k, h.below.trans (k.mono h.below.size), h.n2⟩
theorem RChk.set {ub n : Nat} {L : List Int} {w0 w : World} (h : RChk ub n L w0 w) (j : Nat) (hj : j < n) : RChk ub n (L ++ [(j : Int)]) w0 (w.setCell ⟨ub, j, none⟩ (.int .i64 (((L.count (j : Int) : Nat) : Int) + 1))) :=
  ⟨by rw [← cntV_set n L j hj]; exact h.hu.set j _, h.below.setCell h.n2 _, h.n2⟩

set_option maxHeartbeats 4000000 in
set_option maxRecDepth 100000 in
theorem rcheck_any {p : List S50} {A : Option Addr} {c : Nat} {w : World} (hP : Pt w A c p) (hb : p.length * 40 ≤ 140737488351232) :
    Calls Tryd.prog 22 #[.slice A p.length c] w fun e w' => e = .returned (.int .i64 (chk p)) ∧ Below w.heap.size w w' := by
  by_cases h512 : 512 < p.length
  · have e : chk p = 2 := by unfold chk; rw [if_pos h512]
    rw [e]
    clear e
    go_enter Tryd.func22, Tryd.ntmps22
    go_wp2
    go_ret
    exact ⟨rfl, Below.refl _ _⟩
  have hmk : ∀ W : World, (Instr.makeSlice 53 (.int .i64 (p.length : Int)) (.int .i64 (p.length : Int))).run Tryd.prog W = .ok (.slice (some ⟨W.heap.size, 0, none⟩) p.length p.length) (W.alloc (.cells (cntV p.length []).toArray 3)) := by
    intro W
    rw [← madeInts]
    exact run_make_row' 53 3 (.int .i64 0) 8 Tryd.underlying53 info3 rfl .i64 .i64 p.length (by omega) (by omega) W
  have HC := Lib.hid hP
  have hgt : decide (512 < (p.length : Int)) = false := by simp; omega
  have hn5 : p.length ≤ 512 := by omega
  have H40 : Hid (¬ Valid p → chk p = 40) := Lib.hid (chk_not hn5)
  clear hP
  go_enter Tryd.func22, Tryd.ntmps22
  go_wp2
  generalize hg : w.heap.size = ub at *
  generalize hW : World.alloc _ _ = W
  have I0 : Hid (RChk ub p.length (opsL (p.take 0)) w W) := Lib.hid (by
    subst hW; subst hg
    exact ⟨Blk.new w _ 3, (Below.refl _ _).alloc (Nat.le_refl _) _, Nat.le_refl _⟩)
  clear hW hg
  go_loopw [4] (fun cn wr => ∃ k : Nat, cn = .int .i64 k ∧ k ≤ p.length ∧ Hid (∀ j, j < k → nodeOk (rd_T50 p (j : Int)) j) ∧ Hid (RChk ub p.length (opsL (p.take k)) w wr)) (fun cn _ => p.length - (intOf cn).toNat)
  case atStart => exact ⟨0, rfl, by omega, Lib.hid (fun j hj => by omega), I0⟩
  case round =>
    obtain ⟨k, rfl, hk, hO, hI⟩ := hrel
    by_cases hlt : k < p.length
    · have hkI : (k : Int) < (p.length : Int) := by omega
      have hkb : decide ((k : Int) < (p.length : Int)) = true := decide_eq_true hkI
      have PW := Lib.hid (HC.out.next hI.out.below)
      go_wp2_with fail
      refine (rvalid_any PW.out k hlt).mono ?_
      rintro e w1 ⟨rfl, b1⟩
      have I1 := Lib.hid (hI.out.keep b1)
      have P1 := Lib.hid (PW.out.next b1)
      clear b1 hI PW
      cases hv : vB (rd_T50 p (k : Int)) k
      · have hres : Hid (chk p = 40) := Lib.hid (H40.out fun hV => by
          have := (vB_iff _ _).2 (hV.ok k hlt)
          rw [hv] at this; cases this)
        clear hv
        go_wp2
        go_ret
        exact ⟨ret_int hres.out.symm, I1.out.below⟩
      · have hok := (vB_iff _ _).1 hv
        have hO2 : Hid (∀ j, j < k + 1 → nodeOk (rd_T50 p (j : Int)) j) := Lib.hid (fun j hj => by
          rcases Nat.lt_or_ge j k with h | h
          · exact hO.out j h
          · rw [show j = k by omega]; exact hok)
        have hS : Hid (opsL (p.take (k + 1)) = opsL (p.take k) ++ opsN (rd_T50 p (k : Int))) := Lib.hid (opsL_succ hlt)
        have hL : (opsL (p.take k)).length ≤ 1024 := by
          have := opsL_len (p.take k); rw [List.length_take] at this; omega
        obtain ⟨ad, rfl, x0, x1, x2, x3, x4⟩ := at_T50 P1.out.C k (by omega) hkI
        simp only [Int.toNat_natCast] at x0 x1 x2 x3 x4
        have HLL := Lib.hid hL
        clear hv hL hO x1 x2
        generalize hx : rd_T50 p (k : Int) = x at *
        obtain ⟨K, lo, hi, a, b⟩ := x
        have HX := Lib.hid hx
        clear hx
        simp only at x0 x3 x4
        obtain ⟨hb1, hb2⟩ := hok
        obtain ⟨hop, hr⟩ := ropOk_of hb1
        have HOP := Lib.hid hop
        have HB2 := Lib.hid hb2
        clear hop hb1 hb2
        rcases hr with hr | hr | hr
        · have hS3 : Hid (opsL (p.take (k + 1)) = opsL (p.take k)) := Lib.hid (by rw [hS.out]; unfold opsN; simp [hr])
          rw [hr] at HOP
          clear HB2 hS
          go_wp2_with fail
          refine (roper K 0 true HOP.out _).mono ?_
          rintro e w2 ⟨rfl, m, rfl⟩
          have I2 := Lib.hid (I1.out.keep (pw_below_drewN (Below.refl _ _) m))
          go_wp2
          go_roundw
          case rel => exact ⟨k + 1, by go_num, by omega, hO2, by rw [hS3.out]; exact I2⟩
          case measure => simp [intOf]; omega
        · have ha : 0 ≤ a ∧ a < k := HB2.out a (by unfold opsN; simp [hr])
          have hS3 : Hid (opsL (p.take (k + 1)) = opsL (p.take k) ++ [a]) := Lib.hid (by rw [hS.out]; unfold opsN; simp [hr])
          rw [hr] at HOP
          clear HB2 hS
          obtain ⟨i, rfl⟩ := Int.eq_ofNat_of_zero_le ha.1
          have hiI : (i : Int) < (p.length : Int) := by omega
          have hct : (opsL (p.take k)).count (i : Int) ≤ 1024 := Nat.le_trans List.count_le_length HLL.out
          go_wp2_with fail
          refine (roper K 1 true HOP.out _).mono ?_
          rintro e w2 ⟨rfl, m, rfl⟩
          have I2 := Lib.hid (I1.out.keep (pw_below_drewN (Below.refl _ _) m))
          have I3 := Lib.hid (I2.out.set i (by omega))
          have y0 : (w1.drewN m).cell? ⟨ub, i, none⟩ = some (.int .i64 (((opsL (p.take k)).count (i : Int) : Nat) : Int)) := by rw [I2.out.hu.cell, cntV_get _ _ _ (by omega)]
          have z0 : (w1.drewN m).frozen? ⟨ub, i, none⟩ = false := I2.out.hu.frozen i
          generalize (opsL (p.take k)).count (i : Int) = ct at *
          have hwr : IntKind.i64.wrap ((ct : Int) + 1) = (ct : Int) + 1 := IntWalk.i64_in _ (by omega)
          go_wp2
          go_roundw
          case rel => exact ⟨k + 1, by go_num, by omega, hO2, by rw [hS3.out]; exact I3⟩
          case measure => simp [intOf]; omega
        · have ha : 0 ≤ a ∧ a < k := HB2.out a (by unfold opsN; simp [hr])
          have hb : 0 ≤ b ∧ b < k := HB2.out b (by unfold opsN; simp [hr])
          have hS3 : Hid (opsL (p.take (k + 1)) = opsL (p.take k) ++ [a] ++ [b]) := Lib.hid (by rw [hS.out]; unfold opsN; simp [hr])
          rw [hr] at HOP
          clear HB2 hS
          obtain ⟨i, rfl⟩ := Int.eq_ofNat_of_zero_le ha.1
          obtain ⟨j, rfl⟩ := Int.eq_ofNat_of_zero_le hb.1
          have hiI : (i : Int) < (p.length : Int) := by omega
          have hjI : (j : Int) < (p.length : Int) := by omega
          have hct : (opsL (p.take k)).count (i : Int) ≤ 1024 := Nat.le_trans List.count_le_length HLL.out
          have hct2 : (opsL (p.take k) ++ [(i : Int)]).count (j : Int) ≤ 1025 := Nat.le_trans List.count_le_length (by have := HLL.out; simp; omega)
          go_wp2_with fail
          refine (roper K 2 true HOP.out _).mono ?_
          rintro e w2 ⟨rfl, m, rfl⟩
          have I2 := Lib.hid (I1.out.keep (pw_below_drewN (Below.refl _ _) m))
          have I3 := Lib.hid (I2.out.set i (by omega))
          have I4 := Lib.hid (I3.out.set j (by omega))
          have y0 : (w1.drewN m).cell? ⟨ub, i, none⟩ = some (.int .i64 (((opsL (p.take k)).count (i : Int) : Nat) : Int)) := by rw [I2.out.hu.cell, cntV_get _ _ _ (by omega)]
          have z0 : (w1.drewN m).frozen? ⟨ub, i, none⟩ = false := I2.out.hu.frozen i
          have y1 := I3.out.hu.cell j
          rw [cntV_get _ _ _ (by omega)] at y1
          have z1 := I3.out.hu.frozen j
          obtain ⟨ad2, e2, _, _, _, _, x5⟩ := at_T50 (HC.out.next I3.out.below).C k (by omega) (by omega)
          cases e2
          rw [HX.out] at x5
          simp only [Int.toNat_natCast] at x5
          generalize (opsL (p.take k) ++ [(i : Int)]).count (j : Int) = ct2 at *
          generalize (opsL (p.take k)).count (i : Int) = ct at *
          have hwr : IntKind.i64.wrap ((ct : Int) + 1) = (ct : Int) + 1 := IntWalk.i64_in _ (by omega)
          have hwr2 : IntKind.i64.wrap ((ct2 : Int) + 1) = (ct2 : Int) + 1 := IntWalk.i64_in _ (by omega)
          go_wp2
          go_roundw
          case rel => exact ⟨k + 1, by go_num, by omega, hO2, by rw [hS3.out]; exact I4⟩
          case measure => simp [intOf]; omega
    · have hke : k = p.length := by omega
      subst hke
      have hOk := hO
      have hkb : decide ((p.length : Int) < (p.length : Int)) = false := decide_eq_false (by omega)
      have hsub : IntKind.i64.wrap ((p.length : Int) - 1) = (p.length : Int) - 1 := IntWalk.i64_in _ (by omega)
      have hL : (opsL (p.take p.length)) = opsL p := by rw [List.take_length]
      rw [hL] at hI
      clear hO hL
      go_wp2
      go_loop [7] (fun cn => ∃ j : Nat, cn = .int .i64 j ∧ ((j : Int) ≤ (p.length : Int) - 1 ∨ j = 0) ∧ Hid (∀ i : Nat, i < j → (opsL p).count (i : Int) = 1)) (fun cn => p.length - (intOf cn).toNat)
      case atStart => exact ⟨0, rfl, .inr rfl, Lib.hid (fun i hi => by omega)⟩
      case round =>
        obtain ⟨j, rfl, hj, hall⟩ := hrel
        by_cases hlt2 : (j : Int) < (p.length : Int) - 1
        · have hjI : (j : Int) < (p.length : Int) := by omega
          have cj : wr.cell? ⟨ub, j, none⟩ = some (.int .i64 (((opsL p).count (j : Int) : Nat) : Int)) := by rw [hI.out.hu.cell, cntV_get _ _ _ (by omega)]
          obtain ⟨ct, hct⟩ : ∃ ct, ct = (opsL p).count (j : Int) := ⟨_, rfl⟩
          rw [← hct] at cj
          have HCT := Lib.hid hct
          clear hct
          by_cases h1 : ct = 1
          · subst h1
            go_wp2
            go_round
            case rel => exact ⟨j + 1, by go_num, by omega, Lib.hid (fun i hi => by rcases Nat.lt_or_ge i j with h | h; exact hall.out i h; rw [show i = j by omega]; exact HCT.out.symm)⟩
            case measure => simp [intOf]; omega
          · have h1b : ((ct : Int) != 1) = true := by simp; omega
            have hres : Hid (chk p = 40) := Lib.hid (H40.out fun hV => h1 (HCT.out.trans (hV.once j (by omega))))
            clear h1
            go_wp2
            go_ret
            exact ⟨ret_int hres.out.symm, hI.out.below⟩
        · by_cases hz : p.length = 0
          · have hzb : ((p.length : Int) == 0) = true := beq_iff_eq.2 (by omega)
            have hres : Hid (chk p = 40) := Lib.hid (H40.out fun hV => hV.ne (List.length_eq_zero_iff.1 hz))
            have HZ := Lib.hid hz
            clear hz
            go_wp2
            go_ret
            exact ⟨ret_int hres.out.symm, hI.out.below⟩
          · have hzb : ((p.length : Int) == 0) = false := beq_eq_false_iff_ne.2 (by omega)
            have hres : Hid (chk p = 0) := Lib.hid (chk_iff.2 ⟨hn5, ⟨fun e => hz (by rw [e]; rfl), hOk.out, fun i hi => hall.out i (by omega)⟩⟩)
            have HZ := Lib.hid hz
            clear hz
            go_wp2
            go_ret
            exact ⟨ret_int hres.out.symm, hI.out.below⟩
end Go.Proofs.YtaphblnelmncaaaDoor.PA
end

section
/- The places behind which a tree's strings end. -/
set_option linter.unusedVariables false
namespace Go.Proofs.YtaphblnelmncaaaDoor.PA
open Go.RowKit Go.Proofs.YtaphblnelmncaaaDoorW.PrintWords Go.Proofs.YtaphblnelmncaaaDoorW.PrintLast Go.Proofs.YtaphblnelmncaaaDoorW.PrintMore

/-- The piece of a string from x to y. -/
def pc (s : ByteArray) (x y : Int) : List Int := ((bytesOf s).drop x.toNat).take (y - x).toNat
theorem pc_len {s : ByteArray} {x y : Int} (h0 : 0 ≤ x) (h1 : x ≤ y) (h2 : y ≤ s.size) : (pc s x y).length = (y - x).toNat := by
  unfold pc; rw [List.length_take, List.length_drop, bytesOf_length]; omega
theorem pc_self (s : ByteArray) (x : Int) : pc s x x = [] := by unfold pc; simp
theorem pc_cat {s : ByteArray} {x y z : Int} (h0 : 0 ≤ x) (h1 : x ≤ y) (h2 : y ≤ z) : pc s x z = pc s x y ++ pc s y z := by
  unfold pc
  rw [show (z - x).toNat = (y - x).toNat + (z - y).toNat by omega, List.take_add, List.drop_drop, show x.toNat + (y - x).toNat = y.toNat by omega]
theorem pc_split {s : ByteArray} {x z : Int} {u v : List Int} (h0 : 0 ≤ x) (h1 : x ≤ z) (h2 : z ≤ s.size) (h : pc s x z = u ++ v) : ∃ y, x ≤ y ∧ y ≤ z ∧ pc s x y = u ∧ pc s y z = v := by
  have hl := pc_len h0 h1 h2
  rw [h, List.length_append] at hl
  have hc := pc_cat (s := s) (y := x + (u.length : Int)) (z := z) h0 (by omega) (by omega)
  have hlu := pc_len (s := s) (y := x + (u.length : Int)) h0 (by omega) (by omega)
  have := List.append_inj (h.symm.trans hc) (by rw [hlu]; omega)
  exact ⟨x + u.length, by omega, by omega, this.1.symm, this.2.symm⟩
theorem bt_nth (s : ByteArray) (i : Nat) (h : i < s.size) : bt s (i : Int) = (bytesOf s).getD i 0 := by
  unfold bytesOf bt
  rw [dif_pos (show (i : Int).toNat < s.size from h)]
  have hs : i < s.data.toList.length := by rw [Array.length_toList]; exact h
  rw [List.getD_eq_getElem?_getD, List.getElem?_map, List.getElem?_eq_getElem hs]
  rfl
theorem pc_one {s : ByteArray} {x : Int} (h0 : 0 ≤ x) (h1 : x < s.size) : pc s x (x + 1) = [bt s x] := by
  obtain ⟨i, rfl⟩ := Int.eq_ofNat_of_zero_le h0
  have hi : i < (bytesOf s).length := by rw [bytesOf_length]; omega
  unfold pc
  rw [bt_nth s i (by omega), Int.toNat_natCast, show ((i : Int) + 1 - (i : Int)).toNat = 1 by omega, List.drop_eq_getElem_cons hi, List.take_succ_cons, List.take_zero, List.getD_eq_getElem?_getD, List.getElem?_eq_getElem hi]
  rfl
theorem pc_all (s : ByteArray) : pc s 0 s.size = bytesOf s := by
  unfold pc
  rw [Int.toNat_zero, List.drop_zero, List.take_of_length_le (by rw [bytesOf_length]; omega)]

/-- Places in a string, each once. -/
structure Posn (n : Nat) (l : List Int) : Prop where
  nodup : l.Nodup
  rng : ∀ x ∈ l, 0 ≤ x ∧ x ≤ n
theorem nodup_le : ∀ (n : Nat) (l : List Int), l.Nodup → (∀ x ∈ l, 0 ≤ x ∧ x < n) → l.length ≤ n
  | 0, l, _, h => by
    cases l with
    | nil => simp
    | cons x l => have := h x (by simp); omega
  | n + 1, l, hd, h => by
    have h1 : (l.filter (fun x : Int => decide (x < (n : Int)))).length ≤ n := nodup_le n _ (hd.filter _) (fun x hx => by
      rw [List.mem_filter, decide_eq_true_eq] at hx
      exact ⟨(h x hx.1).1, hx.2⟩)
    have h2 : (l.filter (fun x : Int => !decide (x < (n : Int)))).length ≤ 1 := by
      have hd2 := hd.filter (fun x : Int => !decide (x < (n : Int)))
      have hm : ∀ x ∈ l.filter (fun x : Int => !decide (x < (n : Int))), x = n := by
        intro x hx
        rw [List.mem_filter] at hx
        have := h x hx.1
        have h3 := hx.2
        simp at h3
        omega
      generalize l.filter (fun x : Int => !decide (x < (n : Int))) = f at hd2 hm
      match f, hd2, hm with
      | [], _, _ => simp
      | [_], _, _ => simp
      | a :: b :: r, hd2, hm =>
        have e1 := hm a (by simp)
        have e2 := hm b (by simp)
        rw [e1, e2] at hd2
        simp at hd2
    have := List.length_eq_countP_add_countP (fun x : Int => decide (x < (n : Int))) (l := l)
    rw [List.countP_eq_length_filter, List.countP_eq_length_filter] at this
    have e : (l.filter (fun a => decide ¬(decide (a < (n : Int)) = true))) = l.filter (fun x => !decide (x < (n : Int))) := by congr 1; funext a; rw [Bool.eq_iff_iff]; simp
    rw [e] at this
    omega
theorem Posn.len {n : Nat} {l : List Int} (h : Posn n l) : l.length ≤ n + 1 :=
  nodup_le (n + 1) l h.nodup fun x hx => by have := h.rng x hx; omega

/-- r: where the tree's strings end that begin at a place of l. -/
def Beh (t : Re) (s : ByteArray) (l r : List Int) : Prop := ∀ y, y ∈ r ↔ ∃ x ∈ l, x ≤ y ∧ y ≤ s.size ∧ t.Lang (pc s x y)
theorem beh_emp {s : ByteArray} {l : List Int} (h : Posn s.size l) : Beh .emp s l l := by
  intro y
  constructor
  · intro hy
    exact ⟨y, hy, Int.le_refl _, (h.rng y hy).2, pc_self s y⟩
  · rintro ⟨x, hx, h1, h2, h3⟩
    have h3 : pc s x y = [] := h3
    have := pc_len (h.rng x hx).1 h1 h2
    rw [h3] at this
    have : x = y := by simp at this; omega
    exact this ▸ hx
/-- One round for a range. -/
def rngF (s : ByteArray) (lo hi x : Int) : Bool := decide (x < s.size) && (decide (lo ≤ bt s x) && decide (bt s x ≤ hi))
def rngL (s : ByteArray) (lo hi : Int) (l : List Int) : List Int := (l.filter (rngF s lo hi)).map (· + 1)
theorem rngL_snoc (s : ByteArray) (lo hi : Int) (l : List Int) (x : Int) : rngL s lo hi (l ++ [x]) = if rngF s lo hi x = true then rngL s lo hi l ++ [x + 1] else rngL s lo hi l := by
  unfold rngL
  rw [List.filter_append, List.map_append]
  by_cases h : rngF s lo hi x = true
  · rw [if_pos h]; simp [h]
  · rw [if_neg h]; simp [h]
theorem rngL_posn {s : ByteArray} {lo hi : Int} {l : List Int} (h : Posn s.size l) : Posn s.size (rngL s lo hi l) := by
  refine ⟨?_, ?_⟩
  · unfold rngL
    refine List.Pairwise.map (R := (· ≠ ·)) _ ?_ (h.nodup.filter _)
    intro a b hab e
    exact hab (by omega)
  · intro x hx
    unfold rngL at hx
    rw [List.mem_map] at hx
    obtain ⟨a, ha, rfl⟩ := hx
    rw [List.mem_filter] at ha
    have := h.rng a ha.1
    have h2 := ha.2
    unfold rngF at h2
    simp only [Bool.and_eq_true, decide_eq_true_eq] at h2
    omega
theorem beh_rng {s : ByteArray} {lo hi : Int} {i : Nat} {l : List Int} (h : Posn s.size l) : Beh (.rng lo hi i) s l (rngL s lo hi l) := by
  intro y
  unfold rngL
  rw [List.mem_map]
  constructor
  · rintro ⟨x, hx, rfl⟩
    rw [List.mem_filter] at hx
    have h2 := hx.2
    unfold rngF at h2
    simp only [Bool.and_eq_true, decide_eq_true_eq] at h2
    exact ⟨x, hx.1, by omega, by omega, bt s x, pc_one (h.rng x hx.1).1 h2.1, h2.2.1, h2.2.2⟩
  · rintro ⟨x, hx, h1, h2, b, e, g1, g2⟩
    have hl := pc_len (h.rng x hx).1 h1 h2
    rw [e] at hl
    simp at hl
    have hy : y = x + 1 := by omega
    subst hy
    rw [pc_one (h.rng x hx).1 (by omega)] at e
    cases e
    refine ⟨x, ?_, rfl⟩
    rw [List.mem_filter]
    refine ⟨hx, ?_⟩
    unfold rngF
    simp only [Bool.and_eq_true, decide_eq_true_eq]
    exact ⟨by omega, g1, g2⟩
theorem beh_seq {s : ByteArray} {a b : Re} {l m r : List Int} (hl : Posn s.size l) (h1 : Beh a s l m) (h2 : Beh b s m r) : Beh (.seq a b) s l r := by
  intro z
  rw [h2 z]
  constructor
  · rintro ⟨y, hy, g1, g2, g3⟩
    obtain ⟨x, hx, g4, g5, g6⟩ := (h1 y).1 hy
    exact ⟨x, hx, by omega, g2, _, _, pc_cat (hl.rng x hx).1 g4 g1, g6, g3⟩
  · rintro ⟨x, hx, g1, g2, u, v, e, g3, g4⟩
    obtain ⟨y, e1, e2, e3, e4⟩ := pc_split (hl.rng x hx).1 g1 g2 e
    exact ⟨y, (h1 y).2 ⟨x, hx, e1, by omega, e3 ▸ g3⟩, e2, g2, e4 ▸ g4⟩
/-- Two lists of places as one. -/
def togF (a b : List Int) : List Int := b.foldl (fun acc x => if x ∈ acc then acc else acc ++ [x]) a
theorem tog_spec : ∀ (b a : List Int), (∀ y, y ∈ togF a b ↔ y ∈ a ∨ y ∈ b) ∧ (a.Nodup → (togF a b).Nodup) ∧ (∃ n, togF a b = a ++ n) ∧ (togF a b).length ≤ a.length + b.length
  | [], a => ⟨fun y => by simp [togF], fun h => h, ⟨[], by simp [togF]⟩, by simp [togF]⟩
  | x :: b, a => by
    unfold togF
    rw [List.foldl_cons]
    by_cases h : x ∈ a
    · rw [if_pos h]
      obtain ⟨h1, h2, h3, h4⟩ := tog_spec b a
      unfold togF at h1 h2 h3 h4
      refine ⟨fun y => ?_, h2, h3, by simp; omega⟩
      rw [h1 y, List.mem_cons]
      constructor
      · rintro (g | g)
        · exact .inl g
        · exact .inr (.inr g)
      · rintro (g | rfl | g)
        · exact .inl g
        · exact .inl h
        · exact .inr g
    · rw [if_neg h]
      obtain ⟨h1, h2, h3, h4⟩ := tog_spec b (a ++ [x])
      unfold togF at h1 h2 h3 h4
      refine ⟨fun y => ?_, fun hd => h2 ?_, ?_, by simp at h4 ⊢; omega⟩
      · rw [h1 y, List.mem_append, List.mem_singleton, List.mem_cons, or_assoc]
      · rw [List.nodup_append]
        refine ⟨hd, by simp, ?_⟩
        intro y hy z hz
        rw [List.mem_singleton] at hz
        subst hz
        exact fun e => h (e ▸ hy)
      · obtain ⟨n, hn⟩ := h3
        exact ⟨x :: n, by rw [hn]; simp⟩
theorem tog_posn {n : Nat} {a b : List Int} (ha : Posn n a) (hb : Posn n b) : Posn n (togF a b) :=
  ⟨(tog_spec b a).2.1 ha.nodup, fun x hx => by
    rcases ((tog_spec b a).1 x).1 hx with h | h
    · exact ha.rng x h
    · exact hb.rng x h⟩
theorem tog_len {a b : List Int} (h : (togF a b).length = a.length) : ∀ x ∈ b, x ∈ a := by
  intro x hx
  obtain ⟨n, hn⟩ := (tog_spec b a).2.2.1
  rw [hn, List.length_append] at h
  have : n = [] := List.length_eq_zero_iff.1 (by omega)
  have h2 := ((tog_spec b a).1 x).2 (.inr hx)
  rw [hn, this, List.append_nil] at h2
  exact h2
theorem tog_ge (a b : List Int) : a.length ≤ (togF a b).length := by
  obtain ⟨n, hn⟩ := (tog_spec b a).2.2.1
  rw [hn, List.length_append]; omega
theorem beh_alt {s : ByteArray} {a b : Re} {l r1 r2 : List Int} (h1 : Beh a s l r1) (h2 : Beh b s l r2) : Beh (.alt a b) s l (togF r1 r2) := by
  intro y
  rw [(tog_spec r2 r1).1 y, h1 y, h2 y]
  constructor
  · rintro (⟨x, hx, g1, g2, g3⟩ | ⟨x, hx, g1, g2, g3⟩)
    · exact ⟨x, hx, g1, g2, .inl g3⟩
    · exact ⟨x, hx, g1, g2, .inr g3⟩
  · rintro ⟨x, hx, g1, g2, g3 | g3⟩
    · exact .inl ⟨x, hx, g1, g2, g3⟩
    · exact .inr ⟨x, hx, g1, g2, g3⟩
/-- What the loop for a repetition has reached. -/
structure RepI (a : Re) (s : ByteArray) (l R : List Int) : Prop where
  pos : Posn s.size R
  sub : ∀ x ∈ l, x ∈ R
  from_ : ∀ y ∈ R, ∃ x ∈ l, x ≤ y ∧ y ≤ s.size ∧ Star a.Lang (pc s x y)
theorem RepI.start {a : Re} {s : ByteArray} {l : List Int} (h : Posn s.size l) : RepI a s l l :=
  ⟨h, fun x hx => hx, fun y hy => ⟨y, hy, Int.le_refl _, (h.rng y hy).2, by rw [pc_self]; exact .nil⟩⟩
theorem RepI.next {a : Re} {s : ByteArray} {l R r : List Int} (hl : Posn s.size l) (h : RepI a s l R) (hb : Beh a s R r) (hr : Posn s.size r) : RepI a s l (togF R r) := by
  refine ⟨tog_posn h.pos hr, fun x hx => ((tog_spec r R).1 x).2 (.inl (h.sub x hx)), fun z hz => ?_⟩
  rcases ((tog_spec r R).1 z).1 hz with g | g
  · exact h.from_ z g
  · obtain ⟨y, hy, g1, g2, g3⟩ := (hb z).1 g
    obtain ⟨x, hx, g4, g5, g6⟩ := h.from_ y hy
    refine ⟨x, hx, by omega, g2, ?_⟩
    rw [pc_cat (hl.rng x hx).1 g4 g1]
    exact star_append g6 (star_one g3)
theorem RepI.done {a : Re} {s : ByteArray} {l R r : List Int} (h : RepI a s l R) (hb : Beh a s R r) (hc : ∀ x ∈ r, x ∈ R) : Beh (.rep a) s l R := by
  intro y
  constructor
  · exact h.from_ y
  · rintro ⟨x, hx, g1, g2, g3⟩
    have key : ∀ w : List Int, Star a.Lang w → ∀ x ∈ R, ∀ y, x ≤ y → y ≤ s.size → pc s x y = w → y ∈ R := by
      intro w hw
      induction hw with
      | nil =>
        intro x hx y g1 g2 e
        have := pc_len (h.pos.rng x hx).1 g1 g2
        rw [e] at this
        have : x = y := by simp at this; omega
        exact this ▸ hx
      | app u v hu hv ih =>
        intro x hx z g1 g2 e
        obtain ⟨y, e1, e2, e3, e4⟩ := pc_split (h.pos.rng x hx).1 g1 g2 e
        exact ih y (hc y ((hb y).2 ⟨x, hx, e1, by omega, e3 ▸ hu⟩)) z e2 g2 e4
    exact key _ g3 x (h.sub x hx) y g1 g2 rfl

/-- Are places among places? -/
theorem has_l0 (l : List Int) (a : Int) (hl : l.length < 9223372036854775807) : ∀ (n i k : Nat), n = l.length - i → i ≤ l.length → n < k → koineref04_has.l0 k l a (i : Int) = some (decide (a ∈ l.drop i))
  | n, i, 0, _, _, hk => by omega
  | n, i, k + 1, hn, hi, hk => by
    unfold koineref04_has.l0
    by_cases h : i < l.length
    · rw [if_pos (by omega), if_pos (by omega)]
      have e : rd l (i : Int) = l[i] := by unfold rd; rw [Int.toNat_natCast, List.getD_eq_getElem?_getD, List.getElem?_eq_getElem h]; rfl
      rw [e, List.drop_eq_getElem_cons h]
      by_cases h2 : l[i] = a
      · rw [if_pos h2]; simp [h2]
      · rw [if_neg h2]
        have e1 : wrap64 ((i : Int) + 1) = ((i + 1 : Nat) : Int) := by unfold wrap64; omega
        rw [e1, has_l0 l a hl (n - 1) (i + 1) k (by omega) (by omega) (by omega)]
        have h3 : a ≠ l[i] := fun e => h2 e.symm
        congr 1
        rw [decide_eq_decide, List.mem_cons]
        exact ⟨.inr, fun h => h.resolve_left h3⟩
    · rw [if_neg (by omega)]
      have : l.drop i = [] := List.drop_eq_nil_of_le (by omega)
      simp [this]
theorem has_f (l : List Int) (a : Int) (hl : l.length < 9223372036854775807) (k : Nat) (hk : l.length < k) : koineref04_has.f k l a = some (decide (a ∈ l)) := by
  unfold koineref04_has.f
  have := has_l0 l a hl l.length 0 k (by omega) (by omega) hk
  simpa using this
theorem tog_l0 (b : List Int) (hb : b.length < 17592186044416) : ∀ (n i k : Nat) (acc : List Int), n = b.length - i → i ≤ b.length → acc.length + 2 * n + 1 < k → acc.length + n < 17592186044416 → koineref04_together.l0 k b acc (i : Int) = some (togF acc (b.drop i))
  | n, i, 0, _, _, _, hk, _ => by omega
  | n, i, k + 1, acc, hn, hi, hk, hm => by
    unfold koineref04_together.l0
    by_cases h : i < b.length
    · rw [if_pos (by omega), if_pos (by omega), has_f acc _ (by omega) k (by omega)]
      have e : rd b (i : Int) = b[i] := by unfold rd; rw [Int.toNat_natCast, List.getD_eq_getElem?_getD, List.getElem?_eq_getElem h]; rfl
      have e1 : wrap64 ((i : Int) + 1) = ((i + 1 : Nat) : Int) := by unfold wrap64; omega
      rw [e, List.drop_eq_getElem_cons h]
      simp only [Option.bind_some, decide_eq_true_eq]
      rw [e1]
      by_cases h2 : b[i] ∈ acc
      · rw [if_pos h2, tog_l0 b hb (n - 1) (i + 1) k acc (by omega) (by omega) (by omega) (by omega)]
        unfold togF; rw [List.foldl_cons, if_pos h2]
      · rw [if_neg h2, if_pos (by omega), tog_l0 b hb (n - 1) (i + 1) k (acc ++ [b[i]]) (by omega) (by omega) (by simp; omega) (by simp; omega)]
        unfold togF; rw [List.foldl_cons, if_neg h2]
    · rw [if_neg (by omega)]
      have : b.drop i = [] := List.drop_eq_nil_of_le (by omega)
      rw [this]; rfl
/-- Whole numbers in memory. -/
structure It (w : World) (A : Option Addr) (c : Nat) (l : List Int) : Prop where
  C : Kd.C (Kd.int .i64) w A l.length l
  hc : l.length ≤ c
theorem It.next {w w' : World} {A : Option Addr} {c : Nat} {l : List Int} (h : It w A c l) (k : Below w.heap.size w w') : It w' A c l := ⟨Kd.C_below h.C k, h.hc⟩
theorem It.of {w : World} {base : Nat} {ok : Nat → Prop} {A : Option Addr} {n c : Nat} {l : List Int} (h : Kd.R (Kd.int .i64) 3 w base ok (.slice A n c) l) : n = l.length ∧ It w A c l := ⟨(Kd.R_reads' h).1, (Kd.R_reads' h).2.2, by have := Kd.R_reads' h; omega⟩
theorem rhas_any {w : World} {A : Option Addr} {c : Nat} {l : List Int} (h : It w A c l) (hl : l.length ≤ 1000000000) (a : Int) :
    Calls Tryd.prog 54 #[.slice A l.length c, .int .i64 a] w fun e w' => e = .returned (.bool (decide (a ∈ l))) ∧ Below w.heap.size w w' :=
  (koineref04_has.calls (l.length + 1) A c l a _ w h.C h.hc (has_f l a (by omega) _ (by omega))).mono fun e w' ⟨he, hd⟩ => ⟨he, by obtain ⟨m, rfl⟩ := hd.out; exact pw_below_drewN (Below.refl _ _) m⟩
theorem rtog_any {w : World} {A B : Option Addr} {c d : Nat} {a b : List Int} (ha : It w A c a) (hb : It w B d b) (h1 : a.length ≤ 1000000000) (h2 : b.length ≤ 1000000000) :
    Calls Tryd.prog 73 #[.slice A a.length c, .slice B b.length d] w fun e w' => ∃ E ec, e = .returned (.slice E (togF a b).length ec) ∧ It w' E ec (togF a b) ∧ Below w.heap.size w w' := by
  have hf : koineref04_together.f (a.length + 2 * b.length + 2) a b = some (togF a b) := by
    unfold koineref04_together.f
    simp only [Option.bind_some, List.length_nil, List.nil_append]
    rw [if_pos (by omega)]
    have := tog_l0 b (by omega) b.length 0 (a.length + 2 * b.length + 2) a (by omega) (by omega) (by omega) (by omega)
    simpa using this
  refine (koineref04_together.calls _ A c a B d b _ w ha.C ha.hc hb.C hb.hc hf).mono ?_
  rintro e w' ⟨v, rfl, hR, hbl⟩
  obtain ⟨E, ec, rfl⟩ := Kd.R_slice hR
  exact ⟨E, ec, rfl, (It.of hR).2, hbl⟩
end Go.Proofs.YtaphblnelmncaaaDoor.PA
end

section
/- The reference's behind: nothing, one byte. -/
set_option linter.unusedVariables false
namespace Go.Proofs.YtaphblnelmncaaaDoor.PA
open Go.RowKit Go.Proofs.YtaphblnelmncaaaDoorW.PrintWords Go.Proofs.YtaphblnelmncaaaDoorW.PrintLast Go.Proofs.YtaphblnelmncaaaDoorW.PrintMore

abbrev BEnv := List Int × Option Addr × Nat
/-- A list of the places behind, in memory. -/
structure BGot (t : Re) (s : ByteArray) (l : List Int) (v : BEnv) (w : World) : Prop where
  it : It w v.2.1 v.2.2 v.1
  pos : Posn s.size v.1
  beh : Beh t s l v.1
theorem BGot.next {t : Re} {s : ByteArray} {l : List Int} {v : BEnv} {w w' : World} (h : BGot t s l v w) (k : Below w.heap.size w w') : BGot t s l v w' := ⟨h.it.next k, h.pos, h.beh⟩
def BPost (t : Re) (s : ByteArray) (l : List Int) (w : World) (e : Ending) (w' : World) : Prop := ∃ v : BEnv, e = .returned (.slice v.2.1 v.1.length v.2.2) ∧ BGot t s l v w' ∧ Below w.heap.size w w'
def BehOK (A : Option Addr) (c : Nat) (p : List S50) (s : ByteArray) (w0 : World) (x : Nat) (t : Re) : Prop :=
  ∀ (B : Option Addr) (d : Nat) (l : List Int) (w : World), Below w0.heap.size w0 w → It w B d l → Posn s.size l → Calls Tryd.prog 45 #[.slice A p.length c, .int .i64 (x : Int), .string s, .slice B l.length d] w (BPost t s l w)

theorem below_node {w w' : World} {o : Obj} (h : Below (w.alloc o).heap.size (w.alloc o) w') : Below w.heap.size w w' :=
  Below.trans ((Below.refl _ _).alloc (Nat.le_refl _) _) (h.mono ((Below.refl w.heap.size w).alloc (Nat.le_refl _) o).size)
theorem alloc_size (w : World) (o : Obj) : (w.alloc o).heap.size = w.heap.size + 1 := Array.size_push _
set_option maxHeartbeats 4000000 in
set_option maxRecDepth 100000 in
theorem behind_emp {A : Option Addr} {c : Nat} {p : List S50} {s : ByteArray} {w0 : World} (hP : Pt w0 A c p) (hs : s.size ≤ 1000000) (i : Nat) (lo hi a b : Int) (hx : p[i]? = some ⟨0, lo, hi, a, b⟩) : BehOK A c p s w0 i .emp := by
  intro B d l w hw hI hL
  have hip := (List.getElem?_eq_some_iff.1 hx).1
  have hibI : (i : Int) < (p.length : Int) := by omega
  obtain ⟨ad, rfl, x0, x1, x2, x3, x4⟩ := at_T50 (Kd.C_below hP.C hw) i (by omega) hibI
  have hrd : rd_T50 p i = ⟨0, lo, hi, a, b⟩ := by simp [rd_T50, List.getD_eq_getElem?_getD, hx]
  rw [hrd] at x0 x1 x2 x3 x4
  simp only [Int.toNat_natCast] at x0 x1 x2 x3 x4
  have HI := Lib.hid hI
  have HL := Lib.hid hL
  have HW := Lib.hid hw
  clear hI hL hw hP hx hrd
  go_enter Tryd.func45, Tryd.ntmps45
  go_wp2_with (first | ((with_reducible refine gate_dst (N := 17) rfl ?_); refine Kd.R_lit (Kd.int .i64) _ 3 ?hg (N := 17) ?hd (xs := ([] : List Int)) (inner := []) (ok := fun _ => True) (okp := fun _ => True) ?hr ?hp (fun _ hk => hk) trivial (Below.refl _ _) (Nat.le_refl _) (by simp) ?_; (case hd => rfl); (case hg => rfl); (case hr => first | (go_simp; done) | (go_simp; rfl)); (case hp => exact (Reps.none _ _)); intro v17 w4 ho5 hb4 hg_ hnew_; have E4 := Lib.hid (Blk.below (Blk.new w _ 50) hb4); have y0 := E4.out.cell 0; have y1 := E4.out.cell 1; have y2 := E4.out.cell 2; have y3 := E4.out.cell 3; have y4 := E4.out.cell 4; simp only [List.getElem?_cons_zero, List.getElem?_cons_succ] at y0 y1 y2 y3 y4; have HO := Lib.hid ho5; have HB4 := Lib.hid (below_node hb4); clear hg_ hnew_ ho5 hb4) | fail)
  go_ret
  exact ⟨(l, B, d), rfl, ⟨HI.out.next HB4.out, HL.out, beh_emp HL.out⟩, HB4.out⟩
set_option maxHeartbeats 4000000 in
set_option maxRecDepth 100000 in
theorem behind_rng {A : Option Addr} {c : Nat} {p : List S50} {s : ByteArray} {w0 : World} (hP : Pt w0 A c p) (hs : s.size ≤ 1000000) (i : Nat) (lo hi a b : Int) (hok : 0 ≤ lo ∧ lo ≤ hi ∧ hi ≤ 255) (hx : p[i]? = some ⟨1, lo, hi, a, b⟩) : BehOK A c p s w0 i (.rng lo hi i) := by
  intro B d l w hw hI hL
  have hip := (List.getElem?_eq_some_iff.1 hx).1
  have hibI : (i : Int) < (p.length : Int) := by omega
  obtain ⟨ad, rfl, x0, x1, x2, x3, x4⟩ := at_T50 (Kd.C_below hP.C hw) i (by omega) hibI
  have hrd : rd_T50 p i = ⟨1, lo, hi, a, b⟩ := by simp [rd_T50, List.getD_eq_getElem?_getD, hx]
  rw [hrd] at x0 x1 x2 x3 x4
  simp only [Int.toNat_natCast] at x0 x1 x2 x3 x4
  have HI := Lib.hid hI
  have HL := Lib.hid hL
  have HW := Lib.hid hw
  clear hI hL hw hP hx hrd
  go_enter Tryd.func45, Tryd.ntmps45
  have hlen : l.length ≤ s.size + 1 := HL.out.len
  go_wp2_with (first | ((with_reducible refine gate_dst (N := 17) rfl ?_); refine Kd.R_lit (Kd.int .i64) _ 3 ?hg (N := 17) ?hd (xs := ([] : List Int)) (inner := []) (ok := fun _ => True) (okp := fun _ => True) ?hr ?hp (fun _ hk => hk) trivial (Below.refl _ _) (Nat.le_refl _) (by simp) ?_; (case hd => rfl); (case hg => rfl); (case hr => first | (go_simp; done) | (go_simp; rfl)); (case hp => exact (Reps.none _ _)); intro v17 w4 ho5 hb4 hg_ hnew_; have E4 := Lib.hid (Blk.below (Blk.new w _ 50) hb4); have y0 := E4.out.cell 0; have y1 := E4.out.cell 1; have y2 := E4.out.cell 2; have y3 := E4.out.cell 3; have y4 := E4.out.cell 4; simp only [List.getElem?_cons_zero, List.getElem?_cons_succ] at y0 y1 y2 y3 y4; have HO := Lib.hid ho5; have HB4 := Lib.hid (below_node hb4); clear hg_ hnew_ ho5 hb4) | fail)
  go_loopw [10, 11] (fun v10 v11 wr => ∃ k : Nat, v11 = .int .i64 (k : Int) ∧ k ≤ l.length ∧ Hid (Kd.R (Kd.int .i64) 3 wr w.heap.size (fun _ => True) v10 (rngL s lo hi (l.take k))) ∧ Hid (Below w.heap.size w wr) ∧ Hid (ApB v10 w.heap.size 50 [.int .i64 1, .int .i64 lo, .int .i64 hi, .int .i64 a, .int .i64 b] wr)) (fun _ v11 _ => l.length - (intOf v11).toNat)
  case atStart => exact ⟨0, rfl, by omega, Lib.hid (Kd.R_lower HO.out ((Below.refl w.heap.size w).alloc (Nat.le_refl _) _).size), HB4, Lib.hid ⟨E4.out, fun e => by have h1 := Kd.R_base HO.out _ e.symm; have h2 := alloc_size w (.cells #[.int .i64 1, .int .i64 lo, .int .i64 hi, .int .i64 a, .int .i64 b] 50); omega⟩⟩
  case round =>
    obtain ⟨k, rfl, hk, hO, hB, hE⟩ := hrel
    clear y0 y1 y2 y3 y4
    have y0 := hE.out.1.cell 0
    have y1 := hE.out.1.cell 1
    have y2 := hE.out.1.cell 2
    simp only [List.getElem?_cons_zero, List.getElem?_cons_succ] at y0 y1 y2
    obtain ⟨V, cv, rfl⟩ := Kd.R_slice hO.out
    by_cases hlt : k < l.length
    · have hkI : (k : Int) < (l.length : Int) := by omega
      have hkb : decide ((k : Int) < (l.length : Int)) = true := decide_eq_true hkI
      obtain ⟨ad2, rfl, z0⟩ := Kd.at_int (HI.out.next hB.out).C k (by omega) hkI
      have hxl : l[k] ∈ l := List.getElem_mem hlt
      have e : rd l (k : Int) = l[k] := by unfold rd; rw [Int.toNat_natCast, List.getD_eq_getElem?_getD, List.getElem?_eq_getElem hlt]; rfl
      rw [e] at z0
      simp only [Int.toNat_natCast] at z0
      have hst : Hid (rngL s lo hi (l.take (k + 1)) = if rngF s lo hi l[k] = true then rngL s lo hi (l.take k) ++ [l[k] + 1] else rngL s lo hi (l.take k)) := Lib.hid (by rw [List.take_succ_eq_append_getElem hlt, rngL_snoc])
      have hr := HL.out.rng _ hxl
      generalize l[k] = x at *
      clear e hxl
      obtain ⟨j, rfl⟩ := Int.eq_ofNat_of_zero_le hr.1
      have hrb := bt_range s (j : Int)
      have hbt := bt_at s j
      simp only [Int.toNat_natCast] at hbt
      have hwb : IntKind.i64.wrap (bt s (j : Int)) = bt s (j : Int) := IntWalk.i64_in _ (by omega)
      have hF : Hid (rngF s lo hi (j : Int) = (decide ((j : Int) < s.size) && (decide (lo ≤ bt s (j : Int)) && decide (bt s (j : Int) ≤ hi)))) := Lib.hid rfl
      have hwj : IntKind.i64.wrap ((j : Int) + 1) = (j : Int) + 1 := IntWalk.i64_in _ (by omega)
      have hll : (rngL s lo hi (l.take k)).length ≤ 1000001 := by
        unfold rngL; rw [List.length_map]
        have := List.length_filter_le (rngF s lo hi) (l.take k)
        rw [List.length_take] at this; omega
      by_cases hjs : j < s.size
      · have hjI : (j : Int) < (s.size : Int) := by omega
        have hd : decide ((j : Int) < (s.size : Int)) = true := decide_eq_true hjI
        have hbn := hbt hjs
        generalize bt s (j : Int) = q at *
        by_cases h1 : lo ≤ q
        · have d1 : decide (lo ≤ q) = true := decide_eq_true h1
          by_cases h2 : q ≤ hi
          · have d2 : decide (q ≤ hi) = true := decide_eq_true h2
            have hy : rngF s lo hi (j : Int) = true := by rw [hF.out, hd, d1, d2]; rfl
            rw [if_pos hy] at hst
            clear hy hF
            go_wp2_with fail
            go_quiet (fail)
            go_wp2_with (first | ((with_reducible refine gate_builtin (b := .append) (xs := #[.tmp 62, .tmp 68]) rfl ?_); refine Hid.out ?_) | fail)
            refine Lib.hid ?_
            at_builtin
            refine Kd.R_append (Kd.int .i64) (w0 := w) w.heap.size ?q3 (.tmp 62) (.tmp 68) 53 3 (.int .i64 0) 8 ?q4 Tryd.underlying53 info3 rfl (by decide) (by omega) (.slice V (rngL s lo hi (l.take k)).length cv) (rngL s lo hi (l.take k)) ((j : Int) + 1) [.int .i64 ((j : Int) + 1)] (fun _ => True) (fun _ => False) ?q1 ?q2 ?aP (fun _ hk => hk.elim) ?aF ?aO ?aB ?aS ?aL ?_
            case q3 => rfl
            case q4 => rfl
            case q1 => rfl
            case q2 => rfl
            case aP => exact rfl
            case aF => exact (fun _ _ => trivial)
            case aO => exact Kd.R_drewN hO.out _
            case aB => exact pw_below_drewN hB.out _
            case aS => exact hB.out.size
            case aL => omega
            intro v1 w6 ho1 hb1 hg1 hat1
            have HO9 := Lib.hid ho1
            have HB9 := Lib.hid hb1
            have HE9 := Lib.hid (ApB.push (w := wr.drewN nq) (v := .slice V (rngL s lo hi (l.take k)).length cv) (hE.out.below (pw_below_drewN (Below.refl _ _) nq)) hg1 hat1)
            clear ho1 hb1 hg1 hat1
            go_wp2
            go_roundw
            case rel => exact ⟨k + 1, by go_num, by omega, by rw [hst.out]; exact HO9, HB9, HE9⟩
            case measure => simp [intOf]; omega
          · have d2 : decide (q ≤ hi) = false := decide_eq_false h2
            have hy : ¬ rngF s lo hi (j : Int) = true := by rw [hF.out, hd, d1, d2]; simp
            rw [if_neg hy] at hst
            clear hy hF
            go_wp2_with fail
            go_quiet (fail)
            go_wp2
            go_roundw
            case rel => exact ⟨k + 1, by go_num, by omega, by rw [hst.out]; exact Lib.hid (Kd.R_drewN hO.out _), Lib.hid (pw_below_drewN hB.out _), Lib.hid (hE.out.below (pw_below_drewN (Below.refl _ _) _))⟩
            case measure => simp [intOf]; omega
        · have d1 : decide (lo ≤ q) = false := decide_eq_false h1
          have hy : ¬ rngF s lo hi (j : Int) = true := by rw [hF.out, hd, d1]; simp
          rw [if_neg hy] at hst
          clear hy hF
          go_wp2_with fail
          go_quiet (fail)
          go_wp2
          go_roundw
          case rel => exact ⟨k + 1, by go_num, by omega, by rw [hst.out]; exact Lib.hid (Kd.R_drewN hO.out _), Lib.hid (pw_below_drewN hB.out _), Lib.hid (hE.out.below (pw_below_drewN (Below.refl _ _) _))⟩
          case measure => simp [intOf]; omega
      · have hd : decide ((j : Int) < (s.size : Int)) = false := decide_eq_false (by omega)
        have hy : ¬ rngF s lo hi (j : Int) = true := by rw [hF.out, hd]; simp
        rw [if_neg hy] at hst
        clear hy hF
        go_wp2_with fail
        go_quiet (fail)
        go_wp2
        go_roundw
        case rel => exact ⟨k + 1, by go_num, by omega, by rw [hst.out]; exact Lib.hid (Kd.R_drewN hO.out _), Lib.hid (pw_below_drewN hB.out _), Lib.hid (hE.out.below (pw_below_drewN (Below.refl _ _) _))⟩
        case measure => simp [intOf]; omega
    · have hke : k = l.length := by omega
      subst hke
      have hkb : decide ((l.length : Int) < (l.length : Int)) = false := decide_eq_false (by omega)
      have hT : Hid (rngL s lo hi (l.take l.length) = rngL s lo hi l) := Lib.hid (by rw [List.take_length])
      rw [hT.out] at hO ⊢
      go_wp2
      go_ret
      exact ⟨(rngL s lo hi l, V, cv), rfl, ⟨(It.of hO.out).2, rngL_posn HL.out, beh_rng HL.out⟩, hB.out⟩
end Go.Proofs.YtaphblnelmncaaaDoor.PA
end

section
/- The reference's behind: sequences and alternatives. -/
set_option linter.unusedVariables false
namespace Go.Proofs.YtaphblnelmncaaaDoor.PA
open Go.RowKit Go.Proofs.YtaphblnelmncaaaDoorW.PrintWords Go.Proofs.YtaphblnelmncaaaDoorW.PrintLast Go.Proofs.YtaphblnelmncaaaDoorW.PrintMore

/-- What stands while behind asks for its operands. -/
structure BSt (s : ByteArray) (B : Option Addr) (d : Nat) (l : List Int) (node : List Value) (w0 w w1 : World) : Prop where
  low : Below w0.heap.size w0 w1
  below : Below w.heap.size w w1
  it : It w1 B d l
  hn : Blk w1 w.heap.size 50 node
theorem BSt.next {s : ByteArray} {B : Option Addr} {d : Nat} {l : List Int} {node : List Value} {w0 w w1 w2 : World} (h : BSt s B d l node w0 w w1) (k : Below w1.heap.size w1 w2) : BSt s B d l node w0 w w2 :=
  ⟨h.low.trans (k.mono h.low.size), h.below.trans (k.mono h.below.size), h.it.next k, h.hn.below k⟩
set_option maxHeartbeats 4000000 in
set_option maxRecDepth 100000 in
theorem behind_seq {A : Option Addr} {c : Nat} {p : List S50} {s : ByteArray} {w0 : World} (hP : Pt w0 A c p) (hs : s.size ≤ 1000000) (i : Nat) (lo hi : Int) (a b : Nat) (a' b' : Re) (ha : BehOK A c p s w0 a a') (hb : BehOK A c p s w0 b b') (hx : p[i]? = some ⟨2, lo, hi, (a : Int), (b : Int)⟩) : BehOK A c p s w0 i (.seq a' b') := by
  intro B d l w hw hI hL
  have hip := (List.getElem?_eq_some_iff.1 hx).1
  have hibI : (i : Int) < (p.length : Int) := by omega
  obtain ⟨ad, rfl, x0, x1, x2, x3, x4⟩ := at_T50 (Kd.C_below hP.C hw) i (by omega) hibI
  have hrd : rd_T50 p i = ⟨2, lo, hi, (a : Int), (b : Int)⟩ := by simp [rd_T50, List.getD_eq_getElem?_getD, hx]
  rw [hrd] at x0 x1 x2 x3 x4
  simp only [Int.toNat_natCast] at x0 x1 x2 x3 x4
  have HI := Lib.hid hI
  have HL := Lib.hid hL
  have HW := Lib.hid hw
  clear hI hL hw hP hx hrd
  go_enter Tryd.func45, Tryd.ntmps45
  have HKa := Lib.hid ha
  have HKb := Lib.hid hb
  clear ha hb
  go_wp2_with (first | ((with_reducible refine gate_dst (N := 17) rfl ?_); refine Kd.R_lit (Kd.int .i64) _ 3 ?hg (N := 17) ?hd (xs := ([] : List Int)) (inner := []) (ok := fun _ => True) (okp := fun _ => True) ?hr ?hp (fun _ hk => hk) trivial (Below.refl _ _) (Nat.le_refl _) (by simp) ?_; (case hd => rfl); (case hg => rfl); (case hr => first | (go_simp; done) | (go_simp; rfl)); (case hp => exact (Reps.none _ _)); intro v17 w4 ho5 hb4 hg_ hnew_; have E4 := Lib.hid (Blk.below (Blk.new w _ 50) hb4); have y0 := E4.out.cell 0; have y1 := E4.out.cell 1; have y2 := E4.out.cell 2; have y3 := E4.out.cell 3; have y4 := E4.out.cell 4; simp only [List.getElem?_cons_zero, List.getElem?_cons_succ] at y0 y1 y2 y3 y4; have HO := Lib.hid ho5; have HB4 := Lib.hid (below_node hb4); clear hg_ hnew_ ho5 hb4) | fail)
  refine region_rule (ε := BEnv × BEnv) 12 [0, 0, 2, 0, 0, 0, 32, 0, 0, 496, 1023, 2047] [9, 10] [some 73, some 74, some 75, some 76, some 77, some 78, some 79, some 80, some 81, some 82, some 83, some 8] (fun env => [(.slice (some ad) p.length c), (.pointer (some ⟨w.heap.size, 4, none⟩)), (.int .i64 (b : Int)), (.string s), (.slice (some ad) p.length c), (.pointer (some ⟨w.heap.size, 3, none⟩)), (.int .i64 (a : Int)), (.string s), (.slice B l.length d), (.slice env.1.2.1 env.1.1.length env.1.2.2), (.slice env.2.2.1 env.2.1.length env.2.2.2), (.slice env.2.2.1 env.2.1.length env.2.2.2)]) (fun k env w1 => Hid (BSt s B d l [.int .i64 2, .int .i64 lo, .int .i64 hi, .int .i64 (a : Int), .int .i64 (b : Int)] w0 w w1) ∧ Hid (1 ≤ k → BGot a' s l env.1 w1) ∧ Hid (2 ≤ k → BGot (.seq a' b') s l env.2 w1)) 115 (([], none, 0), ([], none, 0)) (by kernel_rfl) rfl rfl (by kernel_rfl) rfl (by decide) (by kernel_rfl) ?h0 (AllOb.lt ?hob) ?hend
  case hob =>
    refine ⟨⟨⟨⟨⟨⟨⟨⟨⟨⟨⟨⟨trivial, ?_⟩, ?_⟩, ?_⟩, ?_⟩, ?_⟩, ?_⟩, ?_⟩, ?_⟩, ?_⟩, ?_⟩, ?_⟩, ?_⟩
    · exact ob_move _ _ _ rfl rfl (fun _ => rfl) (fun _ => by kernel_rfl)
    · exact ob_val _ _ _ rfl rfl (fun _ => rfl) (fun _ => x_f4t50 (by kernel_rfl))
    · exact ob_read _ _ _ rfl rfl (fun _ => rfl) (fun k env w1 h1 h2 h3 => by
        have h3 : Hid (BSt s B d l [.int .i64 2, .int .i64 lo, .int .i64 hi, .int .i64 (a : Int), .int .i64 (b : Int)] w0 w w1) ∧ Hid (1 ≤ k → BGot a' s l env.1 w1) ∧ Hid (2 ≤ k → BGot (.seq a' b') s l env.2 w1) := h3
        exact x_load3 (by kernel_rfl) w1 (h3.1.out.hn.cell 4))
    · exact ob_move _ _ _ rfl rfl (fun _ => rfl) (fun _ => by kernel_rfl)
    · exact ob_move _ _ _ rfl rfl (fun _ => rfl) (fun _ => by kernel_rfl)
    · exact ob_val _ _ _ rfl rfl (fun _ => rfl) (fun _ => x_f3t50 (by kernel_rfl))
    · exact ob_read _ _ _ rfl rfl (fun _ => rfl) (fun k env w1 h1 h2 h3 => by
        have h3 : Hid (BSt s B d l [.int .i64 2, .int .i64 lo, .int .i64 hi, .int .i64 (a : Int), .int .i64 (b : Int)] w0 w w1) ∧ Hid (1 ≤ k → BGot a' s l env.1 w1) ∧ Hid (2 ≤ k → BGot (.seq a' b') s l env.2 w1) := h3
        exact x_load3 (by kernel_rfl) w1 (h3.1.out.hn.cell 3))
    · exact ob_move _ _ _ rfl rfl (fun _ => rfl) (fun _ => by kernel_rfl)
    · exact ob_move _ _ _ rfl rfl (fun _ => rfl) (fun _ => by kernel_rfl)
    · exact ob_call _ _ (f := 45) Tryd.func45 rfl rfl (fun _ => #[(.slice (some ad) p.length c), .int .i64 (a : Int), .string s, (.slice B l.length d)]) rfl rfl (fun _ => rfl) (fun _ => by kernel_rfl) (fun k env w1 h1 h2 h3 => by
        obtain rfl : k = 0 := by have h2 : k ≤ 0 := h2; omega
        have h3 : Hid (BSt s B d l [.int .i64 2, .int .i64 lo, .int .i64 hi, .int .i64 (a : Int), .int .i64 (b : Int)] w0 w w1) ∧ Hid (1 ≤ 0 → BGot a' s l env.1 w1) ∧ Hid (2 ≤ 0 → BGot (.seq a' b') s l env.2 w1) := h3
        refine (HKa.out B d l w1 h3.1.out.low h3.1.out.it HL.out).mono ?_
        rintro e w2 ⟨v, rfl, g1, g2⟩
        refine ⟨(v, env.2), rfl, ⟨Lib.hid (h3.1.out.next g2), Lib.hid fun _ => g1, Lib.hid fun h => by omega⟩, fun j h1 h2 => ?_⟩
        exact by
          match j, h1, h2 with
            | 0, _, _ => rfl
            | 1, _, _ => rfl
            | 2, _, _ => rfl
            | 3, _, _ => rfl
            | 4, _, _ => rfl
            | 5, _, _ => rfl
            | 6, _, _ => rfl
            | 7, _, _ => rfl
            | 8, _, _ => rfl
            | 9, h, h' => exact absurd rfl h'
            | 10, _, _ => rfl
            | 11, _, _ => rfl
            | _ + 12, _, _ => rfl)
    · exact ob_call _ _ (f := 45) Tryd.func45 rfl rfl (fun env => #[(.slice (some ad) p.length c), .int .i64 (b : Int), .string s, (.slice env.1.2.1 env.1.1.length env.1.2.2)]) rfl rfl (fun _ => rfl) (fun _ => by kernel_rfl) (fun k env w1 h1 h2 h3 => by
        obtain rfl : k = 1 := by have h1 : 1 ≤ k := h1; have h2 : k ≤ 1 := h2; omega
        have h3 : Hid (BSt s B d l [.int .i64 2, .int .i64 lo, .int .i64 hi, .int .i64 (a : Int), .int .i64 (b : Int)] w0 w w1) ∧ Hid (1 ≤ 1 → BGot a' s l env.1 w1) ∧ Hid (2 ≤ 1 → BGot (.seq a' b') s l env.2 w1) := h3
        have hA := h3.2.1.out (Nat.le_refl _)
        refine (HKb.out env.1.2.1 env.1.2.2 env.1.1 w1 h3.1.out.low hA.it hA.pos).mono ?_
        rintro e w2 ⟨v, rfl, g1, g2⟩
        refine ⟨(env.1, v), rfl, ⟨Lib.hid (h3.1.out.next g2), Lib.hid fun _ => hA.next g2, Lib.hid fun _ => ⟨g1.it, g1.pos, beh_seq HL.out hA.beh g1.beh⟩⟩, fun j h1 h2 => ?_⟩
        exact by
          match j, h1, h2 with
            | 0, _, _ => rfl
            | 1, _, _ => rfl
            | 2, _, _ => rfl
            | 3, _, _ => rfl
            | 4, _, _ => rfl
            | 5, _, _ => rfl
            | 6, _, _ => rfl
            | 7, _, _ => rfl
            | 8, _, _ => rfl
            | 9, _, _ => rfl
            | 10, h, h' => exact absurd rfl h'
            | 11, h, h' => exact absurd h (by decide)
            | _ + 12, _, _ => rfl)
    · exact ob_assign _ _ _ rfl rfl (fun _ => rfl) (fun _ => by kernel_rfl)
  case h0 =>
    exact ⟨Lib.hid (BSt.next ⟨HW.out.trans (HB4.out.mono HW.out.size), HB4.out, HI.out.next HB4.out, E4.out⟩ (below_drew1 (Below.refl _ _))), Lib.hid fun h => by omega, Lib.hid fun h => by omega⟩
  case hend =>
    intro env w1 hW
    have hW : Hid (BSt s B d l [.int .i64 2, .int .i64 lo, .int .i64 hi, .int .i64 (a : Int), .int .i64 (b : Int)] w0 w w1) ∧ Hid (1 ≤ 2 → BGot a' s l env.1 w1) ∧ Hid (2 ≤ 2 → BGot (.seq a' b') s l env.2 w1) := hW
    simp only [putsL, List.tail_cons, List.headD_cons, Act.put, List.setIfInBounds_toArray, List.set_cons_zero, List.set_cons_succ]
    go_wp2
    go_ret
    exact ⟨env.2, rfl, hW.2.2.out (Nat.le_refl _), hW.1.out.below⟩
set_option maxHeartbeats 4000000 in
set_option maxRecDepth 100000 in
theorem behind_alt {A : Option Addr} {c : Nat} {p : List S50} {s : ByteArray} {w0 : World} (hP : Pt w0 A c p) (hs : s.size ≤ 1000000) (i : Nat) (lo hi : Int) (a b : Nat) (a' b' : Re) (ha : BehOK A c p s w0 a a') (hb : BehOK A c p s w0 b b') (hx : p[i]? = some ⟨3, lo, hi, (a : Int), (b : Int)⟩) : BehOK A c p s w0 i (.alt a' b') := by
  intro B d l w hw hI hL
  have hip := (List.getElem?_eq_some_iff.1 hx).1
  have hibI : (i : Int) < (p.length : Int) := by omega
  obtain ⟨ad, rfl, x0, x1, x2, x3, x4⟩ := at_T50 (Kd.C_below hP.C hw) i (by omega) hibI
  have hrd : rd_T50 p i = ⟨3, lo, hi, (a : Int), (b : Int)⟩ := by simp [rd_T50, List.getD_eq_getElem?_getD, hx]
  rw [hrd] at x0 x1 x2 x3 x4
  simp only [Int.toNat_natCast] at x0 x1 x2 x3 x4
  have HI := Lib.hid hI
  have HL := Lib.hid hL
  have HW := Lib.hid hw
  clear hI hL hw hP hx hrd
  go_enter Tryd.func45, Tryd.ntmps45
  have HKa := Lib.hid ha
  have HKb := Lib.hid hb
  clear ha hb
  go_wp2_with (first | ((with_reducible refine gate_dst (N := 17) rfl ?_); refine Kd.R_lit (Kd.int .i64) _ 3 ?hg (N := 17) ?hd (xs := ([] : List Int)) (inner := []) (ok := fun _ => True) (okp := fun _ => True) ?hr ?hp (fun _ hk => hk) trivial (Below.refl _ _) (Nat.le_refl _) (by simp) ?_; (case hd => rfl); (case hg => rfl); (case hr => first | (go_simp; done) | (go_simp; rfl)); (case hp => exact (Reps.none _ _)); intro v17 w4 ho5 hb4 hg_ hnew_; have E4 := Lib.hid (Blk.below (Blk.new w _ 50) hb4); have y0 := E4.out.cell 0; have y1 := E4.out.cell 1; have y2 := E4.out.cell 2; have y3 := E4.out.cell 3; have y4 := E4.out.cell 4; simp only [List.getElem?_cons_zero, List.getElem?_cons_succ] at y0 y1 y2 y3 y4; have HO := Lib.hid ho5; have HB4 := Lib.hid (below_node hb4); clear hg_ hnew_ ho5 hb4) | fail)
  refine region_rule (ε := BEnv × BEnv × BEnv) 14 [0, 0, 2, 0, 0, 31, 0, 0, 128, 0, 0, 2047, 4095, 8191] [5, 11, 12] [some 86, some 87, some 88, some 89, some 90, some 91, some 92, some 93, some 94, some 95, some 96, some 97, some 98, some 8] (fun env => [(.slice (some ad) p.length c), (.pointer (some ⟨w.heap.size, 3, none⟩)), (.int .i64 (a : Int)), (.string s), (.slice B l.length d), (.slice env.1.2.1 env.1.1.length env.1.2.2), (.slice (some ad) p.length c), (.pointer (some ⟨w.heap.size, 4, none⟩)), (.int .i64 (b : Int)), (.string s), (.slice B l.length d), (.slice env.2.1.2.1 env.2.1.1.length env.2.1.2.2), (.slice env.2.2.2.1 env.2.2.1.length env.2.2.2.2), (.slice env.2.2.2.1 env.2.2.1.length env.2.2.2.2)]) (fun k env w1 => Hid (BSt s B d l [.int .i64 3, .int .i64 lo, .int .i64 hi, .int .i64 (a : Int), .int .i64 (b : Int)] w0 w w1) ∧ Hid (1 ≤ k → BGot a' s l env.1 w1) ∧ Hid (2 ≤ k → BGot b' s l env.2.1 w1) ∧ Hid (3 ≤ k → BGot (.alt a' b') s l env.2.2 w1)) 115 (([], none, 0), ([], none, 0), ([], none, 0)) (by kernel_rfl) rfl rfl (by kernel_rfl) rfl (by decide) (by kernel_rfl) ?h0 (AllOb.lt ?hob) ?hend
  case hob =>
    refine ⟨⟨⟨⟨⟨⟨⟨⟨⟨⟨⟨⟨⟨⟨trivial, ?_⟩, ?_⟩, ?_⟩, ?_⟩, ?_⟩, ?_⟩, ?_⟩, ?_⟩, ?_⟩, ?_⟩, ?_⟩, ?_⟩, ?_⟩, ?_⟩
    · exact ob_move _ _ _ rfl rfl (fun _ => rfl) (fun _ => by kernel_rfl)
    · exact ob_val _ _ _ rfl rfl (fun _ => rfl) (fun _ => x_f3t50 (by kernel_rfl))
    · exact ob_read _ _ _ rfl rfl (fun _ => rfl) (fun k env w1 h1 h2 h3 => by
        have h3 : Hid (BSt s B d l [.int .i64 3, .int .i64 lo, .int .i64 hi, .int .i64 (a : Int), .int .i64 (b : Int)] w0 w w1) ∧ Hid (1 ≤ k → BGot a' s l env.1 w1) ∧ Hid (2 ≤ k → BGot b' s l env.2.1 w1) ∧ Hid (3 ≤ k → BGot (.alt a' b') s l env.2.2 w1) := h3
        exact x_load3 (by kernel_rfl) w1 (h3.1.out.hn.cell 3))
    · exact ob_move _ _ _ rfl rfl (fun _ => rfl) (fun _ => by kernel_rfl)
    · exact ob_move _ _ _ rfl rfl (fun _ => rfl) (fun _ => by kernel_rfl)
    · exact ob_call _ _ (f := 45) Tryd.func45 rfl rfl (fun _ => #[(.slice (some ad) p.length c), .int .i64 (a : Int), .string s, (.slice B l.length d)]) rfl rfl (fun _ => rfl) (fun _ => by kernel_rfl) (fun k env w1 h1 h2 h3 => by
        obtain rfl : k = 0 := by have h2 : k ≤ 0 := h2; omega
        have h3 : Hid (BSt s B d l [.int .i64 3, .int .i64 lo, .int .i64 hi, .int .i64 (a : Int), .int .i64 (b : Int)] w0 w w1) ∧ Hid (1 ≤ 0 → BGot a' s l env.1 w1) ∧ Hid (2 ≤ 0 → BGot b' s l env.2.1 w1) ∧ Hid (3 ≤ 0 → BGot (.alt a' b') s l env.2.2 w1) := h3
        refine (HKa.out B d l w1 h3.1.out.low h3.1.out.it HL.out).mono ?_
        rintro e w2 ⟨v, rfl, g1, g2⟩
        refine ⟨(v, env.2), rfl, ⟨Lib.hid (h3.1.out.next g2), Lib.hid fun _ => g1, Lib.hid fun h => by omega, Lib.hid fun h => by omega⟩, fun j h1 h2 => ?_⟩
        exact by
          match j, h1, h2 with
            | 0, _, _ => rfl
            | 1, _, _ => rfl
            | 2, _, _ => rfl
            | 3, _, _ => rfl
            | 4, _, _ => rfl
            | 5, h, h' => exact absurd rfl h'
            | 6, _, _ => rfl
            | 7, _, _ => rfl
            | 8, _, _ => rfl
            | 9, _, _ => rfl
            | 10, _, _ => rfl
            | 11, _, _ => rfl
            | 12, _, _ => rfl
            | 13, _, _ => rfl
            | _ + 14, _, _ => rfl)
    · exact ob_move _ _ _ rfl rfl (fun _ => rfl) (fun _ => by kernel_rfl)
    · exact ob_val _ _ _ rfl rfl (fun _ => rfl) (fun _ => x_f4t50 (by kernel_rfl))
    · exact ob_read _ _ _ rfl rfl (fun _ => rfl) (fun k env w1 h1 h2 h3 => by
        have h3 : Hid (BSt s B d l [.int .i64 3, .int .i64 lo, .int .i64 hi, .int .i64 (a : Int), .int .i64 (b : Int)] w0 w w1) ∧ Hid (1 ≤ k → BGot a' s l env.1 w1) ∧ Hid (2 ≤ k → BGot b' s l env.2.1 w1) ∧ Hid (3 ≤ k → BGot (.alt a' b') s l env.2.2 w1) := h3
        exact x_load3 (by kernel_rfl) w1 (h3.1.out.hn.cell 4))
    · exact ob_move _ _ _ rfl rfl (fun _ => rfl) (fun _ => by kernel_rfl)
    · exact ob_move _ _ _ rfl rfl (fun _ => rfl) (fun _ => by kernel_rfl)
    · exact ob_call _ _ (f := 45) Tryd.func45 rfl rfl (fun _ => #[(.slice (some ad) p.length c), .int .i64 (b : Int), .string s, (.slice B l.length d)]) rfl rfl (fun _ => rfl) (fun _ => by kernel_rfl) (fun k env w1 h1 h2 h3 => by
        obtain rfl : k = 1 := by have h1 : 1 ≤ k := h1; have h2 : k ≤ 1 := h2; omega
        have h3 : Hid (BSt s B d l [.int .i64 3, .int .i64 lo, .int .i64 hi, .int .i64 (a : Int), .int .i64 (b : Int)] w0 w w1) ∧ Hid (1 ≤ 1 → BGot a' s l env.1 w1) ∧ Hid (2 ≤ 1 → BGot b' s l env.2.1 w1) ∧ Hid (3 ≤ 1 → BGot (.alt a' b') s l env.2.2 w1) := h3
        have hA := h3.2.1.out (Nat.le_refl _)
        refine (HKb.out B d l w1 h3.1.out.low h3.1.out.it HL.out).mono ?_
        rintro e w2 ⟨v, rfl, g1, g2⟩
        refine ⟨(env.1, v, env.2.2), rfl, ⟨Lib.hid (h3.1.out.next g2), Lib.hid fun _ => hA.next g2, Lib.hid fun _ => g1, Lib.hid fun h => by omega⟩, fun j h1 h2 => ?_⟩
        exact by
          match j, h1, h2 with
            | 0, _, _ => rfl
            | 1, _, _ => rfl
            | 2, _, _ => rfl
            | 3, _, _ => rfl
            | 4, _, _ => rfl
            | 5, _, _ => rfl
            | 6, _, _ => rfl
            | 7, _, _ => rfl
            | 8, _, _ => rfl
            | 9, _, _ => rfl
            | 10, _, _ => rfl
            | 11, h, h' => exact absurd rfl h'
            | 12, _, _ => rfl
            | 13, _, _ => rfl
            | _ + 14, _, _ => rfl)
    · exact ob_call _ _ (f := 73) Tryd.func73 rfl rfl (fun env => #[(.slice env.1.2.1 env.1.1.length env.1.2.2), (.slice env.2.1.2.1 env.2.1.1.length env.2.1.2.2)]) rfl rfl (fun _ => rfl) (fun _ => by kernel_rfl) (fun k env w1 h1 h2 h3 => by
        obtain rfl : k = 2 := by have h1 : 2 ≤ k := h1; have h2 : k ≤ 2 := h2; omega
        have h3 : Hid (BSt s B d l [.int .i64 3, .int .i64 lo, .int .i64 hi, .int .i64 (a : Int), .int .i64 (b : Int)] w0 w w1) ∧ Hid (1 ≤ 2 → BGot a' s l env.1 w1) ∧ Hid (2 ≤ 2 → BGot b' s l env.2.1 w1) ∧ Hid (3 ≤ 2 → BGot (.alt a' b') s l env.2.2 w1) := h3
        have hA := h3.2.1.out (by omega)
        have hB := h3.2.2.1.out (Nat.le_refl _)
        refine (rtog_any hA.it hB.it (by have := hA.pos.len; omega) (by have := hB.pos.len; omega)).mono ?_
        rintro e w2 ⟨E, ec, rfl, g1, g2⟩
        refine ⟨(env.1, env.2.1, (togF env.1.1 env.2.1.1, E, ec)), rfl, ⟨Lib.hid (h3.1.out.next g2), Lib.hid fun _ => hA.next g2, Lib.hid fun _ => hB.next g2, Lib.hid fun _ => ⟨g1, tog_posn hA.pos hB.pos, beh_alt hA.beh hB.beh⟩⟩, fun j h1 h2 => ?_⟩
        exact by
          match j, h1, h2 with
            | 0, _, _ => rfl
            | 1, _, _ => rfl
            | 2, _, _ => rfl
            | 3, _, _ => rfl
            | 4, _, _ => rfl
            | 5, _, _ => rfl
            | 6, _, _ => rfl
            | 7, _, _ => rfl
            | 8, _, _ => rfl
            | 9, _, _ => rfl
            | 10, _, _ => rfl
            | 11, _, _ => rfl
            | 12, h, h' => exact absurd rfl h'
            | 13, h, h' => exact absurd h (by decide)
            | _ + 14, _, _ => rfl)
    · exact ob_assign _ _ _ rfl rfl (fun _ => rfl) (fun _ => by kernel_rfl)
  case h0 =>
    exact ⟨Lib.hid (BSt.next ⟨HW.out.trans (HB4.out.mono HW.out.size), HB4.out, HI.out.next HB4.out, E4.out⟩ (below_drew1 (Below.refl _ _))), Lib.hid fun h => by omega, Lib.hid fun h => by omega, Lib.hid fun h => by omega⟩
  case hend =>
    intro env w1 hW
    have hW : Hid (BSt s B d l [.int .i64 3, .int .i64 lo, .int .i64 hi, .int .i64 (a : Int), .int .i64 (b : Int)] w0 w w1) ∧ Hid (1 ≤ 3 → BGot a' s l env.1 w1) ∧ Hid (2 ≤ 3 → BGot b' s l env.2.1 w1) ∧ Hid (3 ≤ 3 → BGot (.alt a' b') s l env.2.2 w1) := hW
    simp only [putsL, List.tail_cons, List.headD_cons, Act.put, List.setIfInBounds_toArray, List.set_cons_zero, List.set_cons_succ]
    go_wp2
    go_ret
    exact ⟨env.2.2, rfl, hW.2.2.2.out (Nat.le_refl _), hW.1.out.below⟩
end Go.Proofs.YtaphblnelmncaaaDoor.PA
end

section
/- The reference's behind: repetitions; the whole function. -/
set_option linter.unusedVariables false
namespace Go.Proofs.YtaphblnelmncaaaDoor.PA
open Go.RowKit Go.Proofs.YtaphblnelmncaaaDoorW.PrintWords Go.Proofs.YtaphblnelmncaaaDoorW.PrintLast Go.Proofs.YtaphblnelmncaaaDoorW.PrintMore

/-- The loop's list does not grow any more. -/
def Clo (a : Re) (s : ByteArray) (R : List Int) : Prop := ∃ r, Beh a s R r ∧ ∀ x ∈ r, x ∈ R
theorem clo_tog {a : Re} {s : ByteArray} {R r : List Int} (hb : Beh a s R r) (h : (togF R r).length = R.length) : Clo a s (togF R r) := by
  have h1 := tog_len h
  obtain ⟨n, hn⟩ := (tog_spec r R).2.2.1
  have : n = [] := List.length_eq_zero_iff.1 (by rw [hn, List.length_append] at h; omega)
  rw [this, List.append_nil] at hn
  rw [hn]
  exact ⟨r, hb, h1⟩
set_option maxHeartbeats 4000000 in
set_option maxRecDepth 100000 in
theorem behind_rep {A : Option Addr} {c : Nat} {p : List S50} {s : ByteArray} {w0 : World} (hP : Pt w0 A c p) (hs : s.size ≤ 1000000) (i : Nat) (lo hi : Int) (a : Nat) (b : Int) (a' : Re) (ha : BehOK A c p s w0 a a') (hx : p[i]? = some ⟨4, lo, hi, (a : Int), b⟩) : BehOK A c p s w0 i (.rep a') := by
  intro B d l w hw hI hL
  have hip := (List.getElem?_eq_some_iff.1 hx).1
  have hibI : (i : Int) < (p.length : Int) := by omega
  obtain ⟨ad, rfl, x0, x1, x2, x3, x4⟩ := at_T50 (Kd.C_below hP.C hw) i (by omega) hibI
  have hrd : rd_T50 p i = ⟨4, lo, hi, (a : Int), b⟩ := by simp [rd_T50, List.getD_eq_getElem?_getD, hx]
  rw [hrd] at x0 x1 x2 x3 x4
  simp only [Int.toNat_natCast] at x0 x1 x2 x3 x4
  have HI := Lib.hid hI
  have HL := Lib.hid hL
  have HW := Lib.hid hw
  clear hI hL hw hP hx hrd
  go_enter Tryd.func45, Tryd.ntmps45
  have HKa := Lib.hid ha
  clear ha
  go_wp2_with (first | ((with_reducible refine gate_dst (N := 17) rfl ?_); refine Kd.R_lit (Kd.int .i64) _ 3 ?hg (N := 17) ?hd (xs := ([] : List Int)) (inner := []) (ok := fun _ => True) (okp := fun _ => True) ?hr ?hp (fun _ hk => hk) trivial (Below.refl _ _) (Nat.le_refl _) (by simp) ?_; (case hd => rfl); (case hg => rfl); (case hr => first | (go_simp; done) | (go_simp; rfl)); (case hp => exact (Reps.none _ _)); intro v17 w4 ho5 hb4 hg_ hnew_; have E4 := Lib.hid (Blk.below (Blk.new w _ 50) hb4); have y0 := E4.out.cell 0; have y1 := E4.out.cell 1; have y2 := E4.out.cell 2; have y3 := E4.out.cell 3; have y4 := E4.out.cell 4; simp only [List.getElem?_cons_zero, List.getElem?_cons_succ] at y0 y1 y2 y3 y4; have HO := Lib.hid ho5; have HB4 := Lib.hid (below_node hb4); clear hg_ hnew_ ho5 hb4) | fail)
  go_loopw [10, 12] (fun v10 v12 wr => ∃ (R : List Int) (V : Option Addr) (cv : Nat) (last : Int), v10 = .slice V R.length cv ∧ v12 = .int .i64 last ∧ -1 ≤ last ∧ last ≤ R.length ∧ Hid (RepI a' s l R) ∧ Hid (last = R.length → Clo a' s R) ∧ Hid (It wr V cv R) ∧ Hid (BSt s B d l [.int .i64 4, .int .i64 lo, .int .i64 hi, .int .i64 (a : Int), .int .i64 b] w0 w wr)) (fun _ v12 _ => s.size + 3 - (intOf v12 + 1).toNat)
  case atStart =>
    exact ⟨l, B, d, -1, rfl, rfl, by omega, by omega, Lib.hid (RepI.start HL.out), Lib.hid (fun h => by omega), Lib.hid (HI.out.next HB4.out), Lib.hid ⟨HW.out.trans (HB4.out.mono HW.out.size), HB4.out, HI.out.next HB4.out, E4.out⟩⟩
  case round =>
    obtain ⟨R, V, cv, last, rfl, rfl, h1, h2, hR, hC, hI, hS⟩ := hrel
    clear y0 y1 y2 y3 y4
    have y3 := hS.out.hn.cell 3
    simp only [List.getElem?_cons_zero, List.getElem?_cons_succ] at y3
    have hlen : R.length ≤ s.size + 1 := hR.out.pos.len
    by_cases hlt : last < (R.length : Int)
    · have hlb : decide (last < (R.length : Int)) = true := decide_eq_true hlt
      have HPP : ∀ w1, Below wr.heap.size wr w1 → BSt s B d l [.int .i64 4, .int .i64 lo, .int .i64 hi, .int .i64 (a : Int), .int .i64 b] w0 w w1 := fun w1 k => hS.out.next k
      have HP := Lib.hid HPP
      clear HPP
      go_wp2_with (first
        | (go_at_call 45; refine (HKa.out V cv R wr hS.out.low hI.out hR.out.pos).mono ?_; rintro e w5 ⟨⟨r, E, ec⟩, rfl, g1, g2⟩; have HG := Lib.hid g1; have HB5 := Lib.hid g2; clear g1 g2)
        | (go_at_call 73; refine (rtog_any (hI.out.next HB5.out) HG.out.it (by omega) (by have := HG.out.pos.len; omega)).mono ?_; rintro e w6 ⟨F, fc, rfl, g1, g2⟩; have HT := Lib.hid g1; have HB6 := Lib.hid g2; clear g1 g2)
        | fail)
      go_roundw
      case rel =>
        refine ⟨togF R r, F, fc, (R.length : Int), rfl, rfl, by omega, by have := tog_ge R r; omega, Lib.hid (RepI.next HL.out hR.out HG.out.beh HG.out.pos), Lib.hid (fun h => clo_tog HG.out.beh (by omega)), HT, Lib.hid ((HP.out _ HB5.out).next HB6.out)⟩
      case measure => simp [intOf]; omega
    · have hlb : decide (last < (R.length : Int)) = false := decide_eq_false hlt
      have hcl : Hid (Clo a' s R) := Lib.hid (hC.out (by omega))
      go_wp2
      go_ret
      obtain ⟨r, hb, hc⟩ := hcl.out
      exact ⟨(R, V, cv), rfl, ⟨hI.out, hR.out.pos, hR.out.done hb hc⟩, hS.out.below⟩
/-- behind, for each tree. -/
theorem behind_any {A : Option Addr} {c : Nat} {p : List S50} {s : ByteArray} {w0 : World} (hP : Pt w0 A c p) (hs : s.size ≤ 1000000) {i : Nat} {t : Re} (h : IsRe p i t) : t.ok → BehOK A c p s w0 i t := by
  induction h with
  | emp i x h hk =>
    intro _
    obtain ⟨k, lo, hi, a, b⟩ := x
    obtain rfl : k = 0 := hk
    exact behind_emp hP hs i lo hi a b h
  | rng i x h hk =>
    intro ho
    obtain ⟨k, lo, hi, a, b⟩ := x
    obtain rfl : k = 1 := hk
    exact behind_rng hP hs i lo hi a b ho h
  | seq i x a b u v h hk ha hb hu hv ihu ihv =>
    intro ho
    obtain ⟨k, lo, hi, a', b'⟩ := x
    obtain rfl : k = 2 := hk
    obtain rfl : a' = (a : Int) := ha
    obtain rfl : b' = (b : Int) := hb
    exact behind_seq hP hs i lo hi a b u v (ihu ho.1) (ihv ho.2) h
  | alt i x a b u v h hk ha hb hu hv ihu ihv =>
    intro ho
    obtain ⟨k, lo, hi, a', b'⟩ := x
    obtain rfl : k = 3 := hk
    obtain rfl : a' = (a : Int) := ha
    obtain rfl : b' = (b : Int) := hb
    exact behind_alt hP hs i lo hi a b u v (ihu ho.1) (ihv ho.2) h
  | rep i x a u h hk ha hu ihu =>
    intro ho
    obtain ⟨k, lo, hi, a', b'⟩ := x
    obtain rfl : k = 4 := hk
    obtain rfl : a' = (a : Int) := ha
    exact behind_rep hP hs i lo hi a b' u (ihu ho) h
end Go.Proofs.YtaphblnelmncaaaDoor.PA
end

section
/- The reference's Matches and Longest. -/
set_option linter.unusedVariables false
namespace Go.Proofs.YtaphblnelmncaaaDoor.PA
open Go.RowKit Go.Proofs.YtaphblnelmncaaaDoorW.PrintWords Go.Proofs.YtaphblnelmncaaaDoorW.PrintLast Go.Proofs.YtaphblnelmncaaaDoorW.PrintMore

theorem it_one {w : World} {x : Int} : It (w.alloc (.cells #[.int .i64 x] 3)) (some ⟨w.heap.size, 0, none⟩) 1 [x] := by
  have h : (w.alloc (.cells #[.int .i64 x] 3)).ownsRow w.heap.size 3 1 (.slice (some ⟨w.heap.size, 0, none⟩) 1 1) 1 [.int .i64 x] := World.ownsRow_lit (base := w.heap.size) (e := 3) (size := 1) w #[.int .i64 x] 1 (Nat.le_refl _) (by decide) (by simp)
  have h2 : Kd.R (Kd.int .i64) 3 (w.alloc (.cells #[.int .i64 x] 3)) w.heap.size (fun _ => True) (.slice (some ⟨w.heap.size, 0, none⟩) 1 1) [x] := ⟨fun _ _ => trivial, [.int .i64 x], h, by have := (Reps.none (((Kd.int .i64).M (w.alloc (.cells #[.int .i64 x] 3)) w.heap.size fun k => (fun _ => True) k ∧ some k ≠ (Value.slice (some ⟨w.heap.size, 0, none⟩) 1 1).ownBlock)) (Kd.int .i64).sz).snoc (p := x) (c := [.int .i64 x]) rfl rfl; simpa using this⟩
  exact (It.of h2).2
theorem posn_one {n : Nat} {x : Int} (h0 : 0 ≤ x) (h1 : x ≤ n) : Posn n [x] := ⟨by simp, fun y hy => by simp at hy; subst hy; exact ⟨h0, h1⟩⟩
set_option maxHeartbeats 4000000 in
set_option maxRecDepth 100000 in
theorem rmatches_bad {p : List S50} {A : Option Addr} {c : Nat} {w : World} (hP : Pt w A c p) (hb : p.length * 40 ≤ 140737488351232) (s : ByteArray) (hbad : chk p ≠ 0) :
    Calls Tryd.prog 24 #[.slice A p.length c, .string s] w fun e w' => e = .returned (.bool false) ∧ Below w.heap.size w w' := by
  have hbb : (chk p == 0) = false := by simpa using hbad
  have K := Lib.hid (rcheck_any hP hb)
  clear hP
  generalize chk p = z at *
  go_enter Tryd.func24, Tryd.ntmps24
  go_wp2_with (first | (go_at_call 22; refine K.out.mono ?_; rintro e w1 ⟨rfl, b1⟩; have B1 := Lib.hid b1; clear b1) | fail)
  go_ret
  exact ⟨rfl, B1.out⟩
set_option maxHeartbeats 4000000 in
set_option maxRecDepth 100000 in
theorem rmatches_any {p : List S50} {t : Re} (g : Fine p t) {A : Option Addr} {c : Nat} {w : World} (hP : Pt w A c p) (s : ByteArray) (hs : s.size ≤ 1000000) (r : Bool) (hr : r = true ↔ t.Lang (bytesOf s)) :
    Calls Tryd.prog 24 #[.slice A p.length c, .string s] w fun e w' => e = .returned (.bool r) ∧ Below w.heap.size w w' := by
  have hpl := g.good.len
  have hp0 : 0 < p.length := by have := g.good.is.lt; omega
  have K := Lib.hid (rcheck_any hP (by omega))
  rw [g.good.chk] at K
  have HB : Hid (BehOK A c p s w (p.length - 1) t) := Lib.hid (behind_any hP hs g.good.is g.good.ok)
  have hsub : IntKind.i64.wrap ((p.length : Int) - 1) = ((p.length - 1 : Nat) : Int) := (IntWalk.i64_in _ (by omega)).trans (by omega)
  have HR := Lib.hid hr
  clear hP hr g
  go_enter Tryd.func24, Tryd.ntmps24
  go_wp2_with (first | (go_at_call 22; refine K.out.mono ?_; rintro e w1 ⟨rfl, b1⟩; have B1 := Lib.hid b1; clear b1) | (go_at_call 45; refine (HB.out _ 1 [0] (w1.alloc (.cells #[.int .i64 0] 3)) (B1.out.alloc B1.out.size _) it_one (posn_one (Int.le_refl _) (Int.natCast_nonneg _))).mono ?_; rintro e w2 ⟨⟨l, E, ec⟩, rfl, g1, g2⟩; have HG := Lib.hid g1; have B2 := Lib.hid ((B1.out.alloc B1.out.size _).trans (g2.mono (B1.out.alloc B1.out.size _).size)); clear g1 g2) | (go_at_call 54; refine (rhas_any HG.out.it (by have := HG.out.pos.len; omega) _).mono ?_; rintro e w3 ⟨rfl, g2⟩; have B3 := Lib.hid (B2.out.trans (g2.mono B2.out.size)); clear g2) | fail)
  go_ret
  refine ⟨ret_bool ?_, B3.out⟩
  rw [Bool.eq_iff_iff, HR.out, decide_eq_true_eq, HG.out.beh]
  constructor
  · rintro ⟨x, hx, h1, h2, h3⟩
    simp at hx; subst hx
    rw [← pc_all]; exact h3
  · intro h
    exact ⟨0, by simp, by omega, Int.le_refl _, by rw [pc_all]; exact h⟩

theorem pc_from {s : ByteArray} {i m : Nat} (h : i + m ≤ s.size) : pc s (i : Int) ((i : Int) + m) = ((bytesOf s).drop i).take m := by
  unfold pc
  rw [Int.toNat_natCast, show ((i : Int) + (m : Int) - (i : Int)).toNat = m by omega]
theorem best_is {t : Re} {s : ByteArray} {i n best : Nat} {l : List Int} (hi : i ≤ s.size) (hl : Beh t s [(i : Int)] l) (hn : LongP t ((bytesOf s).drop i) n) (h0 : best = 0 ∨ ((i : Int) + best) ∈ l) (h1 : ∀ y ∈ l, y ≤ (i : Int) + best) : best = n := by
  have hd : ((bytesOf s).drop i).length = s.size - i := by rw [List.length_drop, bytesOf_length]
  rcases Nat.lt_trichotomy best n with h | h | h
  · exfalso
    have hle := hn.le
    have h2 := hn.is (by omega)
    have h3 := (hl ((i : Int) + n)).2 ⟨(i : Int), by simp, by omega, by omega, by rw [pc_from (by omega)]; exact h2⟩
    have := h1 _ h3
    omega
  · exact h
  · exfalso
    rcases h0 with h0 | h0
    · omega
    · obtain ⟨x, hx, g1, g2, g3⟩ := (hl _).1 h0
      simp at hx; subst hx
      rw [pc_from (by omega)] at g3
      exact hn.no best h (by omega) g3
set_option maxHeartbeats 4000000 in
set_option maxRecDepth 100000 in
theorem rlongest_bad {p : List S50} {A : Option Addr} {c : Nat} {w : World} (hP : Pt w A c p) (hb : p.length * 40 ≤ 140737488351232) (s : ByteArray) (hs : s.size ≤ 1000000) (i : Int) (hbad : chk p ≠ 0 ∨ i < 0 ∨ (s.size : Int) < i) :
    Calls Tryd.prog 18 #[.slice A p.length c, .string s, .int .i64 i] w fun e w' => e = .returned (.tuple #[.int .i64 0, .bool false]) ∧ Below w.heap.size w w' := by
  have K := Lib.hid (rcheck_any hP hb)
  clear hP
  by_cases h1 : chk p = 0
  · rw [h1] at K hbad
    have hbad2 : i < 0 ∨ (s.size : Int) < i := by omega
    clear hbad
    by_cases h2 : i < 0
    · go_enter Tryd.func18, Tryd.ntmps18
      go_wp2_with (first | (go_at_call 22; refine K.out.mono ?_; rintro e w1 ⟨rfl, b1⟩; have B1 := Lib.hid b1; clear b1) | fail)
      go_ret2
      exact ⟨rfl, B1.out⟩
    · have h3 : (s.size : Int) < i := by omega
      go_enter Tryd.func18, Tryd.ntmps18
      go_wp2_with (first | (go_at_call 22; refine K.out.mono ?_; rintro e w1 ⟨rfl, b1⟩; have B1 := Lib.hid b1; clear b1) | fail)
      go_ret2
      exact ⟨rfl, B1.out⟩
  · have hbb : (chk p != 0) = true := by simpa using h1
    clear h1 hbad
    generalize chk p = z at *
    go_enter Tryd.func18, Tryd.ntmps18
    go_wp2_with (first | (go_at_call 22; refine K.out.mono ?_; rintro e w1 ⟨rfl, b1⟩; have B1 := Lib.hid b1; clear b1) | fail)
    go_ret2
    exact ⟨rfl, B1.out⟩
attribute [local go_sem] max2_int max_two
set_option maxHeartbeats 4000000 in
set_option maxRecDepth 100000 in
theorem rlongest_any {p : List S50} {t : Re} (g : Fine p t) {A : Option Addr} {c : Nat} {w : World} (hP : Pt w A c p) (s : ByteArray) (hs : s.size ≤ 1000000) (i : Nat) (hi : i ≤ s.size) (n : Nat) (hn : LongP t ((bytesOf s).drop i) n) :
    Calls Tryd.prog 18 #[.slice A p.length c, .string s, .int .i64 (i : Int)] w fun e w' => e = .returned (.tuple #[.int .i64 (n : Int), .bool (decide (0 < n))]) ∧ Below w.heap.size w w' := by
  have hpl := g.good.len
  have hp0 : 0 < p.length := by have := g.good.is.lt; omega
  have K := Lib.hid (rcheck_any hP (by omega))
  rw [g.good.chk] at K
  have HB : Hid (BehOK A c p s w (p.length - 1) t) := Lib.hid (behind_any hP hs g.good.is g.good.ok)
  have hsub : IntKind.i64.wrap ((p.length : Int) - 1) = ((p.length - 1 : Nat) : Int) := (IntWalk.i64_in _ (by omega)).trans (by omega)
  have HN := Lib.hid hn
  have hgt : decide ((s.size : Int) < (i : Int)) = false := decide_eq_false (by omega)
  clear hP hn g
  go_enter Tryd.func18, Tryd.ntmps18
  go_wp2_with (first | (go_at_call 22; refine K.out.mono ?_; rintro e w1 ⟨rfl, b1⟩; have B1 := Lib.hid b1; clear b1) | (go_at_call 45; refine (HB.out _ 1 [(i : Int)] (w1.alloc (.cells #[.int .i64 (i : Int)] 3)) (B1.out.alloc B1.out.size _) it_one (posn_one (by omega) (by omega))).mono ?_; rintro e w2 ⟨⟨l, E, ec⟩, rfl, g1, g2⟩; have HG := Lib.hid g1; have B2 := Lib.hid ((B1.out.alloc B1.out.size _).trans (g2.mono (B1.out.alloc B1.out.size _).size)); clear g1 g2) | fail)
  have hlen : l.length ≤ s.size + 1 := HG.out.pos.len
  go_loop [9, 10] (fun c9 c10 => ∃ (best k : Nat), c9 = .int .i64 (best : Int) ∧ c10 = .int .i64 (k : Int) ∧ k ≤ l.length ∧ best ≤ s.size ∧ Hid (best = 0 ∨ ((i : Int) + best) ∈ l) ∧ Hid (∀ y ∈ l.take k, y ≤ (i : Int) + best)) (fun _ c10 => l.length - (intOf c10).toNat)
  case atStart => exact ⟨0, 0, rfl, rfl, by omega, by omega, Lib.hid (.inl rfl), Lib.hid (by simp)⟩
  case round =>
    obtain ⟨best, k, rfl, rfl, hk, hbs, h0, h1⟩ := hrel
    by_cases hlt : k < l.length
    · have hkI : (k : Int) < (l.length : Int) := by omega
      obtain ⟨ad2, rfl, z0⟩ := Kd.at_int HG.out.it.C k (by omega) hkI
      have hxl : l[k] ∈ l := List.getElem_mem hlt
      have e : rd l (k : Int) = l[k] := by unfold rd; rw [Int.toNat_natCast, List.getD_eq_getElem?_getD, List.getElem?_eq_getElem hlt]; rfl
      rw [e] at z0
      simp only [Int.toNat_natCast] at z0
      have hr := HG.out.pos.rng _ hxl
      have ht : Hid (l.take (k + 1) = l.take k ++ [l[k]]) := Lib.hid (List.take_succ_eq_append_getElem hlt)
      have HX := Lib.hid hxl
      have hge : (i : Int) ≤ l[k] := by
        obtain ⟨x, hx, q1, _, _⟩ := (HG.out.beh l[k]).1 hxl
        simp at hx; subst hx; exact q1
      generalize l[k] = y at *
      clear e hxl
      obtain ⟨j, rfl⟩ := Int.eq_ofNat_of_zero_le hr.1
      obtain ⟨m, rfl⟩ : ∃ m, j = i + m := ⟨j - i, by omega⟩
      have hw : IntKind.i64.wrap (((i + m : Nat) : Int) - (i : Int)) = (m : Int) := (IntWalk.i64_in _ (by omega)).trans (by omega)
      by_cases hbm : best < m
      · go_wp2
        go_round
        case rel =>
          refine ⟨m, k + 1, by congr 1; omega, by go_num, by omega, by omega, Lib.hid (.inr ?_), Lib.hid ?_⟩
          · have := HX.out; rw [show (i : Int) + (m : Int) = ((i + m : Nat) : Int) by omega]; exact this
          · rw [ht.out]
            intro y hy
            rw [List.mem_append, List.mem_singleton] at hy
            rcases hy with hy | rfl
            · have := h1.out y hy; omega
            · omega
        case measure => simp [intOf]; omega
      · go_wp2
        go_round
        case rel =>
          refine ⟨best, k + 1, rfl, by go_num, by omega, by omega, h0, Lib.hid ?_⟩
          rw [ht.out]
          intro y hy
          rw [List.mem_append, List.mem_singleton] at hy
          rcases hy with hy | rfl
          · exact h1.out y hy
          · omega
        case measure => simp [intOf]; omega
    · have hke : k = l.length := by omega
      subst hke
      have hb : best = n := best_is hi HG.out.beh HN.out h0.out (by have := h1.out; rw [List.take_length] at this; exact this)
      subst hb
      clear h0 h1 HN
      go_wp2
      go_ret2
      refine ⟨?_, B2.out⟩
      simp
end Go.Proofs.YtaphblnelmncaaaDoor.PA
end

section
/- The reference's show. -/
set_option linter.unusedVariables false
namespace Go.Proofs.YtaphblnelmncaaaDoor.PA
open Go Go.RowKit Go.Proofs.YtaphblnelmncaaaDoorW.PrintWords Go.Proofs.YtaphblnelmncaaaDoorW.PrintLast Go.Proofs.YtaphblnelmncaaaDoorW.PrintMore

theorem rplain_f : ∀ b : Fin 256, koineref04_plain.f 9 (b.val : Int) = some (plainB (b.val : Int)) := by decide +kernel
theorem hex_cat : ∀ d m : Fin 16, (⟨#[92, 120]⟩ : ByteArray) ++ digits.extract d.val (d.val + 1) ++ digits.extract m.val (m.val + 1) = strOfNums [92, 120, bt digits (d.val : Int), bt digits (m.val : Int)] := by decide +kernel
set_option maxHeartbeats 1000000 in
set_option maxRecDepth 100000 in
theorem rshow_any (b : Int) (h0 : 0 ≤ b) (h1 : b ≤ 255) (w : World) :
    Calls Tryd.prog 75 #[.int .i64 b] w fun e w' => e = .returned (.string (strOfNums (chrL b))) ∧ Below w.heap.size w w' := by
  have hw8 : IntKind.u8.wrap b = b := IntWalk.u8_in _ (by omega)
  have K : Hid (∀ w1, Calls Tryd.prog 90 #[.int .u8 b] w1 fun e w' => e = .returned (.bool (plainB b)) ∧ ∃ m, w' = w1.drewN m) := Lib.hid (fun w1 => by
    obtain ⟨n, rfl⟩ := Int.eq_ofNat_of_zero_le h0
    exact (koineref04_plain.calls 9 (n : Int) _ w1 (rplain_f ⟨n, by omega⟩)).mono fun e w' ⟨he, hd⟩ => ⟨he, hd.out⟩)
  cases hp : plainB b with
  | true =>
    rw [hp] at K
    have HE : Hid (chrL b = [b]) := Lib.hid (by unfold chrL; rw [if_pos hp])
    rw [HE.out]
    clear hp
    have hc : ∀ k, (convert 22 9 (.slice (some ⟨w.heap.size, 0, none⟩) 1 1)).run Tryd.prog ((w.drewN k).alloc (.cells #[.int .u8 b] 5)) = .ok (.string (strOfNums [b])) ((w.drewN k).alloc (.cells #[.int .u8 b] 5)) := fun k => conv_new (w.drewN k) _ rfl [b] (by simp)
    go_enter Tryd.func75, Tryd.ntmps75
    go_wp2_with fail
    refine (K.out _).mono ?_
    rintro e w1 ⟨rfl, nn, rfl⟩
    go_wp2
    go_ret
    exact ⟨rfl, (pw_below_drewN (Below.refl _ _) _).alloc (by simp) _⟩
  | false =>
    rw [hp] at K
    have HE : Hid (chrL b = [92, 120, bt digits (b / 16), bt digits (b % 16)]) := Lib.hid (by unfold chrL; rw [if_neg (by simp [hp])])
    rw [HE.out]
    clear hp
    obtain ⟨d, hd, hdl⟩ : ∃ d : Nat, (d : Int) = b / 16 ∧ d < 16 := ⟨(b / 16).toNat, by omega, by omega⟩
    obtain ⟨m, hm, hml⟩ : ∃ m : Nat, (m : Int) = b % 16 ∧ m < 16 := ⟨(b % 16).toNat, by omega, by omega⟩
    have hq : IntKind.i64.wrap (b.tdiv 16) = (d : Int) := by rw [Int.tdiv_eq_ediv_of_nonneg h0, ← hd]; exact IntWalk.i64_in _ (by omega)
    have hr : b.tmod 16 = (m : Int) := by rw [Int.tmod_eq_emod_of_nonneg h0, ← hm]
    have hd1 : IntKind.i64.wrap ((d : Int) + 1) = (d : Int) + 1 := IntWalk.i64_in _ (by omega)
    have hm1 : IntKind.i64.wrap ((m : Int) + 1) = (m : Int) + 1 := IntWalk.i64_in _ (by omega)
    have hd16 : (d : Int) + 1 ≤ 16 := by omega
    have hm16 : (m : Int) + 1 ≤ 16 := by omega
    have hd2 : (d : Int) ≤ (d : Int) + 1 := by omega
    have hm2 : (m : Int) ≤ (m : Int) + 1 := by omega
    have hd3 : ((d : Int) + 1).toNat = d + 1 := by omega
    have hm3 : ((m : Int) + 1).toNat = m + 1 := by omega
    have hd4 : ((⟨#[48, 49, 50, 51, 52, 53, 54, 55, 56, 57, 97, 98, 99, 100, 101, 102]⟩ : ByteArray).extract d (d + 1)).size = 1 := by rw [ByteArray.size_extract]; show min (d + 1) 16 - d = 1; omega
    have hm4 : ((⟨#[48, 49, 50, 51, 52, 53, 54, 55, 56, 57, 97, 98, 99, 100, 101, 102]⟩ : ByteArray).extract m (m + 1)).size = 1 := by rw [ByteArray.size_extract]; show min (m + 1) 16 - m = 1; omega
    rw [← hd, ← hm]
    have HC := Lib.hid (hex_cat ⟨d, hdl⟩ ⟨m, hml⟩)
    unfold digits at HC
    simp only at HC
    rw [show bt digits (d : Int) = bt (⟨#[48, 49, 50, 51, 52, 53, 54, 55, 56, 57, 97, 98, 99, 100, 101, 102]⟩ : ByteArray) (d : Int) from rfl, show bt digits (m : Int) = bt (⟨#[48, 49, 50, 51, 52, 53, 54, 55, 56, 57, 97, 98, 99, 100, 101, 102]⟩ : ByteArray) (m : Int) from rfl, ← HC.out]
    clear hd hm
    go_enter Tryd.func75, Tryd.ntmps75
    go_wp2_with fail
    refine (K.out _).mono ?_
    rintro e w1 ⟨rfl, nn, rfl⟩
    go_wp2_with fail
    go_quiet (fail)
    go_wp2
    go_ret
    exact ⟨rfl, pw_below_drewN (pw_below_drewN (Below.refl _ _) _) _⟩
end Go.Proofs.YtaphblnelmncaaaDoor.PA
end

section
/- The reference's text: nothing. -/
set_option linter.unusedVariables false
namespace Go.Proofs.YtaphblnelmncaaaDoor.PA
open Go Go.RowKit Go.Proofs.YtaphblnelmncaaaDoorW.PrintWords Go.Proofs.YtaphblnelmncaaaDoorW.PrintLast Go.Proofs.YtaphblnelmncaaaDoorW.PrintMore

section
variable {ρ : Operand → Value} {x y : Operand} {b o : Nat}
theorem x_f1t50 (hx : ρ x = .pointer (some ⟨b, o, none⟩)) : ∀ oi : Oper, oi.op = .fieldAddr 50 x 1 → ∀ w : World, (execOp ρ oi).run Tryd.prog w = .ok (.value (.pointer (some ⟨b, o + 1, none⟩))) w := by
  intro oi hop w
  obtain ⟨d, op, ty, po, af, gu⟩ := oi
  simp only at hop; subst hop
  go_simp
theorem x_f2t50 (hx : ρ x = .pointer (some ⟨b, o, none⟩)) : ∀ oi : Oper, oi.op = .fieldAddr 50 x 2 → ∀ w : World, (execOp ρ oi).run Tryd.prog w = .ok (.value (.pointer (some ⟨b, o + 2, none⟩))) w := by
  intro oi hop w
  obtain ⟨d, op, ty, po, af, gu⟩ := oi
  simp only at hop; subst hop
  go_simp
theorem x_eqi {u v : Int} {r : Bool} (hx : ρ x = .int .i64 u) (hy : ρ y = .int .i64 v) (hr : (u == v) = r) : ∀ oi : Oper, oi.op = .binOp .eql 3 x y 3 → ∀ w : World, (execOp ρ oi).run Tryd.prog w = .ok (.value (.bool r)) w := by
  intro oi hop w
  obtain ⟨d, op, ty, po, af, gu⟩ := oi
  simp only at hop; subst hop
  subst hr
  go_simp
end
/-- The kinds of nodes as levels. -/
theorem kind_lev {p : List S50} {i : Nat} {t : Re} (h : IsRe p i t) : ∃ x, p[i]? = some x ∧ decide (t.lev < 1) = false ∧ decide (t.lev < 2) = (x.f0 == 3) ∧ decide (t.lev < 3) = (x.f0 == 3 || x.f0 == 2) := by
  cases h with
  | emp _ x h hk => exact ⟨_, h, rfl, by rw [hk]; rfl, by rw [hk]; rfl⟩
  | rng _ x h hk => exact ⟨_, h, rfl, by rw [hk]; rfl, by rw [hk]; rfl⟩
  | seq _ x a b s t h hk => exact ⟨_, h, rfl, by rw [hk]; rfl, by rw [hk]; rfl⟩
  | alt _ x a b s t h hk => exact ⟨_, h, rfl, by rw [hk]; rfl, by rw [hk]; rfl⟩
  | rep _ x a s h hk => exact ⟨_, h, rfl, by rw [hk]; rfl, by rw [hk]; rfl⟩
def TextOK (A : Option Addr) (c : Nat) (p : List S50) (w0 : World) (i : Nat) (t : Re) : Prop :=
  ∀ w, Below w0.heap.size w0 w → Calls Tryd.prog 48 #[.slice A p.length c, .int .i64 (i : Int)] w fun e w' => e = .returned (.string (strOfNums t.str)) ∧ Below w.heap.size w w'
set_option maxHeartbeats 4000000 in
theorem rgroup_any {A : Option Addr} {c : Nat} {p : List S50} {w0 : World} {i : Nat} {t : Re} (h : TextOK A c p w0 i t) (hs : t.str.length ≤ 1000000) (b : Bool) (w : World) (hw : Below w0.heap.size w0 w) :
    Calls Tryd.prog 76 #[.slice A p.length c, .int .i64 (i : Int), .bool b] w fun e w' => e = .returned (.string (strOfNums (par b t.str))) ∧ Below w.heap.size w w' := by
  have K := Lib.hid (h w hw)
  clear h
  obtain ⟨s1, hs1⟩ : ∃ s, s = strOfNums t.str := ⟨_, rfl⟩
  have hz : s1.size ≤ 1000000 := by rw [hs1, strOfNums_size]; exact hs
  rw [← hs1] at K
  have e1 : ((⟨#[40]⟩ : ByteArray) ++ s1).size = 1 + s1.size := by rw [ByteArray.size_append]; rfl
  have HP : Hid (strOfNums (par b t.str) = if b = true then (⟨#[40]⟩ : ByteArray) ++ s1 ++ ⟨#[41]⟩ else s1) := Lib.hid (by
    cases b
    · exact hs1.symm
    · rw [if_pos rfl, hs1]
      rw [show (⟨#[40]⟩ : ByteArray) = strOfNums [40] from rfl, show (⟨#[41]⟩ : ByteArray) = strOfNums [41] from rfl]
      simp only [par, strOfNums_app, List.append_assoc, List.cons_append, List.nil_append]; rfl)
  rw [HP.out]
  clear hs1 HP
  cases b
  · go_enter Tryd.func76, Tryd.ntmps76
    go_wp2_with (first | (go_at_call 48; refine K.out.mono ?_; rintro e w1 ⟨rfl, b1⟩; have B1 := Lib.hid b1; clear b1) | fail)
    go_ret
    exact ⟨rfl, B1.out⟩
  · go_enter Tryd.func76, Tryd.ntmps76
    go_wp2_with (first | (go_at_call 48; refine K.out.mono ?_; rintro e w1 ⟨rfl, b1⟩; have B1 := Lib.hid b1; clear b1) | fail)
    go_ret
    exact ⟨rfl, B1.out⟩
set_option maxHeartbeats 4000000 in
set_option maxRecDepth 100000 in
theorem text_emp {A : Option Addr} {c : Nat} {p : List S50} {w0 : World} (hP : Pt w0 A c p) (hV : Valid p) (i : Nat) (lo hi f3 f4 : Int) (hx : p[i]? = some ⟨0, lo, hi, f3, f4⟩) : TextOK A c p w0 i .emp := by
  intro w hw
  have hip := (List.getElem?_eq_some_iff.1 hx).1
  have hibI : (i : Int) < (p.length : Int) := by omega
  have hrd : rd_T50 p i = ⟨0, lo, hi, f3, f4⟩ := by simp [rd_T50, List.getD_eq_getElem?_getD, hx]
  have hb1 := (hV.ok i hip).1
  rw [hrd, baseOk_iff] at hb1
  have h3 : f3 = ((0 : Nat) : Int) := by have := hb1.2.1; simp [ari] at this; omega
  have h4 : f4 = ((0 : Nat) : Int) := by have := hb1.2.2; simp [ari] at this; omega
  subst h3 h4
  have haI : ((0 : Nat) : Int) < (p.length : Int) := by omega
  clear hb1
  obtain ⟨ad, rfl, x0, x1, x2, x3, x4⟩ := at_T50 (Kd.C_below hP.C hw) i (by omega) hibI
  rw [hrd] at x0 x1 x2 x3 x4
  obtain ⟨ad1, e1, xa, _⟩ := at_T50 (Kd.C_below hP.C hw) ((0 : Nat) : Int) (by omega) haI
  cases e1
  simp only [Int.toNat_natCast] at x0 x1 x2 x3 x4 xa
  generalize (rd_T50 p ((0 : Nat) : Int)).f0 = ka at *
  replace xa : w.cell? ad = some (.int .i64 ka) := by simpa [Addr.add] using xa
  have b2 := World.block_lt_of_cell? w _ x0
  have b3 := World.block_lt_of_cell? w _ xa
  have HE : Hid (strOfNums Re.emp.str = ⟨#[40, 41]⟩) := Lib.hid rfl
  rw [HE.out]
  clear hP hV hx hrd hw
  go_enter Tryd.func48, Tryd.ntmps48
  go_wp2
  go_ret
  exact ⟨rfl, (Below.refl _ _).alloc (Nat.le_refl _) _⟩
set_option maxHeartbeats 4000000 in
set_option maxRecDepth 100000 in
theorem text_rng {A : Option Addr} {c : Nat} {p : List S50} {w0 : World} (hP : Pt w0 A c p) (hV : Valid p) (i : Nat) (lo hi f3 f4 : Int) (hok : 0 ≤ lo ∧ lo ≤ hi ∧ hi ≤ 255) (hx : p[i]? = some ⟨1, lo, hi, f3, f4⟩) : TextOK A c p w0 i (.rng lo hi i) := by
  intro w hw
  have hip := (List.getElem?_eq_some_iff.1 hx).1
  have hibI : (i : Int) < (p.length : Int) := by omega
  have hrd : rd_T50 p i = ⟨1, lo, hi, f3, f4⟩ := by simp [rd_T50, List.getD_eq_getElem?_getD, hx]
  have hb1 := (hV.ok i hip).1
  rw [hrd, baseOk_iff] at hb1
  have h3 : f3 = ((0 : Nat) : Int) := by have := hb1.2.1; simp [ari] at this; omega
  have h4 : f4 = ((0 : Nat) : Int) := by have := hb1.2.2; simp [ari] at this; omega
  subst h3 h4
  have haI : ((0 : Nat) : Int) < (p.length : Int) := by omega
  clear hb1
  obtain ⟨ad, rfl, x0, x1, x2, x3, x4⟩ := at_T50 (Kd.C_below hP.C hw) i (by omega) hibI
  rw [hrd] at x0 x1 x2 x3 x4
  obtain ⟨ad1, e1, xa, _⟩ := at_T50 (Kd.C_below hP.C hw) ((0 : Nat) : Int) (by omega) haI
  cases e1
  simp only [Int.toNat_natCast] at x0 x1 x2 x3 x4 xa
  generalize (rd_T50 p ((0 : Nat) : Int)).f0 = ka at *
  replace xa : w.cell? ad = some (.int .i64 ka) := by simpa [Addr.add] using xa
  have b2 := World.block_lt_of_cell? w _ x0
  have b3 := World.block_lt_of_cell? w _ xa
  obtain ⟨s1, hs1⟩ : ∃ s, s = strOfNums (chrL lo) := ⟨_, rfl⟩
  obtain ⟨s2, hs2⟩ : ∃ s, s = strOfNums (chrL hi) := ⟨_, rfl⟩
  have hz1 : s1.size ≤ 4 := by rw [hs1, strOfNums_size]; exact chrL_length lo
  have hz2 : s2.size ≤ 4 := by rw [hs2, strOfNums_size]; exact chrL_length hi
  have z0 : (⟨#[91]⟩ : ByteArray).size = 1 := rfl
  have z1 : (⟨#[45]⟩ : ByteArray).size = 1 := rfl
  have z6 : (⟨#[93]⟩ : ByteArray).size = 1 := rfl
  have z3 : ((⟨#[91]⟩ : ByteArray) ++ s1).size = 1 + s1.size := by rw [ByteArray.size_append]; rfl
  have z4 : ((⟨#[91]⟩ : ByteArray) ++ s1 ++ ⟨#[45]⟩).size = 2 + s1.size := by rw [ByteArray.size_append, z3, z1]; omega
  have z5 : ((⟨#[91]⟩ : ByteArray) ++ s1 ++ ⟨#[45]⟩ ++ s2).size = 2 + s1.size + s2.size := by rw [ByteArray.size_append, z4]
  have K1 : Hid (∀ w1, Calls Tryd.prog 75 #[.int .i64 lo] w1 fun e w' => e = .returned (.string s1) ∧ Below w1.heap.size w1 w') := Lib.hid (fun w1 => by rw [hs1]; exact rshow_any lo (by omega) (by omega) w1)
  have K2 : Hid (∀ w1, Calls Tryd.prog 75 #[.int .i64 hi] w1 fun e w' => e = .returned (.string s2) ∧ Below w1.heap.size w1 w') := Lib.hid (fun w1 => by rw [hs2]; exact rshow_any hi (by omega) (by omega) w1)
  by_cases hlh : lo = hi
  · have HE : Hid (strOfNums (Re.rng lo hi i).str = s1) := Lib.hid (by simp only [Re.str]; rw [if_neg (by omega), hs1])
    rw [HE.out]
    have hbq : (lo == hi) = true := beq_iff_eq.2 hlh
    clear hP hV hx hrd hw hs1 hs2 K2 hlh
    go_enter Tryd.func48, Tryd.ntmps48
    go_wp2_with (first | (go_at_call 75; refine (K1.out _).mono ?_; rintro e w1 ⟨rfl, b1⟩; have B1 := Lib.hid (below_node b1); clear b1) | fail)
    go_ret
    exact ⟨rfl, B1.out⟩
  · have HE : Hid (strOfNums (Re.rng lo hi i).str = (⟨#[91]⟩ : ByteArray) ++ s1 ++ ⟨#[45]⟩ ++ s2 ++ ⟨#[93]⟩) := Lib.hid (by
      simp only [Re.str]
      rw [if_pos (by omega), hs1, hs2, show (⟨#[91]⟩ : ByteArray) = strOfNums [91] from rfl, show (⟨#[45]⟩ : ByteArray) = strOfNums [45] from rfl, show (⟨#[93]⟩ : ByteArray) = strOfNums [93] from rfl]
      simp only [strOfNums_app, List.append_assoc, List.cons_append, List.nil_append])
    rw [HE.out]
    have hbq : (lo == hi) = false := beq_eq_false_iff_ne.2 hlh
    clear hP hV hx hrd hw hs1 hs2 hlh
    go_enter Tryd.func48, Tryd.ntmps48
    go_wp2_with fail
    generalize hW : World.alloc _ _ = W
    have HE1 : Hid (Blk W w.heap.size 50 [.int .i64 1, .int .i64 lo, .int .i64 hi, .int .i64 ((0 : Nat) : Int), .int .i64 ((0 : Nat) : Int)]) := Lib.hid (by subst hW; exact Blk.new w _ 50)
    have hbW : Hid (Below w.heap.size w W) := Lib.hid (by subst hW; exact (Below.refl _ _).alloc (Nat.le_refl _) _)
    clear hW
    refine region_rule (ε := Unit) 11 [0, 1, 3, 7, 15, 0, 32, 103, 255, 511, 1023] [2, 7] [some 36, some 37, some 38, some 39, some 40, some 41, some 42, some 43, some 44, some 45, some 4] (fun _ => [(.pointer (some ⟨w.heap.size, 1, none⟩)), (.int .i64 lo), (.string s1), (.string ((⟨#[91]⟩ : ByteArray) ++ s1)), (.string ((⟨#[91]⟩ : ByteArray) ++ s1 ++ ⟨#[45]⟩)), (.pointer (some ⟨w.heap.size, 2, none⟩)), (.int .i64 hi), (.string s2), (.string ((⟨#[91]⟩ : ByteArray) ++ s1 ++ ⟨#[45]⟩ ++ s2)), (.string ((⟨#[91]⟩ : ByteArray) ++ s1 ++ ⟨#[45]⟩ ++ s2 ++ ⟨#[93]⟩)), (.string ((⟨#[91]⟩ : ByteArray) ++ s1 ++ ⟨#[45]⟩ ++ s2 ++ ⟨#[93]⟩))]) (fun k _ w1 => Hid (Below w.heap.size w w1) ∧ Hid (Blk w1 w.heap.size 50 [.int .i64 1, .int .i64 lo, .int .i64 hi, .int .i64 ((0 : Nat) : Int), .int .i64 ((0 : Nat) : Int)])) 92 () (by kernel_rfl) rfl rfl (by kernel_rfl) rfl (by decide) (by kernel_rfl) ?h0 (AllOb.lt ?hob) ?hend
    case hob =>
      refine ⟨⟨⟨⟨⟨⟨⟨⟨⟨⟨⟨trivial, ?_⟩, ?_⟩, ?_⟩, ?_⟩, ?_⟩, ?_⟩, ?_⟩, ?_⟩, ?_⟩, ?_⟩, ?_⟩
      · exact ob_val _ _ _ rfl rfl (fun _ => rfl) (fun _ => x_f1t50 (by kernel_rfl))
      · exact ob_read _ _ _ rfl rfl (fun _ => rfl) (fun k _ w1 h1 h2 h3 => by
          have h3 : Hid (Below w.heap.size w w1) ∧ Hid (Blk w1 w.heap.size 50 [.int .i64 1, .int .i64 lo, .int .i64 hi, .int .i64 ((0 : Nat) : Int), .int .i64 ((0 : Nat) : Int)]) := h3
          exact x_load3 (by kernel_rfl) w1 (h3.2.out.cell 1))
      · exact ob_call _ _ (f := 75) Tryd.func75 rfl rfl (fun _ => #[.int .i64 lo]) rfl rfl (fun _ => rfl) (fun _ => by kernel_rfl) (fun k _ w1 h1 h2 h3 => by
          have h3 : Hid (Below w.heap.size w w1) ∧ Hid (Blk w1 w.heap.size 50 [.int .i64 1, .int .i64 lo, .int .i64 hi, .int .i64 ((0 : Nat) : Int), .int .i64 ((0 : Nat) : Int)]) := h3
          refine (K1.out w1).mono ?_
          rintro e w2 ⟨rfl, g1⟩
          exact ⟨(), rfl, ⟨Lib.hid (h3.1.out.trans (g1.mono h3.1.out.size)), Lib.hid (h3.2.out.below g1)⟩, fun j _ _ => rfl⟩)
      · exact ob_val _ _ _ rfl rfl (fun _ => rfl) (fun _ => x_cat (by kernel_rfl) (by kernel_rfl) (by rw [z0]; omega))
      · exact ob_val _ _ _ rfl rfl (fun _ => rfl) (fun _ => x_cat (by kernel_rfl) (by kernel_rfl) (by rw [z3]; rw [z1]; omega))
      · exact ob_val _ _ _ rfl rfl (fun _ => rfl) (fun _ => x_f2t50 (by kernel_rfl))
      · exact ob_read _ _ _ rfl rfl (fun _ => rfl) (fun k _ w1 h1 h2 h3 => by
          have h3 : Hid (Below w.heap.size w w1) ∧ Hid (Blk w1 w.heap.size 50 [.int .i64 1, .int .i64 lo, .int .i64 hi, .int .i64 ((0 : Nat) : Int), .int .i64 ((0 : Nat) : Int)]) := h3
          exact x_load3 (by kernel_rfl) w1 (h3.2.out.cell 2))
      · exact ob_call _ _ (f := 75) Tryd.func75 rfl rfl (fun _ => #[.int .i64 hi]) rfl rfl (fun _ => rfl) (fun _ => by kernel_rfl) (fun k _ w1 h1 h2 h3 => by
          have h3 : Hid (Below w.heap.size w w1) ∧ Hid (Blk w1 w.heap.size 50 [.int .i64 1, .int .i64 lo, .int .i64 hi, .int .i64 ((0 : Nat) : Int), .int .i64 ((0 : Nat) : Int)]) := h3
          refine (K2.out w1).mono ?_
          rintro e w2 ⟨rfl, g1⟩
          exact ⟨(), rfl, ⟨Lib.hid (h3.1.out.trans (g1.mono h3.1.out.size)), Lib.hid (h3.2.out.below g1)⟩, fun j _ _ => rfl⟩)
      · exact ob_val _ _ _ rfl rfl (fun _ => rfl) (fun _ => x_cat (by kernel_rfl) (by kernel_rfl) (by rw [z4]; omega))
      · exact ob_val _ _ _ rfl rfl (fun _ => rfl) (fun _ => x_cat (by kernel_rfl) (by kernel_rfl) (by rw [z5, z6]; omega))
      · exact ob_assign _ _ _ rfl rfl (fun _ => rfl) (fun _ => by kernel_rfl)
    case h0 => exact ⟨Lib.hid (below_drew1 hbW.out), Lib.hid HE1.out.drew⟩
    case hend =>
      intro _ w1 hW
      have hW : Hid (Below w.heap.size w w1) ∧ Hid (Blk w1 w.heap.size 50 [.int .i64 1, .int .i64 lo, .int .i64 hi, .int .i64 ((0 : Nat) : Int), .int .i64 ((0 : Nat) : Int)]) := hW
      simp only [putsL, List.tail_cons, List.headD_cons, Act.put, List.setIfInBounds_toArray, List.set_cons_zero, List.set_cons_succ]
      go_wp2
      go_ret
      exact ⟨rfl, hW.1.out⟩
end Go.Proofs.YtaphblnelmncaaaDoor.PA
end

section
/- The reference's text: sequences, alternatives. -/
set_option linter.unusedVariables false
namespace Go.Proofs.YtaphblnelmncaaaDoor.PA
open Go Go.RowKit Go.Proofs.YtaphblnelmncaaaDoorW.PrintWords Go.Proofs.YtaphblnelmncaaaDoorW.PrintLast Go.Proofs.YtaphblnelmncaaaDoorW.PrintMore

abbrev TX (w0 w w1 : World) (nd : List Value) : Prop := Hid (Below w0.heap.size w0 w1) ∧ Hid (Below w.heap.size w w1) ∧ Hid (Blk w1 w.heap.size 50 nd)
set_option maxHeartbeats 4000000 in
set_option maxRecDepth 100000 in
theorem text_seq {A : Option Addr} {c : Nat} {p : List S50} {w0 : World} (hP : Pt w0 A c p) (hV : Valid p) (i : Nat) (lo hi : Int) (a b : Nat) (a' b' : Re) (ya1 : a'.str.length ≤ 1000000) (yb1 : b'.str.length ≤ 1000000) (ia : IsRe p a a') (ib : IsRe p b b') (ha : TextOK A c p w0 a a') (hb : TextOK A c p w0 b b') (hx : p[i]? = some ⟨2, lo, hi, (a : Int), (b : Int)⟩) : TextOK A c p w0 i (.seq a' b') := by
  intro w hw
  have hip := (List.getElem?_eq_some_iff.1 hx).1
  have hibI : (i : Int) < (p.length : Int) := by omega
  have hrd : rd_T50 p i = ⟨2, lo, hi, (a : Int), (b : Int)⟩ := by simp [rd_T50, List.getD_eq_getElem?_getD, hx]
  have haI : (a : Int) < (p.length : Int) := by have := ia.lt; omega
  have hbI : (b : Int) < (p.length : Int) := by have := ib.lt; omega
  obtain ⟨ad, rfl, x0, x1, x2, x3, x4⟩ := at_T50 (Kd.C_below hP.C hw) i (by omega) hibI
  rw [hrd] at x0 x1 x2 x3 x4
  obtain ⟨ad1, e1, xa, _⟩ := at_T50 (Kd.C_below hP.C hw) (a : Int) (by omega) haI
  cases e1
  obtain ⟨ad2, e2, xb, _⟩ := at_T50 (Kd.C_below hP.C hw) (b : Int) (by omega) hbI
  cases e2
  simp only [Int.toNat_natCast] at x0 x1 x2 x3 x4 xa xb
  obtain ⟨ya, hya, la1, la2, la3⟩ := kind_lev ia
  obtain ⟨yb, hyb, lb1, lb2, lb3⟩ := kind_lev ib
  rw [show rd_T50 p (a : Int) = ya by simp [rd_T50, List.getD_eq_getElem?_getD, hya]] at xa
  rw [show rd_T50 p (b : Int) = yb by simp [rd_T50, List.getD_eq_getElem?_getD, hyb]] at xb
  generalize ya.f0 = ka at *
  generalize yb.f0 = kb at *
  clear hya hyb
  have b2 := World.block_lt_of_cell? w _ x0
  have b3 := World.block_lt_of_cell? w _ xa
  have b4 := World.block_lt_of_cell? w _ xb
  have HW := Lib.hid hw
  obtain ⟨r1, hr1⟩ : ∃ r, (ka == 3) = r := ⟨_, rfl⟩
  rw [hr1] at la2
  by_cases hk : kb = 3
  · have hb3 : (kb == 3) = true := beq_iff_eq.2 hk
    rw [hb3, Bool.true_or] at lb3
    clear hk
    obtain ⟨s1, hs1⟩ : ∃ s, s = strOfNums (par r1 a'.str) := ⟨_, rfl⟩
    obtain ⟨s2, hs2⟩ : ∃ s, s = strOfNums (par true b'.str) := ⟨_, rfl⟩
    have hz1 : s1.size ≤ 1000002 := by rw [hs1, strOfNums_size]; have := par_length r1 a'.str; omega
    have hz2 : s2.size ≤ 1000002 := by rw [hs2, strOfNums_size]; have := par_length true b'.str; omega
    have zb : (⟨#[124]⟩ : ByteArray).size = 1 := rfl
    have HKa : Hid (∀ w1, Below w0.heap.size w0 w1 → Calls Tryd.prog 76 #[.slice (some ad) p.length c, .int .i64 (a : Int), .bool r1] w1 fun e w' => e = .returned (.string s1) ∧ Below w1.heap.size w1 w') := Lib.hid (fun w1 h1 => by rw [hs1]; exact rgroup_any ha ya1 r1 w1 h1)
    have HKb : Hid (∀ w1, Below w0.heap.size w0 w1 → Calls Tryd.prog 76 #[.slice (some ad) p.length c, .int .i64 (b : Int), .bool true] w1 fun e w' => e = .returned (.string s2) ∧ Below w1.heap.size w1 w') := Lib.hid (fun w1 h1 => by rw [hs2]; exact rgroup_any hb yb1 true w1 h1)
    have HE : Hid (strOfNums (Re.seq a' b').str = s1 ++ s2) := Lib.hid (by
      simp only [Re.str]
      rw [hs1, hs2, la2, lb3]
      simp only [strOfNums_app, List.append_assoc, List.cons_append, List.nil_append])
    rw [HE.out]
    clear hP hV hx hrd hw hs1 hs2 ha hb la1 la2 la3 lb1 lb2 lb3 ia ib
    go_enter Tryd.func48, Tryd.ntmps48
    go_wp2_with fail
    generalize hW : World.alloc _ _ = W
    have HE1 : Hid (Blk W w.heap.size 50 [.int .i64 2, .int .i64 lo, .int .i64 hi, .int .i64 (a : Int), .int .i64 (b : Int)]) := Lib.hid (by subst hW; exact Blk.new w _ 50)
    have hbW : Hid (Below w.heap.size w W) := Lib.hid (by subst hW; exact (Below.refl _ _).alloc (Nat.le_refl _) _)
    clear hW
    refine region_rule (ε := Unit) 18 [0, 0, 2, 0, 8, 31, 0, 0, 128, 0, 512, 1599, 3647, 7743, 15935, 32767, 65535, 131071] [5, 15] [some 48, some 49, some 50, some 51, some 52, some 53, some 54, some 55, some 56, some 57, some 58, some 59, some 60, some 61, some 62, some 63, some 64, some 4] (fun _ => [(.slice (some ad) p.length c), (.pointer (some ⟨w.heap.size, 3, none⟩)), (.int .i64 (a : Int)), (.int .i64 ka), (.bool r1), (.string s1), (.slice (some ad) p.length c), (.pointer (some ⟨w.heap.size, 4, none⟩)), (.int .i64 (b : Int)), (.int .i64 kb), (.bool true), (.bool true), undef, undef, (.bool true), (.string s2), (.string (s1 ++ s2)), (.string (s1 ++ s2))]) (fun k _ w1 => TX w0 w w1 [.int .i64 2, .int .i64 lo, .int .i64 hi, .int .i64 (a : Int), .int .i64 (b : Int)]) 92 () (by kernel_rfl) rfl rfl (by kernel_rfl) rfl (by decide) (by kernel_rfl) ?h0 (AllOb.lt ?hob) ?hend
    case hob =>
      refine ⟨⟨⟨⟨⟨⟨⟨⟨⟨⟨⟨⟨⟨⟨⟨⟨⟨⟨trivial, ?_⟩, ?_⟩, ?_⟩, ?_⟩, ?_⟩, ?_⟩, ?_⟩, ?_⟩, ?_⟩, ?_⟩, ?_⟩, ?_⟩, ?_⟩, ?_⟩, ?_⟩, ?_⟩, ?_⟩, ?_⟩
      · exact ob_move _ _ _ rfl rfl (fun _ => rfl) (fun _ => by kernel_rfl)
      · exact ob_val _ _ _ rfl rfl (fun _ => rfl) (fun _ => x_f3t50 (by kernel_rfl))
      · exact ob_read _ _ _ rfl rfl (fun _ => rfl) (fun k _ w1 h1 h2 h3 => by
          have h3 : TX w0 w w1 [.int .i64 2, .int .i64 lo, .int .i64 hi, .int .i64 (a : Int), .int .i64 (b : Int)] := h3
          exact x_load3 (by kernel_rfl) w1 (h3.2.2.out.cell 3))
      · exact ob_move _ _ _ rfl rfl (fun _ => rfl) (fun _ => by kernel_rfl)
      · exact ob_val _ _ _ rfl rfl (fun _ => rfl) (fun _ => x_eqi (by kernel_rfl) (by kernel_rfl) hr1)
      · exact ob_call _ _ (f := 76) Tryd.func76 rfl rfl (fun _ => #[.slice (some ad) p.length c, .int .i64 (a : Int), .bool r1]) rfl rfl (fun _ => rfl) (fun _ => by kernel_rfl) (fun k _ w1 h1 h2 h3 => by
          have h3 : TX w0 w w1 [.int .i64 2, .int .i64 lo, .int .i64 hi, .int .i64 (a : Int), .int .i64 (b : Int)] := h3
          refine (HKa.out w1 h3.1.out).mono ?_
          rintro e w2 ⟨rfl, g1⟩
          exact ⟨(), rfl, ⟨Lib.hid (h3.1.out.trans (g1.mono h3.1.out.size)), Lib.hid (h3.2.1.out.trans (g1.mono h3.2.1.out.size)), Lib.hid (h3.2.2.out.below g1)⟩, fun j _ _ => rfl⟩)
      · exact ob_move _ _ _ rfl rfl (fun _ => rfl) (fun _ => by kernel_rfl)
      · exact ob_val _ _ _ rfl rfl (fun _ => rfl) (fun _ => x_f4t50 (by kernel_rfl))
      · exact ob_read _ _ _ rfl rfl (fun _ => rfl) (fun k _ w1 h1 h2 h3 => by
          have h3 : TX w0 w w1 [.int .i64 2, .int .i64 lo, .int .i64 hi, .int .i64 (a : Int), .int .i64 (b : Int)] := h3
          exact x_load3 (by kernel_rfl) w1 (h3.2.2.out.cell 4))
      · exact ob_move _ _ _ rfl rfl (fun _ => rfl) (fun _ => by kernel_rfl)
      · exact ob_val _ _ _ rfl rfl (fun _ => rfl) (fun _ => x_eqi (by kernel_rfl) (by kernel_rfl) hb3)
      · exact ob_move _ _ _ rfl rfl (fun _ => rfl) (fun _ => by kernel_rfl)
      · exact ob_skip _ _ _ rfl rfl (fun _ => rfl) (fun _ => rfl)
      · exact ob_skip _ _ _ rfl rfl (fun _ => rfl) (fun _ => rfl)
      · exact ob_pick _ _ _ _ true _ rfl rfl (fun _ => rfl) (fun _ => by kernel_rfl) (fun _ => by kernel_rfl)
      · exact ob_call _ _ (f := 76) Tryd.func76 rfl rfl (fun _ => #[.slice (some ad) p.length c, .int .i64 (b : Int), .bool true]) rfl rfl (fun _ => rfl) (fun _ => by kernel_rfl) (fun k _ w1 h1 h2 h3 => by
          have h3 : TX w0 w w1 [.int .i64 2, .int .i64 lo, .int .i64 hi, .int .i64 (a : Int), .int .i64 (b : Int)] := h3
          refine (HKb.out w1 h3.1.out).mono ?_
          rintro e w2 ⟨rfl, g1⟩
          exact ⟨(), rfl, ⟨Lib.hid (h3.1.out.trans (g1.mono h3.1.out.size)), Lib.hid (h3.2.1.out.trans (g1.mono h3.2.1.out.size)), Lib.hid (h3.2.2.out.below g1)⟩, fun j _ _ => rfl⟩)
      · exact ob_val _ _ _ rfl rfl (fun _ => rfl) (fun _ => x_cat (by kernel_rfl) (by kernel_rfl) (by omega))
      · exact ob_assign _ _ _ rfl rfl (fun _ => rfl) (fun _ => by kernel_rfl)
    case h0 => exact ⟨Lib.hid ((HW.out.trans (hbW.out.mono HW.out.size)).trans ((below_drew1 (Below.refl _ _)).mono (HW.out.trans (hbW.out.mono HW.out.size)).size)), Lib.hid (below_drew1 hbW.out), Lib.hid HE1.out.drew⟩
    case hend =>
      intro _ w1 hW
      have hW : TX w0 w w1 [.int .i64 2, .int .i64 lo, .int .i64 hi, .int .i64 (a : Int), .int .i64 (b : Int)] := hW
      simp only [putsL, List.tail_cons, List.headD_cons, Act.put, List.setIfInBounds_toArray, List.set_cons_zero, List.set_cons_succ]
      go_wp2
      go_ret
      exact ⟨rfl, hW.2.1.out⟩
  · have hb3 : (kb == 3) = false := beq_eq_false_iff_ne.2 hk
    obtain ⟨r2, hr2⟩ : ∃ r, (kb == 2) = r := ⟨_, rfl⟩
    rw [hb3, hr2, Bool.false_or] at lb3
    clear hk
    obtain ⟨s1, hs1⟩ : ∃ s, s = strOfNums (par r1 a'.str) := ⟨_, rfl⟩
    obtain ⟨s2, hs2⟩ : ∃ s, s = strOfNums (par r2 b'.str) := ⟨_, rfl⟩
    have hz1 : s1.size ≤ 1000002 := by rw [hs1, strOfNums_size]; have := par_length r1 a'.str; omega
    have hz2 : s2.size ≤ 1000002 := by rw [hs2, strOfNums_size]; have := par_length r2 b'.str; omega
    have zb : (⟨#[124]⟩ : ByteArray).size = 1 := rfl
    have HKa : Hid (∀ w1, Below w0.heap.size w0 w1 → Calls Tryd.prog 76 #[.slice (some ad) p.length c, .int .i64 (a : Int), .bool r1] w1 fun e w' => e = .returned (.string s1) ∧ Below w1.heap.size w1 w') := Lib.hid (fun w1 h1 => by rw [hs1]; exact rgroup_any ha ya1 r1 w1 h1)
    have HKb : Hid (∀ w1, Below w0.heap.size w0 w1 → Calls Tryd.prog 76 #[.slice (some ad) p.length c, .int .i64 (b : Int), .bool r2] w1 fun e w' => e = .returned (.string s2) ∧ Below w1.heap.size w1 w') := Lib.hid (fun w1 h1 => by rw [hs2]; exact rgroup_any hb yb1 r2 w1 h1)
    have HE : Hid (strOfNums (Re.seq a' b').str = s1 ++ s2) := Lib.hid (by
      simp only [Re.str]
      rw [hs1, hs2, la2, lb3]
      simp only [strOfNums_app, List.append_assoc, List.cons_append, List.nil_append])
    rw [HE.out]
    clear hP hV hx hrd hw hs1 hs2 ha hb la1 la2 la3 lb1 lb2 lb3 ia ib
    go_enter Tryd.func48, Tryd.ntmps48
    go_wp2_with fail
    generalize hW : World.alloc _ _ = W
    have HE1 : Hid (Blk W w.heap.size 50 [.int .i64 2, .int .i64 lo, .int .i64 hi, .int .i64 (a : Int), .int .i64 (b : Int)]) := Lib.hid (by subst hW; exact Blk.new w _ 50)
    have hbW : Hid (Below w.heap.size w W) := Lib.hid (by subst hW; exact (Below.refl _ _).alloc (Nat.le_refl _) _)
    clear hW
    refine region_rule (ε := Unit) 18 [0, 0, 2, 0, 8, 31, 0, 0, 128, 0, 512, 1599, 3647, 7743, 15935, 32767, 65535, 131071] [5, 15] [some 48, some 49, some 50, some 51, some 52, some 53, some 54, some 55, some 56, some 57, some 58, some 59, some 60, some 61, some 62, some 63, some 64, some 4] (fun _ => [(.slice (some ad) p.length c), (.pointer (some ⟨w.heap.size, 3, none⟩)), (.int .i64 (a : Int)), (.int .i64 ka), (.bool r1), (.string s1), (.slice (some ad) p.length c), (.pointer (some ⟨w.heap.size, 4, none⟩)), (.int .i64 (b : Int)), (.int .i64 kb), (.bool false), (.bool false), (.int .i64 kb), (.bool r2), (.bool r2), (.string s2), (.string (s1 ++ s2)), (.string (s1 ++ s2))]) (fun k _ w1 => TX w0 w w1 [.int .i64 2, .int .i64 lo, .int .i64 hi, .int .i64 (a : Int), .int .i64 (b : Int)]) 92 () (by kernel_rfl) rfl rfl (by kernel_rfl) rfl (by decide) (by kernel_rfl) ?h0 (AllOb.lt ?hob) ?hend
    case hob =>
      refine ⟨⟨⟨⟨⟨⟨⟨⟨⟨⟨⟨⟨⟨⟨⟨⟨⟨⟨trivial, ?_⟩, ?_⟩, ?_⟩, ?_⟩, ?_⟩, ?_⟩, ?_⟩, ?_⟩, ?_⟩, ?_⟩, ?_⟩, ?_⟩, ?_⟩, ?_⟩, ?_⟩, ?_⟩, ?_⟩, ?_⟩
      · exact ob_move _ _ _ rfl rfl (fun _ => rfl) (fun _ => by kernel_rfl)
      · exact ob_val _ _ _ rfl rfl (fun _ => rfl) (fun _ => x_f3t50 (by kernel_rfl))
      · exact ob_read _ _ _ rfl rfl (fun _ => rfl) (fun k _ w1 h1 h2 h3 => by
          have h3 : TX w0 w w1 [.int .i64 2, .int .i64 lo, .int .i64 hi, .int .i64 (a : Int), .int .i64 (b : Int)] := h3
          exact x_load3 (by kernel_rfl) w1 (h3.2.2.out.cell 3))
      · exact ob_move _ _ _ rfl rfl (fun _ => rfl) (fun _ => by kernel_rfl)
      · exact ob_val _ _ _ rfl rfl (fun _ => rfl) (fun _ => x_eqi (by kernel_rfl) (by kernel_rfl) hr1)
      · exact ob_call _ _ (f := 76) Tryd.func76 rfl rfl (fun _ => #[.slice (some ad) p.length c, .int .i64 (a : Int), .bool r1]) rfl rfl (fun _ => rfl) (fun _ => by kernel_rfl) (fun k _ w1 h1 h2 h3 => by
          have h3 : TX w0 w w1 [.int .i64 2, .int .i64 lo, .int .i64 hi, .int .i64 (a : Int), .int .i64 (b : Int)] := h3
          refine (HKa.out w1 h3.1.out).mono ?_
          rintro e w2 ⟨rfl, g1⟩
          exact ⟨(), rfl, ⟨Lib.hid (h3.1.out.trans (g1.mono h3.1.out.size)), Lib.hid (h3.2.1.out.trans (g1.mono h3.2.1.out.size)), Lib.hid (h3.2.2.out.below g1)⟩, fun j _ _ => rfl⟩)
      · exact ob_move _ _ _ rfl rfl (fun _ => rfl) (fun _ => by kernel_rfl)
      · exact ob_val _ _ _ rfl rfl (fun _ => rfl) (fun _ => x_f4t50 (by kernel_rfl))
      · exact ob_read _ _ _ rfl rfl (fun _ => rfl) (fun k _ w1 h1 h2 h3 => by
          have h3 : TX w0 w w1 [.int .i64 2, .int .i64 lo, .int .i64 hi, .int .i64 (a : Int), .int .i64 (b : Int)] := h3
          exact x_load3 (by kernel_rfl) w1 (h3.2.2.out.cell 4))
      · exact ob_move _ _ _ rfl rfl (fun _ => rfl) (fun _ => by kernel_rfl)
      · exact ob_val _ _ _ rfl rfl (fun _ => rfl) (fun _ => x_eqi (by kernel_rfl) (by kernel_rfl) hb3)
      · exact ob_move _ _ _ rfl rfl (fun _ => rfl) (fun _ => by kernel_rfl)
      · exact ob_move _ _ _ rfl rfl (fun _ => rfl) (fun _ => by kernel_rfl)
      · exact ob_val _ _ _ rfl rfl (fun _ => rfl) (fun _ => x_eqi (by kernel_rfl) (by kernel_rfl) hr2)
      · exact ob_pick _ _ _ _ false _ rfl rfl (fun _ => rfl) (fun _ => by kernel_rfl) (fun _ => by kernel_rfl)
      · exact ob_call _ _ (f := 76) Tryd.func76 rfl rfl (fun _ => #[.slice (some ad) p.length c, .int .i64 (b : Int), .bool r2]) rfl rfl (fun _ => rfl) (fun _ => by kernel_rfl) (fun k _ w1 h1 h2 h3 => by
          have h3 : TX w0 w w1 [.int .i64 2, .int .i64 lo, .int .i64 hi, .int .i64 (a : Int), .int .i64 (b : Int)] := h3
          refine (HKb.out w1 h3.1.out).mono ?_
          rintro e w2 ⟨rfl, g1⟩
          exact ⟨(), rfl, ⟨Lib.hid (h3.1.out.trans (g1.mono h3.1.out.size)), Lib.hid (h3.2.1.out.trans (g1.mono h3.2.1.out.size)), Lib.hid (h3.2.2.out.below g1)⟩, fun j _ _ => rfl⟩)
      · exact ob_val _ _ _ rfl rfl (fun _ => rfl) (fun _ => x_cat (by kernel_rfl) (by kernel_rfl) (by omega))
      · exact ob_assign _ _ _ rfl rfl (fun _ => rfl) (fun _ => by kernel_rfl)
    case h0 => exact ⟨Lib.hid ((HW.out.trans (hbW.out.mono HW.out.size)).trans ((below_drew1 (Below.refl _ _)).mono (HW.out.trans (hbW.out.mono HW.out.size)).size)), Lib.hid (below_drew1 hbW.out), Lib.hid HE1.out.drew⟩
    case hend =>
      intro _ w1 hW
      have hW : TX w0 w w1 [.int .i64 2, .int .i64 lo, .int .i64 hi, .int .i64 (a : Int), .int .i64 (b : Int)] := hW
      simp only [putsL, List.tail_cons, List.headD_cons, Act.put, List.setIfInBounds_toArray, List.set_cons_zero, List.set_cons_succ]
      go_wp2
      go_ret
      exact ⟨rfl, hW.2.1.out⟩
set_option maxHeartbeats 4000000 in
set_option maxRecDepth 100000 in
theorem text_alt {A : Option Addr} {c : Nat} {p : List S50} {w0 : World} (hP : Pt w0 A c p) (hV : Valid p) (i : Nat) (lo hi : Int) (a b : Nat) (a' b' : Re) (ya1 : a'.str.length ≤ 1000000) (yb1 : b'.str.length ≤ 1000000) (ia : IsRe p a a') (ib : IsRe p b b') (ha : TextOK A c p w0 a a') (hb : TextOK A c p w0 b b') (hx : p[i]? = some ⟨3, lo, hi, (a : Int), (b : Int)⟩) : TextOK A c p w0 i (.alt a' b') := by
  intro w hw
  have hip := (List.getElem?_eq_some_iff.1 hx).1
  have hibI : (i : Int) < (p.length : Int) := by omega
  have hrd : rd_T50 p i = ⟨3, lo, hi, (a : Int), (b : Int)⟩ := by simp [rd_T50, List.getD_eq_getElem?_getD, hx]
  have haI : (a : Int) < (p.length : Int) := by have := ia.lt; omega
  have hbI : (b : Int) < (p.length : Int) := by have := ib.lt; omega
  obtain ⟨ad, rfl, x0, x1, x2, x3, x4⟩ := at_T50 (Kd.C_below hP.C hw) i (by omega) hibI
  rw [hrd] at x0 x1 x2 x3 x4
  obtain ⟨ad1, e1, xa, _⟩ := at_T50 (Kd.C_below hP.C hw) (a : Int) (by omega) haI
  cases e1
  obtain ⟨ad2, e2, xb, _⟩ := at_T50 (Kd.C_below hP.C hw) (b : Int) (by omega) hbI
  cases e2
  simp only [Int.toNat_natCast] at x0 x1 x2 x3 x4 xa xb
  obtain ⟨ya, hya, la1, la2, la3⟩ := kind_lev ia
  obtain ⟨yb, hyb, lb1, lb2, lb3⟩ := kind_lev ib
  rw [show rd_T50 p (a : Int) = ya by simp [rd_T50, List.getD_eq_getElem?_getD, hya]] at xa
  rw [show rd_T50 p (b : Int) = yb by simp [rd_T50, List.getD_eq_getElem?_getD, hyb]] at xb
  generalize ya.f0 = ka at *
  generalize yb.f0 = kb at *
  clear hya hyb
  have b2 := World.block_lt_of_cell? w _ x0
  have b3 := World.block_lt_of_cell? w _ xa
  have b4 := World.block_lt_of_cell? w _ xb
  have HW := Lib.hid hw
  obtain ⟨r2, hr2⟩ : ∃ r, (kb == 3) = r := ⟨_, rfl⟩
  rw [hr2] at lb2
  have lap : par (decide (a'.lev < 1)) a'.str = a'.str := by rw [la1]; rfl
  obtain ⟨s1, hs1⟩ : ∃ s, s = strOfNums (a'.str) := ⟨_, rfl⟩
  obtain ⟨s2, hs2⟩ : ∃ s, s = strOfNums (par r2 b'.str) := ⟨_, rfl⟩
  have hz1 : s1.size ≤ 1000002 := by rw [hs1, strOfNums_size]; omega
  have hz2 : s2.size ≤ 1000002 := by rw [hs2, strOfNums_size]; have := par_length r2 b'.str; omega
  have zb : (⟨#[124]⟩ : ByteArray).size = 1 := rfl
  have HKa : Hid (∀ w1, Below w0.heap.size w0 w1 → Calls Tryd.prog 48 #[.slice (some ad) p.length c, .int .i64 (a : Int)] w1 fun e w' => e = .returned (.string s1) ∧ Below w1.heap.size w1 w') := Lib.hid (fun w1 h1 => by rw [hs1]; exact ha w1 h1)
  have HKb : Hid (∀ w1, Below w0.heap.size w0 w1 → Calls Tryd.prog 76 #[.slice (some ad) p.length c, .int .i64 (b : Int), .bool r2] w1 fun e w' => e = .returned (.string s2) ∧ Below w1.heap.size w1 w') := Lib.hid (fun w1 h1 => by rw [hs2]; exact rgroup_any hb yb1 r2 w1 h1)
  have HE : Hid (strOfNums (Re.alt a' b').str = s1 ++ ⟨#[124]⟩ ++ s2) := Lib.hid (by
    simp only [Re.str]
    rw [hs1, hs2, lap, lb2, show (⟨#[124]⟩ : ByteArray) = strOfNums [124] from rfl]
    simp only [strOfNums_app, List.append_assoc, List.cons_append, List.nil_append])
  rw [HE.out]
  clear hP hV hx hrd hw hs1 hs2 ha hb la1 la2 la3 lb1 lb2 lb3 ia ib
  go_enter Tryd.func48, Tryd.ntmps48
  go_wp2_with fail
  generalize hW : World.alloc _ _ = W
  have HE1 : Hid (Blk W w.heap.size 50 [.int .i64 3, .int .i64 lo, .int .i64 hi, .int .i64 (a : Int), .int .i64 (b : Int)]) := Lib.hid (by subst hW; exact Blk.new w _ 50)
  have hbW : Hid (Below w.heap.size w W) := Lib.hid (by subst hW; exact (Below.refl _ _).alloc (Nat.le_refl _) _)
  clear hW
  refine region_rule (ε := Unit) 13 [0, 0, 2, 7, 15, 0, 0, 64, 0, 256, 1007, 2047, 4095] [3, 10] [some 67, some 68, some 69, some 70, some 71, some 72, some 73, some 74, some 75, some 76, some 77, some 78, some 4] (fun _ => [(.slice (some ad) p.length c), (.pointer (some ⟨w.heap.size, 3, none⟩)), (.int .i64 (a : Int)), (.string s1), (.string (s1 ++ ⟨#[124]⟩)), (.slice (some ad) p.length c), (.pointer (some ⟨w.heap.size, 4, none⟩)), (.int .i64 (b : Int)), (.int .i64 kb), (.bool r2), (.string s2), (.string (s1 ++ ⟨#[124]⟩ ++ s2)), (.string (s1 ++ ⟨#[124]⟩ ++ s2))]) (fun k _ w1 => TX w0 w w1 [.int .i64 3, .int .i64 lo, .int .i64 hi, .int .i64 (a : Int), .int .i64 (b : Int)]) 92 () (by kernel_rfl) rfl rfl (by kernel_rfl) rfl (by decide) (by kernel_rfl) ?h0 (AllOb.lt ?hob) ?hend
  case hob =>
    refine ⟨⟨⟨⟨⟨⟨⟨⟨⟨⟨⟨⟨⟨trivial, ?_⟩, ?_⟩, ?_⟩, ?_⟩, ?_⟩, ?_⟩, ?_⟩, ?_⟩, ?_⟩, ?_⟩, ?_⟩, ?_⟩, ?_⟩
    · exact ob_move _ _ _ rfl rfl (fun _ => rfl) (fun _ => by kernel_rfl)
    · exact ob_val _ _ _ rfl rfl (fun _ => rfl) (fun _ => x_f3t50 (by kernel_rfl))
    · exact ob_read _ _ _ rfl rfl (fun _ => rfl) (fun k _ w1 h1 h2 h3 => by
        have h3 : TX w0 w w1 [.int .i64 3, .int .i64 lo, .int .i64 hi, .int .i64 (a : Int), .int .i64 (b : Int)] := h3
        exact x_load3 (by kernel_rfl) w1 (h3.2.2.out.cell 3))
    · exact ob_call _ _ (f := 48) Tryd.func48 rfl rfl (fun _ => #[.slice (some ad) p.length c, .int .i64 (a : Int)]) rfl rfl (fun _ => rfl) (fun _ => by kernel_rfl) (fun k _ w1 h1 h2 h3 => by
        have h3 : TX w0 w w1 [.int .i64 3, .int .i64 lo, .int .i64 hi, .int .i64 (a : Int), .int .i64 (b : Int)] := h3
        refine (HKa.out w1 h3.1.out).mono ?_
        rintro e w2 ⟨rfl, g1⟩
        exact ⟨(), rfl, ⟨Lib.hid (h3.1.out.trans (g1.mono h3.1.out.size)), Lib.hid (h3.2.1.out.trans (g1.mono h3.2.1.out.size)), Lib.hid (h3.2.2.out.below g1)⟩, fun j _ _ => rfl⟩)
    · exact ob_val _ _ _ rfl rfl (fun _ => rfl) (fun _ => x_cat (by kernel_rfl) (by kernel_rfl) (by rw [zb]; omega))
    · exact ob_move _ _ _ rfl rfl (fun _ => rfl) (fun _ => by kernel_rfl)
    · exact ob_val _ _ _ rfl rfl (fun _ => rfl) (fun _ => x_f4t50 (by kernel_rfl))
    · exact ob_read _ _ _ rfl rfl (fun _ => rfl) (fun k _ w1 h1 h2 h3 => by
        have h3 : TX w0 w w1 [.int .i64 3, .int .i64 lo, .int .i64 hi, .int .i64 (a : Int), .int .i64 (b : Int)] := h3
        exact x_load3 (by kernel_rfl) w1 (h3.2.2.out.cell 4))
    · exact ob_move _ _ _ rfl rfl (fun _ => rfl) (fun _ => by kernel_rfl)
    · exact ob_val _ _ _ rfl rfl (fun _ => rfl) (fun _ => x_eqi (by kernel_rfl) (by kernel_rfl) hr2)
    · exact ob_call _ _ (f := 76) Tryd.func76 rfl rfl (fun _ => #[.slice (some ad) p.length c, .int .i64 (b : Int), .bool r2]) rfl rfl (fun _ => rfl) (fun _ => by kernel_rfl) (fun k _ w1 h1 h2 h3 => by
        have h3 : TX w0 w w1 [.int .i64 3, .int .i64 lo, .int .i64 hi, .int .i64 (a : Int), .int .i64 (b : Int)] := h3
        refine (HKb.out w1 h3.1.out).mono ?_
        rintro e w2 ⟨rfl, g1⟩
        exact ⟨(), rfl, ⟨Lib.hid (h3.1.out.trans (g1.mono h3.1.out.size)), Lib.hid (h3.2.1.out.trans (g1.mono h3.2.1.out.size)), Lib.hid (h3.2.2.out.below g1)⟩, fun j _ _ => rfl⟩)
    · exact ob_val _ _ _ rfl rfl (fun _ => rfl) (fun _ => x_cat (by kernel_rfl) (by kernel_rfl) (by rw [ByteArray.size_append, zb]; omega))
    · exact ob_assign _ _ _ rfl rfl (fun _ => rfl) (fun _ => by kernel_rfl)
  case h0 => exact ⟨Lib.hid ((HW.out.trans (hbW.out.mono HW.out.size)).trans ((below_drew1 (Below.refl _ _)).mono (HW.out.trans (hbW.out.mono HW.out.size)).size)), Lib.hid (below_drew1 hbW.out), Lib.hid HE1.out.drew⟩
  case hend =>
    intro _ w1 hW
    have hW : TX w0 w w1 [.int .i64 3, .int .i64 lo, .int .i64 hi, .int .i64 (a : Int), .int .i64 (b : Int)] := hW
    simp only [putsL, List.tail_cons, List.headD_cons, Act.put, List.setIfInBounds_toArray, List.set_cons_zero, List.set_cons_succ]
    go_wp2
    go_ret
    exact ⟨rfl, hW.2.1.out⟩
end Go.Proofs.YtaphblnelmncaaaDoor.PA
end

section
/- The reference's text: repetitions; Print. -/
set_option linter.unusedVariables false
namespace Go.Proofs.YtaphblnelmncaaaDoor.PA
open Go Go.RowKit Go.Proofs.YtaphblnelmncaaaDoorW.PrintWords Go.Proofs.YtaphblnelmncaaaDoorW.PrintLast Go.Proofs.YtaphblnelmncaaaDoorW.PrintMore

set_option maxHeartbeats 4000000 in
set_option maxRecDepth 100000 in
theorem text_rep {A : Option Addr} {c : Nat} {p : List S50} {w0 : World} (hP : Pt w0 A c p) (hV : Valid p) (i : Nat) (lo hi f4 : Int) (a : Nat) (a' : Re) (ya1 : a'.str.length ≤ 1000000) (ia : IsRe p a a') (ha : TextOK A c p w0 a a') (hx : p[i]? = some ⟨4, lo, hi, (a : Int), f4⟩) : TextOK A c p w0 i (.rep a') := by
  intro w hw
  have hip := (List.getElem?_eq_some_iff.1 hx).1
  have hibI : (i : Int) < (p.length : Int) := by omega
  have hrd : rd_T50 p i = ⟨4, lo, hi, (a : Int), f4⟩ := by simp [rd_T50, List.getD_eq_getElem?_getD, hx]
  have hb1 := (hV.ok i hip).1
  rw [hrd, baseOk_iff] at hb1
  have h4 : f4 = ((0 : Nat) : Int) := by have := hb1.2.2; simp [ari] at this; omega
  subst h4
  have haI : (a : Int) < (p.length : Int) := by have := ia.lt; omega
  have hbI : ((0 : Nat) : Int) < (p.length : Int) := by omega
  clear hb1
  obtain ⟨ad, rfl, x0, x1, x2, x3, x4⟩ := at_T50 (Kd.C_below hP.C hw) i (by omega) hibI
  rw [hrd] at x0 x1 x2 x3 x4
  obtain ⟨ad1, e1, xa, _⟩ := at_T50 (Kd.C_below hP.C hw) (a : Int) (by omega) haI
  cases e1
  obtain ⟨ad2, e2, xb, _⟩ := at_T50 (Kd.C_below hP.C hw) ((0 : Nat) : Int) (by omega) hbI
  cases e2
  simp only [Int.toNat_natCast] at x0 x1 x2 x3 x4 xa xb
  obtain ⟨ya, hya, la1, la2, la3⟩ := kind_lev ia
  rw [show rd_T50 p (a : Int) = ya by simp [rd_T50, List.getD_eq_getElem?_getD, hya]] at xa
  generalize (rd_T50 p ((0 : Nat) : Int)).f0 = kb at *
  replace xb : w.cell? ad = some (.int .i64 kb) := by simpa [Addr.add] using xb
  generalize ya.f0 = ka at *
  clear hya
  have b2 := World.block_lt_of_cell? w _ x0
  have b3 := World.block_lt_of_cell? w _ xa
  have b4 := World.block_lt_of_cell? w _ xb
  have HW := Lib.hid hw
  by_cases hk : ka = 3
  · have hb3 : (ka == 3) = true := beq_iff_eq.2 hk
    rw [hb3, Bool.true_or] at la3
    clear hk
    obtain ⟨s1, hs1⟩ : ∃ s, s = strOfNums (par true a'.str) := ⟨_, rfl⟩
    have hz1 : s1.size ≤ 1000002 := by rw [hs1, strOfNums_size]; have := par_length true a'.str; omega
    have HKa : Hid (∀ w1, Below w0.heap.size w0 w1 → Calls Tryd.prog 76 #[.slice (some ad) p.length c, .int .i64 (a : Int), .bool true] w1 fun e w' => e = .returned (.string s1) ∧ Below w1.heap.size w1 w') := Lib.hid (fun w1 h1 => by rw [hs1]; exact rgroup_any ha ya1 true w1 h1)
    have HE : Hid (strOfNums (Re.rep a').str = s1 ++ ⟨#[42]⟩) := Lib.hid (by
      simp only [Re.str]
      rw [hs1, la3, show (⟨#[42]⟩ : ByteArray) = strOfNums [42] from rfl]
      simp only [strOfNums_app])
    rw [HE.out]
    clear hP hV hx hrd hw hs1 ha la1 la2 la3 ia
    go_enter Tryd.func48, Tryd.ntmps48
    go_wp2_with (first | (go_at_call 76; refine (HKa.out _ (HW.out.alloc HW.out.size _)).mono ?_; rintro e w1 ⟨rfl, b1⟩; have B1 := Lib.hid (below_node b1); clear b1) | fail)
    go_ret
    exact ⟨rfl, B1.out⟩
  · have hb3 : (ka == 3) = false := beq_eq_false_iff_ne.2 hk
    obtain ⟨r2, hr2⟩ : ∃ r, (ka == 2) = r := ⟨_, rfl⟩
    rw [hb3, hr2, Bool.false_or] at la3
    clear hk
    obtain ⟨s1, hs1⟩ : ∃ s, s = strOfNums (par r2 a'.str) := ⟨_, rfl⟩
    have hz1 : s1.size ≤ 1000002 := by rw [hs1, strOfNums_size]; have := par_length r2 a'.str; omega
    have HKa : Hid (∀ w1, Below w0.heap.size w0 w1 → Calls Tryd.prog 76 #[.slice (some ad) p.length c, .int .i64 (a : Int), .bool r2] w1 fun e w' => e = .returned (.string s1) ∧ Below w1.heap.size w1 w') := Lib.hid (fun w1 h1 => by rw [hs1]; exact rgroup_any ha ya1 r2 w1 h1)
    have HE : Hid (strOfNums (Re.rep a').str = s1 ++ ⟨#[42]⟩) := Lib.hid (by
      simp only [Re.str]
      rw [hs1, la3, show (⟨#[42]⟩ : ByteArray) = strOfNums [42] from rfl]
      simp only [strOfNums_app])
    rw [HE.out]
    clear hP hV hx hrd hw hs1 ha la1 la2 la3 ia
    go_enter Tryd.func48, Tryd.ntmps48
    go_wp2_with (first | (go_at_call 76; refine (HKa.out _ (HW.out.alloc HW.out.size _)).mono ?_; rintro e w1 ⟨rfl, b1⟩; have B1 := Lib.hid (below_node b1); clear b1) | fail)
    go_ret
    exact ⟨rfl, B1.out⟩
/-- text, for each tree. -/
theorem text_any {A : Option Addr} {c : Nat} {p : List S50} {w0 : World} (hP : Pt w0 A c p) (hV : Valid p) {i : Nat} {t : Re} (h : IsRe p i t) : t.ok → t.size ≤ 10000 → TextOK A c p w0 i t := by
  induction h with
  | emp i x h hk =>
    intro _ _
    obtain ⟨k, lo, hi, a, b⟩ := x
    obtain rfl : k = 0 := hk
    exact text_emp hP hV i lo hi a b h
  | rng i x h hk =>
    intro ho _
    obtain ⟨k, lo, hi, a, b⟩ := x
    obtain rfl : k = 1 := hk
    exact text_rng hP hV i lo hi a b ho h
  | seq i x a b u v h hk ha hb hu hv ihu ihv =>
    intro ho hz
    obtain ⟨k, lo, hi, a', b'⟩ := x
    obtain rfl : k = 2 := hk
    obtain rfl : a' = (a : Int) := ha
    obtain rfl : b' = (b : Int) := hb
    simp only [Re.size] at hz
    have z1 := PA.str_length u
    have z2 := PA.str_length v
    exact text_seq hP hV i lo hi a b u v (by omega) (by omega) hu hv (ihu ho.1 (by omega)) (ihv ho.2 (by omega)) h
  | alt i x a b u v h hk ha hb hu hv ihu ihv =>
    intro ho hz
    obtain ⟨k, lo, hi, a', b'⟩ := x
    obtain rfl : k = 3 := hk
    obtain rfl : a' = (a : Int) := ha
    obtain rfl : b' = (b : Int) := hb
    simp only [Re.size] at hz
    have z1 := PA.str_length u
    have z2 := PA.str_length v
    exact text_alt hP hV i lo hi a b u v (by omega) (by omega) hu hv (ihu ho.1 (by omega)) (ihv ho.2 (by omega)) h
  | rep i x a u h hk ha hu ihu =>
    intro ho hz
    obtain ⟨k, lo, hi, a', b'⟩ := x
    obtain rfl : k = 4 := hk
    obtain rfl : a' = (a : Int) := ha
    simp only [Re.size] at hz
    have z1 := PA.str_length u
    exact text_rep hP hV i lo hi b' a u (by omega) hu (ihu ho (by omega)) h
set_option maxHeartbeats 4000000 in
theorem rprint_bad {p : List S50} {A : Option Addr} {c : Nat} {w : World} (hP : Pt w A c p) (hb : p.length * 40 ≤ 140737488351232) (hbad : chk p ≠ 0) :
    Calls Tryd.prog 20 #[.slice A p.length c] w fun e w' => e = .returned (.tuple #[.string ⟨#[]⟩, .int .i64 (chk p)]) ∧ Below w.heap.size w w' := by
  have K := Lib.hid (rcheck_any hP hb)
  clear hP
  have hbb : (chk p != 0) = true := by simpa using hbad
  generalize chk p = z at *
  go_enter Tryd.func20, Tryd.ntmps20
  go_wp2_with (first | (go_at_call 22; refine K.out.mono ?_; rintro e w1 ⟨rfl, b1⟩; have B1 := Lib.hid b1; clear b1) | fail)
  go_ret2
  exact ⟨rfl, B1.out⟩
set_option maxHeartbeats 4000000 in
theorem rprint_any {p : List S50} {t : Re} (g : Fine p t) {A : Option Addr} {c : Nat} {w : World} (hP : Pt w A c p) (s : ByteArray) (hs : strOfNums (t.shown 1) = s) :
    Calls Tryd.prog 20 #[.slice A p.length c] w fun e w' => e = .returned (.tuple #[.string s, .int .i64 0]) ∧ Below w.heap.size w w' := by
  have hpl := g.good.len
  have hp0 : 0 < p.length := by have := g.good.is.lt; omega
  have K := Lib.hid (rcheck_any hP (by omega))
  rw [g.good.chk] at K
  have hsub : IntKind.i64.wrap ((p.length : Int) - 1) = ((p.length - 1 : Nat) : Int) := (IntWalk.i64_in _ (by omega)).trans (by omega)
  have HT : Hid (TextOK A c p w (p.length - 1) t) := Lib.hid (text_any hP (chk_iff.1 g.good.chk).2 g.good.is g.good.ok (by have := g.good.size; omega))
  have hst : strOfNums t.str = s := by
    rw [← hs]
    obtain ⟨x, _, h1, _⟩ := kind_lev g.good.is
    unfold Re.shown
    rw [h1]; rfl
  have HS := Lib.hid hst
  clear hP g hs hst
  go_enter Tryd.func20, Tryd.ntmps20
  go_wp2_with (first | (go_at_call 22; refine K.out.mono ?_; rintro e w1 ⟨rfl, b1⟩; have B1 := Lib.hid b1; clear b1) | (go_at_call 48; refine (HT.out w1 B1.out).mono ?_; rintro e w2 ⟨rfl, b2⟩; have B2 := Lib.hid (B1.out.trans (b2.mono B1.out.size)); clear b2) | fail)
  go_ret2
  exact ⟨by rw [HS.out]; rfl, B2.out⟩
end Go.Proofs.YtaphblnelmncaaaDoor.PA
end

section
/- The walk over PatternMatchesReference. -/
set_option linter.unusedVariables false
namespace Go.Proofs.YtaphblnelmncaaaDoor.PA
open Go.RowKit Go.Proofs.YtaphblnelmncaaaDoorW.PrintWords Go.Proofs.YtaphblnelmncaaaDoorW.PrintLast Go.Proofs.YtaphblnelmncaaaDoorW.PrintMore

/-- Both Longests answer alike. -/
theorem both_longest {p : List S50} {t : Re} (g : Fine p t) (s : ByteArray) (hs : s.size ≤ 1000000) (a : Int) :
    ∃ (n : Int) (b : Bool), (∀ (A : Option Addr) (c : Nat) (w : World), Pt w A c p → Tab w → Calls Tryd.prog 17 #[.slice A p.length c, .string s, .int .i64 a] w fun e w' => e = .returned (.tuple #[.int .i64 n, .bool b]) ∧ Below w.heap.size w w') ∧
      (∀ (A : Option Addr) (c : Nat) (w : World), Pt w A c p → Calls Tryd.prog 18 #[.slice A p.length c, .string s, .int .i64 a] w fun e w' => e = .returned (.tuple #[.int .i64 n, .bool b]) ∧ Below w.heap.size w w') := by
  have hl := g.good.len
  by_cases ha : 0 ≤ a ∧ a ≤ s.size
  · obtain ⟨i, rfl⟩ := Int.eq_ofNat_of_zero_le ha.1
    have k := longest_iff g ((bytesOf s).drop i)
    have hL : LongP t ((bytesOf s).drop i) (lastTrue (flags p t ((bytesOf s).drop i)) 0 0) := ⟨k.1, k.2.1, k.2.2⟩
    exact ⟨_, _, fun A c w h ht => longest_of g.good A c s i w h.C h.hc (by omega) (by omega) ht _ rfl, fun A c w h => rlongest_any g h s hs i (by omega) _ hL⟩
  · exact ⟨0, false, fun A c w h ht => longest_bad A c p s a w h.C h.hc (by omega) (by omega) (by omega), fun A c w h => rlongest_bad h (by omega) s hs a (by omega)⟩

set_option maxHeartbeats 4000000 in
set_option maxRecDepth 100000 in
theorem matchesRef_row {A : Option Addr} {ca : Nat} {l : List Int} {s : ByteArray} {a : Int} {W : World} (hl : Bt W A ca l) (hs : s.size ≤ 140737488351232) (ha : -9223372036854775808 ≤ a ∧ a ≤ 9223372036854775807) (ht : Tab W) :
    Calls Tryd.prog 3 #[.slice A l.length ca, .string s, .int .i64 a] W fun e w' => e = .returned (.bool true) ∧ Below W.heap.size W w' := by
  obtain ⟨hp, hpl⟩ := made_pst hl.rng (most := 40) (by decide) (by decide)
  obtain ⟨t0, e0, o0, g⟩ := hp.fine (by omega)
  clear e0 o0
  generalize t0.re 0 = t at g
  have HG := Lib.hid g
  have HL := Lib.hid hl
  have S0 := Lib.hid (LS.init ht)
  clear g hl ht hp ha
  by_cases h24 : 24 < s.size
  · go_enter Tryd.func3, Tryd.ntmps3
    go_wp2_with fail
    refine (sanity_any W S0.out.tab).mono ?_
    rintro e w1 ⟨rfl, k1⟩
    have S1 := Lib.hid (S0.out.next k1)
    have L1 := Lib.hid (HL.out.next k1)
    clear k1
    go_wp2_with fail
    refine (made_law L1.out 40 (by decide) (by decide)).mono ?_
    rintro e w2 ⟨E, ec, rfl, P2, k2⟩
    have S2 := Lib.hid (S1.out.next k2)
    clear k2 P2
    go_wp2
    go_ret
    exact ⟨rfl, S2.out.low⟩
  have h24b : decide ((24 : Int) < (s.size : Int)) = false := decide_eq_false (by omega)
  obtain ⟨n, b, hN1, hN2⟩ := both_longest HG.out s (by omega) a
  have HN1 := Lib.hid hN1
  have HN2 := Lib.hid hN2
  obtain ⟨str, hstr⟩ : ∃ z, strOfNums (t.shown 1) = z := ⟨_, rfl⟩
  have HSTR := Lib.hid hstr
  obtain ⟨m, hm⟩ : ∃ m : Bool, (m = true ↔ t.Lang (bytesOf s)) := by
    by_cases h : t.Lang (bytesOf s)
    · exact ⟨true, by simp [h]⟩
    · exact ⟨false, by simp [h]⟩
  have HM := Lib.hid hm
  have hlen : (madeF l 40).length ≤ 512 := by omega
  clear hN1 hN2 hstr hm hpl
  go_enter Tryd.func3, Tryd.ntmps3
  go_wp2_with fail
  refine (sanity_any W S0.out.tab).mono ?_
  rintro e w1 ⟨rfl, k1⟩
  have S1 := Lib.hid (S0.out.next k1)
  have L1 := Lib.hid (HL.out.next k1)
  clear k1
  go_wp2_with fail
  refine (made_law L1.out 40 (by decide) (by decide)).mono ?_
  rintro e w2 ⟨E, ec, rfl, P2, k2⟩
  have P2 := Lib.hid P2
  have S2 := Lib.hid (S1.out.next k2)
  clear k2
  generalize madeF l 40 = p at *
  go_wp2_with fail
  refine (HN1.out E ec w2 P2.out S2.out.tab).mono ?_
  rintro e w3 ⟨rfl, k3⟩
  have P3 := Lib.hid (P2.out.next k3)
  have S3 := Lib.hid (S2.out.next k3)
  clear k3
  go_wp2_with fail
  refine (HN2.out E ec w3 P3.out).mono ?_
  rintro e w4 ⟨rfl, k4⟩
  have P4 := Lib.hid (P3.out.next k4)
  have S4 := Lib.hid (S3.out.next k4)
  clear k4
  go_wp2_with fail
  refine (print_of HG.out.good E ec w4 P4.out.C P4.out.hc str HSTR.out).mono ?_
  rintro e w5 ⟨rfl, k5⟩
  have P5 := Lib.hid (P4.out.next k5)
  have S5 := Lib.hid (S4.out.next k5)
  clear k5
  go_wp2_with fail
  refine (rprint_any HG.out P5.out str HSTR.out).mono ?_
  rintro e w6 ⟨rfl, k6⟩
  have P6 := Lib.hid (P5.out.next k6)
  have S6 := Lib.hid (S5.out.next k6)
  clear k6
  go_wp2_with fail
  have hc7 := check_any E ec p w6 P6.out.C P6.out.hc (by omega)
  rw [HG.out.good.chk] at hc7
  refine hc7.mono ?_
  rintro e w7 ⟨rfl, k7⟩
  have P7 := Lib.hid (P6.out.next k7)
  have S7 := Lib.hid (S6.out.next k7)
  clear k7 hc7
  go_wp2_with fail
  have hc8 := rcheck_any P7.out (by omega)
  rw [HG.out.good.chk] at hc8
  refine hc8.mono ?_
  rintro e w8 ⟨rfl, k8⟩
  have P8 := Lib.hid (P7.out.next k8)
  have S8 := Lib.hid (S7.out.next k8)
  clear k8 hc8
  go_wp2_with fail
  refine (matches_law HG.out P8.out S8.out.tab s (by omega) m HM.out).mono ?_
  rintro e w9 ⟨rfl, k9⟩
  have P9 := Lib.hid (P8.out.next k9)
  have S9 := Lib.hid (S8.out.next k9)
  clear k9
  go_wp2_with fail
  refine (rmatches_any HG.out P9.out s (by omega) m HM.out).mono ?_
  rintro e w10 ⟨rfl, k10⟩
  have S10 := Lib.hid (S9.out.next k10)
  clear k10
  go_wp2
  go_ret
  exact ⟨rfl, S10.out.low⟩
end Go.Proofs.YtaphblnelmncaaaDoor.PA
end
