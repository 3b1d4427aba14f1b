/- What the statement's proof stands on, part 1: the walks over the program's functions and the plain laws. -/
import Derived.Test.YtaphblnelmncaaaDoorV8c
import Derived.Laws.Cover1
import Derived.Test.YtaphblnelmncaaaDoorPAx16
import Derived.Test.YtaphblnelmncaaaDoorPAx21
set_option linter.unusedSimpArgs false
set_option linter.unusedVariables false
section
/- The reader reads canonical strings. -/
set_option linter.unusedVariables false
namespace Go.Proofs.YtaphblnelmncaaaDoor.PA
open Go.RowKit Go.Proofs.YtaphblnelmncaaaDoorW.PrintWords Go.Proofs.YtaphblnelmncaaaDoorW.PrintLast Go.Proofs.YtaphblnelmncaaaDoorW.PrintMore

namespace Tr
def lev : Tr → Int
  | seq _ _ => 2
  | alt _ _ => 1
  | _ => 3
def str : Tr → List Int
  | emp => [40, 41]
  | rng lo hi => if lo < hi then 91 :: (chrL lo ++ 45 :: (chrL hi ++ [93])) else chrL lo
  | seq a b => par (decide (a.lev < 2)) a.str ++ par (decide (b.lev < 3)) b.str
  | alt a b => par (decide (a.lev < 1)) a.str ++ 124 :: par (decide (b.lev < 2)) b.str
  | rep a => par (decide (a.lev < 3)) a.str ++ [42]
def shown (t : Tr) (least : Int) : List Int := par (decide (t.lev < least)) t.str
theorem lev_re (t : Tr) (o : Nat) : (t.re o).lev = t.lev := by cases t <;> rfl
theorem str_re (t : Tr) : ∀ o, (t.re o).str = t.str := by
  induction t with
  | emp => intro o; rfl
  | rng => intro o; rfl
  | seq a b iha ihb => intro o; simp [re, Re.str, str, lev_re, iha, ihb]
  | alt a b iha ihb => intro o; simp [re, Re.str, str, lev_re, iha, ihb]
  | rep a iha => intro o; simp [re, Re.str, str, lev_re, iha]
theorem shown_re (t : Tr) (o : Nat) (k : Int) : (t.re o).shown k = t.shown k := by unfold Re.shown shown; rw [lev_re, str_re]
theorem lev_range (t : Tr) : 1 ≤ t.lev ∧ t.lev ≤ 3 := by cases t <;> simp [lev]
theorem shown1 (t : Tr) : t.shown 1 = t.str := by have := t.lev_range; unfold shown par; rw [if_neg (by simp; omega)]
end Tr

/-- The bytes l lie in s from k on. -/
def At (s : ByteArray) : Nat → List Int → Prop
  | k, [] => k ≤ s.size
  | k, c :: l => k < s.size ∧ bt s (k : Int) = c ∧ At s (k + 1) l
theorem At.app {s : ByteArray} : ∀ {a b : List Int} {k : Nat}, At s k (a ++ b) → At s k a ∧ At s (k + a.length) b
  | [], b, k, h => ⟨by cases b with | nil => exact h | cons c l => exact Nat.le_of_lt h.1, h⟩
  | c :: a, b, k, h => by
    obtain ⟨h1, h2, h3⟩ := h
    obtain ⟨h4, h5⟩ := At.app h3
    exact ⟨⟨h1, h2, h4⟩, by rw [List.length_cons, show k + (a.length + 1) = k + 1 + a.length by omega]; exact h5⟩
theorem At.le {s : ByteArray} : ∀ {l : List Int} {k : Nat}, At s k l → k + l.length ≤ s.size
  | [], k, h => h
  | c :: l, k, h => by have := At.le h.2.2; simp; omega

/-- Not an asterisk; the end, a bar or a closing parenthesis. -/
def NoStar (s : ByteArray) (k : Nat) : Prop := k < s.size → bt s k ≠ 42
def EndC (s : ByteArray) (k : Nat) : Prop := k < s.size → bt s k = 124 ∨ bt s k = 41
def ST (s : ByteArray) (i : Int) (st : St) (r : Int × St) : Prop := ∃ N, ∀ n, N ≤ n → starF s n i st = some r
def AF (s : ByteArray) (st : St) (r : Int × St) : Prop := ∃ N, ∀ n, N ≤ n → atomF s n st = some r
def SL (s : ByteArray) (i : Int) (st : St) (r : Int × St) : Prop := ∃ N, ∀ n, N ≤ n → seqLoop s n i st = some r
def SF (s : ByteArray) (st : St) (r : Int × St) : Prop := ∃ N, ∀ n, N ≤ n → seqF s n st = some r
def AL (s : ByteArray) (i : Int) (st : St) (r : Int × St) : Prop := ∃ N, ∀ n, N ≤ n → altLoop s n i st = some r
def TF (s : ByteArray) (st : St) (r : Int × St) : Prop := ∃ N, ∀ n, N ≤ n → altF s n st = some r

/-- Behind the string l of the tree t. -/
def adv (st : St) (t : Tr) (l : List Int) : St := ⟨st.pos + l.length, st.out ++ t.post st.out.length, false⟩
def idx (st : St) (t : Tr) : Int := ((st.out.length + t.size - 1 : Nat) : Int)
def A3 (l : List Int) (t : Tr) : Prop := ∀ (s : ByteArray) (st : St) (r : Int × St), st.wrong = false → At s st.pos l → ST s (idx st t) (adv st t l) r → AF s st r
def A2 (l : List Int) (t : Tr) : Prop := ∀ (s : ByteArray) (st : St) (r : Int × St), st.wrong = false → At s st.pos l → NoStar s (st.pos + l.length) → SL s (idx st t) (adv st t l) r → SF s st r
def A1 (l : List Int) (t : Tr) : Prop := ∀ (s : ByteArray) (st : St) (r : Int × St), st.wrong = false → At s st.pos l → EndC s (st.pos + l.length) → AL s (idx st t) (adv st t l) r → TF s st r
/-- What a string begins with. -/
def Fst (l : List Int) : Prop := ∃ c l', l = c :: l' ∧ c ≠ 42 ∧ c ≠ 124 ∧ c ≠ 41
theorem isNext_at {s : ByteArray} {b : Int} {st : St} (h : st.pos < s.size) (hb : bt s st.pos = b) : isNext s b st = true := by unfold isNext; simp [h, hb]
theorem isNext_no {s : ByteArray} {b : Int} {st : St} (h : st.pos < s.size → bt s st.pos ≠ b) : isNext s b st = false := by
  unfold isNext
  by_cases hh : st.pos < s.size
  · simp [hh, h hh]
  · simp [hh]
theorem pass_at {s : ByteArray} {b : Int} {st : St} (h : st.pos < s.size) (hb : bt s st.pos = b) : pass s b st = ⟨st.pos + 1, st.out, st.wrong⟩ := by unfold pass; rw [if_pos (isNext_at h hb)]
theorem st_end {s : ByteArray} {i : Int} {st : St} (hw : st.wrong = false) (h : NoStar s st.pos) : ST s i st (i, st) := by
  refine ⟨1, fun n hn => ?_⟩
  obtain ⟨m, rfl⟩ : ∃ m, n = m + 1 := ⟨n - 1, by omega⟩
  rw [starF, if_neg (by simp [hw]), if_neg (by rw [isNext_no h]; simp)]
theorem sl_end {s : ByteArray} {i : Int} {st : St} (h : EndC s st.pos) : SL s i st (i, st) := by
  refine ⟨1, fun n hn => ?_⟩
  obtain ⟨m, rfl⟩ : ∃ m, n = m + 1 := ⟨n - 1, by omega⟩
  rw [seqLoop, if_neg]
  intro hh
  simp only [Bool.and_eq_true, decide_eq_true_eq, bne_iff_ne, ne_eq] at hh
  have := h hh.2.1
  omega
theorem al_end {s : ByteArray} {i : Int} {st : St} (h : st.pos < s.size → bt s st.pos ≠ 124) : AL s i st (i, st) := by
  refine ⟨1, fun n hn => ?_⟩
  obtain ⟨m, rfl⟩ : ∃ m, n = m + 1 := ⟨n - 1, by omega⟩
  rw [altLoop]
  split
  · rfl
  · rw [if_neg (by rw [isNext_no h]; simp)]
theorem EndC.noStar {s : ByteArray} {k : Nat} (h : EndC s k) : NoStar s k := fun hk e => by have := h hk; omega
theorem A3.two {l : List Int} {t : Tr} (h : A3 l t) : A2 l t := by
  intro s st r hw ha hn hr
  obtain ⟨N, hN⟩ := h s st _ hw ha (st_end rfl (by exact hn))
  obtain ⟨M, hM⟩ := hr
  refine ⟨N + M + 1, fun n hn => ?_⟩
  obtain ⟨m, rfl⟩ : ∃ m, n = m + 1 := ⟨n - 1, by omega⟩
  rw [seqF, hN m (by omega)]
  exact hM m (by omega)
theorem A2.one {l : List Int} {t : Tr} (h : A2 l t) : A1 l t := by
  intro s st r hw ha hn hr
  obtain ⟨N, hN⟩ := h s st _ hw ha hn.noStar (sl_end (by exact hn))
  obtain ⟨M, hM⟩ := hr
  refine ⟨N + M + 1, fun n hn => ?_⟩
  obtain ⟨m, rfl⟩ : ∃ m, n = m + 1 := ⟨n - 1, by omega⟩
  rw [altF, hN m (by omega)]
  exact hM m (by omega)
theorem A1.paren {l : List Int} {t : Tr} (h : A1 l t) (hf : Fst l) : A3 (40 :: (l ++ [41])) t := by
  intro s st r hw ha hr
  obtain ⟨h1, h2, h3⟩ := ha
  obtain ⟨h4, h5, h6, _⟩ := h3.app
  obtain ⟨c, l', e, c1, c2, c3⟩ := hf
  have hc : st.pos + 1 < s.size ∧ bt s ((st.pos + 1 : Nat) : Int) = c := by rw [e] at h4; exact ⟨h4.1, h4.2.1⟩
  have hp := pass_at h1 h2
  obtain ⟨N, hN⟩ := h s (pass s 40 st) (idx (pass s 40 st) t, adv (pass s 40 st) t l) (by rw [hp]; exact hw) (by rw [hp]; exact h4) (by rw [hp]; exact fun _ => .inr h6) (al_end (by rw [hp]; intro _; show bt s ((st.pos + 1 + l.length : Nat) : Int) ≠ 124; rw [h6]; decide))
  obtain ⟨M, hM⟩ := hr
  refine ⟨N + M + 1, fun n hn => ?_⟩
  obtain ⟨m, rfl⟩ : ∃ m, n = m + 1 := ⟨n - 1, by omega⟩
  rw [atomF, if_neg (by rw [isNext_no (by intro _; rw [h2]; decide)]; simp), if_pos (isNext_at h1 h2), if_neg (by rw [isNext_no (by rw [hp]; intro _; show bt s ((st.pos + 1 : Nat) : Int) ≠ 41; rw [hc.2]; exact c3)]; simp), hN m (by omega), Option.bind_some]
  rw [if_neg (by simp [adv])]
  have e1 : isNext s 41 (adv (pass s 40 st) t l) = true := isNext_at (by rw [hp]; exact h5) (by rw [hp]; exact h6)
  have e2 : (pass s 41 (adv (pass s 40 st) t l)).bad (!isNext s 41 (adv (pass s 40 st) t l)) = adv st t (40 :: (l ++ [41])) := by
    rw [e1]
    rw [hp] at e1 ⊢
    unfold pass
    rw [if_pos e1]
    simp only [St.bad, adv, Bool.not_true, List.length_cons, List.length_append, List.length_nil]
    congr 1; omega
  have e3 : idx (pass s 40 st) t = idx st t := by rw [hp]; rfl
  rw [e2, e3]
  exact hM m (by omega)
theorem adv_bind (st : St) (a b : Tr) (l1 l2 : List Int) (K : Int) : (adv (adv st a l1) b l2).add ⟨K, 0, 0, idx st a, idx (adv st a l1) b⟩ = ⟨st.pos + l1.length + l2.length, st.out ++ (a.post st.out.length ++ (b.post (st.out.length + a.size) ++ [⟨K, 0, 0, ((st.out.length + a.size - 1 : Nat) : Int), ((st.out.length + a.size + b.size - 1 : Nat) : Int)⟩])), false⟩ := by
  simp only [adv, St.add, idx, List.length_append, a.post_length, List.append_assoc]
theorem adv_length (st : St) (t : Tr) (l : List Int) : (adv st t l).out.length = st.out.length + t.size := by simp [adv, t.post_length]
theorem A2.seq {l1 l2 : List Int} {a b : Tr} (h : A2 l1 a) (k : A3 l2 b) (hf : Fst l2) : A2 (l1 ++ l2) (.seq a b) := by
  intro s st r hw ha hn hr
  obtain ⟨h1, h2⟩ := ha.app
  obtain ⟨c, l', e, c1, c2, c3⟩ := hf
  have hc : st.pos + l1.length < s.size ∧ bt s ((st.pos + l1.length : Nat) : Int) = c := by rw [e] at h2; exact ⟨h2.1, h2.2.1⟩
  rw [List.length_append, ← Nat.add_assoc] at hn
  refine h s st r hw h1 (fun _ => by rw [hc.2]; exact c1) ?_
  obtain ⟨N, hN⟩ := k s (adv st a l1) _ rfl h2 (st_end rfl (by exact hn))
  obtain ⟨M, hM⟩ := hr
  refine ⟨N + M + 1, fun n hn => ?_⟩
  obtain ⟨m, rfl⟩ : ∃ m, n = m + 1 := ⟨n - 1, by omega⟩
  rw [seqLoop, if_pos, hN m (by omega), Option.bind_some]
  · have e1 : (adv (adv st a l1) b l2).add ⟨2, 0, 0, idx st a, idx (adv st a l1) b⟩ = adv st (.seq a b) (l1 ++ l2) := by
      rw [adv_bind]; simp only [adv, Tr.post, List.length_append]; congr 1; omega
    have e2 : ((adv (adv st a l1) b l2).out.length : Int) = idx st (.seq a b) := by
      rw [adv_length, adv_length]; unfold idx; simp only [Tr.size]; omega
    simp only
    rw [e1, e2]
    exact hM m (by omega)
  · show (!false && _) = true
    simp only [Bool.not_false, Bool.true_and, Bool.and_eq_true, decide_eq_true_eq, bne_iff_ne, ne_eq]
    have e3 : (adv st a l1).pos = st.pos + l1.length := rfl
    rw [e3, hc.2]
    exact ⟨hc.1, c2, c3⟩
theorem A1.alt {l1 l2 : List Int} {a b : Tr} (h : A1 l1 a) (k : A2 l2 b) : A1 (l1 ++ 124 :: l2) (.alt a b) := by
  intro s st r hw ha hn hr
  obtain ⟨h1, h2, h3, h4⟩ := ha.app
  rw [List.length_append, List.length_cons] at hn
  have hp : pass s 124 (adv st a l1) = ⟨st.pos + l1.length + 1, st.out ++ a.post st.out.length, false⟩ := pass_at h2 h3
  refine h s st r hw h1 (fun _ => .inl h3) ?_
  have hn' : EndC s (st.pos + l1.length + 1 + l2.length) := by rw [show st.pos + l1.length + 1 + l2.length = st.pos + (l1.length + (l2.length + 1)) by omega]; exact hn
  obtain ⟨N, hN⟩ := k s (pass s 124 (adv st a l1)) _ (by rw [hp]) (by rw [hp]; exact h4) (by rw [hp]; exact hn'.noStar) (sl_end (by rw [hp]; exact hn'))
  obtain ⟨M, hM⟩ := hr
  refine ⟨N + M + 1, fun n hn => ?_⟩
  obtain ⟨m, rfl⟩ : ∃ m, n = m + 1 := ⟨n - 1, by omega⟩
  rw [altLoop, if_neg (by simp [adv]), if_pos (isNext_at h2 h3), hN m (by omega), Option.bind_some]
  have ei : idx (pass s 124 (adv st a l1)) b = idx (adv st a l1) b := by rw [hp]; rfl
  have ea : (adv (pass s 124 (adv st a l1)) b l2) = ⟨st.pos + l1.length + 1 + l2.length, (adv (adv st a l1) b l2).out, false⟩ := by rw [hp]; rfl
  have e1 : (adv (pass s 124 (adv st a l1)) b l2).add ⟨3, 0, 0, idx st a, idx (adv st a l1) b⟩ = adv st (.alt a b) (l1 ++ 124 :: l2) := by
    rw [ea]
    have := congrArg St.out (adv_bind st a b l1 l2 3)
    simp only [St.add] at this ⊢
    rw [this]
    simp only [adv, Tr.post, List.length_append, List.length_cons]; congr 1; omega
  have e2 : ((adv (pass s 124 (adv st a l1)) b l2).out.length : Int) = idx st (.alt a b) := by
    rw [ea]; simp only; rw [adv_length, adv_length]; unfold idx; simp only [Tr.size]; omega
  simp only
  rw [ei, e1, e2]
  exact hM m (by omega)
theorem A3.rep {l : List Int} {a : Tr} (h : A3 l a) : A3 (l ++ [42]) (.rep a) := by
  intro s st r hw ha hr
  obtain ⟨h1, h2, h3, h4⟩ := ha.app
  refine h s st r hw h1 ?_
  obtain ⟨M, hM⟩ := hr
  refine ⟨M + 1, fun n hn => ?_⟩
  obtain ⟨m, rfl⟩ : ∃ m, n = m + 1 := ⟨n - 1, by omega⟩
  rw [starF, if_neg (by simp [adv]), if_pos (isNext_at h2 h3)]
  have hp : pass s 42 (adv st a l) = ⟨st.pos + l.length + 1, st.out ++ a.post st.out.length, false⟩ := pass_at h2 h3
  have ha := a.size_pos
  have e1 : (pass s 42 (adv st a l)).add ⟨4, 0, 0, idx st a, 0⟩ = adv st (.rep a) (l ++ [42]) := by
    rw [hp]; simp only [St.add, adv, Tr.post, List.length_append, List.length_cons, List.length_nil, List.append_assoc, idx]; congr 1
  have e2 : ((adv st a l).out.length : Int) = idx st (.rep a) := by rw [adv_length]; unfold idx; simp only [Tr.size]; omega
  rw [e1, e2]
  exact hM m (by omega)
theorem A3.emp : A3 [40, 41] .emp := by
  intro s st r hw ha hr
  obtain ⟨h1, h2, h3, h4, h5⟩ := ha
  have hp := pass_at h1 h2
  have hp2 : pass s 41 (pass s 40 st) = ⟨st.pos + 1 + 1, st.out, false⟩ := by rw [hp, hw]; exact pass_at h3 h4
  obtain ⟨M, hM⟩ := hr
  refine ⟨M + 1, fun n hn => ?_⟩
  obtain ⟨m, rfl⟩ : ∃ m, n = m + 1 := ⟨n - 1, by omega⟩
  rw [atomF, if_neg (by rw [isNext_no (by intro _; rw [h2]; decide)]; simp), if_pos (isNext_at h1 h2), if_pos (by rw [hp]; exact isNext_at h3 h4), hp2]
  exact hM m (by omega)

/-! ### characters -/
theorem plain_not {b : Int} (h : plainB b = true) : b ≠ 40 ∧ b ≠ 41 ∧ b ≠ 42 ∧ b ≠ 45 ∧ b ≠ 91 ∧ b ≠ 92 ∧ b ≠ 93 ∧ b ≠ 124 ∧ 32 < b ∧ b < 127 := by
  unfold plainB specials at h
  simp only [Bool.and_eq_true, Bool.not_eq_true', decide_eq_true_eq, List.contains_eq_mem, decide_eq_false_iff_not, List.mem_cons, List.not_mem_nil, or_false, not_or] at h
  obtain ⟨⟨a1, a2, a3, a4, a5, a6, a7, a8⟩, a9, a10⟩ := h
  exact ⟨a1, a2, a3, a4, a5, a6, a7, a8, a9, a10⟩
theorem plain_92 : plainB 92 = false := by decide
theorem hex_digit : ∀ d : Fin 16, hexV (bt digits (d.val : Int)) = (d.val : Int) := by decide
theorem char_rd {s : ByteArray} {st : St} {b : Int} (h0 : 0 ≤ b) (h1 : b ≤ 255) (ha : At s st.pos (chrL b)) : charF s st = (b, ⟨st.pos + (chrL b).length, st.out, st.wrong⟩) := by
  unfold chrL at *
  by_cases hp : plainB b = true
  · rw [if_pos hp] at *
    obtain ⟨a1, a2, a3⟩ := ha
    unfold charF
    rw [if_pos ⟨a1, by rw [a2]; exact hp⟩, a2]
    rfl
  · rw [if_neg hp] at *
    obtain ⟨a1, a2, a3, a4, a5, a6, a7, a8, a9⟩ := ha
    have p1 := pass_at a1 a2
    have p2 : pass s 120 (pass s 92 st) = ⟨st.pos + 1 + 1, st.out, st.wrong⟩ := by rw [p1]; exact pass_at a3 a4
    have d1 : hexV (bt digits (b / 16)) = b / 16 := by
      have := hex_digit ⟨(b / 16).toNat, by omega⟩
      simp only [show ((b / 16).toNat : Int) = b / 16 by omega] at this; exact this
    have d2 : hexV (bt digits (b % 16)) = b % 16 := by
      have := hex_digit ⟨(b % 16).toNat, by omega⟩
      simp only [show ((b % 16).toNat : Int) = b % 16 by omega] at this; exact this
    have a6' : bt s ((st.pos : Int) + 1 + 1) = bt digits (b / 16) := a6
    have a8' : bt s ((st.pos : Int) + 1 + 1 + 1) = bt digits (b % 16) := a8
    unfold charF
    rw [if_neg (by rw [a2, plain_92]; simp), if_pos (isNext_at a1 a2), if_pos (by rw [p1]; exact isNext_at a3 a4), p2]
    simp only [Int.natCast_add, Int.cast_ofNat_Int]
    rw [if_pos (by omega)]
    rw [a6', a8', d1, d2, if_pos (by omega)]
    rw [show 16 * (b / 16) + b % 16 = b by omega]
    rfl
theorem char_fst {b : Int} : Fst (chrL b) := by
  unfold chrL
  split
  · rename_i h
    have := plain_not h
    exact ⟨b, [], rfl, by omega, by omega, by omega⟩
  · exact ⟨92, _, rfl, by decide, by decide, by decide⟩
/-- What a character's first byte is not. -/
theorem char_fst2 {b : Int} : ∃ c l, chrL b = c :: l ∧ c ≠ 91 ∧ c ≠ 40 := by
  unfold chrL
  split
  · rename_i h
    have := plain_not h
    exact ⟨b, [], rfl, by omega, by omega⟩
  · exact ⟨92, _, rfl, by decide, by decide⟩
theorem A3.chr {b : Int} (h0 : 0 ≤ b) (h1 : b ≤ 255) : A3 (chrL b) (.rng b b) := by
  intro s st r hw ha hr
  have hc := char_rd h0 h1 ha
  obtain ⟨c, l, e, e1, e2⟩ := char_fst2 (b := b)
  have hb : bt s (st.pos : Int) = c := by rw [e] at ha; exact ha.2.1
  obtain ⟨M, hM⟩ := hr
  refine ⟨M + 1, fun n hn => ?_⟩
  obtain ⟨m, rfl⟩ : ∃ m, n = m + 1 := ⟨n - 1, by omega⟩
  rw [atomF, if_neg (by rw [isNext_no (by intro _; rw [hb]; exact e1)]; simp), if_neg (by rw [isNext_no (by intro _; rw [hb]; exact e2)]; simp), hc]
  have e4 : (⟨st.pos + (chrL b).length, st.out, st.wrong⟩ : St).add ⟨1, b, b, 0, 0⟩ = adv st (.rng b b) (chrL b) := by rw [hw]; rfl
  simp only
  rw [e4]
  exact hM m (by omega)
theorem A3.range {lo hi : Int} (h0 : 0 ≤ lo) (h1 : lo ≤ hi) (h2 : hi ≤ 255) : A3 (91 :: (chrL lo ++ 45 :: (chrL hi ++ [93]))) (.rng lo hi) := by
  intro s st r hw ha hr
  obtain ⟨a1, a2, a3⟩ := ha
  obtain ⟨a4, a5, a6, a7⟩ := a3.app
  obtain ⟨a8, a9, a10, _⟩ := a7.app
  have p1 : pass s 91 st = ⟨st.pos + 1, st.out, false⟩ := by rw [← hw]; exact pass_at a1 a2
  have c1 : charF s (pass s 91 st) = (lo, ⟨st.pos + 1 + (chrL lo).length, st.out, false⟩) := by rw [p1]; exact char_rd h0 (by omega) a4
  have n1 : isNext s 45 ⟨st.pos + 1 + (chrL lo).length, st.out, false⟩ = true := isNext_at a5 a6
  have p2 : pass s 45 ⟨st.pos + 1 + (chrL lo).length, st.out, false⟩ = ⟨st.pos + 1 + (chrL lo).length + 1, st.out, false⟩ := pass_at a5 a6
  have c2 : charF s ⟨st.pos + 1 + (chrL lo).length + 1, st.out, false⟩ = (hi, ⟨st.pos + 1 + (chrL lo).length + 1 + (chrL hi).length, st.out, false⟩) := char_rd (st := ⟨st.pos + 1 + (chrL lo).length + 1, st.out, false⟩) (by omega) h2 a8
  have n2 : isNext s 93 ⟨st.pos + 1 + (chrL lo).length + 1 + (chrL hi).length, st.out, false⟩ = true := isNext_at a9 a10
  have p3 : pass s 93 ⟨st.pos + 1 + (chrL lo).length + 1 + (chrL hi).length, st.out, false⟩ = ⟨st.pos + 1 + (chrL lo).length + 1 + (chrL hi).length + 1, st.out, false⟩ := pass_at a9 a10
  have hr' : rangeF s (pass s 91 st) = (⟨1, lo, hi, 0, 0⟩, ⟨st.pos + 1 + (chrL lo).length + 1 + (chrL hi).length + 1, st.out, false⟩) := by
    unfold rangeF
    rw [c1]
    simp only
    rw [n1, p2, c2]
    simp only
    rw [n2, p3]
    simp [St.bad, h1]
  obtain ⟨M, hM⟩ := hr
  refine ⟨M + 1, fun n hn => ?_⟩
  obtain ⟨m, rfl⟩ : ∃ m, n = m + 1 := ⟨n - 1, by omega⟩
  rw [atomF, if_pos (isNext_at a1 a2), hr']
  have e4 : (⟨st.pos + 1 + (chrL lo).length + 1 + (chrL hi).length + 1, st.out, false⟩ : St).add ⟨1, lo, hi, 0, 0⟩ = adv st (.rng lo hi) (91 :: (chrL lo ++ 45 :: (chrL hi ++ [93]))) := by
    simp only [St.add, adv, Tr.post, List.length_cons, List.length_append, List.length_nil]; congr 1; omega
  simp only
  rw [e4]
  exact hM m (by omega)

/-! ### trees -/
theorem par_yes (l : List Int) : par true l = 40 :: (l ++ [41]) := rfl
theorem par_no (l : List Int) : par false l = l := rfl
theorem fst_paren (l : List Int) : Fst (40 :: l) := ⟨40, l, rfl, by decide, by decide, by decide⟩
theorem Fst.app {l : List Int} (h : Fst l) (m : List Int) : Fst (l ++ m) := by
  obtain ⟨c, l', rfl, h⟩ := h; exact ⟨c, l' ++ m, rfl, h⟩
theorem Fst.par {l : List Int} (h : Fst l) (b : Bool) : Fst (par b l) := by
  cases b
  · exact h
  · exact fst_paren _
theorem Tr.fst (t : Tr) : Fst t.str := by
  induction t with
  | emp => exact fst_paren _
  | rng lo hi =>
    unfold Tr.str
    split
    · exact ⟨91, _, rfl, by decide, by decide, by decide⟩
    · exact char_fst
  | seq a b iha ihb => exact (iha.par _).app _
  | alt a b iha ihb => exact (iha.par _).app _
  | rep a iha => exact (iha.par _).app _
/-- A tree's string is read at each of the levels. -/
structure Rd (t : Tr) : Prop where
  three : t.lev = 3 → A3 t.str t
  two : 2 ≤ t.lev → A2 t.str t
  one : A1 t.str t
theorem Rd.of3 {t : Tr} (h : A3 t.str t) : Rd t := ⟨fun _ => h, fun _ => h.two, h.two.one⟩
theorem Rd.par3 {t : Tr} (h : Rd t) : A3 (t.shown 3) t := by
  have := t.lev_range
  unfold Tr.shown
  by_cases hl : t.lev < 3
  · rw [decide_eq_true hl]; exact h.one.paren t.fst
  · rw [decide_eq_false hl]; exact h.three (by omega)
theorem Rd.par2 {t : Tr} (h : Rd t) : A2 (t.shown 2) t := by
  have := t.lev_range
  unfold Tr.shown
  by_cases hl : t.lev < 2
  · rw [decide_eq_true hl]; exact (h.one.paren t.fst).two
  · rw [decide_eq_false hl]; exact h.two (by omega)
theorem Rd.par1 {t : Tr} (h : Rd t) : A1 (t.shown 1) t := by rw [t.shown1]; exact h.one
theorem Tr.rd (t : Tr) : t.ok → Rd t := by
  induction t with
  | emp => intro _; exact .of3 A3.emp
  | rng lo hi =>
    rintro ⟨h0, h1, h2⟩
    refine .of3 ?_
    unfold Tr.str
    by_cases hl : lo < hi
    · rw [if_pos hl]; exact A3.range h0 h1 h2
    · rw [if_neg hl]
      have : lo = hi := by omega
      subst this
      exact A3.chr h0 h2
  | seq a b iha ihb =>
    rintro ⟨ha, hb⟩
    have h := A2.seq (iha ha).par2 (ihb hb).par3 (b.fst.par _)
    exact ⟨fun h => by simp [Tr.lev] at h, fun _ => h, h.one⟩
  | alt a b iha ihb =>
    rintro ⟨ha, hb⟩
    have h := A1.alt (iha ha).par1 (ihb hb).par2
    exact ⟨fun h => by simp [Tr.lev] at h, fun h => by simp [Tr.lev] at h, h⟩
  | rep a iha =>
    intro ha
    exact .of3 (A3.rep (iha ha).par3)

/-! ### the whole string -/
theorem at_self : ∀ (l : List Int) (s : ByteArray) (k : Nat), k + l.length = s.size → (∀ i, i < l.length → bt s ((k + i : Nat) : Int) = l.getD i 0) → At s k l
  | [], s, k, h, _ => by simp at h; unfold At; omega
  | c :: l, s, k, h, g => by
    refine ⟨by simp at h; omega, by simpa using g 0 (by simp), at_self l s (k + 1) (by simp at h; omega) fun i hi => ?_⟩
    have := g (i + 1) (by simpa using hi)
    rw [show k + 1 + i = k + (i + 1) by omega, this]; simp
/-- The reader reads a tree's string. -/
theorem A1.reads {l : List Int} {t : Tr} (h : A1 l t) {s : ByteArray} (hs : At s 0 l) (hl : l.length = s.size) : ∃ n, altF s n st0 = some (((t.size - 1 : Nat) : Int), ⟨s.size, t.post 0, false⟩) := by
  obtain ⟨N, hN⟩ := h s st0 (idx st0 t, adv st0 t l) rfl hs (fun hk => by simp [st0] at hk; omega) (al_end (fun hk => by simp [adv, st0] at hk; omega))
  refine ⟨N, ?_⟩
  rw [hN N (Nat.le_refl _)]
  simp [idx, adv, st0, hl]
theorem parse_tr {s : ByteArray} {t : Tr} {i : Int} (hz : t.size ≤ 512) : parseF s (i, ⟨s.size, t.post 0, false⟩) = (t.post 0, 0) := by
  have := t.post_length 0
  unfold parseF
  simp only [Bool.false_or, Nat.lt_irrefl, decide_false, Bool.false_eq_true, if_false]
  rw [if_neg (by omega)]
/-- The bytes of a string are in order. -/
theorem chr_ok {b : Int} (h0 : 0 ≤ b) (h1 : b ≤ 255) : ∀ c ∈ chrL b, okB c = true := by
  unfold chrL
  split
  · rename_i h
    have := plain_not h
    intro c hc; simp at hc; subst hc; unfold okB; simp; omega
  · have hd : ∀ d : Fin 16, okB (bt digits (d.val : Int)) = true := by decide
    intro c hc
    simp only [List.mem_cons, List.not_mem_nil, or_false] at hc
    rcases hc with rfl | rfl | rfl | rfl
    · decide
    · decide
    · have := hd ⟨(b / 16).toNat, by omega⟩; simp only [show ((b / 16).toNat : Int) = b / 16 by omega] at this; exact this
    · have := hd ⟨(b % 16).toNat, by omega⟩; simp only [show ((b % 16).toNat : Int) = b % 16 by omega] at this; exact this
theorem par_ok {l : List Int} (h : ∀ c ∈ l, okB c = true) (b : Bool) : ∀ c ∈ par b l, okB c = true := by
  cases b
  · exact h
  · intro c hc
    simp only [par_yes, List.mem_cons, List.mem_append, List.not_mem_nil, or_false] at hc
    rcases hc with rfl | hc | rfl
    · decide
    · exact h c hc
    · decide
theorem Tr.str_ok (t : Tr) : t.ok → ∀ c ∈ t.str, okB c = true := by
  induction t with
  | emp => intro _ c hc; simp only [Tr.str, List.mem_cons, List.not_mem_nil, or_false] at hc; rcases hc with rfl | rfl <;> decide
  | rng lo hi =>
    rintro ⟨h0, h1, h2⟩ c hc
    unfold Tr.str at hc
    split at hc
    · simp only [List.mem_cons, List.mem_append, List.not_mem_nil, or_false] at hc
      rcases hc with rfl | hc | rfl | hc | rfl
      · decide
      · exact chr_ok h0 (by omega) c hc
      · decide
      · exact chr_ok (by omega) h2 c hc
      · decide
    · exact chr_ok h0 (by omega) c hc
  | seq a b iha ihb =>
    rintro ⟨ha, hb⟩ c hc
    rcases List.mem_append.1 hc with hc | hc
    · exact par_ok (iha ha) _ c hc
    · exact par_ok (ihb hb) _ c hc
  | alt a b iha ihb =>
    rintro ⟨ha, hb⟩ c hc
    rcases List.mem_append.1 hc with hc | hc
    · exact par_ok (iha ha) _ c hc
    · rcases List.mem_cons.1 hc with rfl | hc
      · decide
      · exact par_ok (ihb hb) _ c hc
  | rep a iha =>
    intro ha c hc
    rcases List.mem_append.1 hc with hc | hc
    · exact par_ok (iha ha) _ c hc
    · simp at hc; subst hc; decide
end Go.Proofs.YtaphblnelmncaaaDoor.PA
end

section
/- What the statements' walks share: Print and Parse of trees. -/
set_option linter.unusedVariables false
namespace Go.Proofs.YtaphblnelmncaaaDoor.PA
open Go.RowKit Go.Proofs.YtaphblnelmncaaaDoorW.PrintWords Go.Proofs.YtaphblnelmncaaaDoorW.PrintLast Go.Proofs.YtaphblnelmncaaaDoorW.PrintMore

/-- A statement as a Bool. -/
noncomputable def dB (P : Prop) : Bool := @decide P (Classical.propDecidable P)
theorem dB_iff (P : Prop) : dB P = true ↔ P := by unfold dB; exact @decide_eq_true_iff P (Classical.propDecidable P)
theorem dB_eq {P Q : Prop} (h : P ↔ Q) : dB P = dB Q := by rw [Bool.eq_iff_iff, dB_iff, dB_iff]; exact h
theorem dB_yes {P : Prop} (h : P) : dB P = true := (dB_iff P).2 h
theorem dB_no {P : Prop} (h : ¬ P) : dB P = false := by
  cases hd : dB P
  · rfl
  · exact absurd ((dB_iff P).1 hd) h
theorem matches_dB {p : List S50} {t : Re} (g : Fine p t) {A : Option Addr} {c : Nat} {w : World} (h : Pt w A c p) (ht : Tab w) (s : ByteArray) (hs : s.size ≤ 140737488351232) {P : Prop} (hP : P ↔ t.Lang (bytesOf s)) :
    Calls Tryd.prog 23 #[.slice A p.length c, .string s] w fun e w' => e = .returned (.bool (dB P)) ∧ Below w.heap.size w w' := matches_law g h ht s hs (dB P) ((dB_iff P).trans hP)

theorem bt_str {l : List Int} (h : ∀ b ∈ l, 0 ≤ b ∧ b ≤ 255) (i : Nat) (hi : i < l.length) : bt (strOfNums l) (i : Int) = l.getD i 0 := by
  have e := bytes_strOf h
  have hs : i < (strOfNums l).size := by rw [strOfNums_size]; exact hi
  have : (bytesOf (strOfNums l)).getD i 0 = bt (strOfNums l) (i : Int) := by
    unfold bytesOf bt
    have hs' : i < (strOfNums l).data.toList.length := by rw [Array.length_toList]; exact hs
    rw [dif_pos (show (i : Int).toNat < (strOfNums l).size from hs)]
    rw [List.getD_eq_getElem?_getD, List.getElem?_map, List.getElem?_eq_getElem hs']
    rfl
  rw [← this, e]
theorem okB_byte {b : Int} (h : okB b = true) : 0 ≤ b ∧ b ≤ 255 := by unfold okB at h; simp at h; omega
theorem at_str {l : List Int} (h : ∀ b ∈ l, okB b = true) : At (strOfNums l) 0 l :=
  at_self l (strOfNums l) 0 (by rw [strOfNums_size]; omega) fun i hi => by rw [Nat.zero_add]; exact bt_str (fun b hb => okB_byte (h b hb)) i hi
/-- Parse of a tree's string. -/
theorem parse_law {l : List Int} {t : Tr} (h : A1 l t) (hok : ∀ c ∈ l, okB c = true) (hz : t.size ≤ 512) (hl : l.length ≤ 8192) (w : World) :
    Calls Tryd.prog 25 #[.string (strOfNums l)] w fun e w' => ∃ E ec, e = .returned (.tuple #[.slice E (t.post 0).length ec, .int .i64 0]) ∧ Pt w' E ec (t.post 0) ∧ Below w.heap.size w w' := by
  obtain ⟨n, hn⟩ := h.reads (at_str hok) (by rw [strOfNums_size])
  have hall : okTo (strOfNums l) (strOfNums l).size = true := by
    rw [okTo_spec]
    intro i hi
    rw [strOfNums_size] at hi
    rw [bt_str (fun b hb => okB_byte (hok b hb)) i hi]
    refine hok _ ?_
    rw [List.getD_eq_getElem?_getD, List.getElem?_eq_getElem hi]; exact List.getElem_mem hi
  refine (parse_any (strOfNums l) w (by rw [strOfNums_size]; exact hl) n _ hn).mono ?_
  rintro e w' ⟨v, rfl, hR, hb⟩
  rw [if_pos hall, parse_tr hz] at hR
  obtain ⟨E, ec, rfl⟩ := Kd.R_slice hR
  rw [if_pos hall, parse_tr hz]
  exact ⟨E, ec, rfl, (Pt.of hR).2, hb⟩
/-- Print of a pattern in postorder. -/
theorem print_law {t : Tr} (ht : t.ok) (hz : t.size ≤ 512) {A : Option Addr} {c : Nat} {w : World} (h : Pt w A c (t.post 0)) :
    Calls Tryd.prog 19 #[.slice A (t.post 0).length c] w fun e w' => e = .returned (.tuple #[.string (strOfNums t.str), .int .i64 0]) ∧ Below w.heap.size w w' := by
  obtain ⟨u, e, _, g⟩ := Pst.fine ⟨t, rfl, ht⟩ (by rw [t.post_length]; exact hz)
  have g2 := isRe_unique g.good.is (by rw [t.post_length]; simpa using t.isRe 0 (lies_self t))
  rw [g2] at g
  exact print_of g.good A c w h.C h.hc _ (by rw [t.shown_re, t.shown1])
theorem Tr.str_length (t : Tr) : t.str.length ≤ 13 * t.size := by
  have h := PA.str_length (t.re 0)
  rw [t.str_re] at h
  have : (t.re 0).size = t.size := by
    have : ∀ (t : Tr) o, (t.re o).size = t.size := by
      intro t
      induction t with
      | emp => intro o; rfl
      | rng => intro o; rfl
      | seq a b iha ihb => intro o; simp [Tr.re, Re.size, Tr.size, iha, ihb]
      | alt a b iha ihb => intro o; simp [Tr.re, Re.size, Tr.size, iha, ihb]
      | rep a iha => intro o; simp [Tr.re, Re.size, Tr.size, iha]
    exact this t 0
  rw [this] at h
  exact h
/-- The tree's own machine. -/
theorem Tr.fine (t : Tr) (ht : t.ok) (hz : t.size ≤ 512) : Fine (t.post 0) (t.re 0) := by
  obtain ⟨u, e, _, g⟩ := Pst.fine ⟨t, rfl, ht⟩ (by rw [t.post_length]; exact hz)
  have g2 := isRe_unique g.good.is (by rw [t.post_length]; simpa using t.isRe 0 (lies_self t))
  rw [g2] at g
  exact g
/-- The language does not hang on the numbers. -/
theorem Tr.lang_re (t : Tr) : ∀ (o o' : Nat) (w : List Int), (t.re o).Lang w ↔ (t.re o').Lang w := by
  induction t with
  | emp => intro o o' w; exact Iff.rfl
  | rng lo hi => intro o o' w; exact Iff.rfl
  | seq a b iha ihb =>
    intro o o' w
    constructor
    · rintro ⟨u, v, e, h1, h2⟩; exact ⟨u, v, e, (iha _ _ _).1 h1, (ihb _ _ _).1 h2⟩
    · rintro ⟨u, v, e, h1, h2⟩; exact ⟨u, v, e, (iha _ _ _).1 h1, (ihb _ _ _).1 h2⟩
  | alt a b iha ihb =>
    intro o o' w
    constructor
    · rintro (h | h); exact .inl ((iha _ _ _).1 h); exact .inr ((ihb _ _ _).1 h)
    · rintro (h | h); exact .inl ((iha _ _ _).1 h); exact .inr ((ihb _ _ _).1 h)
  | rep a iha =>
    intro o o' w
    have key : ∀ o o' w, Star (a.re o).Lang w → Star (a.re o').Lang w := by
      intro o o' w h
      induction h with
      | nil => exact .nil
      | app u v hu hv ih => exact .app u v ((iha _ _ _).1 hu) ih
    exact ⟨key o o' w, key o' o w⟩
def Tr.Lang (t : Tr) (w : List Int) : Prop := (t.re 0).Lang w
theorem Tr.lang_at (t : Tr) (o : Nat) (w : List Int) : (t.re o).Lang w ↔ t.Lang w := t.lang_re o 0 w
theorem Tr.lang_seq (a b : Tr) (w : List Int) : (Tr.seq a b).Lang w ↔ ∃ u v, w = u ++ v ∧ a.Lang u ∧ b.Lang v := by
  constructor
  · rintro ⟨u, v, e, h1, h2⟩; exact ⟨u, v, e, h1, (b.lang_at _ _).1 h2⟩
  · rintro ⟨u, v, e, h1, h2⟩; exact ⟨u, v, e, h1, (b.lang_at _ _).2 h2⟩
theorem Tr.lang_alt (a b : Tr) (w : List Int) : (Tr.alt a b).Lang w ↔ a.Lang w ∨ b.Lang w := by
  constructor
  · rintro (h | h); exact .inl h; exact .inr ((b.lang_at _ _).1 h)
  · rintro (h | h); exact .inl h; exact .inr ((b.lang_at _ _).2 h)
theorem Tr.lang_rep (a : Tr) (w : List Int) : (Tr.rep a).Lang w ↔ Star a.Lang w := Iff.rfl
end Go.Proofs.YtaphblnelmncaaaDoor.PA
end

section
/- What the statements' walks share: Same, Literal. -/
set_option linter.unusedVariables false
namespace Go.Proofs.YtaphblnelmncaaaDoor.PA
open Go.RowKit Go.Proofs.YtaphblnelmncaaaDoorW.PrintWords Go.Proofs.YtaphblnelmncaaaDoorW.PrintLast Go.Proofs.YtaphblnelmncaaaDoorW.PrintMore

theorem rd_eq {p : List S50} {i : Nat} (h : i < p.length) : rd_T50 p (i : Int) = p[i] := by simp [rd_T50, List.getD_eq_getElem?_getD, h]
theorem same_l0 {p q : List S50} (hl : p.length = q.length) (hp : p.length ≤ 1000000000) : ∀ (n i : Nat), p.length + 1 - i ≤ n → i ≤ p.length → koineref04_Same.l0 n p q (i : Int) = some (dB (p.drop i = q.drop i))
  | 0, i, h, hi => by omega
  | n + 1, i, h, hi => by
    unfold koineref04_Same.l0
    by_cases hlt : i < p.length
    · have hq : i < q.length := by omega
      have e : wrap64 ((i : Int) + 1) = ((i + 1 : Nat) : Int) := by unfold wrap64; omega
      rw [if_pos (by omega), if_pos (by omega), if_pos (by omega), e, same_l0 hl hp n (i + 1) (by omega) (by omega), rd_eq hlt, rd_eq hq]
      have hd : p.drop i = q.drop i ↔ p[i] = q[i] ∧ p.drop (i + 1) = q.drop (i + 1) := by
        rw [List.drop_eq_getElem_cons hlt, List.drop_eq_getElem_cons hq, List.cons.injEq]
      generalize p[i] = x at *
      generalize q[i] = y at *
      obtain ⟨a0, a1, a2, a3, a4⟩ := x
      obtain ⟨b0, b1, b2, b3, b4⟩ := y
      simp only [Bool.or_eq_true, Bool.not_eq_true', beq_eq_false_iff_ne, ne_eq]
      by_cases hx : a0 = b0 ∧ a1 = b1 ∧ a2 = b2 ∧ a3 = b3 ∧ a4 = b4
      · obtain ⟨rfl, rfl, rfl, rfl, rfl⟩ := hx
        rw [if_neg (by simp)]
        congr 1
        exact dB_eq (by rw [hd]; simp)
      · rw [if_pos (by
          apply Classical.byContradiction
          intro hn
          apply hx
          simp only [not_or, Classical.not_not] at hn
          exact hn)]
        congr 1
        refine (dB_no ?_).symm
        rw [hd]
        rintro ⟨h1, _⟩
        injection h1 with h1 h2 h3 h4 h5
        exact hx ⟨h1, h2, h3, h4, h5⟩
    · have hi' : i = p.length := by omega
      rw [if_neg (by omega)]
      congr 1
      refine (dB_yes ?_).symm
      rw [List.drop_eq_nil_of_le (by omega), List.drop_eq_nil_of_le (by omega)]
/-- Same of two patterns. -/
theorem same_law {p q : List S50} {A B : Option Addr} {ca cb : Nat} {w : World} (h : Pt w A ca p) (k : Pt w B cb q) (hp : p.length ≤ 1000000000) :
    Calls Tryd.prog 27 #[.slice A p.length ca, .slice B q.length cb] w fun e w' => e = .returned (.bool (dB (p = q))) ∧ Below w.heap.size w w' := by
  have hf : koineref04_Same.f (p.length + 1) p q = some (dB (p = q)) := by
    unfold koineref04_Same.f
    by_cases hl : p.length = q.length
    · rw [if_pos (by omega)]
      have := same_l0 hl hp (p.length + 1) 0 (by omega) (by omega)
      simpa using this
    · rw [if_neg (by omega), dB_no (fun e => hl (by rw [e]))]
  exact (koineref04_Same.calls _ A ca p B cb q _ w h.C h.hc k.C k.hc hf).mono fun e w' ⟨he, hd⟩ => ⟨he, hd.below⟩

theorem same_yes {p : List S50} {A B : Option Addr} {ca cb : Nat} {w : World} (h : Pt w A ca p) (k : Pt w B cb p) (hp : p.length ≤ 1000000000) :
    Calls Tryd.prog 27 #[.slice A p.length ca, .slice B p.length cb] w fun e w' => e = .returned (.bool true) ∧ Below w.heap.size w w' := by
  have := same_law h k hp
  rwa [dB_yes rfl] at this
theorem same_no {p q : List S50} {A B : Option Addr} {ca cb : Nat} {w : World} (h : Pt w A ca p) (k : Pt w B cb q) (hp : p.length ≤ 1000000000) (hne : p ≠ q) :
    Calls Tryd.prog 27 #[.slice A p.length ca, .slice B q.length cb] w fun e w' => e = .returned (.bool false) ∧ Below w.heap.size w w' := by
  have := same_law h k hp
  rwa [dB_no hne] at this

/-! ### the literal's pattern -/
def litT : List Int → Tr
  | [] => .emp
  | b :: l => l.foldl (fun t c => .seq t (.rng c c)) (.rng b b)
theorem litT_snoc (b : Int) (l : List Int) (c : Int) : litT (b :: (l ++ [c])) = .seq (litT (b :: l)) (.rng c c) := by simp [litT]
theorem snoc_cases (l : List Int) : l = [] ∨ ∃ m c, l = m ++ [c] := by
  rcases List.eq_nil_or_concat l with h | ⟨m, c, h⟩
  · exact .inl h
  · exact .inr ⟨m, c, by simpa using h⟩
theorem litT_all {P : List Int → Tr → Prop} (h1 : ∀ b, P [b] (.rng b b)) (h2 : ∀ l t c, l ≠ [] → P l t → P (l ++ [c]) (.seq t (.rng c c))) : ∀ (n : Nat) (b : Int) (l : List Int), l.length = n → P (b :: l) (litT (b :: l))
  | 0, b, l, h => by rw [List.length_eq_zero_iff.1 h]; exact h1 b
  | n + 1, b, l, h => by
    rcases snoc_cases l with rfl | ⟨m, c, rfl⟩
    · simp at h
    · rw [litT_snoc]
      exact h2 (b :: m) _ c (by simp) (litT_all h1 h2 n b m (by simpa using h))
theorem litT_size (l : List Int) (h : l ≠ []) : (litT l).size + 1 = 2 * l.length := by
  obtain ⟨b, m, rfl⟩ := List.exists_cons_of_ne_nil h
  exact litT_all (P := fun l t => t.size + 1 = 2 * l.length) (fun b => rfl) (fun l t c _ h => by simp only [Tr.size, List.length_append, List.length_cons, List.length_nil]; omega) _ b m rfl
theorem litT_ok (l : List Int) (h : ∀ b ∈ l, 0 ≤ b ∧ b ≤ 255) : (litT l).ok := by
  cases l with
  | nil => trivial
  | cons b m =>
    refine litT_all (P := fun l t => (∀ b ∈ l, 0 ≤ b ∧ b ≤ 255) → t.ok) (fun b hb => ?_) (fun l t c _ ih hb => ?_) _ b m rfl h
    · have := hb b (by simp); exact ⟨this.1, Int.le_refl _, this.2⟩
    · have := hb c (by simp)
      exact ⟨ih (fun b hb' => hb b (by simp [hb'])), this.1, Int.le_refl _, this.2⟩
theorem litT_lang (l : List Int) : ∀ w, (litT l).Lang w ↔ w = l := by
  cases l with
  | nil => intro w; exact Iff.rfl
  | cons b m =>
    refine litT_all (P := fun l t => ∀ w, t.Lang w ↔ w = l) (fun b w => ?_) (fun l t c _ ih w => ?_) _ b m rfl
    · constructor
      · rintro ⟨x, rfl, h1, h2⟩; rw [show x = b by omega]
      · rintro rfl; exact ⟨b, rfl, Int.le_refl _, Int.le_refl _⟩
    · rw [Tr.lang_seq]
      constructor
      · rintro ⟨u, v, rfl, h1, x, rfl, h2, h3⟩
        rw [(ih u).1 h1, show x = c by omega]
      · rintro rfl
        exact ⟨l, [c], rfl, (ih l).2 rfl, c, rfl, Int.le_refl _, Int.le_refl _⟩
theorem bt_bytes (s : ByteArray) (i : Nat) (h : i < s.size) : bt s (i : Int) = (bytesOf s).getD i 0 := by
  have hs' : i < s.data.toList.length := by rw [Array.length_toList]; exact h
  unfold bytesOf bt
  rw [dif_pos (show (i : Int).toNat < s.size from h), List.getD_eq_getElem?_getD, List.getElem?_map, List.getElem?_eq_getElem hs']
  rfl
theorem bytes_rng (s : ByteArray) : ∀ b ∈ bytesOf s, 0 ≤ b ∧ b ≤ 255 := by
  intro b hb
  unfold bytesOf at hb
  rw [List.mem_map] at hb
  obtain ⟨x, _, rfl⟩ := hb
  have := x.toNat_lt
  omega
theorem str_bytes (s : ByteArray) : strOfNums (bytesOf s) = s := by
  unfold strOfNums bytesOf
  apply ByteArray.ext
  apply Array.ext'
  simp only [List.map_map]
  conv => rhs; rw [← List.map_id s.data.toList]
  apply List.map_congr_left
  intro x _
  simp
theorem lit_l0 (s : ByteArray) (hs : s.size ≤ 256) : ∀ (n i : Nat) (out : List S50), s.size + 1 - i ≤ n → i ≤ s.size → (i = 0 ∧ out = [] ∨ 0 < i ∧ out = (litT ((bytesOf s).take i)).post 0) → 0 < s.size → pattern_Literal.l0 n s out (s.size : Int) (i : Int) = some ((litT (bytesOf s)).post 0, 0)
  | 0, i, out, h, hi, _, _ => by omega
  | n + 1, i, out, h, hi, ho, h0 => by
    have hbl := bytesOf_length s
    unfold pattern_Literal.l0
    by_cases hlt : i < s.size
    · have hb := bytes_rng s ((bytesOf s).getD i 0) (by rw [List.getD_eq_getElem?_getD, List.getElem?_eq_getElem (by omega)]; exact List.getElem_mem _)
      have e : wrap64 ((i : Int) + 1) = ((i + 1 : Nat) : Int) := by unfold wrap64; omega
      have eb : wrap64 (bt s (i : Int)) = (bytesOf s).getD i 0 := by rw [bt_bytes s i hlt]; unfold wrap64; omega
      have et : (bytesOf s).take (i + 1) = (bytesOf s).take i ++ [(bytesOf s).getD i 0] := by
        have hib : i < (bytesOf s).length := by omega
        rw [List.take_succ_eq_append_getElem hib]; simp [List.getD_eq_getElem?_getD, hib]
      have hne : i = 0 ∨ ((bytesOf s).take i ≠ [] ∧ (litT ((bytesOf s).take i)).size + 1 = 2 * i) := by
        by_cases hz : i = 0
        · exact .inl hz
        · have hne : (bytesOf s).take i ≠ [] := by intro hx; have := congrArg List.length hx; rw [List.length_take, List.length_nil] at this; omega
          exact .inr ⟨hne, by rw [litT_size _ hne, List.length_take]; omega⟩
      have hol : out.length ≤ 1000 := by
        rcases ho with ⟨_, rfl⟩ | ⟨h1, rfl⟩
        · simp
        · rw [Tr.post_length]; omega
      rw [if_pos (by omega), if_pos (by omega), if_pos (by omega), if_pos (by omega)]
      simp only [Option.bind_some]
      rw [eb, e]
      rcases ho with ⟨rfl, rfl⟩ | ⟨h1, rfl⟩
      · rw [if_neg (by omega)]
        refine lit_l0 s hs n 1 _ (by omega) (by omega) (.inr ⟨by omega, ?_⟩) h0
        rw [show (1 : Nat) = 0 + 1 from rfl, et]
        rfl
      · rw [if_pos (by omega), if_pos (by simp; omega)]
        refine lit_l0 s hs n (i + 1) _ (by omega) (by omega) (.inr ⟨by omega, ?_⟩) h0
        obtain ⟨hne, hsz⟩ := hne.resolve_left (by omega)
        obtain ⟨b, m, hbm⟩ := List.exists_cons_of_ne_nil hne
        rw [et, hbm, List.cons_append, litT_snoc, ← hbm, Tr.post_length]
        simp only [Tr.post, Tr.size, List.append_assoc, List.cons_append, List.nil_append, Nat.zero_add]
        have w1 : wrap64 (((litT ((bytesOf s).take i)).size : Int) - 1) = (((litT ((bytesOf s).take i)).size - 1 : Nat) : Int) := by unfold wrap64; omega
        have w2 : wrap64 ((((litT ((bytesOf s).take i)).size - 1 : Nat) : Int) + 1) = (((litT ((bytesOf s).take i)).size + 1 - 1 : Nat) : Int) := by unfold wrap64; omega
        rw [w1, w2]
    · have hi' : i = s.size := by omega
      rw [if_neg (by omega)]
      rcases ho with ⟨rfl, _⟩ | ⟨_, rfl⟩
      · omega
      · rw [List.take_of_length_le (by omega)]
/-- The program's Literal. -/
theorem literal_law {s : ByteArray} (hs : s.size ≤ 256) (w : World) :
    Calls Tryd.prog 36 #[.string s] w fun e w' => ∃ E ec, e = .returned (.tuple #[.slice E ((litT (bytesOf s)).post 0).length ec, .int .i64 0]) ∧ Pt w' E ec ((litT (bytesOf s)).post 0) ∧ Below w.heap.size w w' := by
  have hf : pattern_Literal.f (s.size + 1) s = some ((litT (bytesOf s)).post 0, 0) := by
    unfold pattern_Literal.f
    rw [if_neg (by unfold wrap64; omega)]
    by_cases h : s.toList = []
    · rw [if_pos h]
      have : bytesOf s = [] := by unfold bytesOf; rw [← Go.ByteArray.toList_eq, h]; rfl
      rw [this]; rfl
    · rw [if_neg h]
      have h0 : 0 < s.size := by
        rw [Nat.pos_iff_ne_zero]
        intro hz
        apply h
        rw [Go.ByteArray.toList_eq]
        exact List.length_eq_zero_iff.1 (by rw [Array.length_toList]; exact hz)
      exact lit_l0 s hs (s.size + 1) 0 [] (by omega) (by omega) (.inl ⟨rfl, rfl⟩) h0
  refine (pattern_Literal.calls _ s _ _ w hf).mono ?_
  rintro e w' ⟨v, rfl, hR, hb⟩
  obtain ⟨E, ec, rfl⟩ := Kd.R_slice hR
  exact ⟨E, ec, rfl, (Pt.of hR).2, hb⟩
/-- Check of a pattern in memory. -/
theorem check_law {p : List S50} {A : Option Addr} {c : Nat} {w : World} (h : Pt w A c p) (hp : p.length * 40 ≤ 140737488351232) {r : Int} (hr : chk p = r) :
    Calls Tryd.prog 21 #[.slice A p.length c] w fun e w' => e = .returned (.int .i64 r) ∧ Below w.heap.size w w' := by
  rw [← hr]; exact check_any A c p w h.C h.hc hp
end Go.Proofs.YtaphblnelmncaaaDoor.PA
end

section
/- Shortest and Common answer the least shortest nonempty common string. -/
set_option linter.unusedVariables false
namespace Go.Proofs.YtaphblnelmncaaaDoor.PA
open Go.RowKit Go.Proofs.YtaphblnelmncaaaDoorW.PrintWords Go.Proofs.YtaphblnelmncaaaDoorW.PrintLast Go.Proofs.YtaphblnelmncaaaDoorW.PrintMore

/-! ### breadth first -/
def Rch (E : Int × Int → Int × Int → Prop) (I : Int × Int → Prop) : Nat → Int × Int → Prop
  | 0, y => I y
  | k + 1, y => ∃ z, E y z ∧ Rch E I k z
structure BI (E : Int × Int → Int × Int → Prop) (I : Int × Int → Prop) (i : Nat) (s : List (Int × Int) × DMap) : Prop where
  sound : ∀ y ∈ s.1, ∃ k : Nat, s.2 y = some (k : Int) ∧ Rch E I k y
  mem : ∀ y m, s.2 y = some m → y ∈ s.1
  zero : ∀ y, I y → s.2 y = some 0
  mono : ∀ (a b : Nat) x y, a ≤ b → s.1[a]? = some x → s.1[b]? = some y → (s.2 x).getD 0 ≤ (s.2 y).getD 0
  near : ∀ (a : Nat) x y, i ≤ a → s.1[a]? = some x → y ∈ s.1 → (s.2 y).getD 0 ≤ (s.2 x).getD 0 + 1
  done : ∀ (a : Nat) x y, a < i → s.1[a]? = some x → E y x → ∃ m, s.2 y = some m ∧ m ≤ (s.2 x).getD 0 + 1
theorem bfsAdd_keep {x y z : Int × Int} {s : List (Int × Int) × DMap} {m : Int} (h : s.2 z = some m) : (bfsAdd x s y).2 z = some m := by
  unfold bfsAdd
  split
  · exact h
  · rename_i hn
    simp only [putD]
    rw [if_neg]
    · exact h
    · rintro rfl; rw [h] at hn; exact hn rfl
theorem mem_get {l : List (Int × Int)} {a : Nat} {x : Int × Int} (h : l[a]? = some x) : x ∈ l := List.mem_of_getElem? h
theorem BI.add {E : Int × Int → Int × Int → Prop} {I : Int × Int → Prop} {i : Nat} {s : List (Int × Int) × DMap} (h : BI E I i s) {x y : Int × Int} (hx : s.1[i]? = some x) (hE : E y x) :
    BI E I i (bfsAdd x s y) ∧ (bfsAdd x s y).1[i]? = some x ∧ (bfsAdd x s y).2 x = s.2 x ∧ ∃ m, (bfsAdd x s y).2 y = some m ∧ m ≤ (s.2 x).getD 0 + 1 := by
  obtain ⟨kx, hkx, hrx⟩ := h.sound x (mem_get hx)
  cases hy : s.2 y with
  | some m =>
    have e : bfsAdd x s y = s := by unfold bfsAdd; rw [hy]; rfl
    rw [e]
    refine ⟨h, hx, rfl, m, hy, ?_⟩
    have := h.near i x y (Nat.le_refl _) hx (h.mem y m hy)
    rw [hy] at this
    exact this
  | none =>
    have e : bfsAdd x s y = (s.1 ++ [y], putD s.2 y ((s.2 x).getD 0 + 1)) := by unfold bfsAdd; rw [hy]; rfl
    have hne : ∀ z ∈ s.1, z ≠ y := by
      rintro z hz rfl
      obtain ⟨k, hk, _⟩ := h.sound z hz
      rw [hy] at hk; cases hk
    have keep : ∀ z ∈ s.1, putD s.2 y ((s.2 x).getD 0 + 1) z = s.2 z := by
      intro z hz
      unfold putD; rw [if_neg (hne z hz)]
    have own : putD s.2 y ((s.2 x).getD 0 + 1) y = some ((s.2 x).getD 0 + 1) := by unfold putD; rw [if_pos rfl]
    have hil : i < s.1.length := (List.getElem?_eq_some_iff.1 hx).1
    have at_ : ∀ a z, (s.1 ++ [y])[a]? = some z → (a < s.1.length ∧ s.1[a]? = some z) ∨ (a = s.1.length ∧ z = y) := by
      intro a z hz
      by_cases ha : a < s.1.length
      · rw [List.getElem?_append_left ha] at hz; exact .inl ⟨ha, hz⟩
      · rw [List.getElem?_append_right (by omega)] at hz
        have h1 : a - s.1.length < 1 := by have := (List.getElem?_eq_some_iff.1 hz).1; simpa using this
        have h2 : a = s.1.length := by omega
        subst h2
        simp at hz
        exact .inr ⟨rfl, hz.symm⟩
    rw [e]
    refine ⟨⟨?_, ?_, ?_, ?_, ?_, ?_⟩, by rw [List.getElem?_append_left hil]; exact hx, keep x (mem_get hx), _, own, Int.le_refl _⟩
    · intro z hz
      rcases List.mem_append.1 hz with hz | hz
      · obtain ⟨k, hk, hr⟩ := h.sound z hz
        exact ⟨k, (keep z hz).trans hk, hr⟩
      · simp at hz
        subst hz
        refine ⟨kx + 1, ?_, x, hE, hrx⟩
        simp only
        rw [own, hkx]; rfl
    · intro z m hz
      simp only [putD] at hz
      split at hz
      · rename_i he; subst he; simp
      · exact List.mem_append_left _ (h.mem z m hz)
    · intro z hz
      have h0 := h.zero z hz
      exact (keep z (h.mem z 0 h0)).trans h0
    · intro a b z w hab hz hw
      simp only at hz hw ⊢
      rcases at_ b w hw with ⟨h1, h2⟩ | ⟨h1, rfl⟩
      · rcases at_ a z hz with ⟨h3, h4⟩ | ⟨h3, _⟩
        · rw [keep z (mem_get h4), keep w (mem_get h2)]; exact h.mono a b z w hab h4 h2
        · omega
      · rw [own]
        rcases at_ a z hz with ⟨h3, h4⟩ | ⟨h3, rfl⟩
        · rw [keep z (mem_get h4)]; exact h.near i x z (Nat.le_refl _) hx (mem_get h4)
        · rw [own]; exact Int.le_refl _
    · intro a z w hia hz hw
      simp only at hz hw ⊢
      rcases at_ a z hz with ⟨h3, h4⟩ | ⟨h3, rfl⟩
      · rw [keep z (mem_get h4)]
        rcases List.mem_append.1 hw with hw | hw
        · rw [keep w hw]; exact h.near a z w hia h4 hw
        · simp at hw; subst hw
          rw [own]
          have := h.mono i a x z hia hx h4
          simp only [Option.getD_some]; omega
      · rw [own]
        rcases List.mem_append.1 hw with hw | hw
        · rw [keep w hw]
          have := h.near i x w (Nat.le_refl _) hx hw
          simp only [Option.getD_some]; omega
        · simp at hw; subst hw
          rw [own]
          simp only [Option.getD_some]; omega
    · intro a z w hai hz hE2
      simp only at hz ⊢
      rw [List.getElem?_append_left (by omega)] at hz
      obtain ⟨m, hm, hle⟩ := h.done a z w hai hz hE2
      exact ⟨m, (keep w (h.mem w m hm)).trans hm, by rw [keep z (mem_get hz)]; exact hle⟩
theorem BI.row {E : Int × Int → Int × Int → Prop} {I : Int × Int → Prop} {i : Nat} {x : Int × Int} : ∀ (ys : List (Int × Int)) {s : List (Int × Int) × DMap}, BI E I i s → s.1[i]? = some x → (∀ y ∈ ys, E y x) →
    BI E I i (bfsRow x ys s) ∧ (bfsRow x ys s).1[i]? = some x ∧ (bfsRow x ys s).2 x = s.2 x ∧ (∀ y ∈ ys, ∃ m, (bfsRow x ys s).2 y = some m ∧ m ≤ (s.2 x).getD 0 + 1) ∧ ∀ z m, s.2 z = some m → (bfsRow x ys s).2 z = some m
  | [], s, h, hx, _ => ⟨h, hx, rfl, by simp, fun z m hz => hz⟩
  | y :: ys, s, h, hx, hE => by
    obtain ⟨h1, h2, h3, m, h4, h5⟩ := h.add hx (hE y (List.mem_cons_self ..))
    obtain ⟨g1, g2, g3, g4, g5⟩ := BI.row ys h1 h2 (fun z hz => hE z (List.mem_cons_of_mem _ hz))
    have e : bfsRow x (y :: ys) s = bfsRow x ys (bfsAdd x s y) := rfl
    rw [e]
    refine ⟨g1, g2, g3.trans h3, ?_, fun z m hz => g5 z m (bfsAdd_keep hz)⟩
    intro z hz
    rcases List.mem_cons.1 hz with rfl | hz
    · exact ⟨m, g5 _ _ h4, h5⟩
    · obtain ⟨m', a, b⟩ := g4 z hz
      rw [h3] at b
      exact ⟨m', a, b⟩
theorem BI.step {E : Int × Int → Int × Int → Prop} {I : Int × Int → Prop} {i : Nat} {x : Int × Int} {ys : List (Int × Int)} {s : List (Int × Int) × DMap} (h : BI E I i s) (hx : s.1[i]? = some x) (hE : ∀ y, y ∈ ys ↔ E y x) : BI E I (i + 1) (bfsRow x ys s) := by
  obtain ⟨g1, g2, g3, g4, g5⟩ := BI.row ys h hx (fun y hy => (hE y).1 hy)
  refine ⟨g1.sound, g1.mem, g1.zero, g1.mono, fun a z w ha => g1.near a z w (by omega), fun a z w ha hz hw => ?_⟩
  by_cases e : a = i
  · subst e
    rw [g2] at hz
    cases hz
    obtain ⟨m, h1, h2⟩ := g4 w ((hE w).2 hw)
    exact ⟨m, h1, by rw [g3]; exact h2⟩
  · exact g1.done a z w (by omega) hz hw
theorem bfs_all {p q : List S50} {A B : List Nat} {I : Int × Int → Prop} : ∀ (n i : Nat) (s : List (Int × Int) × DMap) (f : DMap), BI (fun y x => y ∈ prevL p q A B x) I i s → bfsF p q A B n i s = some f →
    ∃ s' : List (Int × Int) × DMap, ∃ i', BI (fun y x => y ∈ prevL p q A B x) I i' s' ∧ s'.1.length ≤ i' ∧ s'.2 = f
  | 0, i, s, f, h, hf => by simp [bfsF] at hf
  | n + 1, i, s, f, h, hf => by
    unfold bfsF at hf
    split at hf
    · rename_i hi
      have hx : s.1[i]? = some (rd_T92 s.1 i) := by simp [rd_T92, List.getD_eq_getElem?_getD, hi]
      exact bfs_all n (i + 1) _ f (h.step hx (fun y => Iff.rfl)) hf
    · rename_i hi
      cases hf
      exact ⟨s, i, h, by omega, rfl⟩
/-- What the distances are. -/
structure DistOf (E : Int × Int → Int × Int → Prop) (I : Int × Int → Prop) (f : DMap) : Prop where
  sound : ∀ y m, f y = some m → ∃ k : Nat, m = k ∧ Rch E I k y ∧ ∀ j, Rch E I j y → k ≤ j
  full : ∀ k y, Rch E I k y → ∃ m : Nat, f y = some (m : Int) ∧ m ≤ k
theorem BI.dist {E : Int × Int → Int × Int → Prop} {I : Int × Int → Prop} {i : Nat} {s : List (Int × Int) × DMap} (h : BI E I i s) (hi : s.1.length ≤ i) : DistOf E I s.2 := by
  have full : ∀ k y, Rch E I k y → ∃ m : Nat, s.2 y = some (m : Int) ∧ m ≤ k := by
    intro k
    induction k with
    | zero => intro y hy; exact ⟨0, h.zero y hy, Nat.le_refl _⟩
    | succ k ih =>
      rintro y ⟨z, hE, hz⟩
      obtain ⟨m, hm, hle⟩ := ih z hz
      obtain ⟨a, ha⟩ := List.mem_iff_getElem?.1 (h.mem z _ hm)
      have hal := (List.getElem?_eq_some_iff.1 ha).1
      obtain ⟨m', h1, h2⟩ := h.done a z y (by omega) ha hE
      obtain ⟨k', h3, _⟩ := h.sound y (h.mem y _ h1)
      rw [h1] at h3
      cases h3
      rw [hm] at h2
      simp only [Option.getD_some] at h2
      exact ⟨k', h1, by omega⟩
  refine ⟨fun y m hm => ?_, full⟩
  obtain ⟨k, h1, h2⟩ := h.sound y (h.mem y _ hm)
  rw [hm] at h1
  cases h1
  refine ⟨k, rfl, h2, fun j hj => ?_⟩
  obtain ⟨m', h3, h4⟩ := full j y hj
  rw [hm] at h3
  have : (k : Int) = m' := Option.some.inj h3
  omega

/-! ### which pairs follow which -/
theorem backTo_bit (F : List Nat) (m : Nat) : ∀ (n : Nat), ∀ k i, k < m → (((backTo F m n).getD k 0).testBit i = true ↔ i < n ∧ k ∈ below (F.getD i 0) 512)
  | 0, k, i, hk => by simp [backTo, List.getD_eq_getElem?_getD, hk]
  | n + 1, k, i, hk => by
    have e : backTo F m (n + 1) = linkAll (1 <<< n) (below (F.getD n 0) 512) (backTo F m n) := rfl
    have hb : (1 <<< n).testBit i = true ↔ i = n := by
      have := one_bit n i
      rwa [Nat.zero_or] at this
    rw [e, linkAll_bit _ _ _ _ _ (by rw [backTo_length]; exact hk), backTo_bit F m n k i hk, hb]
    constructor
    · rintro (⟨h1, h2⟩ | ⟨h1, rfl⟩)
      · exact ⟨by omega, h2⟩
      · exact ⟨by omega, h1⟩
    · rintro ⟨h1, h2⟩
      by_cases h : i = n
      · subst h; exact .inr ⟨h2, rfl⟩
      · exact .inl ⟨by omega, h2⟩
/-- Two patterns side by side. -/
structure Two (p q : List S50) (t u : Re) : Prop where
  a : Fine p t
  b : Fine q u
def FF (p : List S50) (t : Re) : List Nat := t.link (List.replicate p.length 0)
theorem FF_length (p : List S50) (t : Re) : (FF p t).length = p.length := by unfold FF; rw [Re.link_length]; simp
theorem back_fol {p : List S50} {t : Re} (g : Fine p t) {k i : Nat} : i ∈ below ((backF (FF p t)).getD k 0) 512 ↔ t.Fol i k := by
  have hp := g.good.len
  rw [mem_below]
  by_cases hk : k < p.length
  · unfold backF
    rw [backTo_bit _ _ _ _ _ (by rw [FF_length]; exact hk), FF_length, mem_below]
    constructor
    · rintro ⟨_, h1, _, h2⟩; exact (fol_iff g.good.is hp h1).1 h2
    · intro h
      have hi := fol_small g.good.is hp i (fol_leaf t h).1
      exact ⟨by omega, hi, by omega, (fol_iff g.good.is hp hi).2 h⟩
  · constructor
    · rintro ⟨_, h⟩
      rw [List.getD_eq_getElem?_getD, List.getElem?_eq_none (by unfold backF; rw [backTo_length, FF_length]; omega)] at h
      simp at h
    · intro h; exact absurd (fol_small g.good.is hp k (fol_leaf t h).2) hk
theorem fwd_fol {p : List S50} {t : Re} (g : Fine p t) {k i : Nat} : i ∈ below ((FF p t).getD k 0) 512 ↔ t.Fol k i := by
  have hp := g.good.len
  rw [mem_below]
  by_cases hk : k < p.length
  · constructor
    · rintro ⟨_, h⟩; exact (fol_iff g.good.is hp hk).1 h
    · intro h
      have hi := fol_small g.good.is hp i (fol_leaf t h).2
      exact ⟨by omega, (fol_iff g.good.is hp hk).2 h⟩
  · constructor
    · rintro ⟨_, h⟩
      unfold FF at h
      rw [link_far hk] at h; cases h
    · intro h; exact absurd (fol_small g.good.is hp k (fol_leaf t h).1) hk
/-- x comes before y. -/
def Ed (p q : List S50) (t u : Re) (x y : Int × Int) : Prop := x ∈ prevL p q (backF (FF p t)) (backF (FF q u)) y
def In0 (p q : List S50) (t u : Re) (x : Int × Int) : Prop := x ∈ meetL p q t.last u.last
theorem ed_iff {p q : List S50} {t u : Re} (g : Two p q t u) {x : Int × Int} {k l : Nat} : Ed p q t u x ((k : Int), (l : Int)) ↔ ∃ i j : Nat, x = ((i : Int), (j : Int)) ∧ t.Fol i k ∧ u.Fol j l ∧ ovl p q i j = true := by
  unfold Ed prevL
  rw [meetL_mem]
  simp only [Int.toNat_natCast, back_fol g.a, back_fol g.b]
theorem next_iff {p q : List S50} {t u : Re} (g : Two p q t u) {y : Int × Int} {i j : Nat} : y ∈ prevL p q (FF p t) (FF q u) ((i : Int), (j : Int)) ↔ ∃ k l : Nat, y = ((k : Int), (l : Int)) ∧ t.Fol i k ∧ u.Fol j l ∧ ovl p q k l = true := by
  unfold prevL
  rw [meetL_mem]
  simp only [Int.toNat_natCast, fwd_fol g.a, fwd_fol g.b]
theorem in0_iff {p q : List S50} {t u : Re} {x : Int × Int} : In0 p q t u x ↔ ∃ i j : Nat, x = ((i : Int), (j : Int)) ∧ i ∈ below t.last 512 ∧ j ∈ below u.last 512 ∧ ovl p q i j = true := meetL_mem

/-! ### words of pairs -/
/-- The words that are read from a pair on. -/
def Acc2 (p q : List S50) (t u : Re) : List Int → Nat → Nat → Prop
  | [], _, _ => False
  | [b], i, j => Hit p i b ∧ Hit q j b ∧ t.last.testBit i = true ∧ u.last.testBit j = true ∧ i < 512 ∧ j < 512
  | b :: c :: r, i, j => Hit p i b ∧ Hit q j b ∧ ∃ k l, t.Fol i k ∧ u.Fol j l ∧ Acc2 p q t u (c :: r) k l
theorem hit_ovl {p q : List S50} {i j : Nat} {b : Int} (h : Hit p i b) (k : Hit q j b) : ovl p q i j = true ∧ mx2 (rd_T50 p i).f1 (rd_T50 q j).f1 ≤ b := by
  unfold Hit at h k
  unfold ovl mx2 mn2
  constructor
  · simp only [decide_eq_true_eq]; split <;> split <;> omega
  · split <;> omega
theorem ovl_hit {p q : List S50} {i j : Nat} (h : ovl p q i j = true) : Hit p i (mx2 (rd_T50 p i).f1 (rd_T50 q j).f1) ∧ Hit q j (mx2 (rd_T50 p i).f1 (rd_T50 q j).f1) := by
  unfold ovl mx2 mn2 at h
  simp only [decide_eq_true_eq] at h
  unfold Hit mx2
  constructor <;> (split at h <;> split at h <;> constructor <;> split <;> omega)
theorem Acc2.ovl {p q : List S50} {t u : Re} : ∀ {w : List Int} {i j : Nat}, Acc2 p q t u w i j → PA.ovl p q i j = true
  | [], i, j, h => h.elim
  | [b], i, j, h => (hit_ovl h.1 h.2.1).1
  | b :: c :: r, i, j, h => (hit_ovl h.1 h.2.1).1
theorem Acc2.rch {p q : List S50} {t u : Re} (g : Two p q t u) : ∀ {w : List Int} {i j : Nat}, Acc2 p q t u w i j → Rch (Ed p q t u) (In0 p q t u) (w.length - 1) ((i : Int), (j : Int))
  | [], i, j, h => h.elim
  | [b], i, j, h => in0_iff.2 ⟨i, j, rfl, mem_below.2 ⟨h.2.2.2.2.1, h.2.2.1⟩, mem_below.2 ⟨h.2.2.2.2.2, h.2.2.2.1⟩, (hit_ovl h.1 h.2.1).1⟩
  | b :: c :: r, i, j, h => by
    obtain ⟨h1, h2, k, l, h3, h4, h5⟩ := h
    exact ⟨((k : Int), (l : Int)), (ed_iff g).2 ⟨i, j, rfl, h3, h4, (hit_ovl h1 h2).1⟩, h5.rch g⟩
theorem meet_pair {p q : List S50} {S T : Nat} {x : Int × Int} (h : x ∈ meetL p q S T) : ∃ i j : Nat, x = ((i : Int), (j : Int)) := by
  obtain ⟨i, j, e, _⟩ := meetL_mem.1 h; exact ⟨i, j, e⟩
/-- From a pair a word is read. -/
theorem rch_acc {p q : List S50} {t u : Re} (g : Two p q t u) : ∀ {k : Nat} {i j : Nat}, Rch (Ed p q t u) (In0 p q t u) k ((i : Int), (j : Int)) → PA.ovl p q i j = true ∧ ∀ b, Hit p i b → Hit q j b → ∃ r, r.length = k ∧ Acc2 p q t u (b :: r) i j
  | 0, i, j, h => by
    obtain ⟨i', j', e, h1, h2, h3⟩ := in0_iff.1 h
    simp only [Prod.mk.injEq, Int.natCast_inj] at e
    obtain ⟨rfl, rfl⟩ := e
    exact ⟨h3, fun b hb hc => ⟨[], rfl, hb, hc, (mem_below.1 h1).2, (mem_below.1 h2).2, (mem_below.1 h1).1, (mem_below.1 h2).1⟩⟩
  | k + 1, i, j, h => by
    obtain ⟨z, hE, hz⟩ := h
    obtain ⟨k', l', rfl⟩ := meet_pair2 g hz
    obtain ⟨i', j', e, h1, h2, h3⟩ := (ed_iff g).1 hE
    simp only [Prod.mk.injEq, Int.natCast_inj] at e
    obtain ⟨rfl, rfl⟩ := e
    obtain ⟨ho, hw⟩ := rch_acc g hz
    obtain ⟨c1, c2⟩ := ovl_hit ho
    obtain ⟨r, hr, ha⟩ := hw _ c1 c2
    exact ⟨h3, fun b hb hc => ⟨_ :: r, by simp [hr], hb, hc, k', l', h1, h2, ha⟩⟩
where
  meet_pair2 {p q : List S50} {t u : Re} (g : Two p q t u) : ∀ {k : Nat} {z : Int × Int}, Rch (Ed p q t u) (In0 p q t u) k z → ∃ i j : Nat, z = ((i : Int), (j : Int))
    | 0, z, h => meet_pair h
    | k + 1, z, h => by obtain ⟨y, hE, _⟩ := h; exact meet_pair hE
/-- The common strings are the words of pairs. -/
theorem ways_acc {p q : List S50} {t u : Re} (g : Two p q t u) : ∀ {r s : List Nat} {w : List Int} {i j : Nat}, Way t.Fol (fun k => t.last.testBit k = true) i r → Way u.Fol (fun k => u.last.testBit k = true) j s → Hits p (i :: r) w → Hits q (j :: s) w → i < 512 → j < 512 → Acc2 p q t u w i j
  | [], s, w, i, j, h1, h2, h3, h4, hi, hj => by
    cases h3 with
    | cons _ b _ bs hh hs =>
      cases hs
      cases h4 with
      | cons _ _ _ _ hh2 hs2 =>
        cases hs2
        exact ⟨hh, hh2, h1, h2, hi, hj⟩
  | k :: r, s, w, i, j, h1, h2, h3, h4, hi, hj => by
    cases h3 with
    | cons _ b _ bs hh hs =>
      cases hs with
      | cons _ c _ cs hh' hs' =>
        cases h4 with
        | cons _ _ _ _ hh2 hs2 =>
          cases s with
          | nil => cases hs2
          | cons l s =>
            exact ⟨hh, hh2, k, l, h1.1, h2.1, ways_acc g h1.2 h2.2 (.cons k c r cs hh' hs') hs2 (by have := fol_small g.a.good.is g.a.good.len k (fol_leaf t h1.1).2; have := g.a.good.len; omega) (by have := fol_small g.b.good.is g.b.good.len l (fol_leaf u h2.1).2; have := g.b.good.len; omega)⟩
theorem acc_ways {p q : List S50} {t u : Re} : ∀ {w : List Int} {i j : Nat}, Acc2 p q t u w i j → ∃ r s, Way t.Fol (fun k => t.last.testBit k = true) i r ∧ Way u.Fol (fun k => u.last.testBit k = true) j s ∧ Hits p (i :: r) w ∧ Hits q (j :: s) w
  | [], i, j, h => h.elim
  | [b], i, j, h => ⟨[], [], h.2.2.1, h.2.2.2.1, .cons i b [] [] h.1 .nil, .cons j b [] [] h.2.1 .nil⟩
  | b :: c :: r, i, j, h => by
    obtain ⟨h1, h2, k, l, h3, h4, h5⟩ := h
    obtain ⟨r', s', a1, a2, a3, a4⟩ := acc_ways h5
    exact ⟨k :: r', l :: s', ⟨h3, a1⟩, ⟨h4, a2⟩, .cons i b _ _ h1 a3, .cons j b _ _ h2 a4⟩
theorem first_small {p : List S50} {t : Re} (g : Fine p t) {i : Nat} (h : t.first.testBit i = true) : i < 512 := by
  have := fol_small g.good.is g.good.len i (first_leaf t h); have := g.good.len; omega
theorem both_iff {p q : List S50} {t u : Re} (g : Two p q t u) {w : List Int} (hw : w ≠ []) : (t.Lang w ∧ u.Lang w) ↔ ∃ i j : Nat, ((i : Int), (j : Int)) ∈ meetL p q t.first u.first ∧ Acc2 p q t u w i j := by
  constructor
  · rintro ⟨h1, h2⟩
    obtain ⟨is, a1, a2⟩ := (lang_words g.a.good.is).1 h1
    obtain ⟨js, b1, b2⟩ := (lang_words g.b.good.is).1 h2
    have hi : is ≠ [] := by rintro rfl; cases a2; exact hw rfl
    have hj : js ≠ [] := by rintro rfl; cases b2; exact hw rfl
    obtain ⟨i, r, rfl, a3, a4⟩ := words_acc t a1 hi
    obtain ⟨j, s, rfl, b3, b4⟩ := words_acc u b1 hj
    have ha := ways_acc g a4 b4 a2 b2 (first_small g.a a3) (first_small g.b b3)
    exact ⟨i, j, meetL_mem.2 ⟨i, j, rfl, mem_below.2 ⟨first_small g.a a3, a3⟩, mem_below.2 ⟨first_small g.b b3, b3⟩, ha.ovl⟩, ha⟩
  · rintro ⟨i, j, hm, ha⟩
    obtain ⟨i', j', e, h1, h2, h3⟩ := meetL_mem.1 hm
    simp only [Prod.mk.injEq, Int.natCast_inj] at e
    obtain ⟨rfl, rfl⟩ := e
    obtain ⟨r, s, a1, a2, a3, a4⟩ := acc_ways ha
    exact ⟨(lang_words g.a.good.is).2 ⟨i :: r, acc_words t g.a.once ⟨i, r, rfl, (mem_below.1 h1).2, a1⟩, a3⟩, (lang_words g.b.good.is).2 ⟨j :: s, acc_words u g.b.once ⟨j, s, rfl, (mem_below.1 h2).2, a2⟩, a4⟩⟩

/-! ### the least word -/
def LexLe : List Int → List Int → Prop
  | [], _ => True
  | _ :: _, [] => False
  | a :: l, b :: m => a < b ∨ (a = b ∧ LexLe l m)
structure Least (L : List Int → Prop) (w : List Int) : Prop where
  is : L w
  ne : w ≠ []
  min : ∀ v, L v → v ≠ [] → w.length < v.length ∨ (w.length = v.length ∧ LexLe w v)
theorem leaf_rng {p : List S50} {i : Nat} {t : Re} (h : IsRe p i t) : t.ok → ∀ k ∈ t.leaves, 0 ≤ (rd_T50 p k).f1 ∧ (rd_T50 p k).f2 ≤ 255 := by
  induction h with
  | emp => intro _ k hk; simp [Re.leaves] at hk
  | rng i x hx hk =>
    intro ho k hm
    simp [Re.leaves] at hm
    subst hm
    have hr : rd_T50 p (k : Int) = x := by simp [rd_T50, List.getD_eq_getElem?_getD, hx]
    rw [hr]; exact ⟨ho.1, ho.2.2⟩
  | seq k x a b s t hx hk ha hb hs ht ihs iht => intro ho i hi; rcases List.mem_append.1 hi with h | h; exact ihs ho.1 i h; exact iht ho.2 i h
  | alt k x a b s t hx hk ha hb hs ht ihs iht => intro ho i hi; rcases List.mem_append.1 hi with h | h; exact ihs ho.1 i h; exact iht ho.2 i h
  | rep k x a s hx hk ha hs ih => exact ih
/-- The pairs of a list are places. -/
def PlL (p q : List S50) (t u : Re) (now : List (Int × Int)) : Prop := ∀ x ∈ now, ∃ i j : Nat, x = ((i : Int), (j : Int)) ∧ i ∈ t.leaves ∧ j ∈ u.leaves ∧ ovl p q i j = true
theorem least_fold {p q : List S50} {f : DMap} {d : Int} : ∀ (now : List (Int × Int)) (l : Int), (∀ x ∈ now, f x = some d → now.foldl (leastStep p q f d) l ≤ mx2 (rd_T50 p x.1).f1 (rd_T50 q x.2).f1) ∧ now.foldl (leastStep p q f d) l ≤ l ∧
    (now.foldl (leastStep p q f d) l = l ∨ ∃ x ∈ now, f x = some d ∧ now.foldl (leastStep p q f d) l = mx2 (rd_T50 p x.1).f1 (rd_T50 q x.2).f1)
  | [], l => ⟨by simp, Int.le_refl _, .inl rfl⟩
  | x :: now, l => by
    obtain ⟨h1, h2, h3⟩ := least_fold (p := p) (q := q) (f := f) (d := d) now (leastStep p q f d l x)
    rw [List.foldl_cons]
    have hs : leastStep p q f d l x ≤ l := by unfold leastStep mn2; split <;> (try split) <;> omega
    refine ⟨fun y hy hf => ?_, by omega, ?_⟩
    · rcases List.mem_cons.1 hy with rfl | hy
      · have : leastStep p q f d l y ≤ mx2 (rd_T50 p y.1).f1 (rd_T50 q y.2).f1 := by unfold leastStep mn2; rw [if_pos hf]; split <;> omega
        omega
      · exact h1 y hy hf
    · rcases h3 with h3 | ⟨y, hy, hf, h3⟩
      · rw [h3]
        by_cases hf : f x = some d
        · unfold leastStep mn2; rw [if_pos hf]
          split
          · exact .inr ⟨x, List.mem_cons_self .., hf, rfl⟩
          · exact .inl rfl
        · unfold leastStep; rw [if_neg hf]; exact .inl rfl
      · exact .inr ⟨y, List.mem_cons_of_mem _ hy, hf, h3⟩
theorem addNew_mem : ∀ (ys out : List (Int × Int)) (z : Int × Int), z ∈ addNew out ys ↔ z ∈ out ∨ z ∈ ys
  | [], out, z => by simp [addNew]
  | y :: ys, out, z => by
    have e : addNew out (y :: ys) = addNew (if y ∈ out then out else out ++ [y]) ys := rfl
    rw [e, addNew_mem ys]
    by_cases hy : y ∈ out
    · rw [if_pos hy, List.mem_cons]
      constructor
      · rintro (h | h); exact .inl h; exact .inr (.inr h)
      · rintro (h | rfl | h); exact .inl h; exact .inl hy; exact .inr h
    · rw [if_neg hy, List.mem_append, List.mem_singleton, List.mem_cons, or_assoc]
theorem after_mem {p q : List S50} {F G : List Nat} {c : Int} {ch : Int × Int → Bool} : ∀ (now out : List (Int × Int)) (z : Int × Int), z ∈ now.foldl (afterStep p q F G c ch) out ↔ z ∈ out ∨ ∃ x ∈ now, inside p q x c = true ∧ ch x = true ∧ z ∈ prevL p q F G x
  | [], out, z => by simp
  | x :: now, out, z => by
    rw [List.foldl_cons, after_mem now]
    unfold afterStep
    by_cases h : (inside p q x c && ch x) = true
    · rw [if_pos h, addNew_mem]
      simp only [Bool.and_eq_true] at h
      constructor
      · rintro ((h1 | h1) | ⟨y, hy, h2⟩)
        · exact .inl h1
        · exact .inr ⟨x, List.mem_cons_self .., h.1, h.2, h1⟩
        · exact .inr ⟨y, List.mem_cons_of_mem _ hy, h2⟩
      · rintro (h1 | ⟨y, hy, h2⟩)
        · exact .inl (.inl h1)
        · rcases List.mem_cons.1 hy with rfl | hy
          · exact .inl (.inr h2.2.2)
          · exact .inr ⟨y, hy, h2⟩
    · rw [if_neg h]
      simp only [Bool.and_eq_true] at h
      constructor
      · rintro (h1 | ⟨y, hy, h2⟩)
        · exact .inl h1
        · exact .inr ⟨y, List.mem_cons_of_mem _ hy, h2⟩
      · rintro (h1 | ⟨y, hy, h2⟩)
        · exact .inl h1
        · rcases List.mem_cons.1 hy with rfl | hy
          · exact absurd ⟨h2.1, h2.2.1⟩ h
          · exact .inr ⟨y, hy, h2⟩
/-- What outF makes out of pairs whose least distance is n. -/
theorem out_least {p q : List S50} {t u : Re} (g : Two p q t u) {f : DMap} (hf : DistOf (Ed p q t u) (In0 p q t u) f) : ∀ (n : Nat) (now : List (Int × Int)), PlL p q t u now → (∃ x ∈ now, f x = some (n : Int)) → (∀ x ∈ now, ∀ j, Rch (Ed p q t u) (In0 p q t u) j x → n ≤ j) →
    (∃ i j : Nat, ((i : Int), (j : Int)) ∈ now ∧ Acc2 p q t u (outF p q (FF p t) (FF q u) f (n + 1) now) i j) ∧
    ∀ (v : List Int) (i j : Nat), ((i : Int), (j : Int)) ∈ now → Acc2 p q t u v i j → v.length = n + 1 → LexLe (outF p q (FF p t) (FF q u) f (n + 1) now) v
  | n, now, hpl, ⟨x0, hx0, hd0⟩, hmin => by
    have key := least_fold (p := p) (q := q) (f := f) (d := (n : Int)) now 256
    have hb : ∀ x ∈ now, mx2 (rd_T50 p x.1).f1 (rd_T50 q x.2).f1 ≤ 255 ∧ 0 ≤ mx2 (rd_T50 p x.1).f1 (rd_T50 q x.2).f1 := by
      intro x hx
      obtain ⟨i, j, rfl, h1, h2, h3⟩ := hpl x hx
      have a := leaf_rng g.a.good.is g.a.good.ok i h1
      have b := leaf_rng g.b.good.is g.b.good.ok j h2
      have c := ovl_hit h3
      unfold Hit at c
      have : (rd_T50 p (i : Int)).f1 ≤ mx2 (rd_T50 p (i : Int)).f1 (rd_T50 q (j : Int)).f1 := c.1.1
      exact ⟨by have := c.1.2; simp only; omega, by simp only; omega⟩
    obtain ⟨c, hc⟩ : ∃ c, c = leastF p q f n now := ⟨_, rfl⟩
    have hcl : ∀ x ∈ now, f x = some (n : Int) → c ≤ mx2 (rd_T50 p x.1).f1 (rd_T50 q x.2).f1 := by rw [hc]; exact key.1
    obtain ⟨x1, hx1, hd1, hce⟩ : ∃ x ∈ now, f x = some (n : Int) ∧ c = mx2 (rd_T50 p x.1).f1 (rd_T50 q x.2).f1 := by
      rcases key.2.2 with h | h
      · have h1 := key.1 x0 hx0 hd0
        have h2 := hb x0 hx0
        omega
      · rw [hc]; exact h
    have hc0 : c % 256 = c := by have := hb x1 hx1; omega
    obtain ⟨i1, j1, rfl, l1, l2, o1⟩ := hpl x1 hx1
    simp only at hce
    obtain ⟨c1, c2⟩ := ovl_hit o1
    rw [← hce] at c1 c2
    have hout : outF p q (FF p t) (FF q u) f (n + 1) now = c :: outF p q (FF p t) (FF q u) f n (afterF p q (FF p t) (FF q u) now c (fun x => decide (f x = some (n : Int)))) := by
      simp only [outF]; rw [← hc, hc0]
    obtain ⟨k1, e1, r1, m1⟩ := hf.sound _ _ hd1
    have e1 : k1 = n := by omega
    subst e1
    rw [hout]
    have hfx : ∀ (v : List Int) (i j : Nat), ((i : Int), (j : Int)) ∈ now → Acc2 p q t u v i j → v.length = k1 + 1 → f ((i : Int), (j : Int)) = some (k1 : Int) := by
      intro v i j hm ha hv
      have hr := ha.rch g
      rw [hv, Nat.add_sub_cancel] at hr
      obtain ⟨m, hm1, hm2⟩ := hf.full _ _ hr
      obtain ⟨k, h1, h2, _⟩ := hf.sound _ _ hm1
      have := hmin _ hm k h2
      rw [hm1]; congr 1; omega
    cases k1 with
    | zero =>
      have hnil : outF p q (FF p t) (FF q u) f 0 (afterF p q (FF p t) (FF q u) now c (fun x => decide (f x = some ((0 : Nat) : Int)))) = [] := rfl
      rw [hnil]
      obtain ⟨i', j', e, h1, h2, h3⟩ := in0_iff.1 r1
      simp only [Prod.mk.injEq, Int.natCast_inj] at e
      obtain ⟨rfl, rfl⟩ := e
      refine ⟨⟨i1, j1, hx1, c1, c2, (mem_below.1 h1).2, (mem_below.1 h2).2, (mem_below.1 h1).1, (mem_below.1 h2).1⟩, fun v i j hm ha hv => ?_⟩
      match v, hv with
      | [b], _ =>
        have := hcl _ hm (hfx [b] i j hm ha rfl)
        have h5 := (hit_ovl ha.1 ha.2.1).2
        simp only at this
        by_cases e : c = b
        · exact .inr ⟨e, trivial⟩
        · exact .inl (by omega)
    | succ m =>
      obtain ⟨z, hE, hz⟩ := r1
      have hN : ∀ (y : Int × Int), y ∈ afterF p q (FF p t) (FF q u) now c (fun x => decide (f x = some ((m + 1 : Nat) : Int))) ↔ ∃ x ∈ now, inside p q x c = true ∧ f x = some ((m + 1 : Nat) : Int) ∧ y ∈ prevL p q (FF p t) (FF q u) x := by
        intro y
        unfold afterF
        rw [after_mem]
        simp
      generalize afterF p q (FF p t) (FF q u) now c (fun x => decide (f x = some ((m + 1 : Nat) : Int))) = N at *
      have edge : ∀ x ∈ now, ∀ y, y ∈ prevL p q (FF p t) (FF q u) x → Ed p q t u x y := by
        intro x hx y hy
        obtain ⟨i, j, rfl, h1, h2, h3⟩ := hpl x hx
        obtain ⟨k, l, rfl, h4, h5, h6⟩ := (next_iff g).1 hy
        exact (ed_iff g).2 ⟨i, j, rfl, h4, h5, h3⟩
      obtain ⟨kz, lz, rfl⟩ := rch_acc.meet_pair2 g hz
      obtain ⟨i', j', e, f1, f2, f3⟩ := (ed_iff g).1 hE
      simp only [Prod.mk.injEq, Int.natCast_inj] at e
      obtain ⟨rfl, rfl⟩ := e
      have hzo := (rch_acc g hz).1
      have hins : ∀ (i j : Nat), Hit p i c → Hit q j c → inside p q ((i : Int), (j : Int)) c = true := by
        intro i j h1 h2
        unfold inside
        simp only [Int.toNat_natCast, Bool.and_eq_true]
        exact ⟨hit_iff.2 h1, hit_iff.2 h2⟩
      have hzN : ((kz : Int), (lz : Int)) ∈ N := (hN _).2 ⟨_, hx1, hins i1 j1 c1 c2, hd1, (next_iff g).2 ⟨kz, lz, rfl, f1, f2, hzo⟩⟩
      have hmin2 : ∀ x ∈ N, ∀ j, Rch (Ed p q t u) (In0 p q t u) j x → m ≤ j := by
        intro y hy j hj
        obtain ⟨x, hx, _, _, h3⟩ := (hN y).1 hy
        have := hmin x hx (j + 1) ⟨y, edge x hx y h3, hj⟩
        omega
      have hpl2 : PlL p q t u N := by
        intro y hy
        obtain ⟨x, hx, _, _, h3⟩ := (hN y).1 hy
        obtain ⟨i, j, rfl, _⟩ := hpl x hx
        obtain ⟨k, l, rfl, h4, h5, h6⟩ := (next_iff g).1 h3
        exact ⟨k, l, rfl, (fol_leaf t h4).2, (fol_leaf u h5).2, h6⟩
      have hfz : f ((kz : Int), (lz : Int)) = some (m : Int) := by
        obtain ⟨m', h1, h2⟩ := hf.full _ _ hz
        obtain ⟨k, h3, h4, _⟩ := hf.sound _ _ h1
        have := hmin2 _ hzN k h4
        rw [h1]; congr 1; omega
      obtain ⟨⟨i2, j2, hm2, ha2⟩, hlex⟩ := out_least g hf m N hpl2 ⟨_, hzN, hfz⟩ hmin2
      have hlen : (outF p q (FF p t) (FF q u) f (m + 1) N).length = m + 1 := outF_length _ _ _ _ _ _ _
      constructor
      · obtain ⟨x, hx, h1, h2, h3⟩ := (hN _).1 hm2
        obtain ⟨i, j, rfl, _, _, ho⟩ := hpl x hx
        obtain ⟨k, l, e, h4, h5, h6⟩ := (next_iff g).1 h3
        simp only [Prod.mk.injEq, Int.natCast_inj] at e
        obtain ⟨rfl, rfl⟩ := e
        unfold inside at h1
        simp only [Int.toNat_natCast, Bool.and_eq_true] at h1
        refine ⟨i, j, hx, ?_⟩
        cases hw : outF p q (FF p t) (FF q u) f (m + 1) N with
        | nil => rw [hw] at hlen; simp at hlen
        | cons b r =>
          rw [hw] at ha2
          exact ⟨hit_iff.1 h1.1, hit_iff.1 h1.2, i2, j2, h4, h5, ha2⟩
      · intro v i j hm ha hv
        have hfi := hfx v i j hm ha hv
        match v, hv, ha with
        | b :: c' :: r, hv, ha =>
          obtain ⟨h1, h2, k, l, h3, h4, h5⟩ := ha
          have := hcl _ hm hfi
          have h6 := (hit_ovl h1 h2).2
          simp only at this
          by_cases e : c = b
          · subst e
            refine .inr ⟨rfl, hlex (c' :: r) k l ((hN _).2 ⟨_, hm, hins i j h1 h2, hfi, (next_iff g).2 ⟨k, l, rfl, h3, h4, h5.ovl⟩⟩) h5 (by simpa using hv)⟩
          · exact .inl (by omega)
theorem best_fold {f : DMap} (hf : ∀ x d, f x = some d → 0 ≤ d) : ∀ (now : List (Int × Int)) (b : Int), (b = -1 ∨ 0 ≤ b) →
    ((now.foldl (bestStep f) b = -1 ∧ b = -1 ∧ ∀ x ∈ now, f x = none) ∨ (0 ≤ now.foldl (bestStep f) b ∧ (0 ≤ b → now.foldl (bestStep f) b ≤ b) ∧ (∀ x ∈ now, ∀ d, f x = some d → now.foldl (bestStep f) b ≤ d) ∧ (now.foldl (bestStep f) b = b ∨ ∃ x ∈ now, f x = some (now.foldl (bestStep f) b))))
  | [], b, hb => by
    rcases hb with rfl | hb
    · exact .inl ⟨rfl, rfl, by simp⟩
    · exact .inr ⟨hb, fun _ => Int.le_refl _, by simp, .inl rfl⟩
  | x :: now, b, hb => by
    rw [List.foldl_cons]
    have hs : (bestStep f b x = -1 ∨ 0 ≤ bestStep f b x) ∧ ((f x = none ∧ bestStep f b x = b) ∨ ∃ d, f x = some d ∧ 0 ≤ bestStep f b x ∧ bestStep f b x ≤ d ∧ (0 ≤ b → bestStep f b x ≤ b) ∧ (bestStep f b x = b ∨ bestStep f b x = d)) := by
      unfold bestStep
      cases hx : f x with
      | none => exact ⟨hb, .inl ⟨rfl, rfl⟩⟩
      | some d =>
        have h0 := hf x d hx
        simp only
        by_cases h : b < 0 ∨ d < b
        · rw [if_pos h]; exact ⟨.inr h0, .inr ⟨d, rfl, h0, Int.le_refl _, fun _ => by omega, .inr rfl⟩⟩
        · rw [if_neg h]; exact ⟨hb, .inr ⟨d, rfl, by omega, by omega, fun _ => Int.le_refl _, .inl rfl⟩⟩
    obtain ⟨h1, h2⟩ := hs
    rcases best_fold hf now _ h1 with ⟨h3, h4, h5⟩ | ⟨h3, h4, h5, h6⟩
    · rcases h2 with ⟨h7, h8⟩ | ⟨d, h7, h8, _⟩
      · exact .inl ⟨h3, by omega, fun y hy => by rcases List.mem_cons.1 hy with rfl | hy; exact h7; exact h5 y hy⟩
      · omega
    · refine .inr ⟨h3, fun hb0 => ?_, fun y hy d hd => ?_, ?_⟩
      · rcases h2 with ⟨h7, h8⟩ | ⟨d, h7, h8, h9, h10, _⟩
        · rw [h8] at h4 ⊢; exact h4 hb0
        · have := h4 h8; have := h10 hb0; omega
      · rcases List.mem_cons.1 hy with rfl | hy
        · rcases h2 with ⟨h7, h8⟩ | ⟨d', h7, h8, h9, _⟩
          · rw [hd] at h7; cases h7
          · rw [hd] at h7; cases h7
            have := h4 h8; omega
        · exact h5 y hy d hd
      · rcases h6 with h6 | ⟨y, hy, h6⟩
        · rcases h2 with ⟨h7, h8⟩ | ⟨d, h7, h8, _, _, h9 | h9⟩
          · exact .inl (h6.trans h8)
          · exact .inl (h6.trans h9)
          · exact .inr ⟨x, List.mem_cons_self .., by rw [h6, h9]; exact h7⟩
        · exact .inr ⟨y, List.mem_cons_of_mem _ hy, h6⟩
/-- What Common answers for two patterns in order. -/
def ComP (t u : Re) (r : ByteArray × Int) : Prop := (r.2 = 0 ∧ ∃ w, r.1 = strOfNums w ∧ ((∀ b ∈ w, 0 ≤ b ∧ b ≤ 255) ∧ w.length ≤ 1000000) ∧ Least (fun w => t.Lang w ∧ u.Lang w) w) ∨ (r = (⟨#[]⟩, 3) ∧ ∀ w, w ≠ [] → ¬ (t.Lang w ∧ u.Lang w))
theorem zeroD_mem {l : List (Int × Int)} {y : Int × Int} (h : y ∈ l) : zeroD l y = some 0 := by rw [zeroD_eq, if_pos h]
theorem zeroD_none {l : List (Int × Int)} {y : Int × Int} {m : Int} (h : zeroD l y = some m) : y ∈ l := by
  rw [zeroD_eq] at h
  split at h
  · assumption
  · cases h
theorem start_any {E : Int × Int → Int × Int → Prop} {I : Int × Int → Prop} {l : List (Int × Int)} {f : DMap} (h0 : ∀ y ∈ l, f y = some 0) (h1 : ∀ y m, f y = some m → y ∈ l) (h2 : ∀ y, I y ↔ y ∈ l) : BI E I 0 (l, f) := by
  refine ⟨fun y hy => ⟨0, h0 y hy, (h2 y).2 hy⟩, fun y m hm => h1 y m hm, fun y hy => h0 y ((h2 y).1 hy), fun a b x y hab hx hy => ?_, fun a x y ha hx hy => ?_, fun a x y ha => by omega⟩
  · simp only at hx hy ⊢; rw [h0 x (mem_get hx), h0 y (mem_get hy)]; exact Int.le_refl _
  · simp only at hx hy ⊢; rw [h0 x (mem_get hx), h0 y hy]; simp
theorem start_bi {p q : List S50} {t u : Re} : BI (fun y x => y ∈ prevL p q (backF (FF p t)) (backF (FF q u)) x) (In0 p q t u) 0 (meetL p q t.last u.last, zeroD (meetL p q t.last u.last)) :=
  start_any (fun _ h => zeroD_mem h) (fun _ _ h => zeroD_none h) (fun _ => Iff.rfl)
theorem lang_ok : ∀ (t : Re), t.ok → ∀ {w : List Int}, t.Lang w → ∀ b ∈ w, 0 ≤ b ∧ b ≤ 255
  | .emp, _, w, h => by rw [show w = [] from h]; simp
  | .rng lo hi i, ho, w, h => by
    obtain ⟨b, rfl, h1, h2⟩ := h
    obtain ⟨h3, h4, h5⟩ := ho
    intro c hc; simp at hc; subst hc; omega
  | .seq a b, ho, w, h => by
    obtain ⟨u, v, rfl, h1, h2⟩ := h
    intro c hc
    rcases List.mem_append.1 hc with hc | hc
    · exact lang_ok a ho.1 h1 c hc
    · exact lang_ok b ho.2 h2 c hc
  | .alt a b, ho, w, h => by
    rcases h with h | h
    · exact lang_ok a ho.1 h
    · exact lang_ok b ho.2 h
  | .rep a, ho, w, h => by
    have hs : Star a.Lang w := h
    clear h
    induction hs with
    | nil => simp
    | app u v hu hv ih =>
      intro c hc
      rcases List.mem_append.1 hc with hc | hc
      · exact lang_ok a ho hu c hc
      · exact ih c hc
theorem com_spec {p q : List S50} {t u : Re} (g : Two p q t u) {r : ByteArray × Int} (h : IsCom p q r) : ComP t u r := by
  rcases h with ⟨h, _⟩ | ⟨_, h, _⟩ | ⟨t', u', f, ht, hu, hf, hr⟩
  · exact absurd g.a.good.chk h
  · exact absurd g.b.good.chk h
  · obtain rfl : t' = t := isRe_unique ht.is g.a.good.is
    obtain rfl : u' = u := isRe_unique hu.is g.b.good.is
    have hD : DistOf (Ed p q t' u') (In0 p q t' u') f := by
      obtain ⟨s', i', h1, h2, h3⟩ := bfs_all _ _ _ _ (start_bi (p := p) (q := q) (t := t') (u := u')) hf
      rw [← h3]; exact h1.dist h2
    have hpl : PlL p q t' u' (meetL p q t'.first u'.first) := by
      intro x hx
      obtain ⟨i, j, e, h1, h2, h3⟩ := meetL_mem.1 hx
      exact ⟨i, j, e, first_leaf t' (mem_below.1 h1).2, first_leaf u' (mem_below.1 h2).2, h3⟩
    have hb := best_fold (f := f) (fun x d hx => by obtain ⟨k, e, _⟩ := hD.sound x d hx; omega) (meetL p q t'.first u'.first) (-1) (.inl rfl)
    have hbe : (meetL p q t'.first u'.first).foldl (bestStep f) (-1) = bestF f (meetL p q t'.first u'.first) := rfl
    rw [hbe] at hb
    rw [hr]
    unfold comF
    rw [show t'.link (List.replicate p.length 0) = FF p t' from rfl, show u'.link (List.replicate q.length 0) = FF q u' from rfl]
    rcases hb with ⟨h1, _, h2⟩ | ⟨h1, _, h2, h3⟩
    · rw [if_pos (by omega)]
      refine .inr ⟨rfl, fun w hw hl => ?_⟩
      obtain ⟨i, j, hm, ha⟩ := (both_iff g hw).1 hl
      obtain ⟨m, hm1, _⟩ := hD.full _ _ (ha.rch g)
      rw [h2 _ hm] at hm1
      cases hm1
    · rw [if_neg (by omega)]
      obtain ⟨n, hn⟩ : ∃ n : Nat, bestF f (meetL p q t'.first u'.first) = n := ⟨(bestF f (meetL p q t'.first u'.first)).toNat, by omega⟩
      rw [hn] at h2 h3 ⊢
      simp only [Int.toNat_natCast]
      have h3' : ∃ x ∈ meetL p q t'.first u'.first, f x = some (n : Int) := h3.resolve_left (by omega)
      have hmin : ∀ x ∈ meetL p q t'.first u'.first, ∀ j, Rch (Ed p q t' u') (In0 p q t' u') j x → n ≤ j := by
        intro x hx j hj
        obtain ⟨m, hm1, hm2⟩ := hD.full _ _ hj
        have := h2 x hx _ hm1
        omega
      obtain ⟨⟨i, j, hm, ha⟩, hlex⟩ := out_least g hD n _ hpl h3' hmin
      have hlen := outF_length p q (FF p t') (FF q u') f (n + 1) (meetL p q t'.first u'.first)
      have hne : outF p q (FF p t') (FF q u') f (n + 1) (meetL p q t'.first u'.first) ≠ [] := by intro e; rw [e] at hlen; simp at hlen
      have hL := (both_iff g hne).2 ⟨i, j, hm, ha⟩
      have hn9 : n ≤ 524288 := by
        obtain ⟨x, _, hx⟩ := h3'
        obtain ⟨f', hf', hrg⟩ := dist_total ht hu
        rw [hf] at hf'; cases hf'
        have := hrg x _ hx
        omega
      refine .inl ⟨rfl, _, rfl, ⟨lang_ok t' g.a.good.ok hL.1, by rw [hlen]; omega⟩, ⟨hL, hne, fun v hv hvn => ?_⟩⟩
      obtain ⟨i', j', hm', ha'⟩ := (both_iff g hvn).1 hv
      have := hmin _ hm' _ (ha'.rch g)
      have hv0 : 0 < v.length := List.length_pos_iff.2 hvn
      rw [hlen]
      by_cases e : v.length = n + 1
      · exact .inr ⟨e.symm, hlex v i' j' hm' ha' e⟩
      · exact .inl (by omega)
end Go.Proofs.YtaphblnelmncaaaDoor.PA
end

section
/- The walk over PatternCommon. -/
set_option linter.unusedVariables false
namespace Go.Proofs.YtaphblnelmncaaaDoor.PA
open Go.RowKit Go.Proofs.YtaphblnelmncaaaDoorW.PrintWords Go.Proofs.YtaphblnelmncaaaDoorW.PrintLast Go.Proofs.YtaphblnelmncaaaDoorW.PrintMore

theorem lex_anti : ∀ {a b : List Int}, LexLe a b → LexLe b a → a = b
  | [], [], _, _ => rfl
  | [], _ :: _, _, h => h.elim
  | _ :: _, [], h, _ => h.elim
  | x :: a, y :: b, h, k => by
    rcases h with h | ⟨rfl, h⟩
    · rcases k with k | ⟨rfl, k⟩ <;> omega
    · rcases k with k | ⟨_, k⟩
      · omega
      · rw [lex_anti h k]
theorem Least.unique {L : List Int → Prop} {v w : List Int} (h : Least L v) (k : Least L w) : v = w := by
  rcases h.min w k.is k.ne with h1 | ⟨h1, h2⟩ <;> rcases k.min v h.is h.ne with k1 | ⟨k1, k2⟩
  · omega
  · omega
  · omega
  · exact lex_anti h2 k2
theorem Least.swap {L M : List Int → Prop} {v : List Int} (h : Least (fun w => L w ∧ M w) v) : Least (fun w => M w ∧ L w) v := ⟨h.is.symm, h.ne, fun w hw hn => h.min w hw.symm hn⟩
theorem ComP.swap {t u : Re} {r : ByteArray × Int} (h : ComP t u r) : ComP u t r := by
  rcases h with ⟨h1, w, h2, h3, h4⟩ | ⟨h1, h2⟩
  · exact .inl ⟨h1, w, h2, h3, h4.swap⟩
  · exact .inr ⟨h1, fun w hw hl => h2 w hw hl.symm⟩
theorem ComP.unique {t u : Re} {r r' : ByteArray × Int} (h : ComP t u r) (k : ComP t u r') : r = r' := by
  rcases h with ⟨h1, w, h2, h3, h4⟩ | ⟨h1, h2⟩ <;> rcases k with ⟨k1, w', k2, k3, k4⟩ | ⟨k1, k2⟩
  · obtain rfl := h4.unique k4
    exact Prod.ext (h2.trans k2.symm) (h1.trans k1.symm)
  · exact absurd h4.is (k2 w h4.ne)
  · exact absurd k4.is (h2 w' k4.ne)
  · rw [h1, k1]
theorem toList_str (w : List Int) : (strOfNums w).toList = w.map fun n => UInt8.ofNat n.toNat := by
  rw [Go.ByteArray.toList_eq]; rfl
theorem less_of : ∀ {v w : List Int}, LexLe v w → v.length = w.length → (∀ b ∈ v, 0 ≤ b ∧ b ≤ 255) → (∀ b ∈ w, 0 ≤ b ∧ b ≤ 255) → Op.bytesLess (w.map fun n => UInt8.ofNat n.toNat) (v.map fun n => UInt8.ofNat n.toNat) = false
  | [], [], _, _, _, _ => rfl
  | [], _ :: _, _, h, _, _ => by simp at h
  | _ :: _, [], h, _, _, _ => h.elim
  | x :: a, y :: b, h, hl, hv, hw => by
    have hx := hv x (List.mem_cons_self ..)
    have hy := hw y (List.mem_cons_self ..)
    have ex : (UInt8.ofNat x.toNat).toNat = x.toNat := by rw [UInt8.toNat_ofNat']; omega
    have ey : (UInt8.ofNat y.toNat).toNat = y.toNat := by rw [UInt8.toNat_ofNat']; omega
    simp only [List.map_cons, Op.bytesLess, Bool.or_eq_false_iff, decide_eq_false_iff_not, Bool.and_eq_false_iff]
    rcases h with h | ⟨rfl, h⟩
    · refine ⟨by rw [UInt8.lt_iff_toNat_lt, ex, ey]; omega, .inl ?_⟩
      rw [beq_eq_false_iff_ne]
      intro e
      have := congrArg UInt8.toNat e
      omega
    · exact ⟨by rw [UInt8.lt_iff_toNat_lt]; omega, .inr (less_of h (by simpa using hl) (fun c hc => hv c (List.mem_cons_of_mem _ hc)) (fun c hc => hw c (List.mem_cons_of_mem _ hc)))⟩
/-- What stands between a string and one that does not come behind it. -/
structure Behind (v s : ByteArray) : Prop where
  le : v.size ≤ s.size
  lex : v.size = s.size → Op.bytesLess s.toList v.toList = false
theorem Least.behind {L : List Int → Prop} {v w : List Int} (h : Least L v) (hw : L w) (hn : w ≠ []) (bv : ∀ b ∈ v, 0 ≤ b ∧ b ≤ 255) (bw : ∀ b ∈ w, 0 ≤ b ∧ b ≤ 255) : Behind (strOfNums v) (strOfNums w) := by
  have := h.min w hw hn
  refine ⟨by rw [strOfNums_size, strOfNums_size]; omega, fun e => ?_⟩
  rw [strOfNums_size, strOfNums_size] at e
  rw [toList_str, toList_str]
  rcases this with h1 | ⟨h1, h2⟩
  · omega
  · exact less_of h2 h1 bv bw
theorem str_ne {w : List Int} (h : w ≠ []) : 0 < (strOfNums w).size := by rw [strOfNums_size]; exact List.length_pos_iff.2 h
/-- Common of two patterns in memory. -/
theorem com_law {p q : List S50} {r : ByteArray × Int} {A B : Option Addr} {ca cb : Nat} {w : World} (h : Pt w A ca p) (k : Pt w B cb q) (hp : p.length ≤ 512) (hq : q.length ≤ 512) (ht : Tab w) (hr : IsCom p q r) :
    Calls Tryd.prog 31 #[.slice A p.length ca, .slice B q.length cb] w fun e w' => e = .returned (.tuple #[.string r.1, .int .i64 r.2]) ∧ Below w.heap.size w w' :=
  com_any A B ca cb p q r w h.C k.C h.hc k.hc (by omega) (by omega) ht hr
theorem short_law {p : List S50} {r : ByteArray × Int} {A : Option Addr} {ca : Nat} {w : World} (h : Pt w A ca p) (hp : p.length ≤ 512) (ht : Tab w) (hr : IsCom p p r) :
    Calls Tryd.prog 29 #[.slice A p.length ca] w fun e w' => e = .returned (.tuple #[.string r.1, .int .i64 r.2]) ∧ Below w.heap.size w w' :=
  short_any A ca p r w h.C h.hc (by omega) ht hr

set_option maxHeartbeats 4000000 in
set_option maxRecDepth 100000 in
theorem common_row {A B : Option Addr} {ca cb : Nat} {l m : List Int} {W : World} (hl : Bt W A ca l) (hm : Bt W B cb m) (ht : Tab W) :
    Calls Tryd.prog 10 #[.slice A l.length ca, .slice B m.length cb] W fun e w' => e = .returned (.bool true) ∧ Below W.heap.size W w' := by
  obtain ⟨hp, hpl⟩ := made_pst hl.rng (most := 20) (by decide) (by decide)
  obtain ⟨hq, hql⟩ := made_pst hm.rng (most := 20) (by decide) (by decide)
  obtain ⟨t0, e0, o0, g⟩ := hp.fine (by omega)
  obtain ⟨u0, e1, o1, k⟩ := hq.fine (by omega)
  clear e0 o0 e1 o1 hp hq
  generalize t0.re 0 = t at g
  generalize u0.re 0 = u at k
  obtain ⟨r, hr⟩ := com_ex (madeF l 20) (madeF m 20)
  obtain ⟨r2, hr2⟩ := com_ex (madeF m 20) (madeF l 20)
  obtain ⟨rp, hrp⟩ := com_ex (madeF l 20) (madeF l 20)
  obtain ⟨rq, hrq⟩ := com_ex (madeF m 20) (madeF m 20)
  have c1 := com_spec ⟨g, k⟩ hr
  have c2 := com_spec ⟨k, g⟩ hr2
  have c3 := com_spec ⟨g, g⟩ hrp
  have c4 := com_spec ⟨k, k⟩ hrq
  obtain rfl : r2 = r := c2.swap.unique c1
  have hpl' : (madeF l 20).length ≤ 512 := by omega
  have hql' : (madeF m 20).length ≤ 512 := by omega
  have HP := Lib.hid hpl'
  have HQ := Lib.hid hql'
  have HL := Lib.hid hl
  have HM := Lib.hid hm
  have HG := Lib.hid g
  have HK := Lib.hid k
  have S0 := Lib.hid (LS.init ht)
  have R1 := Lib.hid hr
  have R2 := Lib.hid hr2
  have R3 := Lib.hid hrp
  have R4 := Lib.hid hrq
  have C1 := Lib.hid c1
  have C3 := Lib.hid c3
  have C4 := Lib.hid c4
  clear hl hm ht hpl hql hpl' hql' g k hr hr2 hrp hrq c1 c2 c3 c4
  obtain ⟨s, e⟩ := r2
  obtain ⟨sp, ep⟩ := rp
  obtain ⟨sq, eq⟩ := rq
  go_enter Tryd.func10, Tryd.ntmps10
  go_wp2_with fail
  refine (sanity_any W S0.out.tab).mono ?_
  rintro e1 w1 ⟨rfl, k1⟩
  have S1 := Lib.hid (S0.out.next k1)
  have L1 := Lib.hid (HL.out.next k1)
  have M1 := Lib.hid (HM.out.next k1)
  clear k1
  go_wp2_with fail
  refine (made_law L1.out 20 (by decide) (by decide)).mono ?_
  rintro e2 w2 ⟨E, ec, rfl, P2, k2⟩
  have P2 := Lib.hid P2
  have S2 := Lib.hid (S1.out.next k2)
  have M2 := Lib.hid (M1.out.next k2)
  clear k2
  go_wp2_with fail
  refine (made_law M2.out 20 (by decide) (by decide)).mono ?_
  rintro e3 w3 ⟨F, fc, rfl, Q3, k3⟩
  have Q3 := Lib.hid Q3
  have P3 := Lib.hid (P2.out.next k3)
  have S3 := Lib.hid (S2.out.next k3)
  clear k3
  go_wp2_with fail
  refine (com_law P3.out Q3.out HP.out HQ.out S3.out.tab R1.out).mono ?_
  rintro e4 w4 ⟨rfl, k4⟩
  have Q4 := Lib.hid (Q3.out.next k4)
  have P4 := Lib.hid (P3.out.next k4)
  have S4 := Lib.hid (S3.out.next k4)
  clear k4
  go_wp2_with fail
  refine (com_law Q4.out P4.out HQ.out HP.out S4.out.tab R2.out).mono ?_
  rintro e5 w5 ⟨rfl, k5⟩
  have Q5 := Lib.hid (Q4.out.next k5)
  have P5 := Lib.hid (P4.out.next k5)
  have S5 := Lib.hid (S4.out.next k5)
  clear k5
  go_wp2_with fail
  refine (com_law P5.out P5.out HP.out HP.out S5.out.tab R3.out).mono ?_
  rintro e6 w6 ⟨rfl, k6⟩
  have Q6 := Lib.hid (Q5.out.next k6)
  have P6 := Lib.hid (P5.out.next k6)
  have S6 := Lib.hid (S5.out.next k6)
  clear k6
  go_wp2_with fail
  refine (short_law P6.out HP.out S6.out.tab R3.out).mono ?_
  rintro e7 w7 ⟨rfl, k7⟩
  have Q7 := Lib.hid (Q6.out.next k7)
  have P7 := Lib.hid (P6.out.next k7)
  have S7 := Lib.hid (S6.out.next k7)
  clear k7
  go_wp2_with fail
  refine (short_law Q7.out HQ.out S7.out.tab R4.out).mono ?_
  rintro e8 w8 ⟨rfl, k8⟩
  have Q8 := Lib.hid (Q7.out.next k8)
  have P8 := Lib.hid (P7.out.next k8)
  have S8 := Lib.hid (S7.out.next k8)
  clear k8 P2 P3 P4 P5 P6 P7 Q3 Q4 Q5 Q6 Q7 S0 S1 S2 S3 S4 S5 S6 S7 L1 M1 M2 R1 R2 R3 R4
  go_upto_region 9 with fail
  rcases C1.out with ⟨he, w, hs, hb, hL⟩ | ⟨hn, hno⟩
  · obtain ⟨he3, v, hv, hvb, hvL⟩ : ep = 0 ∧ ∃ v, sp = strOfNums v ∧ ((∀ b ∈ v, 0 ≤ b ∧ b ≤ 255) ∧ v.length ≤ 1000000) ∧ Least (fun w => t.Lang w ∧ t.Lang w) v := C3.out.resolve_right (fun h => h.2 w hL.ne ⟨hL.is.1, hL.is.1⟩)
    obtain ⟨he4, z, hz, hzb, hzL⟩ : eq = 0 ∧ ∃ v, sq = strOfNums v ∧ ((∀ b ∈ v, 0 ≤ b ∧ b ≤ 255) ∧ v.length ≤ 1000000) ∧ Least (fun w => u.Lang w ∧ u.Lang w) v := C4.out.resolve_right (fun h => h.2 w hL.ne ⟨hL.is.2, hL.is.2⟩)
    have b1 := hvL.behind ⟨hL.is.1, hL.is.1⟩ hL.ne hvb.1 hb.1
    have b2 := hzL.behind ⟨hL.is.2, hL.is.2⟩ hL.ne hzb.1 hb.1
    have hbs : bytesOf s = w := by rw [show s = strOfNums w from hs]; exact bytes_strOf hb.1
    have i1 := Lib.hid (show t.Lang (bytesOf s) by rw [hbs]; exact hL.is.1)
    have i2 := Lib.hid (show u.Lang (bytesOf s) by rw [hbs]; exact hL.is.2)
    rw [← show sp = strOfNums v from hv, ← show s = strOfNums w from hs] at b1
    rw [← show sq = strOfNums z from hz, ← show s = strOfNums w from hs] at b2
    have n0 : s.toList ≠ [] := by rw [show s = strOfNums w from hs, toList_str]; simpa using hL.ne
    have n1 : (s.toList == []) = false := beq_eq_false_iff_ne.2 n0
    have n2 : s.toList.isEmpty = false := by simpa using n0
    simp only at he
    subst he
    subst he3
    subst he4
    have sz : Hid (s.size ≤ 140737488351232) := Lib.hid (by rw [show s = strOfNums w from hs, strOfNums_size]; omega)
    have q1 := b1.le
    have q2 := b2.le
    have x1 : (sp.size < s.size ∧ decide (sp.size < s.size) = true) ∨ (¬ sp.size < s.size ∧ Op.bytesLess s.toList sp.toList = false) := by
      by_cases h : sp.size < s.size
      · exact .inl ⟨h, decide_eq_true h⟩
      · exact .inr ⟨h, b1.lex (by omega)⟩
    have x2 : (sq.size < s.size ∧ decide (sq.size < s.size) = true) ∨ (¬ sq.size < s.size ∧ Op.bytesLess s.toList sq.toList = false) := by
      by_cases h : sq.size < s.size
      · exact .inl ⟨h, decide_eq_true h⟩
      · exact .inr ⟨h, b2.lex (by omega)⟩
    have HX1 := Lib.hid x1
    have HX2 := Lib.hid x2
    clear hs hb hL hv hvb hvL hz hzb hzL b1 b2 hbs C1 C3 C4 x1 x2 n0
    go_upto_region 13 with fail
    rcases HX1.out with ⟨y1, y2⟩ | ⟨y1, y2⟩ <;> rcases HX2.out with ⟨y3, y4⟩ | ⟨y3, y4⟩
    all_goals
      go_wp2_with fail
      refine (matches_yes HG.out P8.out S8.out.tab _ sz.out i1.out).mono ?_
      rintro e9 w9 ⟨rfl, k9⟩
      have Q9 := Lib.hid (Q8.out.next k9)
      have S9 := Lib.hid (S8.out.next k9)
      clear k9
      go_wp2_with fail
      refine (matches_yes HK.out Q9.out S9.out.tab _ sz.out i2.out).mono ?_
      rintro ea wa ⟨rfl, ka⟩
      have Sa := Lib.hid (S9.out.next ka)
      clear ka
      go_wp2
      go_ret
      exact ⟨rfl, Sa.out.low⟩
  · simp only [Prod.mk.injEq] at hn
    obtain ⟨rfl, rfl⟩ := hn
    have HN := Lib.hid hno
    clear hno
    have HC3 : sp = sp := rfl
    go_wp2
    go_ret
    exact ⟨rfl, S8.out.low⟩
end Go.Proofs.YtaphblnelmncaaaDoor.PA
end

section
/- The walk over PatternLiterals. -/
set_option linter.unusedVariables false
namespace Go.Proofs.YtaphblnelmncaaaDoor.PA
open Go.RowKit Go.Proofs.YtaphblnelmncaaaDoorW.PrintWords Go.Proofs.YtaphblnelmncaaaDoorW.PrintLast Go.Proofs.YtaphblnelmncaaaDoorW.PrintMore

theorem long_lit {bs cs : List Int} {n : Nat} (h : LongP ((litT bs).re 0) (bs ++ cs) n) : n = bs.length := by
  have hl : ∀ w, ((litT bs).re 0).Lang w ↔ w = bs := litT_lang bs
  have hle := h.le
  apply Classical.byContradiction
  intro hn
  by_cases h1 : n < bs.length
  · exact h.no bs.length h1 (by simp) ((hl _).2 (by simp))
  · have := (hl _).1 (h.is (by omega))
    have := congrArg List.length this
    rw [List.length_take] at this
    omega
theorem short_lit {bs : List Int} (hb : bs ≠ []) {r : ByteArray × Int} (h : ComP ((litT bs).re 0) ((litT bs).re 0) r) : r = (strOfNums bs, 0) := by
  have hl : ∀ w, ((litT bs).re 0).Lang w ↔ w = bs := litT_lang bs
  rcases h with ⟨h1, w, h2, _, h4⟩ | ⟨_, h2⟩
  · exact Prod.ext (h2.trans (by rw [(hl w).1 h4.is.1])) h1
  · exact absurd ⟨(hl bs).2 rfl, (hl bs).2 rfl⟩ (h2 bs hb)
theorem short_nil {r : ByteArray × Int} (h : ComP ((litT []).re 0) ((litT []).re 0) r) : r = (⟨#[]⟩, 3) := by
  have hl : ∀ w, ((litT []).re 0).Lang w ↔ w = [] := litT_lang []
  rcases h with ⟨h1, w, h2, _, h4⟩ | ⟨h1, _⟩
  · exact absurd ((hl w).1 h4.is.1) h4.ne
  · exact h1
theorem bytes_inj {s t : ByteArray} : bytesOf t = bytesOf s ↔ (s.toList == t.toList) = true := by
  constructor
  · intro h
    have := congrArg strOfNums h
    rw [str_bytes, str_bytes] at this
    rw [this]; simp
  · intro h
    have h := beq_iff_eq.1 h
    rw [Go.ByteArray.toList_eq, Go.ByteArray.toList_eq] at h
    unfold bytesOf; rw [h]

set_option maxHeartbeats 8000000 in
set_option maxRecDepth 100000 in
theorem literals_row {s t : ByteArray} {W : World} (hs : s.size ≤ 140737488351232) (hts : t.size ≤ 140737488351232) (ht : Tab W) :
    Calls Tryd.prog 14 #[.string s, .string t] W fun e w' => e = .returned (.bool true) ∧ Below W.heap.size W w' := by
  have S0 := Lib.hid (LS.init ht)
  clear ht
  by_cases hbig : 40 < s.size ∨ 40 < t.size
  · rcases hbig with h | h
    · have d1 : decide (40 < s.size) = true := decide_eq_true h
      have d2 : decide ((40 : Int) < (s.size : Int)) = true := decide_eq_true (by omega)
      go_enter Tryd.func14, Tryd.ntmps14
      go_wp2_with fail
      refine (sanity_any W S0.out.tab).mono ?_
      rintro e1 w1 ⟨rfl, k1⟩
      have S1 := Lib.hid (S0.out.next k1)
      clear k1
      go_wp2
      go_ret
      exact ⟨rfl, S1.out.low⟩
    · by_cases h1 : 40 < s.size
      · have d1 : decide (40 < s.size) = true := decide_eq_true h1
        have d2 : decide ((40 : Int) < (s.size : Int)) = true := decide_eq_true (by omega)
        go_enter Tryd.func14, Tryd.ntmps14
        go_wp2_with fail
        refine (sanity_any W S0.out.tab).mono ?_
        rintro e1 w1 ⟨rfl, k1⟩
        have S1 := Lib.hid (S0.out.next k1)
        clear k1
        go_wp2
        go_ret
        exact ⟨rfl, S1.out.low⟩
      · have d1 : decide ((40 : Int) < (s.size : Int)) = false := decide_eq_false (by omega)
        have d2 : decide ((40 : Int) < (t.size : Int)) = true := decide_eq_true (by omega)
        go_enter Tryd.func14, Tryd.ntmps14
        go_wp2_with fail
        refine (sanity_any W S0.out.tab).mono ?_
        rintro e1 w1 ⟨rfl, k1⟩
        have S1 := Lib.hid (S0.out.next k1)
        clear k1
        go_wp2
        go_ret
        exact ⟨rfl, S1.out.low⟩
  · have h1 : s.size ≤ 40 := by omega
    have h2 : t.size ≤ 40 := by omega
    clear hbig
    have d1 : decide ((40 : Int) < (s.size : Int)) = false := decide_eq_false (by omega)
    have d2 : decide ((40 : Int) < (t.size : Int)) = false := decide_eq_false (by omega)
    have hbl := bytesOf_length s
    have tok := litT_ok (bytesOf s) (bytes_rng s)
    have tsz : (litT (bytesOf s)).size ≤ 100 := by
      by_cases h : bytesOf s = []
      · rw [h]; decide
      · have := litT_size _ h; omega
    have g := (litT (bytesOf s)).fine tok (by omega)
    have hchk := (litT (bytesOf s)).chk0 tok (by omega)
    have hlen := (litT (bytesOf s)).post_length 0
    have HG := Lib.hid g
    have HTOK := Lib.hid tok
    have HCHK := Lib.hid hchk
    have hlen2 : ((litT (bytesOf s)).post 0).length ≤ 512 := by omega
    obtain ⟨r, hr⟩ := com_ex ((litT (bytesOf s)).post 0) ((litT (bytesOf s)).post 0)
    have C1 := Lib.hid (com_spec ⟨g, g⟩ hr)
    have R1 := Lib.hid hr
    have hpr : ∀ A c w, Pt w A c ((litT (bytesOf s)).post 0) → Calls Tryd.prog 19 #[.slice A ((litT (bytesOf s)).post 0).length c] w fun e w' => e = .returned (.tuple #[.string (strOfNums (litT (bytesOf s)).str), .int .i64 0]) ∧ Below w.heap.size w w' := fun A c w h => print_law tok (by omega) h
    have hpa : ∀ w, Calls Tryd.prog 25 #[.string (strOfNums (litT (bytesOf s)).str)] w fun e w' => ∃ E ec, e = .returned (.tuple #[.slice E ((litT (bytesOf s)).post 0).length ec, .int .i64 0]) ∧ Pt w' E ec ((litT (bytesOf s)).post 0) ∧ Below w.heap.size w w' := fun w =>
      parse_law ((litT (bytesOf s)).rd tok).one ((litT (bytesOf s)).str_ok tok) (by omega) (by have := (litT (bytesOf s)).str_length; omega) w
    have HPR := Lib.hid hpr
    have HPA := Lib.hid hpa
    have HL2 := Lib.hid hlen2
    have HT := Lib.hid tsz
    clear tok tsz g hchk hlen hlen2 hr hpr hpa hbl
    obtain ⟨rs, re⟩ := r
    have hlit : ∀ w, Calls Tryd.prog 36 #[.string s] w fun e w' => ∃ E ec, e = .returned (.tuple #[.slice E ((litT (bytesOf s)).post 0).length ec, .int .i64 0]) ∧ Pt w' E ec ((litT (bytesOf s)).post 0) ∧ Below w.heap.size w w' := fun w => literal_law (by omega) w
    have HLIT := Lib.hid hlit
    clear hlit
    generalize strOfNums (litT (bytesOf s)).str = us at *
    generalize hp : (litT (bytesOf s)).post 0 = p at *
    generalize ht0 : litT (bytesOf s) = T at *
    have HP := Lib.hid hp
    have HT0 := Lib.hid ht0
    clear hp ht0
    go_enter Tryd.func14, Tryd.ntmps14
    go_wp2_with fail
    refine (sanity_any W S0.out.tab).mono ?_
    rintro e1 w1 ⟨rfl, k1⟩
    have S1 := Lib.hid (S0.out.next k1)
    clear k1
    go_wp2_with fail
    refine (HLIT.out w1).mono ?_
    rintro e2 w2 ⟨E, ec, rfl, P2, k2⟩
    have P2 := Lib.hid P2
    have S2 := Lib.hid (S1.out.next k2)
    clear k2
    go_wp2_with fail
    refine (HPR.out _ _ _ P2.out).mono ?_
    rintro e3 w3 ⟨rfl, k3⟩
    have P3 := Lib.hid (P2.out.next k3)
    have S3 := Lib.hid (S2.out.next k3)
    clear k3
    go_wp2_with fail
    refine (HPA.out w3).mono ?_
    rintro e4 w4 ⟨F, fc, rfl, Q4, k4⟩
    have Q4 := Lib.hid Q4
    have P4 := Lib.hid (P3.out.next k4)
    have S4 := Lib.hid (S3.out.next k4)
    clear k4
    go_wp2_with fail
    refine (same_yes Q4.out P4.out (by have := HL2.out; omega)).mono ?_
    rintro e5 w5 ⟨rfl, k5⟩
    have P5 := Lib.hid (P4.out.next k5)
    have S5 := Lib.hid (S4.out.next k5)
    clear k5
    go_wp2_with fail
    refine (check_law P5.out (by have := HL2.out; omega) HCHK.out).mono ?_
    rintro e6 w6 ⟨rfl, k6⟩
    have P6 := Lib.hid (P5.out.next k6)
    have S6 := Lib.hid (S5.out.next k6)
    clear k6
    obtain ⟨n, hn, hc⟩ := longest_law HG.out P6.out S6.out.tab (s ++ t) (by rw [ByteArray.size_append]; omega) 0 (by omega)
    have hn2 : n = s.size := by
      rw [List.drop_zero, bytes_app, ← HT0.out] at hn
      rw [long_lit hn, bytesOf_length]
    have hc2 : Calls Tryd.prog 17 #[.slice E p.length ec, .string (s ++ t), .int .i64 0] w6 fun e w' => e = .returned (.tuple #[.int .i64 (s.size : Int), .bool (decide (0 < s.size))]) ∧ Below w6.heap.size w6 w' := by rw [hn2] at hc; exact hc
    have HC := Lib.hid hc2
    clear hn hc hn2 hc2
    go_wp2_with fail
    refine HC.out.mono ?_
    rintro e7 w7 ⟨rfl, k7⟩
    have P7 := Lib.hid (P6.out.next k7)
    have S7 := Lib.hid (S6.out.next k7)
    clear k7 HC
    go_wp2_with fail
    refine (short_law P7.out HL2.out S7.out.tab R1.out).mono ?_
    rintro e8 w8 ⟨rfl, k8⟩
    have P8 := Lib.hid (P7.out.next k8)
    have S8 := Lib.hid (S7.out.next k8)
    clear k8 P2 P3 P4 P5 P6 P7 Q4 S0 S1 S2 S3 S4 S5 S6 S7
    have hz1 : Hid (s.size ≤ 140737488351232) := Lib.hid (by omega)
    have hz2 : Hid (t.size ≤ 140737488351232) := Lib.hid (by omega)
    have HLG : Hid (∀ w, (T.re 0).Lang w ↔ w = bytesOf s) := Lib.hid (by intro w; rw [← HT0.out]; exact litT_lang _ w)
    go_upto_region 11 with fail
    by_cases h0 : s.size = 0
    · have hse : s = ⟨#[]⟩ := by
        apply ByteArray.ext
        exact Array.eq_empty_of_size_eq_zero h0
      subst hse
      have hre := short_nil (r := (rs, re)) (by have h := C1.out; rw [← HT0.out] at h; exact h)
      simp only [Prod.mk.injEq] at hre
      obtain ⟨rfl, rfl⟩ := hre
      obtain ⟨m0, hm0⟩ : ∃ m0, m0 = t.toList.isEmpty := ⟨_, rfl⟩
      have hm1 : (t.toList == []) = m0 := by rw [hm0]; cases t.toList <;> rfl
      have hm2 : t.toList.isEmpty = m0 := hm0.symm
      have HB : Hid (m0 = true ↔ (T.re 0).Lang (bytesOf t)) := Lib.hid (by
        rw [HLG.out, hm0, List.isEmpty_iff, Go.ByteArray.toList_eq]
        show _ ↔ bytesOf t = []
        unfold bytesOf
        rw [List.map_eq_nil_iff])
      have HE : Hid ((T.re 0).Lang (bytesOf ⟨#[]⟩)) := Lib.hid ((HLG.out _).2 rfl)
      have hz3 : Hid ((⟨#[]⟩ : ByteArray).size ≤ 140737488351232) := Lib.hid (by decide)
      clear hm0 h0 h1 d1
      go_wp2_with fail
      refine (matches_yes HG.out P8.out S8.out.tab _ hz3.out HE.out).mono ?_
      rintro e9 w9 ⟨rfl, k9⟩
      have P9 := Lib.hid (P8.out.next k9)
      have S9 := Lib.hid (S8.out.next k9)
      clear k9
      go_wp2_with fail
      refine (matches_law HG.out P9.out S9.out.tab _ hz2.out m0 HB.out).mono ?_
      rintro ea wa ⟨rfl, ka⟩
      have Sa := Lib.hid (S9.out.next ka)
      clear ka
      go_wp2
      go_ret
      exact ⟨rfl, Sa.out.low⟩
    · have hne : bytesOf s ≠ [] := by intro h; have := bytesOf_length s; rw [h] at this; simp at this; omega
      have hre := short_lit hne (r := (rs, re)) (by have h := C1.out; rw [← HT0.out] at h; exact h)
      rw [str_bytes] at hre
      simp only [Prod.mk.injEq] at hre
      obtain ⟨rfl, rfl⟩ := hre
      have n0 : rs.toList ≠ [] := by rw [Go.ByteArray.toList_eq]; intro h; apply hne; unfold bytesOf; rw [h]; rfl
      have n1 : (rs.toList == []) = false := beq_eq_false_iff_ne.2 n0
      have n2 : rs.toList.isEmpty = false := by simpa using n0
      have n3 : decide (0 < rs.size) = true := decide_eq_true (by omega)
      obtain ⟨m0, hm0⟩ : ∃ m0, m0 = (rs.toList == t.toList) := ⟨_, rfl⟩
      have HB : Hid (m0 = true ↔ (T.re 0).Lang (bytesOf t)) := Lib.hid (by rw [HLG.out, hm0]; exact bytes_inj.symm)
      have HE : Hid ((T.re 0).Lang (bytesOf rs)) := Lib.hid ((HLG.out _).2 rfl)
      have hm1 := hm0.symm
      clear hm0 h0 n0 hne
      go_wp2_with fail
      refine (matches_yes HG.out P8.out S8.out.tab _ hz1.out HE.out).mono ?_
      rintro e9 w9 ⟨rfl, k9⟩
      have P9 := Lib.hid (P8.out.next k9)
      have S9 := Lib.hid (S8.out.next k9)
      clear k9
      go_wp2_with fail
      refine (matches_law HG.out P9.out S9.out.tab _ hz2.out m0 HB.out).mono ?_
      rintro ea wa ⟨rfl, ka⟩
      have Sa := Lib.hid (S9.out.next ka)
      clear ka
      go_wp2
      go_ret
      exact ⟨rfl, Sa.out.low⟩
end Go.Proofs.YtaphblnelmncaaaDoor.PA
end
