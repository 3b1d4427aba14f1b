/- What the statement's proof stands on, part 1: the walks over the program's functions and the plain laws. -/
import Derived.Test.YtaphblnelmncaaaDoorV8c
import Derived.Laws.Cover1
set_option linter.unusedSimpArgs false
set_option linter.unusedVariables false
section
/- The reader reads canonical strings. -/
set_option linter.unusedVariables false
namespace Go.Proofs.YtaphblnelmncaaaDoor.PA
open Go.RowKit Go.Proofs.YtaphblnelmncaaaDoorW.PrintWords Go.Proofs.YtaphblnelmncaaaDoorW.PrintLast Go.Proofs.YtaphblnelmncaaaDoorW.PrintMore

namespace Tr
def lev : Tr → Int
  | seq _ _ => 2
  | alt _ _ => 1
  | _ => 3
def str : Tr → List Int
  | emp => [40, 41]
  | rng lo hi => if lo < hi then 91 :: (chrL lo ++ 45 :: (chrL hi ++ [93])) else chrL lo
  | seq a b => par (decide (a.lev < 2)) a.str ++ par (decide (b.lev < 3)) b.str
  | alt a b => par (decide (a.lev < 1)) a.str ++ 124 :: par (decide (b.lev < 2)) b.str
  | rep a => par (decide (a.lev < 3)) a.str ++ [42]
def shown (t : Tr) (least : Int) : List Int := par (decide (t.lev < least)) t.str
theorem lev_re (t : Tr) (o : Nat) : (t.re o).lev = t.lev := by cases t <;> rfl
theorem str_re (t : Tr) : ∀ o, (t.re o).str = t.str := by
  induction t with
  | emp => intro o; rfl
  | rng => intro o; rfl
  | seq a b iha ihb => intro o; simp [re, Re.str, str, lev_re, iha, ihb]
  | alt a b iha ihb => intro o; simp [re, Re.str, str, lev_re, iha, ihb]
  | rep a iha => intro o; simp [re, Re.str, str, lev_re, iha]
theorem shown_re (t : Tr) (o : Nat) (k : Int) : (t.re o).shown k = t.shown k := by unfold Re.shown shown; rw [lev_re, str_re]
theorem lev_range (t : Tr) : 1 ≤ t.lev ∧ t.lev ≤ 3 := by cases t <;> simp [lev]
theorem shown1 (t : Tr) : t.shown 1 = t.str := by have := t.lev_range; unfold shown par; rw [if_neg (by simp; omega)]
end Tr

/-- The bytes l lie in s from k on. -/
def At (s : ByteArray) : Nat → List Int → Prop
  | k, [] => k ≤ s.size
  | k, c :: l => k < s.size ∧ bt s (k : Int) = c ∧ At s (k + 1) l
theorem At.app {s : ByteArray} : ∀ {a b : List Int} {k : Nat}, At s k (a ++ b) → At s k a ∧ At s (k + a.length) b
  | [], b, k, h => ⟨by cases b with | nil => exact h | cons c l => exact Nat.le_of_lt h.1, h⟩
  | c :: a, b, k, h => by
    obtain ⟨h1, h2, h3⟩ := h
    obtain ⟨h4, h5⟩ := At.app h3
    exact ⟨⟨h1, h2, h4⟩, by rw [List.length_cons, show k + (a.length + 1) = k + 1 + a.length by omega]; exact h5⟩
theorem At.le {s : ByteArray} : ∀ {l : List Int} {k : Nat}, At s k l → k + l.length ≤ s.size
  | [], k, h => h
  | c :: l, k, h => by have := At.le h.2.2; simp; omega

/-- Not an asterisk; the end, a bar or a closing parenthesis. -/
def NoStar (s : ByteArray) (k : Nat) : Prop := k < s.size → bt s k ≠ 42
def EndC (s : ByteArray) (k : Nat) : Prop := k < s.size → bt s k = 124 ∨ bt s k = 41
def ST (s : ByteArray) (i : Int) (st : St) (r : Int × St) : Prop := ∃ N, ∀ n, N ≤ n → starF s n i st = some r
def AF (s : ByteArray) (st : St) (r : Int × St) : Prop := ∃ N, ∀ n, N ≤ n → atomF s n st = some r
def SL (s : ByteArray) (i : Int) (st : St) (r : Int × St) : Prop := ∃ N, ∀ n, N ≤ n → seqLoop s n i st = some r
def SF (s : ByteArray) (st : St) (r : Int × St) : Prop := ∃ N, ∀ n, N ≤ n → seqF s n st = some r
def AL (s : ByteArray) (i : Int) (st : St) (r : Int × St) : Prop := ∃ N, ∀ n, N ≤ n → altLoop s n i st = some r
def TF (s : ByteArray) (st : St) (r : Int × St) : Prop := ∃ N, ∀ n, N ≤ n → altF s n st = some r

/-- Behind the string l of the tree t. -/
def adv (st : St) (t : Tr) (l : List Int) : St := ⟨st.pos + l.length, st.out ++ t.post st.out.length, false⟩
def idx (st : St) (t : Tr) : Int := ((st.out.length + t.size - 1 : Nat) : Int)
def A3 (l : List Int) (t : Tr) : Prop := ∀ (s : ByteArray) (st : St) (r : Int × St), st.wrong = false → At s st.pos l → ST s (idx st t) (adv st t l) r → AF s st r
def A2 (l : List Int) (t : Tr) : Prop := ∀ (s : ByteArray) (st : St) (r : Int × St), st.wrong = false → At s st.pos l → NoStar s (st.pos + l.length) → SL s (idx st t) (adv st t l) r → SF s st r
def A1 (l : List Int) (t : Tr) : Prop := ∀ (s : ByteArray) (st : St) (r : Int × St), st.wrong = false → At s st.pos l → EndC s (st.pos + l.length) → AL s (idx st t) (adv st t l) r → TF s st r
/-- What a string begins with. -/
def Fst (l : List Int) : Prop := ∃ c l', l = c :: l' ∧ c ≠ 42 ∧ c ≠ 124 ∧ c ≠ 41
theorem isNext_at {s : ByteArray} {b : Int} {st : St} (h : st.pos < s.size) (hb : bt s st.pos = b) : isNext s b st = true := by unfold isNext; simp [h, hb]
theorem isNext_no {s : ByteArray} {b : Int} {st : St} (h : st.pos < s.size → bt s st.pos ≠ b) : isNext s b st = false := by
  unfold isNext
  by_cases hh : st.pos < s.size
  · simp [hh, h hh]
  · simp [hh]
theorem pass_at {s : ByteArray} {b : Int} {st : St} (h : st.pos < s.size) (hb : bt s st.pos = b) : pass s b st = ⟨st.pos + 1, st.out, st.wrong⟩ := by unfold pass; rw [if_pos (isNext_at h hb)]
theorem st_end {s : ByteArray} {i : Int} {st : St} (hw : st.wrong = false) (h : NoStar s st.pos) : ST s i st (i, st) := by
  refine ⟨1, fun n hn => ?_⟩
  obtain ⟨m, rfl⟩ : ∃ m, n = m + 1 := ⟨n - 1, by omega⟩
  rw [starF, if_neg (by simp [hw]), if_neg (by rw [isNext_no h]; simp)]
theorem sl_end {s : ByteArray} {i : Int} {st : St} (h : EndC s st.pos) : SL s i st (i, st) := by
  refine ⟨1, fun n hn => ?_⟩
  obtain ⟨m, rfl⟩ : ∃ m, n = m + 1 := ⟨n - 1, by omega⟩
  rw [seqLoop, if_neg]
  intro hh
  simp only [Bool.and_eq_true, decide_eq_true_eq, bne_iff_ne, ne_eq] at hh
  have := h hh.2.1
  omega
theorem al_end {s : ByteArray} {i : Int} {st : St} (h : st.pos < s.size → bt s st.pos ≠ 124) : AL s i st (i, st) := by
  refine ⟨1, fun n hn => ?_⟩
  obtain ⟨m, rfl⟩ : ∃ m, n = m + 1 := ⟨n - 1, by omega⟩
  rw [altLoop]
  split
  · rfl
  · rw [if_neg (by rw [isNext_no h]; simp)]
theorem EndC.noStar {s : ByteArray} {k : Nat} (h : EndC s k) : NoStar s k := fun hk e => by have := h hk; omega
theorem A3.two {l : List Int} {t : Tr} (h : A3 l t) : A2 l t := by
  intro s st r hw ha hn hr
  obtain ⟨N, hN⟩ := h s st _ hw ha (st_end rfl (by exact hn))
  obtain ⟨M, hM⟩ := hr
  refine ⟨N + M + 1, fun n hn => ?_⟩
  obtain ⟨m, rfl⟩ : ∃ m, n = m + 1 := ⟨n - 1, by omega⟩
  rw [seqF, hN m (by omega)]
  exact hM m (by omega)
theorem A2.one {l : List Int} {t : Tr} (h : A2 l t) : A1 l t := by
  intro s st r hw ha hn hr
  obtain ⟨N, hN⟩ := h s st _ hw ha hn.noStar (sl_end (by exact hn))
  obtain ⟨M, hM⟩ := hr
  refine ⟨N + M + 1, fun n hn => ?_⟩
  obtain ⟨m, rfl⟩ : ∃ m, n = m + 1 := ⟨n - 1, by omega⟩
  rw [altF, hN m (by omega)]
  exact hM m (by omega)
theorem A1.paren {l : List Int} {t : Tr} (h : A1 l t) (hf : Fst l) : A3 (40 :: (l ++ [41])) t := by
  intro s st r hw ha hr
  obtain ⟨h1, h2, h3⟩ := ha
  obtain ⟨h4, h5, h6, _⟩ := h3.app
  obtain ⟨c, l', e, c1, c2, c3⟩ := hf
  have hc : st.pos + 1 < s.size ∧ bt s ((st.pos + 1 : Nat) : Int) = c := by rw [e] at h4; exact ⟨h4.1, h4.2.1⟩
  have hp := pass_at h1 h2
  obtain ⟨N, hN⟩ := h s (pass s 40 st) (idx (pass s 40 st) t, adv (pass s 40 st) t l) (by rw [hp]; exact hw) (by rw [hp]; exact h4) (by rw [hp]; exact fun _ => .inr h6) (al_end (by rw [hp]; intro _; show bt s ((st.pos + 1 + l.length : Nat) : Int) ≠ 124; rw [h6]; decide))
  obtain ⟨M, hM⟩ := hr
  refine ⟨N + M + 1, fun n hn => ?_⟩
  obtain ⟨m, rfl⟩ : ∃ m, n = m + 1 := ⟨n - 1, by omega⟩
  rw [atomF, if_neg (by rw [isNext_no (by intro _; rw [h2]; decide)]; simp), if_pos (isNext_at h1 h2), if_neg (by rw [isNext_no (by rw [hp]; intro _; show bt s ((st.pos + 1 : Nat) : Int) ≠ 41; rw [hc.2]; exact c3)]; simp), hN m (by omega), Option.bind_some]
  rw [if_neg (by simp [adv])]
  have e1 : isNext s 41 (adv (pass s 40 st) t l) = true := isNext_at (by rw [hp]; exact h5) (by rw [hp]; exact h6)
  have e2 : (pass s 41 (adv (pass s 40 st) t l)).bad (!isNext s 41 (adv (pass s 40 st) t l)) = adv st t (40 :: (l ++ [41])) := by
    rw [e1]
    rw [hp] at e1 ⊢
    unfold pass
    rw [if_pos e1]
    simp only [St.bad, adv, Bool.not_true, List.length_cons, List.length_append, List.length_nil]
    congr 1; omega
  have e3 : idx (pass s 40 st) t = idx st t := by rw [hp]; rfl
  rw [e2, e3]
  exact hM m (by omega)
theorem adv_bind (st : St) (a b : Tr) (l1 l2 : List Int) (K : Int) : (adv (adv st a l1) b l2).add ⟨K, 0, 0, idx st a, idx (adv st a l1) b⟩ = ⟨st.pos + l1.length + l2.length, st.out ++ (a.post st.out.length ++ (b.post (st.out.length + a.size) ++ [⟨K, 0, 0, ((st.out.length + a.size - 1 : Nat) : Int), ((st.out.length + a.size + b.size - 1 : Nat) : Int)⟩])), false⟩ := by
  simp only [adv, St.add, idx, List.length_append, a.post_length, List.append_assoc]
theorem adv_length (st : St) (t : Tr) (l : List Int) : (adv st t l).out.length = st.out.length + t.size := by simp [adv, t.post_length]
theorem A2.seq {l1 l2 : List Int} {a b : Tr} (h : A2 l1 a) (k : A3 l2 b) (hf : Fst l2) : A2 (l1 ++ l2) (.seq a b) := by
  intro s st r hw ha hn hr
  obtain ⟨h1, h2⟩ := ha.app
  obtain ⟨c, l', e, c1, c2, c3⟩ := hf
  have hc : st.pos + l1.length < s.size ∧ bt s ((st.pos + l1.length : Nat) : Int) = c := by rw [e] at h2; exact ⟨h2.1, h2.2.1⟩
  rw [List.length_append, ← Nat.add_assoc] at hn
  refine h s st r hw h1 (fun _ => by rw [hc.2]; exact c1) ?_
  obtain ⟨N, hN⟩ := k s (adv st a l1) _ rfl h2 (st_end rfl (by exact hn))
  obtain ⟨M, hM⟩ := hr
  refine ⟨N + M + 1, fun n hn => ?_⟩
  obtain ⟨m, rfl⟩ : ∃ m, n = m + 1 := ⟨n - 1, by omega⟩
  rw [seqLoop, if_pos, hN m (by omega), Option.bind_some]
  · have e1 : (adv (adv st a l1) b l2).add ⟨2, 0, 0, idx st a, idx (adv st a l1) b⟩ = adv st (.seq a b) (l1 ++ l2) := by
      rw [adv_bind]; simp only [adv, Tr.post, List.length_append]; congr 1; omega
    have e2 : ((adv (adv st a l1) b l2).out.length : Int) = idx st (.seq a b) := by
      rw [adv_length, adv_length]; unfold idx; simp only [Tr.size]; omega
    simp only
    rw [e1, e2]
    exact hM m (by omega)
  · show (!false && _) = true
    simp only [Bool.not_false, Bool.true_and, Bool.and_eq_true, decide_eq_true_eq, bne_iff_ne, ne_eq]
    have e3 : (adv st a l1).pos = st.pos + l1.length := rfl
    rw [e3, hc.2]
    exact ⟨hc.1, c2, c3⟩
theorem A1.alt {l1 l2 : List Int} {a b : Tr} (h : A1 l1 a) (k : A2 l2 b) : A1 (l1 ++ 124 :: l2) (.alt a b) := by
  intro s st r hw ha hn hr
  obtain ⟨h1, h2, h3, h4⟩ := ha.app
  rw [List.length_append, List.length_cons] at hn
  have hp : pass s 124 (adv st a l1) = ⟨st.pos + l1.length + 1, st.out ++ a.post st.out.length, false⟩ := pass_at h2 h3
  refine h s st r hw h1 (fun _ => .inl h3) ?_
  have hn' : EndC s (st.pos + l1.length + 1 + l2.length) := by rw [show st.pos + l1.length + 1 + l2.length = st.pos + (l1.length + (l2.length + 1)) by omega]; exact hn
  obtain ⟨N, hN⟩ := k s (pass s 124 (adv st a l1)) _ (by rw [hp]) (by rw [hp]; exact h4) (by rw [hp]; exact hn'.noStar) (sl_end (by rw [hp]; exact hn'))
  obtain ⟨M, hM⟩ := hr
  refine ⟨N + M + 1, fun n hn => ?_⟩
  obtain ⟨m, rfl⟩ : ∃ m, n = m + 1 := ⟨n - 1, by omega⟩
  rw [altLoop, if_neg (by simp [adv]), if_pos (isNext_at h2 h3), hN m (by omega), Option.bind_some]
  have ei : idx (pass s 124 (adv st a l1)) b = idx (adv st a l1) b := by rw [hp]; rfl
  have ea : (adv (pass s 124 (adv st a l1)) b l2) = ⟨st.pos + l1.length + 1 + l2.length, (adv (adv st a l1) b l2).out, false⟩ := by rw [hp]; rfl
  have e1 : (adv (pass s 124 (adv st a l1)) b l2).add ⟨3, 0, 0, idx st a, idx (adv st a l1) b⟩ = adv st (.alt a b) (l1 ++ 124 :: l2) := by
    rw [ea]
    have := congrArg St.out (adv_bind st a b l1 l2 3)
    simp only [St.add] at this ⊢
    rw [this]
    simp only [adv, Tr.post, List.length_append, List.length_cons]; congr 1; omega
  have e2 : ((adv (pass s 124 (adv st a l1)) b l2).out.length : Int) = idx st (.alt a b) := by
    rw [ea]; simp only; rw [adv_length, adv_length]; unfold idx; simp only [Tr.size]; omega
  simp only
  rw [ei, e1, e2]
  exact hM m (by omega)
theorem A3.rep {l : List Int} {a : Tr} (h : A3 l a) : A3 (l ++ [42]) (.rep a) := by
  intro s st r hw ha hr
  obtain ⟨h1, h2, h3, h4⟩ := ha.app
  refine h s st r hw h1 ?_
  obtain ⟨M, hM⟩ := hr
  refine ⟨M + 1, fun n hn => ?_⟩
  obtain ⟨m, rfl⟩ : ∃ m, n = m + 1 := ⟨n - 1, by omega⟩
  rw [starF, if_neg (by simp [adv]), if_pos (isNext_at h2 h3)]
  have hp : pass s 42 (adv st a l) = ⟨st.pos + l.length + 1, st.out ++ a.post st.out.length, false⟩ := pass_at h2 h3
  have ha := a.size_pos
  have e1 : (pass s 42 (adv st a l)).add ⟨4, 0, 0, idx st a, 0⟩ = adv st (.rep a) (l ++ [42]) := by
    rw [hp]; simp only [St.add, adv, Tr.post, List.length_append, List.length_cons, List.length_nil, List.append_assoc, idx]; congr 1
  have e2 : ((adv st a l).out.length : Int) = idx st (.rep a) := by rw [adv_length]; unfold idx; simp only [Tr.size]; omega
  rw [e1, e2]
  exact hM m (by omega)
theorem A3.emp : A3 [40, 41] .emp := by
  intro s st r hw ha hr
  obtain ⟨h1, h2, h3, h4, h5⟩ := ha
  have hp := pass_at h1 h2
  have hp2 : pass s 41 (pass s 40 st) = ⟨st.pos + 1 + 1, st.out, false⟩ := by rw [hp, hw]; exact pass_at h3 h4
  obtain ⟨M, hM⟩ := hr
  refine ⟨M + 1, fun n hn => ?_⟩
  obtain ⟨m, rfl⟩ : ∃ m, n = m + 1 := ⟨n - 1, by omega⟩
  rw [atomF, if_neg (by rw [isNext_no (by intro _; rw [h2]; decide)]; simp), if_pos (isNext_at h1 h2), if_pos (by rw [hp]; exact isNext_at h3 h4), hp2]
  exact hM m (by omega)

/-! ### characters -/
theorem plain_not {b : Int} (h : plainB b = true) : b ≠ 40 ∧ b ≠ 41 ∧ b ≠ 42 ∧ b ≠ 45 ∧ b ≠ 91 ∧ b ≠ 92 ∧ b ≠ 93 ∧ b ≠ 124 ∧ 32 < b ∧ b < 127 := by
  unfold plainB specials at h
  simp only [Bool.and_eq_true, Bool.not_eq_true', decide_eq_true_eq, List.contains_eq_mem, decide_eq_false_iff_not, List.mem_cons, List.not_mem_nil, or_false, not_or] at h
  obtain ⟨⟨a1, a2, a3, a4, a5, a6, a7, a8⟩, a9, a10⟩ := h
  exact ⟨a1, a2, a3, a4, a5, a6, a7, a8, a9, a10⟩
theorem plain_92 : plainB 92 = false := by decide
theorem hex_digit : ∀ d : Fin 16, hexV (bt digits (d.val : Int)) = (d.val : Int) := by decide
theorem char_rd {s : ByteArray} {st : St} {b : Int} (h0 : 0 ≤ b) (h1 : b ≤ 255) (ha : At s st.pos (chrL b)) : charF s st = (b, ⟨st.pos + (chrL b).length, st.out, st.wrong⟩) := by
  unfold chrL at *
  by_cases hp : plainB b = true
  · rw [if_pos hp] at *
    obtain ⟨a1, a2, a3⟩ := ha
    unfold charF
    rw [if_pos ⟨a1, by rw [a2]; exact hp⟩, a2]
    rfl
  · rw [if_neg hp] at *
    obtain ⟨a1, a2, a3, a4, a5, a6, a7, a8, a9⟩ := ha
    have p1 := pass_at a1 a2
    have p2 : pass s 120 (pass s 92 st) = ⟨st.pos + 1 + 1, st.out, st.wrong⟩ := by rw [p1]; exact pass_at a3 a4
    have d1 : hexV (bt digits (b / 16)) = b / 16 := by
      have := hex_digit ⟨(b / 16).toNat, by omega⟩
      simp only [show ((b / 16).toNat : Int) = b / 16 by omega] at this; exact this
    have d2 : hexV (bt digits (b % 16)) = b % 16 := by
      have := hex_digit ⟨(b % 16).toNat, by omega⟩
      simp only [show ((b % 16).toNat : Int) = b % 16 by omega] at this; exact this
    have a6' : bt s ((st.pos : Int) + 1 + 1) = bt digits (b / 16) := a6
    have a8' : bt s ((st.pos : Int) + 1 + 1 + 1) = bt digits (b % 16) := a8
    unfold charF
    rw [if_neg (by rw [a2, plain_92]; simp), if_pos (isNext_at a1 a2), if_pos (by rw [p1]; exact isNext_at a3 a4), p2]
    simp only [Int.natCast_add, Int.cast_ofNat_Int]
    rw [if_pos (by omega)]
    rw [a6', a8', d1, d2, if_pos (by omega)]
    rw [show 16 * (b / 16) + b % 16 = b by omega]
    rfl
theorem char_fst {b : Int} : Fst (chrL b) := by
  unfold chrL
  split
  · rename_i h
    have := plain_not h
    exact ⟨b, [], rfl, by omega, by omega, by omega⟩
  · exact ⟨92, _, rfl, by decide, by decide, by decide⟩
/-- What a character's first byte is not. -/
theorem char_fst2 {b : Int} : ∃ c l, chrL b = c :: l ∧ c ≠ 91 ∧ c ≠ 40 := by
  unfold chrL
  split
  · rename_i h
    have := plain_not h
    exact ⟨b, [], rfl, by omega, by omega⟩
  · exact ⟨92, _, rfl, by decide, by decide⟩
theorem A3.chr {b : Int} (h0 : 0 ≤ b) (h1 : b ≤ 255) : A3 (chrL b) (.rng b b) := by
  intro s st r hw ha hr
  have hc := char_rd h0 h1 ha
  obtain ⟨c, l, e, e1, e2⟩ := char_fst2 (b := b)
  have hb : bt s (st.pos : Int) = c := by rw [e] at ha; exact ha.2.1
  obtain ⟨M, hM⟩ := hr
  refine ⟨M + 1, fun n hn => ?_⟩
  obtain ⟨m, rfl⟩ : ∃ m, n = m + 1 := ⟨n - 1, by omega⟩
  rw [atomF, if_neg (by rw [isNext_no (by intro _; rw [hb]; exact e1)]; simp), if_neg (by rw [isNext_no (by intro _; rw [hb]; exact e2)]; simp), hc]
  have e4 : (⟨st.pos + (chrL b).length, st.out, st.wrong⟩ : St).add ⟨1, b, b, 0, 0⟩ = adv st (.rng b b) (chrL b) := by rw [hw]; rfl
  simp only
  rw [e4]
  exact hM m (by omega)
theorem A3.range {lo hi : Int} (h0 : 0 ≤ lo) (h1 : lo ≤ hi) (h2 : hi ≤ 255) : A3 (91 :: (chrL lo ++ 45 :: (chrL hi ++ [93]))) (.rng lo hi) := by
  intro s st r hw ha hr
  obtain ⟨a1, a2, a3⟩ := ha
  obtain ⟨a4, a5, a6, a7⟩ := a3.app
  obtain ⟨a8, a9, a10, _⟩ := a7.app
  have p1 : pass s 91 st = ⟨st.pos + 1, st.out, false⟩ := by rw [← hw]; exact pass_at a1 a2
  have c1 : charF s (pass s 91 st) = (lo, ⟨st.pos + 1 + (chrL lo).length, st.out, false⟩) := by rw [p1]; exact char_rd h0 (by omega) a4
  have n1 : isNext s 45 ⟨st.pos + 1 + (chrL lo).length, st.out, false⟩ = true := isNext_at a5 a6
  have p2 : pass s 45 ⟨st.pos + 1 + (chrL lo).length, st.out, false⟩ = ⟨st.pos + 1 + (chrL lo).length + 1, st.out, false⟩ := pass_at a5 a6
  have c2 : charF s ⟨st.pos + 1 + (chrL lo).length + 1, st.out, false⟩ = (hi, ⟨st.pos + 1 + (chrL lo).length + 1 + (chrL hi).length, st.out, false⟩) := char_rd (st := ⟨st.pos + 1 + (chrL lo).length + 1, st.out, false⟩) (by omega) h2 a8
  have n2 : isNext s 93 ⟨st.pos + 1 + (chrL lo).length + 1 + (chrL hi).length, st.out, false⟩ = true := isNext_at a9 a10
  have p3 : pass s 93 ⟨st.pos + 1 + (chrL lo).length + 1 + (chrL hi).length, st.out, false⟩ = ⟨st.pos + 1 + (chrL lo).length + 1 + (chrL hi).length + 1, st.out, false⟩ := pass_at a9 a10
  have hr' : rangeF s (pass s 91 st) = (⟨1, lo, hi, 0, 0⟩, ⟨st.pos + 1 + (chrL lo).length + 1 + (chrL hi).length + 1, st.out, false⟩) := by
    unfold rangeF
    rw [c1]
    simp only
    rw [n1, p2, c2]
    simp only
    rw [n2, p3]
    simp [St.bad, h1]
  obtain ⟨M, hM⟩ := hr
  refine ⟨M + 1, fun n hn => ?_⟩
  obtain ⟨m, rfl⟩ : ∃ m, n = m + 1 := ⟨n - 1, by omega⟩
  rw [atomF, if_pos (isNext_at a1 a2), hr']
  have e4 : (⟨st.pos + 1 + (chrL lo).length + 1 + (chrL hi).length + 1, st.out, false⟩ : St).add ⟨1, lo, hi, 0, 0⟩ = adv st (.rng lo hi) (91 :: (chrL lo ++ 45 :: (chrL hi ++ [93]))) := by
    simp only [St.add, adv, Tr.post, List.length_cons, List.length_append, List.length_nil]; congr 1; omega
  simp only
  rw [e4]
  exact hM m (by omega)

/-! ### trees -/
theorem par_yes (l : List Int) : par true l = 40 :: (l ++ [41]) := rfl
theorem par_no (l : List Int) : par false l = l := rfl
theorem fst_paren (l : List Int) : Fst (40 :: l) := ⟨40, l, rfl, by decide, by decide, by decide⟩
theorem Fst.app {l : List Int} (h : Fst l) (m : List Int) : Fst (l ++ m) := by
  obtain ⟨c, l', rfl, h⟩ := h; exact ⟨c, l' ++ m, rfl, h⟩
theorem Fst.par {l : List Int} (h : Fst l) (b : Bool) : Fst (par b l) := by
  cases b
  · exact h
  · exact fst_paren _
theorem Tr.fst (t : Tr) : Fst t.str := by
  induction t with
  | emp => exact fst_paren _
  | rng lo hi =>
    unfold Tr.str
    split
    · exact ⟨91, _, rfl, by decide, by decide, by decide⟩
    · exact char_fst
  | seq a b iha ihb => exact (iha.par _).app _
  | alt a b iha ihb => exact (iha.par _).app _
  | rep a iha => exact (iha.par _).app _
/-- A tree's string is read at each of the levels. -/
structure Rd (t : Tr) : Prop where
  three : t.lev = 3 → A3 t.str t
  two : 2 ≤ t.lev → A2 t.str t
  one : A1 t.str t
theorem Rd.of3 {t : Tr} (h : A3 t.str t) : Rd t := ⟨fun _ => h, fun _ => h.two, h.two.one⟩
theorem Rd.par3 {t : Tr} (h : Rd t) : A3 (t.shown 3) t := by
  have := t.lev_range
  unfold Tr.shown
  by_cases hl : t.lev < 3
  · rw [decide_eq_true hl]; exact h.one.paren t.fst
  · rw [decide_eq_false hl]; exact h.three (by omega)
theorem Rd.par2 {t : Tr} (h : Rd t) : A2 (t.shown 2) t := by
  have := t.lev_range
  unfold Tr.shown
  by_cases hl : t.lev < 2
  · rw [decide_eq_true hl]; exact (h.one.paren t.fst).two
  · rw [decide_eq_false hl]; exact h.two (by omega)
theorem Rd.par1 {t : Tr} (h : Rd t) : A1 (t.shown 1) t := by rw [t.shown1]; exact h.one
theorem Tr.rd (t : Tr) : t.ok → Rd t := by
  induction t with
  | emp => intro _; exact .of3 A3.emp
  | rng lo hi =>
    rintro ⟨h0, h1, h2⟩
    refine .of3 ?_
    unfold Tr.str
    by_cases hl : lo < hi
    · rw [if_pos hl]; exact A3.range h0 h1 h2
    · rw [if_neg hl]
      have : lo = hi := by omega
      subst this
      exact A3.chr h0 h2
  | seq a b iha ihb =>
    rintro ⟨ha, hb⟩
    have h := A2.seq (iha ha).par2 (ihb hb).par3 (b.fst.par _)
    exact ⟨fun h => by simp [Tr.lev] at h, fun _ => h, h.one⟩
  | alt a b iha ihb =>
    rintro ⟨ha, hb⟩
    have h := A1.alt (iha ha).par1 (ihb hb).par2
    exact ⟨fun h => by simp [Tr.lev] at h, fun h => by simp [Tr.lev] at h, h⟩
  | rep a iha =>
    intro ha
    exact .of3 (A3.rep (iha ha).par3)

/-! ### the whole string -/
theorem at_self : ∀ (l : List Int) (s : ByteArray) (k : Nat), k + l.length = s.size → (∀ i, i < l.length → bt s ((k + i : Nat) : Int) = l.getD i 0) → At s k l
  | [], s, k, h, _ => by simp at h; unfold At; omega
  | c :: l, s, k, h, g => by
    refine ⟨by simp at h; omega, by simpa using g 0 (by simp), at_self l s (k + 1) (by simp at h; omega) fun i hi => ?_⟩
    have := g (i + 1) (by simpa using hi)
    rw [show k + 1 + i = k + (i + 1) by omega, this]; simp
/-- The reader reads a tree's string. -/
theorem A1.reads {l : List Int} {t : Tr} (h : A1 l t) {s : ByteArray} (hs : At s 0 l) (hl : l.length = s.size) : ∃ n, altF s n st0 = some (((t.size - 1 : Nat) : Int), ⟨s.size, t.post 0, false⟩) := by
  obtain ⟨N, hN⟩ := h s st0 (idx st0 t, adv st0 t l) rfl hs (fun hk => by simp [st0] at hk; omega) (al_end (fun hk => by simp [adv, st0] at hk; omega))
  refine ⟨N, ?_⟩
  rw [hN N (Nat.le_refl _)]
  simp [idx, adv, st0, hl]
theorem parse_tr {s : ByteArray} {t : Tr} {i : Int} (hz : t.size ≤ 512) : parseF s (i, ⟨s.size, t.post 0, false⟩) = (t.post 0, 0) := by
  have := t.post_length 0
  unfold parseF
  simp only [Bool.false_or, Nat.lt_irrefl, decide_false, Bool.false_eq_true, if_false]
  rw [if_neg (by omega)]
/-- The bytes of a string are in order. -/
theorem chr_ok {b : Int} (h0 : 0 ≤ b) (h1 : b ≤ 255) : ∀ c ∈ chrL b, okB c = true := by
  unfold chrL
  split
  · rename_i h
    have := plain_not h
    intro c hc; simp at hc; subst hc; unfold okB; simp; omega
  · have hd : ∀ d : Fin 16, okB (bt digits (d.val : Int)) = true := by decide
    intro c hc
    simp only [List.mem_cons, List.not_mem_nil, or_false] at hc
    rcases hc with rfl | rfl | rfl | rfl
    · decide
    · decide
    · have := hd ⟨(b / 16).toNat, by omega⟩; simp only [show ((b / 16).toNat : Int) = b / 16 by omega] at this; exact this
    · have := hd ⟨(b % 16).toNat, by omega⟩; simp only [show ((b % 16).toNat : Int) = b % 16 by omega] at this; exact this
theorem par_ok {l : List Int} (h : ∀ c ∈ l, okB c = true) (b : Bool) : ∀ c ∈ par b l, okB c = true := by
  cases b
  · exact h
  · intro c hc
    simp only [par_yes, List.mem_cons, List.mem_append, List.not_mem_nil, or_false] at hc
    rcases hc with rfl | hc | rfl
    · decide
    · exact h c hc
    · decide
theorem Tr.str_ok (t : Tr) : t.ok → ∀ c ∈ t.str, okB c = true := by
  induction t with
  | emp => intro _ c hc; simp only [Tr.str, List.mem_cons, List.not_mem_nil, or_false] at hc; rcases hc with rfl | rfl <;> decide
  | rng lo hi =>
    rintro ⟨h0, h1, h2⟩ c hc
    unfold Tr.str at hc
    split at hc
    · simp only [List.mem_cons, List.mem_append, List.not_mem_nil, or_false] at hc
      rcases hc with rfl | hc | rfl | hc | rfl
      · decide
      · exact chr_ok h0 (by omega) c hc
      · decide
      · exact chr_ok (by omega) h2 c hc
      · decide
    · exact chr_ok h0 (by omega) c hc
  | seq a b iha ihb =>
    rintro ⟨ha, hb⟩ c hc
    rcases List.mem_append.1 hc with hc | hc
    · exact par_ok (iha ha) _ c hc
    · exact par_ok (ihb hb) _ c hc
  | alt a b iha ihb =>
    rintro ⟨ha, hb⟩ c hc
    rcases List.mem_append.1 hc with hc | hc
    · exact par_ok (iha ha) _ c hc
    · rcases List.mem_cons.1 hc with rfl | hc
      · decide
      · exact par_ok (ihb hb) _ c hc
  | rep a iha =>
    intro ha c hc
    rcases List.mem_append.1 hc with hc | hc
    · exact par_ok (iha ha) _ c hc
    · simp at hc; subst hc; decide
end Go.Proofs.YtaphblnelmncaaaDoor.PA
end

section
/- What the statements' walks share: Print and Parse of trees. -/
set_option linter.unusedVariables false
namespace Go.Proofs.YtaphblnelmncaaaDoor.PA
open Go.RowKit Go.Proofs.YtaphblnelmncaaaDoorW.PrintWords Go.Proofs.YtaphblnelmncaaaDoorW.PrintLast Go.Proofs.YtaphblnelmncaaaDoorW.PrintMore

/-- A statement as a Bool. -/
noncomputable def dB (P : Prop) : Bool := @decide P (Classical.propDecidable P)
theorem dB_iff (P : Prop) : dB P = true ↔ P := by unfold dB; exact @decide_eq_true_iff P (Classical.propDecidable P)
theorem dB_eq {P Q : Prop} (h : P ↔ Q) : dB P = dB Q := by rw [Bool.eq_iff_iff, dB_iff, dB_iff]; exact h
theorem dB_yes {P : Prop} (h : P) : dB P = true := (dB_iff P).2 h
theorem dB_no {P : Prop} (h : ¬ P) : dB P = false := by
  cases hd : dB P
  · rfl
  · exact absurd ((dB_iff P).1 hd) h
theorem matches_dB {p : List S50} {t : Re} (g : Fine p t) {A : Option Addr} {c : Nat} {w : World} (h : Pt w A c p) (ht : Tab w) (s : ByteArray) (hs : s.size ≤ 140737488351232) {P : Prop} (hP : P ↔ t.Lang (bytesOf s)) :
    Calls Tryd.prog 23 #[.slice A p.length c, .string s] w fun e w' => e = .returned (.bool (dB P)) ∧ Below w.heap.size w w' := matches_law g h ht s hs (dB P) ((dB_iff P).trans hP)

theorem bt_str {l : List Int} (h : ∀ b ∈ l, 0 ≤ b ∧ b ≤ 255) (i : Nat) (hi : i < l.length) : bt (strOfNums l) (i : Int) = l.getD i 0 := by
  have e := bytes_strOf h
  have hs : i < (strOfNums l).size := by rw [strOfNums_size]; exact hi
  have : (bytesOf (strOfNums l)).getD i 0 = bt (strOfNums l) (i : Int) := by
    unfold bytesOf bt
    have hs' : i < (strOfNums l).data.toList.length := by rw [Array.length_toList]; exact hs
    rw [dif_pos (show (i : Int).toNat < (strOfNums l).size from hs)]
    rw [List.getD_eq_getElem?_getD, List.getElem?_map, List.getElem?_eq_getElem hs']
    rfl
  rw [← this, e]
theorem okB_byte {b : Int} (h : okB b = true) : 0 ≤ b ∧ b ≤ 255 := by unfold okB at h; simp at h; omega
theorem at_str {l : List Int} (h : ∀ b ∈ l, okB b = true) : At (strOfNums l) 0 l :=
  at_self l (strOfNums l) 0 (by rw [strOfNums_size]; omega) fun i hi => by rw [Nat.zero_add]; exact bt_str (fun b hb => okB_byte (h b hb)) i hi
/-- Parse of a tree's string. -/
theorem parse_law {l : List Int} {t : Tr} (h : A1 l t) (hok : ∀ c ∈ l, okB c = true) (hz : t.size ≤ 512) (hl : l.length ≤ 8192) (w : World) :
    Calls Tryd.prog 25 #[.string (strOfNums l)] w fun e w' => ∃ E ec, e = .returned (.tuple #[.slice E (t.post 0).length ec, .int .i64 0]) ∧ Pt w' E ec (t.post 0) ∧ Below w.heap.size w w' := by
  obtain ⟨n, hn⟩ := h.reads (at_str hok) (by rw [strOfNums_size])
  have hall : okTo (strOfNums l) (strOfNums l).size = true := by
    rw [okTo_spec]
    intro i hi
    rw [strOfNums_size] at hi
    rw [bt_str (fun b hb => okB_byte (hok b hb)) i hi]
    refine hok _ ?_
    rw [List.getD_eq_getElem?_getD, List.getElem?_eq_getElem hi]; exact List.getElem_mem hi
  refine (parse_any (strOfNums l) w (by rw [strOfNums_size]; exact hl) n _ hn).mono ?_
  rintro e w' ⟨v, rfl, hR, hb⟩
  rw [if_pos hall, parse_tr hz] at hR
  obtain ⟨E, ec, rfl⟩ := Kd.R_slice hR
  rw [if_pos hall, parse_tr hz]
  exact ⟨E, ec, rfl, (Pt.of hR).2, hb⟩
/-- Print of a pattern in postorder. -/
theorem print_law {t : Tr} (ht : t.ok) (hz : t.size ≤ 512) {A : Option Addr} {c : Nat} {w : World} (h : Pt w A c (t.post 0)) :
    Calls Tryd.prog 19 #[.slice A (t.post 0).length c] w fun e w' => e = .returned (.tuple #[.string (strOfNums t.str), .int .i64 0]) ∧ Below w.heap.size w w' := by
  obtain ⟨u, e, _, g⟩ := Pst.fine ⟨t, rfl, ht⟩ (by rw [t.post_length]; exact hz)
  have g2 := isRe_unique g.good.is (by rw [t.post_length]; simpa using t.isRe 0 (lies_self t))
  rw [g2] at g
  exact print_of g.good A c w h.C h.hc _ (by rw [t.shown_re, t.shown1])
theorem Tr.str_length (t : Tr) : t.str.length ≤ 13 * t.size := by
  have h := PA.str_length (t.re 0)
  rw [t.str_re] at h
  have : (t.re 0).size = t.size := by
    have : ∀ (t : Tr) o, (t.re o).size = t.size := by
      intro t
      induction t with
      | emp => intro o; rfl
      | rng => intro o; rfl
      | seq a b iha ihb => intro o; simp [Tr.re, Re.size, Tr.size, iha, ihb]
      | alt a b iha ihb => intro o; simp [Tr.re, Re.size, Tr.size, iha, ihb]
      | rep a iha => intro o; simp [Tr.re, Re.size, Tr.size, iha]
    exact this t 0
  rw [this] at h
  exact h
/-- The tree's own machine. -/
theorem Tr.fine (t : Tr) (ht : t.ok) (hz : t.size ≤ 512) : Fine (t.post 0) (t.re 0) := by
  obtain ⟨u, e, _, g⟩ := Pst.fine ⟨t, rfl, ht⟩ (by rw [t.post_length]; exact hz)
  have g2 := isRe_unique g.good.is (by rw [t.post_length]; simpa using t.isRe 0 (lies_self t))
  rw [g2] at g
  exact g
/-- The language does not hang on the numbers. -/
theorem Tr.lang_re (t : Tr) : ∀ (o o' : Nat) (w : List Int), (t.re o).Lang w ↔ (t.re o').Lang w := by
  induction t with
  | emp => intro o o' w; exact Iff.rfl
  | rng lo hi => intro o o' w; exact Iff.rfl
  | seq a b iha ihb =>
    intro o o' w
    constructor
    · rintro ⟨u, v, e, h1, h2⟩; exact ⟨u, v, e, (iha _ _ _).1 h1, (ihb _ _ _).1 h2⟩
    · rintro ⟨u, v, e, h1, h2⟩; exact ⟨u, v, e, (iha _ _ _).1 h1, (ihb _ _ _).1 h2⟩
  | alt a b iha ihb =>
    intro o o' w
    constructor
    · rintro (h | h); exact .inl ((iha _ _ _).1 h); exact .inr ((ihb _ _ _).1 h)
    · rintro (h | h); exact .inl ((iha _ _ _).1 h); exact .inr ((ihb _ _ _).1 h)
  | rep a iha =>
    intro o o' w
    have key : ∀ o o' w, Star (a.re o).Lang w → Star (a.re o').Lang w := by
      intro o o' w h
      induction h with
      | nil => exact .nil
      | app u v hu hv ih => exact .app u v ((iha _ _ _).1 hu) ih
    exact ⟨key o o' w, key o' o w⟩
def Tr.Lang (t : Tr) (w : List Int) : Prop := (t.re 0).Lang w
theorem Tr.lang_at (t : Tr) (o : Nat) (w : List Int) : (t.re o).Lang w ↔ t.Lang w := t.lang_re o 0 w
theorem Tr.lang_seq (a b : Tr) (w : List Int) : (Tr.seq a b).Lang w ↔ ∃ u v, w = u ++ v ∧ a.Lang u ∧ b.Lang v := by
  constructor
  · rintro ⟨u, v, e, h1, h2⟩; exact ⟨u, v, e, h1, (b.lang_at _ _).1 h2⟩
  · rintro ⟨u, v, e, h1, h2⟩; exact ⟨u, v, e, h1, (b.lang_at _ _).2 h2⟩
theorem Tr.lang_alt (a b : Tr) (w : List Int) : (Tr.alt a b).Lang w ↔ a.Lang w ∨ b.Lang w := by
  constructor
  · rintro (h | h); exact .inl h; exact .inr ((b.lang_at _ _).1 h)
  · rintro (h | h); exact .inl h; exact .inr ((b.lang_at _ _).2 h)
theorem Tr.lang_rep (a : Tr) (w : List Int) : (Tr.rep a).Lang w ↔ Star a.Lang w := Iff.rfl
end Go.Proofs.YtaphblnelmncaaaDoor.PA
end

section
/- The walk over PatternMeaning. -/
set_option linter.unusedVariables false
namespace Go.Proofs.YtaphblnelmncaaaDoor.PA
open Go.RowKit Go.Proofs.YtaphblnelmncaaaDoorW.PrintWords Go.Proofs.YtaphblnelmncaaaDoorW.PrintLast Go.Proofs.YtaphblnelmncaaaDoorW.PrintMore

/-- The string is split ahead of k. -/
def SplitP (a b : Tr) (bs : List Int) (k : Nat) : Prop := ∃ j, j < k ∧ a.Lang (bs.take j) ∧ b.Lang (bs.drop j)
def MoreP (a : Tr) (bs : List Int) (k : Nat) : Prop := bs = [] ∨ ∃ j, j < k ∧ 0 < j ∧ a.Lang (bs.take j) ∧ Star a.Lang (bs.drop j)
theorem split_step {a b : Tr} {bs : List Int} {k : Nat} : SplitP a b bs (k + 1) ↔ SplitP a b bs k ∨ (a.Lang (bs.take k) ∧ b.Lang (bs.drop k)) := by
  constructor
  · rintro ⟨j, hj, h⟩
    by_cases e : j = k
    · subst e; exact .inr h
    · exact .inl ⟨j, by omega, h⟩
  · rintro (⟨j, hj, h⟩ | h)
    · exact ⟨j, by omega, h⟩
    · exact ⟨k, by omega, h⟩
theorem more_step {a : Tr} {bs : List Int} {k : Nat} : MoreP a bs (k + 1) ↔ MoreP a bs k ∨ (0 < k ∧ a.Lang (bs.take k) ∧ Star a.Lang (bs.drop k)) := by
  constructor
  · rintro (h | ⟨j, hj, h⟩)
    · exact .inl (.inl h)
    · by_cases e : j = k
      · subst e; exact .inr h
      · exact .inl (.inr ⟨j, by omega, h⟩)
  · rintro ((h | ⟨j, hj, h⟩) | h)
    · exact .inl h
    · exact .inr ⟨j, by omega, h⟩
    · exact .inr ⟨k, by omega, h⟩
theorem split_all {a b : Tr} {bs : List Int} : SplitP a b bs (bs.length + 1) ↔ (Tr.seq a b).Lang bs := by
  rw [Tr.lang_seq]
  constructor
  · rintro ⟨j, hj, h1, h2⟩; exact ⟨_, _, (List.take_append_drop j bs).symm, h1, h2⟩
  · rintro ⟨u, v, rfl, h1, h2⟩
    exact ⟨u.length, by simp; omega, by simpa using h1, by simpa using h2⟩
theorem more_all {a : Tr} {bs : List Int} : MoreP a bs (bs.length + 1) ↔ (Tr.rep a).Lang bs := by
  rw [Tr.lang_rep]
  constructor
  · rintro (rfl | ⟨j, hj, _, h1, h2⟩)
    · exact .nil
    · have := Star.app _ _ h1 h2
      rwa [List.take_append_drop] at this
  · intro h
    rcases star_cons h with rfl | ⟨u, v, rfl, hu, h1, h2⟩
    · exact .inl rfl
    · exact .inr ⟨u.length, by simp; omega, List.length_pos_iff.2 hu, by simpa using h1, by simpa using h2⟩
/-- The five patterns in memory. -/
structure PM (W w : World) (E F G H J : Option Addr) (c1 c2 c3 c4 c5 : Nat) (tp tq : Tr) : Prop where
  ls : LS W w
  p : Pt w E c1 (tp.post 0)
  q : Pt w F c2 (tq.post 0)
  x : Pt w G c3 ((Tr.seq tp tq).post 0)
  y : Pt w H c4 ((Tr.alt tp tq).post 0)
  z : Pt w J c5 ((Tr.rep tp).post 0)
theorem PM.next {W w w' : World} {E F G H J : Option Addr} {c1 c2 c3 c4 c5 : Nat} {p q : Tr} (h : PM W w E F G H J c1 c2 c3 c4 c5 p q) (k : Below w.heap.size w w') : PM W w' E F G H J c1 c2 c3 c4 c5 p q :=
  ⟨h.ls.next k, h.p.next k, h.q.next k, h.x.next k, h.y.next k, h.z.next k⟩
theorem b40 : (⟨#[40]⟩ : ByteArray) = strOfNums [40] := rfl
theorem b41 : (⟨#[41]⟩ : ByteArray) = strOfNums [41] := rfl
theorem b4140 : (⟨#[41, 40]⟩ : ByteArray) = strOfNums [41, 40] := rfl
theorem b4112440 : (⟨#[41, 124, 40]⟩ : ByteArray) = strOfNums [41, 124, 40] := rfl
theorem b4142 : (⟨#[41, 42]⟩ : ByteArray) = strOfNums [41, 42] := rfl
theorem ok_in {l : List Int} (h : ∀ c ∈ l, okB c = true) : ∀ c ∈ 40 :: (l ++ [41]), okB c = true := par_ok h true
theorem ok_app {l m : List Int} (h : ∀ c ∈ l, okB c = true) (k : ∀ c ∈ m, okB c = true) : ∀ c ∈ l ++ m, okB c = true := fun c hc => by
  rcases List.mem_append.1 hc with hc | hc
  · exact h c hc
  · exact k c hc
theorem str_seq (a b : List Int) : (⟨#[40]⟩ : ByteArray) ++ strOfNums a ++ ⟨#[41, 40]⟩ ++ strOfNums b ++ ⟨#[41]⟩ = strOfNums (40 :: (a ++ [41]) ++ 40 :: (b ++ [41])) := by
  rw [b40, b4140, b41, strOfNums_app, strOfNums_app, strOfNums_app, strOfNums_app]; simp
theorem str_alt (a b : List Int) : (⟨#[40]⟩ : ByteArray) ++ strOfNums a ++ ⟨#[41, 124, 40]⟩ ++ strOfNums b ++ ⟨#[41]⟩ = strOfNums (40 :: (a ++ [41]) ++ 124 :: (40 :: (b ++ [41]))) := by
  rw [b40, b4112440, b41, strOfNums_app, strOfNums_app, strOfNums_app, strOfNums_app]; simp
theorem str_rep (a : List Int) : (⟨#[40]⟩ : ByteArray) ++ strOfNums a ++ ⟨#[41, 42]⟩ = strOfNums (40 :: (a ++ [41]) ++ [42]) := by
  rw [b40, b4142, strOfNums_app, strOfNums_app]; simp
/-- The three strings are parsed. -/
structure Parses (p q : Tr) (sa sb : ByteArray) : Prop where
  x : ∀ w, Calls Tryd.prog 25 #[.string ((⟨#[40]⟩ : ByteArray) ++ sa ++ ⟨#[41, 40]⟩ ++ sb ++ ⟨#[41]⟩)] w fun e w' => ∃ E ec, e = .returned (.tuple #[.slice E ((Tr.seq p q).post 0).length ec, .int .i64 0]) ∧ Pt w' E ec ((Tr.seq p q).post 0) ∧ Below w.heap.size w w'
  y : ∀ w, Calls Tryd.prog 25 #[.string ((⟨#[40]⟩ : ByteArray) ++ sa ++ ⟨#[41, 124, 40]⟩ ++ sb ++ ⟨#[41]⟩)] w fun e w' => ∃ E ec, e = .returned (.tuple #[.slice E ((Tr.alt p q).post 0).length ec, .int .i64 0]) ∧ Pt w' E ec ((Tr.alt p q).post 0) ∧ Below w.heap.size w w'
  z : ∀ w, Calls Tryd.prog 25 #[.string ((⟨#[40]⟩ : ByteArray) ++ sa ++ ⟨#[41, 42]⟩)] w fun e w' => ∃ E ec, e = .returned (.tuple #[.slice E ((Tr.rep p).post 0).length ec, .int .i64 0]) ∧ Pt w' E ec ((Tr.rep p).post 0) ∧ Below w.heap.size w w'
theorem parses_of {p q : Tr} (hp : p.ok) (hq : q.ok) (h1 : p.size ≤ 100) (h2 : q.size ≤ 100) : Parses p q (strOfNums p.str) (strOfNums q.str) := by
  have a := (p.rd hp).one.paren p.fst
  have b := (q.rd hq).one.paren q.fst
  have oa := ok_in (p.str_ok hp)
  have ob := ok_in (q.str_ok hq)
  have l1 := p.str_length
  have l2 := q.str_length
  refine ⟨fun w => ?_, fun w => ?_, fun w => ?_⟩
  · rw [str_seq]
    exact parse_law (A2.seq a.two b (fst_paren _)).one (ok_app oa ob) (by simp [Tr.size]; omega) (by simp; omega) w
  · rw [str_alt]
    exact parse_law (A1.alt a.two.one b.two) (ok_app oa (fun c hc => by rcases List.mem_cons.1 hc with rfl | hc; decide; exact ob c hc)) (by simp [Tr.size]; omega) (by simp; omega) w
  · rw [str_rep]
    exact parse_law (A3.rep a).two.one (ok_app oa (fun c hc => by simp at hc; subst hc; decide)) (by simp [Tr.size]; omega) (by simp; omega) w

set_option maxHeartbeats 8000000 in
set_option maxRecDepth 100000 in
theorem meaning_row {A B C : Option Addr} {ca cb cc : Nat} {l m x : List Int} {W : World} (hl : Bt W A ca l) (hm : Bt W B cb m) (hx : Bt W C cc x) (ht : Tab W) :
    Calls Tryd.prog 7 #[.slice A l.length ca, .slice B m.length cb, .slice C x.length cc] W fun e w' => e = .returned (.bool true) ∧ Below W.heap.size W w' := by
  obtain ⟨⟨p, ep, op⟩, hpl⟩ := made_pst hl.rng (most := 20) (by decide) (by decide)
  obtain ⟨⟨q, eq, oq⟩, hql⟩ := made_pst hm.rng (most := 20) (by decide) (by decide)
  rw [ep, p.post_length] at hpl
  rw [eq, q.post_length] at hql
  have MP : Hid (madeF l 20 = p.post 0) := Lib.hid ep
  have MQ : Hid (madeF m 20 = q.post 0) := Lib.hid eq
  have hpa := parses_of op oq (by omega) (by omega)
  have fp := p.fine op (by omega)
  have fq := q.fine oq (by omega)
  have fx := (Tr.seq p q).fine ⟨op, oq⟩ (by simp [Tr.size]; omega)
  have fy := (Tr.alt p q).fine ⟨op, oq⟩ (by simp [Tr.size]; omega)
  have fz := (Tr.rep p).fine op (by simp [Tr.size]; omega)
  have prp : ∀ (A : Option Addr) (c : Nat) (w : World), Pt w A c (p.post 0) → Calls Tryd.prog 19 #[.slice A (p.post 0).length c] w fun e w' => e = .returned (.tuple #[.string (strOfNums p.str), .int .i64 0]) ∧ Below w.heap.size w w' := fun A c w h => print_law op (by omega) h
  have prq : ∀ (A : Option Addr) (c : Nat) (w : World), Pt w A c (q.post 0) → Calls Tryd.prog 19 #[.slice A (q.post 0).length c] w fun e w' => e = .returned (.tuple #[.string (strOfNums q.str), .int .i64 0]) ∧ Below w.heap.size w w' := fun A c w h => print_law oq (by omega) h
  have za : (strOfNums p.str).size ≤ 1000 := by rw [strOfNums_size]; have := p.str_length; omega
  have zb : (strOfNums q.str).size ≤ 1000 := by rw [strOfNums_size]; have := q.str_length; omega
  generalize strOfNums p.str = sa at *
  generalize strOfNums q.str = sb at *
  have HPA := Lib.hid hpa
  have FP := Lib.hid fp
  have FQ := Lib.hid fq
  have FX := Lib.hid fx
  have FY := Lib.hid fy
  have FZ := Lib.hid fz
  have HL := Lib.hid hl
  have HM := Lib.hid hm
  have HX := Lib.hid hx
  have S0 := Lib.hid (LS.init ht)
  have PRP := Lib.hid prp
  have PRQ := Lib.hid prq
  clear hpa fp fq fx fy fz hl hm hx ht ep eq hpl hql prp prq op oq
  go_enter Tryd.func7, Tryd.ntmps7
  go_wp2_with fail
  refine (sanity_any W S0.out.tab).mono ?_
  rintro e1 w1 ⟨rfl, k1⟩
  have S1 := Lib.hid (S0.out.next k1)
  have L1 := Lib.hid (HL.out.next k1)
  have M1 := Lib.hid (HM.out.next k1)
  have X1 := Lib.hid (HX.out.next k1)
  clear k1
  go_wp2_with fail
  refine (made_law L1.out 20 (by decide) (by decide)).mono ?_
  rw [MP.out]
  rintro e2 w2 ⟨E, ec, rfl, P2, k2⟩
  have P2 := Lib.hid P2
  have S2 := Lib.hid (S1.out.next k2)
  have M2 := Lib.hid (M1.out.next k2)
  have X2 := Lib.hid (X1.out.next k2)
  clear k2
  go_wp2_with fail
  refine (made_law M2.out 20 (by decide) (by decide)).mono ?_
  rw [MQ.out]
  rintro e3 w3 ⟨F, fc, rfl, Q3, k3⟩
  have Q3 := Lib.hid Q3
  have P3 := Lib.hid (P2.out.next k3)
  have S3 := Lib.hid (S2.out.next k3)
  have X3 := Lib.hid (X2.out.next k3)
  clear k3
  go_wp2_with fail
  refine (word_law X3.out 8 (by decide)).mono ?_
  rintro e4 w4 ⟨rfl, k4⟩
  have P4 := Lib.hid (P3.out.next k4)
  have Q4 := Lib.hid (Q3.out.next k4)
  have S4 := Lib.hid (S3.out.next k4)
  clear k4
  have hs : (strOfNums (wordL x 8)).size ≤ 8 := by rw [strOfNums_size]; exact wordL_length _ _
  generalize strOfNums (wordL x 8) = s at *
  go_wp2_with fail
  refine (PRP.out _ _ _ P4.out).mono ?_
  rintro e5 w5 ⟨rfl, k5⟩
  have P5 := Lib.hid (P4.out.next k5)
  have Q5 := Lib.hid (Q4.out.next k5)
  have S5 := Lib.hid (S4.out.next k5)
  clear k5
  go_wp2_with fail
  refine (PRQ.out _ _ _ Q5.out).mono ?_
  rintro e6 w6 ⟨rfl, k6⟩
  have P6 := Lib.hid (P5.out.next k6)
  have Q6 := Lib.hid (Q5.out.next k6)
  have S6 := Lib.hid (S5.out.next k6)
  clear k6 PRP PRQ
  go_wp2_with fail
  refine (HPA.out.x w6).mono ?_
  rintro e7 w7 ⟨G, gc, rfl, X7, k7⟩
  have X7 := Lib.hid X7
  have P7 := Lib.hid (P6.out.next k7)
  have Q7 := Lib.hid (Q6.out.next k7)
  have S7 := Lib.hid (S6.out.next k7)
  clear k7
  go_wp2_with fail
  refine (HPA.out.y w7).mono ?_
  rintro e8 w8 ⟨H, hc, rfl, Y8, k8⟩
  have Y8 := Lib.hid Y8
  have X8 := Lib.hid (X7.out.next k8)
  have P8 := Lib.hid (P7.out.next k8)
  have Q8 := Lib.hid (Q7.out.next k8)
  have S8 := Lib.hid (S7.out.next k8)
  clear k8
  go_wp2_with fail
  refine (HPA.out.z w8).mono ?_
  rintro e9 w9 ⟨J, jc, rfl, Z9, k9⟩
  have PM9 : Hid (PM W w9 E F G H J ec fc gc hc jc p q) := Lib.hid ⟨S8.out.next k9, P8.out.next k9, Q8.out.next k9, X8.out.next k9, Y8.out.next k9, Z9⟩
  clear k9 Z9 Y8 X8 P8 Q8 S8 X7 P7 Q7 S7 P6 Q6 S6 P5 Q5 S5 P4 Q4 S4 S3 S2 S1 S0 P3 Q3 X3 X2 X1 P2 M2 M1 L1 HX HM HL HPA MP MQ
  have HBS : Hid ((bytesOf s).length = s.size) := Lib.hid (bytesOf_length s)
  have hsz : ∀ a b, (s.extract a b).size ≤ 140737488351232 := by intro a b; rw [← bytesOf_length, extract2, List.length_take, List.length_drop, bytesOf_length]; omega
  have HSZ := Lib.hid hsz
  clear hsz
  go_upto_region 13 with fail
  obtain ⟨m0, hm0⟩ : ∃ m0, m0 = s.toList.isEmpty := ⟨_, rfl⟩
  have hm1 : (s.toList == []) = m0 := by rw [hm0]; cases s.toList <;> rfl
  have HM0 : Hid (m0 = dB (MoreP p (bytesOf s) 0)) := Lib.hid (by
    rw [hm0, Bool.eq_iff_iff, dB_iff, List.isEmpty_iff, Go.ByteArray.toList_eq]
    unfold bytesOf MoreP
    constructor
    · intro h; exact .inl (by rw [h]; rfl)
    · rintro (h | ⟨j, hj, _⟩)
      · exact List.map_eq_nil_iff.1 h
      · omega)
  have hm2 : s.toList.isEmpty = m0 := hm0.symm
  clear hm0
  go_wp2
  have HA0 : Hid (false = dB (SplitP p q (bytesOf s) 0)) := Lib.hid (dB_no (fun ⟨j, hj, _⟩ => by omega)).symm
  clear hm1 hm2
  go_loopw [21, 22, 23] (fun c21 c22 c23 wd => ∃ (k : Nat) (a b : Bool), k ≤ s.size + 1 ∧ c23 = .int .i64 (k : Int) ∧ c21 = .bool a ∧ c22 = .bool b ∧ Hid (a = dB (SplitP p q (bytesOf s) k)) ∧ Hid (b = dB (MoreP p (bytesOf s) k)) ∧ Hid (PM W wd E F G H J ec fc gc hc jc p q)) (fun _ _ c23 _ => s.size + 1 - (intOf c23).toNat)
  case atStart => exact ⟨0, false, m0, by omega, rfl, rfl, rfl, HA0, HM0, PM9⟩
  case round =>
    obtain ⟨k, a, b, hk, rfl, rfl, rfl, ha, hb, hP⟩ := hrel
    clear HA0 HM0 PM9
    by_cases hlt : k ≤ s.size
    · have hkb : decide ((k : Int) ≤ (s.size : Int)) = true := decide_eq_true (by omega)
      have hk0 : (0 : Int) ≤ (k : Int) := by omega
      have hkI : (k : Int) ≤ (s.size : Int) := by omega
      have ET : Hid (bytesOf (s.extract 0 k) = (bytesOf s).take k) := Lib.hid (by rw [extract2]; rfl)
      have ED : Hid (bytesOf (s.extract k s.size) = (bytesOf s).drop k) := Lib.hid (extract_bytes s k hlt)
      go_upto_region 17 with fail
      go_cut [21] (fun c21 wd => ∃ a', c21 = .bool a' ∧ Hid (a' = dB (SplitP p q (bytesOf s) (k + 1))) ∧ Hid (PM W wd E F G H J ec fc gc hc jc p q))
      case first =>
        cases a with
        | true =>
          go_wp2
          go_meet
          exact ⟨true, rfl, Lib.hid (dB_yes (split_step.2 (.inl ((dB_iff _).1 ha.out.symm)))).symm, hP⟩
        | false =>
          have hno : ¬ SplitP p q (bytesOf s) k := fun h => by have := ha.out; rw [dB_yes h] at this; cases this
          by_cases hA : p.Lang ((bytesOf s).take k)
          · have HA := Lib.hid hA
            have HNO := Lib.hid hno
            clear hA hno
            go_wp2_with fail
            refine (matches_yes FP.out hP.out.p hP.out.ls.tab _ (HSZ.out _ _) (by rw [ET.out]; exact HA.out)).mono ?_
            rintro e w10 ⟨rfl, ka⟩
            have hP2 := Lib.hid (hP.out.next ka)
            clear ka
            go_wp2_with fail
            refine (matches_dB (P := q.Lang ((bytesOf s).drop k)) FQ.out hP2.out.q hP2.out.ls.tab _ (HSZ.out _ _) (by rw [ED.out]; exact Iff.rfl)).mono ?_
            rintro e w11 ⟨rfl, ka⟩
            have hP3 := Lib.hid (hP2.out.next ka)
            clear ka
            generalize hd : dB (q.Lang ((bytesOf s).drop k)) = d
            have HD := Lib.hid hd
            clear hd
            go_wp2
            go_meet
            exact ⟨d, rfl, Lib.hid (HD.out.symm.trans (dB_eq ⟨fun h => split_step.2 (.inr ⟨HA.out, h⟩), fun h => (split_step.1 h).elim (fun h => absurd h HNO.out) (fun h => h.2)⟩)), hP3⟩
          · have HA := Lib.hid hA
            have HNO := Lib.hid hno
            clear hA hno
            go_wp2_with fail
            refine (matches_no FP.out hP.out.p hP.out.ls.tab _ (HSZ.out _ _) (by rw [ET.out]; exact HA.out)).mono ?_
            rintro e w10 ⟨rfl, ka⟩
            have hP2 := Lib.hid (hP.out.next ka)
            clear ka
            go_wp2
            go_meet
            exact ⟨false, rfl, Lib.hid (dB_no (fun h => (split_step.1 h).elim HNO.out (fun h => HA.out h.1))).symm, hP2⟩
      case rest =>
      obtain ⟨a', rfl, ha', hP'⟩ := hcut
      clear hP ha
      go_upto_region 18 with fail
      cases b with
      | true =>
        go_wp2
        go_roundw
        case rel => exact ⟨k + 1, a', true, by omega, by go_num, rfl, rfl, ha', Lib.hid (dB_yes (more_step.2 (.inl ((dB_iff _).1 hb.out.symm)))).symm, hP'⟩
        case measure => simp [intOf]; omega
      | false =>
        have hno : ¬ MoreP p (bytesOf s) k := fun h => by have := hb.out; rw [dB_yes h] at this; cases this
        by_cases hk1 : 0 < k
        · have hk2 : decide (0 < k) = true := decide_eq_true hk1
          have hk3 : decide ((0 : Int) < (k : Int)) = true := decide_eq_true (by omega)
          by_cases hA : p.Lang ((bytesOf s).take k)
          · have HA := Lib.hid hA
            have HNO := Lib.hid hno
            clear hA hno
            go_wp2_with fail
            refine (matches_yes FP.out hP'.out.p hP'.out.ls.tab _ (HSZ.out _ _) (by rw [ET.out]; exact HA.out)).mono ?_
            rintro e w10 ⟨rfl, ka⟩
            have hP2 := Lib.hid (hP'.out.next ka)
            clear ka
            go_wp2_with fail
            refine (matches_dB (P := Star p.Lang ((bytesOf s).drop k)) FZ.out hP2.out.z hP2.out.ls.tab _ (HSZ.out _ _) (by rw [ED.out]; exact Iff.rfl)).mono ?_
            rintro e w11 ⟨rfl, ka⟩
            have hP3 := Lib.hid (hP2.out.next ka)
            clear ka
            generalize hd : dB (Star p.Lang ((bytesOf s).drop k)) = d
            have HD := Lib.hid hd
            clear hd
            have HK1 := Lib.hid hk1
            go_wp2
            go_roundw
            case rel => exact ⟨k + 1, a', d, by omega, by go_num, rfl, rfl, ha', Lib.hid (HD.out.symm.trans (dB_eq ⟨fun h => more_step.2 (.inr ⟨HK1.out, HA.out, h⟩), fun h => (more_step.1 h).elim (fun h => absurd h HNO.out) (fun h => h.2.2)⟩)), hP3⟩
            case measure => simp [intOf]; omega
          · have HA := Lib.hid hA
            have HNO := Lib.hid hno
            clear hA hno
            go_wp2_with fail
            refine (matches_no FP.out hP'.out.p hP'.out.ls.tab _ (HSZ.out _ _) (by rw [ET.out]; exact HA.out)).mono ?_
            rintro e w10 ⟨rfl, ka⟩
            have hP2 := Lib.hid (hP'.out.next ka)
            clear ka
            go_wp2
            go_roundw
            case rel => exact ⟨k + 1, a', false, by omega, by go_num, rfl, rfl, ha', Lib.hid (dB_no (fun h => (more_step.1 h).elim HNO.out (fun h => HA.out h.2.1))).symm, hP2⟩
            case measure => simp [intOf]; omega
        · have hk2 : decide (0 < k) = false := decide_eq_false hk1
          have hk3 : decide ((0 : Int) < (k : Int)) = false := decide_eq_false (by omega)
          have HNO := Lib.hid hno
          have HK1 := Lib.hid hk1
          clear hno hk1
          go_wp2
          go_roundw
          case rel => exact ⟨k + 1, a', false, by omega, by go_num, rfl, rfl, ha', Lib.hid (dB_no (fun h => (more_step.1 h).elim HNO.out (fun h => HK1.out h.1))).symm, hP'⟩
          case measure => simp [intOf]; omega
    · have hkb : decide ((k : Int) ≤ (s.size : Int)) = false := decide_eq_false (by omega)
      have hke : k = (bytesOf s).length + 1 := by have := HBS.out; omega
      rw [hke] at ha hb
      have HX : Hid (a = true ↔ ((Tr.seq p q).re 0).Lang (bytesOf s)) := Lib.hid (by rw [ha.out, dB_iff]; exact split_all)
      have HZ : Hid (b = true ↔ ((Tr.rep p).re 0).Lang (bytesOf s)) := Lib.hid (by rw [hb.out, dB_iff]; exact more_all)
      have hs9 : Hid (s.size ≤ 140737488351232) := Lib.hid (by omega)
      clear hke ha hb
      go_upto_region 19 with fail
      go_cut [24] (fun c24 wd => ∃ d, c24 = .bool d ∧ Hid (d = true ↔ ((Tr.alt p q).re 0).Lang (bytesOf s)) ∧ Hid (PM W wd E F G H J ec fc gc hc jc p q))
      case first =>
        by_cases hA : p.Lang (bytesOf s)
        · have HA := Lib.hid hA
          clear hA
          go_wp2_with fail
          refine (matches_yes FP.out hP.out.p hP.out.ls.tab _ hs9.out HA.out).mono ?_
          rintro e w10 ⟨rfl, ka⟩
          have hP2 := Lib.hid (hP.out.next ka)
          clear ka
          go_wp2
          go_meet
          exact ⟨true, rfl, Lib.hid ⟨fun _ => (Tr.lang_alt p q _).2 (.inl HA.out), fun _ => rfl⟩, hP2⟩
        · have HA := Lib.hid hA
          clear hA
          go_wp2_with fail
          refine (matches_no FP.out hP.out.p hP.out.ls.tab _ hs9.out HA.out).mono ?_
          rintro e w10 ⟨rfl, ka⟩
          have hP2 := Lib.hid (hP.out.next ka)
          clear ka
          go_wp2_with fail
          refine (matches_dB (P := q.Lang (bytesOf s)) FQ.out hP2.out.q hP2.out.ls.tab _ hs9.out Iff.rfl).mono ?_
          rintro e w11 ⟨rfl, ka⟩
          have hP3 := Lib.hid (hP2.out.next ka)
          clear ka
          generalize hd : dB (q.Lang (bytesOf s)) = d
          have HD := Lib.hid hd
          clear hd
          go_wp2
          go_meet
          exact ⟨d, rfl, Lib.hid (by rw [← HD.out, dB_iff]; exact ⟨fun h => (Tr.lang_alt p q _).2 (.inr h), fun h => ((Tr.lang_alt p q _).1 h).resolve_left HA.out⟩), hP3⟩
      case rest =>
      obtain ⟨d, rfl, HY, hP2⟩ := hcut
      clear hP
      go_wp2_with fail
      refine (matches_law FX.out hP2.out.x hP2.out.ls.tab _ hs9.out a HX.out).mono ?_
      rintro e w12 ⟨rfl, ka⟩
      have hP3 := Lib.hid (hP2.out.next ka)
      clear ka
      go_wp2_with fail
      refine (matches_law FY.out hP3.out.y hP3.out.ls.tab _ hs9.out d HY.out).mono ?_
      rintro e w13 ⟨rfl, ka⟩
      have hP4 := Lib.hid (hP3.out.next ka)
      clear ka
      go_wp2_with fail
      refine (matches_law FZ.out hP4.out.z hP4.out.ls.tab _ hs9.out b HZ.out).mono ?_
      rintro e w14 ⟨rfl, ka⟩
      have hP5 := Lib.hid (hP4.out.next ka)
      clear ka
      go_wp2
      go_ret
      exact ⟨rfl, hP5.out.ls.low⟩
end Go.Proofs.YtaphblnelmncaaaDoor.PA
end
