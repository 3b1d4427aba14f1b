/- What the statement's proof stands on, part 1: the walks over the program's functions and the plain laws. -/
import Derived.Test.YtaphblnelmncaaaDoorV8c
import Derived.Laws.Cover1
import Derived.Test.YtaphblnelmncaaaDoorPAx16
import Derived.Test.YtaphblnelmncaaaDoorPAx21
set_option linter.unusedSimpArgs false
set_option linter.unusedVariables false
section
/- The reader reads canonical strings. -/
set_option linter.unusedVariables false
namespace Go.Proofs.YtaphblnelmncaaaDoor.PA
open Go.RowKit Go.Proofs.YtaphblnelmncaaaDoorW.PrintWords Go.Proofs.YtaphblnelmncaaaDoorW.PrintLast Go.Proofs.YtaphblnelmncaaaDoorW.PrintMore

namespace Tr
def lev : Tr → Int
  | seq _ _ => 2
  | alt _ _ => 1
  | _ => 3
def str : Tr → List Int
  | emp => [40, 41]
  | rng lo hi => if lo < hi then 91 :: (chrL lo ++ 45 :: (chrL hi ++ [93])) else chrL lo
  | seq a b => par (decide (a.lev < 2)) a.str ++ par (decide (b.lev < 3)) b.str
  | alt a b => par (decide (a.lev < 1)) a.str ++ 124 :: par (decide (b.lev < 2)) b.str
  | rep a => par (decide (a.lev < 3)) a.str ++ [42]
def shown (t : Tr) (least : Int) : List Int := par (decide (t.lev < least)) t.str
theorem lev_re (t : Tr) (o : Nat) : (t.re o).lev = t.lev := by cases t <;> rfl
theorem str_re (t : Tr) : ∀ o, (t.re o).str = t.str := by
  induction t with
  | emp => intro o; rfl
  | rng => intro o; rfl
  | seq a b iha ihb => intro o; simp [re, Re.str, str, lev_re, iha, ihb]
  | alt a b iha ihb => intro o; simp [re, Re.str, str, lev_re, iha, ihb]
  | rep a iha => intro o; simp [re, Re.str, str, lev_re, iha]
theorem shown_re (t : Tr) (o : Nat) (k : Int) : (t.re o).shown k = t.shown k := by unfold Re.shown shown; rw [lev_re, str_re]
theorem lev_range (t : Tr) : 1 ≤ t.lev ∧ t.lev ≤ 3 := by cases t <;> simp [lev]
theorem shown1 (t : Tr) : t.shown 1 = t.str := by have := t.lev_range; unfold shown par; rw [if_neg (by simp; omega)]
end Tr

/-- The bytes l lie in s from k on. -/
def At (s : ByteArray) : Nat → List Int → Prop
  | k, [] => k ≤ s.size
  | k, c :: l => k < s.size ∧ bt s (k : Int) = c ∧ At s (k + 1) l
theorem At.app {s : ByteArray} : ∀ {a b : List Int} {k : Nat}, At s k (a ++ b) → At s k a ∧ At s (k + a.length) b
  | [], b, k, h => ⟨by cases b with | nil => exact h | cons c l => exact Nat.le_of_lt h.1, h⟩
  | c :: a, b, k, h => by
    obtain ⟨h1, h2, h3⟩ := h
    obtain ⟨h4, h5⟩ := At.app h3
    exact ⟨⟨h1, h2, h4⟩, by rw [List.length_cons, show k + (a.length + 1) = k + 1 + a.length by omega]; exact h5⟩
theorem At.le {s : ByteArray} : ∀ {l : List Int} {k : Nat}, At s k l → k + l.length ≤ s.size
  | [], k, h => h
  | c :: l, k, h => by have := At.le h.2.2; simp; omega

/-- Not an asterisk; the end, a bar or a closing parenthesis. -/
def NoStar (s : ByteArray) (k : Nat) : Prop := k < s.size → bt s k ≠ 42
def EndC (s : ByteArray) (k : Nat) : Prop := k < s.size → bt s k = 124 ∨ bt s k = 41
def ST (s : ByteArray) (i : Int) (st : St) (r : Int × St) : Prop := ∃ N, ∀ n, N ≤ n → starF s n i st = some r
def AF (s : ByteArray) (st : St) (r : Int × St) : Prop := ∃ N, ∀ n, N ≤ n → atomF s n st = some r
def SL (s : ByteArray) (i : Int) (st : St) (r : Int × St) : Prop := ∃ N, ∀ n, N ≤ n → seqLoop s n i st = some r
def SF (s : ByteArray) (st : St) (r : Int × St) : Prop := ∃ N, ∀ n, N ≤ n → seqF s n st = some r
def AL (s : ByteArray) (i : Int) (st : St) (r : Int × St) : Prop := ∃ N, ∀ n, N ≤ n → altLoop s n i st = some r
def TF (s : ByteArray) (st : St) (r : Int × St) : Prop := ∃ N, ∀ n, N ≤ n → altF s n st = some r

/-- Behind the string l of the tree t. -/
def adv (st : St) (t : Tr) (l : List Int) : St := ⟨st.pos + l.length, st.out ++ t.post st.out.length, false⟩
def idx (st : St) (t : Tr) : Int := ((st.out.length + t.size - 1 : Nat) : Int)
def A3 (l : List Int) (t : Tr) : Prop := ∀ (s : ByteArray) (st : St) (r : Int × St), st.wrong = false → At s st.pos l → ST s (idx st t) (adv st t l) r → AF s st r
def A2 (l : List Int) (t : Tr) : Prop := ∀ (s : ByteArray) (st : St) (r : Int × St), st.wrong = false → At s st.pos l → NoStar s (st.pos + l.length) → SL s (idx st t) (adv st t l) r → SF s st r
def A1 (l : List Int) (t : Tr) : Prop := ∀ (s : ByteArray) (st : St) (r : Int × St), st.wrong = false → At s st.pos l → EndC s (st.pos + l.length) → AL s (idx st t) (adv st t l) r → TF s st r
/-- What a string begins with. -/
def Fst (l : List Int) : Prop := ∃ c l', l = c :: l' ∧ c ≠ 42 ∧ c ≠ 124 ∧ c ≠ 41
theorem isNext_at {s : ByteArray} {b : Int} {st : St} (h : st.pos < s.size) (hb : bt s st.pos = b) : isNext s b st = true := by unfold isNext; simp [h, hb]
theorem isNext_no {s : ByteArray} {b : Int} {st : St} (h : st.pos < s.size → bt s st.pos ≠ b) : isNext s b st = false := by
  unfold isNext
  by_cases hh : st.pos < s.size
  · simp [hh, h hh]
  · simp [hh]
theorem pass_at {s : ByteArray} {b : Int} {st : St} (h : st.pos < s.size) (hb : bt s st.pos = b) : pass s b st = ⟨st.pos + 1, st.out, st.wrong⟩ := by unfold pass; rw [if_pos (isNext_at h hb)]
theorem st_end {s : ByteArray} {i : Int} {st : St} (hw : st.wrong = false) (h : NoStar s st.pos) : ST s i st (i, st) := by
  refine ⟨1, fun n hn => ?_⟩
  obtain ⟨m, rfl⟩ : ∃ m, n = m + 1 := ⟨n - 1, by omega⟩
  rw [starF, if_neg (by simp [hw]), if_neg (by rw [isNext_no h]; simp)]
theorem sl_end {s : ByteArray} {i : Int} {st : St} (h : EndC s st.pos) : SL s i st (i, st) := by
  refine ⟨1, fun n hn => ?_⟩
  obtain ⟨m, rfl⟩ : ∃ m, n = m + 1 := ⟨n - 1, by omega⟩
  rw [seqLoop, if_neg]
  intro hh
  simp only [Bool.and_eq_true, decide_eq_true_eq, bne_iff_ne, ne_eq] at hh
  have := h hh.2.1
  omega
theorem al_end {s : ByteArray} {i : Int} {st : St} (h : st.pos < s.size → bt s st.pos ≠ 124) : AL s i st (i, st) := by
  refine ⟨1, fun n hn => ?_⟩
  obtain ⟨m, rfl⟩ : ∃ m, n = m + 1 := ⟨n - 1, by omega⟩
  rw [altLoop]
  split
  · rfl
  · rw [if_neg (by rw [isNext_no h]; simp)]
theorem EndC.noStar {s : ByteArray} {k : Nat} (h : EndC s k) : NoStar s k := fun hk e => by have := h hk; omega
theorem A3.two {l : List Int} {t : Tr} (h : A3 l t) : A2 l t := by
  intro s st r hw ha hn hr
  obtain ⟨N, hN⟩ := h s st _ hw ha (st_end rfl (by exact hn))
  obtain ⟨M, hM⟩ := hr
  refine ⟨N + M + 1, fun n hn => ?_⟩
  obtain ⟨m, rfl⟩ : ∃ m, n = m + 1 := ⟨n - 1, by omega⟩
  rw [seqF, hN m (by omega)]
  exact hM m (by omega)
theorem A2.one {l : List Int} {t : Tr} (h : A2 l t) : A1 l t := by
  intro s st r hw ha hn hr
  obtain ⟨N, hN⟩ := h s st _ hw ha hn.noStar (sl_end (by exact hn))
  obtain ⟨M, hM⟩ := hr
  refine ⟨N + M + 1, fun n hn => ?_⟩
  obtain ⟨m, rfl⟩ : ∃ m, n = m + 1 := ⟨n - 1, by omega⟩
  rw [altF, hN m (by omega)]
  exact hM m (by omega)
theorem A1.paren {l : List Int} {t : Tr} (h : A1 l t) (hf : Fst l) : A3 (40 :: (l ++ [41])) t := by
  intro s st r hw ha hr
  obtain ⟨h1, h2, h3⟩ := ha
  obtain ⟨h4, h5, h6, _⟩ := h3.app
  obtain ⟨c, l', e, c1, c2, c3⟩ := hf
  have hc : st.pos + 1 < s.size ∧ bt s ((st.pos + 1 : Nat) : Int) = c := by rw [e] at h4; exact ⟨h4.1, h4.2.1⟩
  have hp := pass_at h1 h2
  obtain ⟨N, hN⟩ := h s (pass s 40 st) (idx (pass s 40 st) t, adv (pass s 40 st) t l) (by rw [hp]; exact hw) (by rw [hp]; exact h4) (by rw [hp]; exact fun _ => .inr h6) (al_end (by rw [hp]; intro _; show bt s ((st.pos + 1 + l.length : Nat) : Int) ≠ 124; rw [h6]; decide))
  obtain ⟨M, hM⟩ := hr
  refine ⟨N + M + 1, fun n hn => ?_⟩
  obtain ⟨m, rfl⟩ : ∃ m, n = m + 1 := ⟨n - 1, by omega⟩
  rw [atomF, if_neg (by rw [isNext_no (by intro _; rw [h2]; decide)]; simp), if_pos (isNext_at h1 h2), if_neg (by rw [isNext_no (by rw [hp]; intro _; show bt s ((st.pos + 1 : Nat) : Int) ≠ 41; rw [hc.2]; exact c3)]; simp), hN m (by omega), Option.bind_some]
  rw [if_neg (by simp [adv])]
  have e1 : isNext s 41 (adv (pass s 40 st) t l) = true := isNext_at (by rw [hp]; exact h5) (by rw [hp]; exact h6)
  have e2 : (pass s 41 (adv (pass s 40 st) t l)).bad (!isNext s 41 (adv (pass s 40 st) t l)) = adv st t (40 :: (l ++ [41])) := by
    rw [e1]
    rw [hp] at e1 ⊢
    unfold pass
    rw [if_pos e1]
    simp only [St.bad, adv, Bool.not_true, List.length_cons, List.length_append, List.length_nil]
    congr 1; omega
  have e3 : idx (pass s 40 st) t = idx st t := by rw [hp]; rfl
  rw [e2, e3]
  exact hM m (by omega)
theorem adv_bind (st : St) (a b : Tr) (l1 l2 : List Int) (K : Int) : (adv (adv st a l1) b l2).add ⟨K, 0, 0, idx st a, idx (adv st a l1) b⟩ = ⟨st.pos + l1.length + l2.length, st.out ++ (a.post st.out.length ++ (b.post (st.out.length + a.size) ++ [⟨K, 0, 0, ((st.out.length + a.size - 1 : Nat) : Int), ((st.out.length + a.size + b.size - 1 : Nat) : Int)⟩])), false⟩ := by
  simp only [adv, St.add, idx, List.length_append, a.post_length, List.append_assoc]
theorem adv_length (st : St) (t : Tr) (l : List Int) : (adv st t l).out.length = st.out.length + t.size := by simp [adv, t.post_length]
theorem A2.seq {l1 l2 : List Int} {a b : Tr} (h : A2 l1 a) (k : A3 l2 b) (hf : Fst l2) : A2 (l1 ++ l2) (.seq a b) := by
  intro s st r hw ha hn hr
  obtain ⟨h1, h2⟩ := ha.app
  obtain ⟨c, l', e, c1, c2, c3⟩ := hf
  have hc : st.pos + l1.length < s.size ∧ bt s ((st.pos + l1.length : Nat) : Int) = c := by rw [e] at h2; exact ⟨h2.1, h2.2.1⟩
  rw [List.length_append, ← Nat.add_assoc] at hn
  refine h s st r hw h1 (fun _ => by rw [hc.2]; exact c1) ?_
  obtain ⟨N, hN⟩ := k s (adv st a l1) _ rfl h2 (st_end rfl (by exact hn))
  obtain ⟨M, hM⟩ := hr
  refine ⟨N + M + 1, fun n hn => ?_⟩
  obtain ⟨m, rfl⟩ : ∃ m, n = m + 1 := ⟨n - 1, by omega⟩
  rw [seqLoop, if_pos, hN m (by omega), Option.bind_some]
  · have e1 : (adv (adv st a l1) b l2).add ⟨2, 0, 0, idx st a, idx (adv st a l1) b⟩ = adv st (.seq a b) (l1 ++ l2) := by
      rw [adv_bind]; simp only [adv, Tr.post, List.length_append]; congr 1; omega
    have e2 : ((adv (adv st a l1) b l2).out.length : Int) = idx st (.seq a b) := by
      rw [adv_length, adv_length]; unfold idx; simp only [Tr.size]; omega
    simp only
    rw [e1, e2]
    exact hM m (by omega)
  · show (!false && _) = true
    simp only [Bool.not_false, Bool.true_and, Bool.and_eq_true, decide_eq_true_eq, bne_iff_ne, ne_eq]
    have e3 : (adv st a l1).pos = st.pos + l1.length := rfl
    rw [e3, hc.2]
    exact ⟨hc.1, c2, c3⟩
theorem A1.alt {l1 l2 : List Int} {a b : Tr} (h : A1 l1 a) (k : A2 l2 b) : A1 (l1 ++ 124 :: l2) (.alt a b) := by
  intro s st r hw ha hn hr
  obtain ⟨h1, h2, h3, h4⟩ := ha.app
  rw [List.length_append, List.length_cons] at hn
  have hp : pass s 124 (adv st a l1) = ⟨st.pos + l1.length + 1, st.out ++ a.post st.out.length, false⟩ := pass_at h2 h3
  refine h s st r hw h1 (fun _ => .inl h3) ?_
  have hn' : EndC s (st.pos + l1.length + 1 + l2.length) := by rw [show st.pos + l1.length + 1 + l2.length = st.pos + (l1.length + (l2.length + 1)) by omega]; exact hn
  obtain ⟨N, hN⟩ := k s (pass s 124 (adv st a l1)) _ (by rw [hp]) (by rw [hp]; exact h4) (by rw [hp]; exact hn'.noStar) (sl_end (by rw [hp]; exact hn'))
  obtain ⟨M, hM⟩ := hr
  refine ⟨N + M + 1, fun n hn => ?_⟩
  obtain ⟨m, rfl⟩ : ∃ m, n = m + 1 := ⟨n - 1, by omega⟩
  rw [altLoop, if_neg (by simp [adv]), if_pos (isNext_at h2 h3), hN m (by omega), Option.bind_some]
  have ei : idx (pass s 124 (adv st a l1)) b = idx (adv st a l1) b := by rw [hp]; rfl
  have ea : (adv (pass s 124 (adv st a l1)) b l2) = ⟨st.pos + l1.length + 1 + l2.length, (adv (adv st a l1) b l2).out, false⟩ := by rw [hp]; rfl
  have e1 : (adv (pass s 124 (adv st a l1)) b l2).add ⟨3, 0, 0, idx st a, idx (adv st a l1) b⟩ = adv st (.alt a b) (l1 ++ 124 :: l2) := by
    rw [ea]
    have := congrArg St.out (adv_bind st a b l1 l2 3)
    simp only [St.add] at this ⊢
    rw [this]
    simp only [adv, Tr.post, List.length_append, List.length_cons]; congr 1; omega
  have e2 : ((adv (pass s 124 (adv st a l1)) b l2).out.length : Int) = idx st (.alt a b) := by
    rw [ea]; simp only; rw [adv_length, adv_length]; unfold idx; simp only [Tr.size]; omega
  simp only
  rw [ei, e1, e2]
  exact hM m (by omega)
theorem A3.rep {l : List Int} {a : Tr} (h : A3 l a) : A3 (l ++ [42]) (.rep a) := by
  intro s st r hw ha hr
  obtain ⟨h1, h2, h3, h4⟩ := ha.app
  refine h s st r hw h1 ?_
  obtain ⟨M, hM⟩ := hr
  refine ⟨M + 1, fun n hn => ?_⟩
  obtain ⟨m, rfl⟩ : ∃ m, n = m + 1 := ⟨n - 1, by omega⟩
  rw [starF, if_neg (by simp [adv]), if_pos (isNext_at h2 h3)]
  have hp : pass s 42 (adv st a l) = ⟨st.pos + l.length + 1, st.out ++ a.post st.out.length, false⟩ := pass_at h2 h3
  have ha := a.size_pos
  have e1 : (pass s 42 (adv st a l)).add ⟨4, 0, 0, idx st a, 0⟩ = adv st (.rep a) (l ++ [42]) := by
    rw [hp]; simp only [St.add, adv, Tr.post, List.length_append, List.length_cons, List.length_nil, List.append_assoc, idx]; congr 1
  have e2 : ((adv st a l).out.length : Int) = idx st (.rep a) := by rw [adv_length]; unfold idx; simp only [Tr.size]; omega
  rw [e1, e2]
  exact hM m (by omega)
theorem A3.emp : A3 [40, 41] .emp := by
  intro s st r hw ha hr
  obtain ⟨h1, h2, h3, h4, h5⟩ := ha
  have hp := pass_at h1 h2
  have hp2 : pass s 41 (pass s 40 st) = ⟨st.pos + 1 + 1, st.out, false⟩ := by rw [hp, hw]; exact pass_at h3 h4
  obtain ⟨M, hM⟩ := hr
  refine ⟨M + 1, fun n hn => ?_⟩
  obtain ⟨m, rfl⟩ : ∃ m, n = m + 1 := ⟨n - 1, by omega⟩
  rw [atomF, if_neg (by rw [isNext_no (by intro _; rw [h2]; decide)]; simp), if_pos (isNext_at h1 h2), if_pos (by rw [hp]; exact isNext_at h3 h4), hp2]
  exact hM m (by omega)

/-! ### characters -/
theorem plain_not {b : Int} (h : plainB b = true) : b ≠ 40 ∧ b ≠ 41 ∧ b ≠ 42 ∧ b ≠ 45 ∧ b ≠ 91 ∧ b ≠ 92 ∧ b ≠ 93 ∧ b ≠ 124 ∧ 32 < b ∧ b < 127 := by
  unfold plainB specials at h
  simp only [Bool.and_eq_true, Bool.not_eq_true', decide_eq_true_eq, List.contains_eq_mem, decide_eq_false_iff_not, List.mem_cons, List.not_mem_nil, or_false, not_or] at h
  obtain ⟨⟨a1, a2, a3, a4, a5, a6, a7, a8⟩, a9, a10⟩ := h
  exact ⟨a1, a2, a3, a4, a5, a6, a7, a8, a9, a10⟩
theorem plain_92 : plainB 92 = false := by decide
theorem hex_digit : ∀ d : Fin 16, hexV (bt digits (d.val : Int)) = (d.val : Int) := by decide
theorem char_rd {s : ByteArray} {st : St} {b : Int} (h0 : 0 ≤ b) (h1 : b ≤ 255) (ha : At s st.pos (chrL b)) : charF s st = (b, ⟨st.pos + (chrL b).length, st.out, st.wrong⟩) := by
  unfold chrL at *
  by_cases hp : plainB b = true
  · rw [if_pos hp] at *
    obtain ⟨a1, a2, a3⟩ := ha
    unfold charF
    rw [if_pos ⟨a1, by rw [a2]; exact hp⟩, a2]
    rfl
  · rw [if_neg hp] at *
    obtain ⟨a1, a2, a3, a4, a5, a6, a7, a8, a9⟩ := ha
    have p1 := pass_at a1 a2
    have p2 : pass s 120 (pass s 92 st) = ⟨st.pos + 1 + 1, st.out, st.wrong⟩ := by rw [p1]; exact pass_at a3 a4
    have d1 : hexV (bt digits (b / 16)) = b / 16 := by
      have := hex_digit ⟨(b / 16).toNat, by omega⟩
      simp only [show ((b / 16).toNat : Int) = b / 16 by omega] at this; exact this
    have d2 : hexV (bt digits (b % 16)) = b % 16 := by
      have := hex_digit ⟨(b % 16).toNat, by omega⟩
      simp only [show ((b % 16).toNat : Int) = b % 16 by omega] at this; exact this
    have a6' : bt s ((st.pos : Int) + 1 + 1) = bt digits (b / 16) := a6
    have a8' : bt s ((st.pos : Int) + 1 + 1 + 1) = bt digits (b % 16) := a8
    unfold charF
    rw [if_neg (by rw [a2, plain_92]; simp), if_pos (isNext_at a1 a2), if_pos (by rw [p1]; exact isNext_at a3 a4), p2]
    simp only [Int.natCast_add, Int.cast_ofNat_Int]
    rw [if_pos (by omega)]
    rw [a6', a8', d1, d2, if_pos (by omega)]
    rw [show 16 * (b / 16) + b % 16 = b by omega]
    rfl
theorem char_fst {b : Int} : Fst (chrL b) := by
  unfold chrL
  split
  · rename_i h
    have := plain_not h
    exact ⟨b, [], rfl, by omega, by omega, by omega⟩
  · exact ⟨92, _, rfl, by decide, by decide, by decide⟩
/-- What a character's first byte is not. -/
theorem char_fst2 {b : Int} : ∃ c l, chrL b = c :: l ∧ c ≠ 91 ∧ c ≠ 40 := by
  unfold chrL
  split
  · rename_i h
    have := plain_not h
    exact ⟨b, [], rfl, by omega, by omega⟩
  · exact ⟨92, _, rfl, by decide, by decide⟩
theorem A3.chr {b : Int} (h0 : 0 ≤ b) (h1 : b ≤ 255) : A3 (chrL b) (.rng b b) := by
  intro s st r hw ha hr
  have hc := char_rd h0 h1 ha
  obtain ⟨c, l, e, e1, e2⟩ := char_fst2 (b := b)
  have hb : bt s (st.pos : Int) = c := by rw [e] at ha; exact ha.2.1
  obtain ⟨M, hM⟩ := hr
  refine ⟨M + 1, fun n hn => ?_⟩
  obtain ⟨m, rfl⟩ : ∃ m, n = m + 1 := ⟨n - 1, by omega⟩
  rw [atomF, if_neg (by rw [isNext_no (by intro _; rw [hb]; exact e1)]; simp), if_neg (by rw [isNext_no (by intro _; rw [hb]; exact e2)]; simp), hc]
  have e4 : (⟨st.pos + (chrL b).length, st.out, st.wrong⟩ : St).add ⟨1, b, b, 0, 0⟩ = adv st (.rng b b) (chrL b) := by rw [hw]; rfl
  simp only
  rw [e4]
  exact hM m (by omega)
theorem A3.range {lo hi : Int} (h0 : 0 ≤ lo) (h1 : lo ≤ hi) (h2 : hi ≤ 255) : A3 (91 :: (chrL lo ++ 45 :: (chrL hi ++ [93]))) (.rng lo hi) := by
  intro s st r hw ha hr
  obtain ⟨a1, a2, a3⟩ := ha
  obtain ⟨a4, a5, a6, a7⟩ := a3.app
  obtain ⟨a8, a9, a10, _⟩ := a7.app
  have p1 : pass s 91 st = ⟨st.pos + 1, st.out, false⟩ := by rw [← hw]; exact pass_at a1 a2
  have c1 : charF s (pass s 91 st) = (lo, ⟨st.pos + 1 + (chrL lo).length, st.out, false⟩) := by rw [p1]; exact char_rd h0 (by omega) a4
  have n1 : isNext s 45 ⟨st.pos + 1 + (chrL lo).length, st.out, false⟩ = true := isNext_at a5 a6
  have p2 : pass s 45 ⟨st.pos + 1 + (chrL lo).length, st.out, false⟩ = ⟨st.pos + 1 + (chrL lo).length + 1, st.out, false⟩ := pass_at a5 a6
  have c2 : charF s ⟨st.pos + 1 + (chrL lo).length + 1, st.out, false⟩ = (hi, ⟨st.pos + 1 + (chrL lo).length + 1 + (chrL hi).length, st.out, false⟩) := char_rd (st := ⟨st.pos + 1 + (chrL lo).length + 1, st.out, false⟩) (by omega) h2 a8
  have n2 : isNext s 93 ⟨st.pos + 1 + (chrL lo).length + 1 + (chrL hi).length, st.out, false⟩ = true := isNext_at a9 a10
  have p3 : pass s 93 ⟨st.pos + 1 + (chrL lo).length + 1 + (chrL hi).length, st.out, false⟩ = ⟨st.pos + 1 + (chrL lo).length + 1 + (chrL hi).length + 1, st.out, false⟩ := pass_at a9 a10
  have hr' : rangeF s (pass s 91 st) = (⟨1, lo, hi, 0, 0⟩, ⟨st.pos + 1 + (chrL lo).length + 1 + (chrL hi).length + 1, st.out, false⟩) := by
    unfold rangeF
    rw [c1]
    simp only
    rw [n1, p2, c2]
    simp only
    rw [n2, p3]
    simp [St.bad, h1]
  obtain ⟨M, hM⟩ := hr
  refine ⟨M + 1, fun n hn => ?_⟩
  obtain ⟨m, rfl⟩ : ∃ m, n = m + 1 := ⟨n - 1, by omega⟩
  rw [atomF, if_pos (isNext_at a1 a2), hr']
  have e4 : (⟨st.pos + 1 + (chrL lo).length + 1 + (chrL hi).length + 1, st.out, false⟩ : St).add ⟨1, lo, hi, 0, 0⟩ = adv st (.rng lo hi) (91 :: (chrL lo ++ 45 :: (chrL hi ++ [93]))) := by
    simp only [St.add, adv, Tr.post, List.length_cons, List.length_append, List.length_nil]; congr 1; omega
  simp only
  rw [e4]
  exact hM m (by omega)

/-! ### trees -/
theorem par_yes (l : List Int) : par true l = 40 :: (l ++ [41]) := rfl
theorem par_no (l : List Int) : par false l = l := rfl
theorem fst_paren (l : List Int) : Fst (40 :: l) := ⟨40, l, rfl, by decide, by decide, by decide⟩
theorem Fst.app {l : List Int} (h : Fst l) (m : List Int) : Fst (l ++ m) := by
  obtain ⟨c, l', rfl, h⟩ := h; exact ⟨c, l' ++ m, rfl, h⟩
theorem Fst.par {l : List Int} (h : Fst l) (b : Bool) : Fst (par b l) := by
  cases b
  · exact h
  · exact fst_paren _
theorem Tr.fst (t : Tr) : Fst t.str := by
  induction t with
  | emp => exact fst_paren _
  | rng lo hi =>
    unfold Tr.str
    split
    · exact ⟨91, _, rfl, by decide, by decide, by decide⟩
    · exact char_fst
  | seq a b iha ihb => exact (iha.par _).app _
  | alt a b iha ihb => exact (iha.par _).app _
  | rep a iha => exact (iha.par _).app _
/-- A tree's string is read at each of the levels. -/
structure Rd (t : Tr) : Prop where
  three : t.lev = 3 → A3 t.str t
  two : 2 ≤ t.lev → A2 t.str t
  one : A1 t.str t
theorem Rd.of3 {t : Tr} (h : A3 t.str t) : Rd t := ⟨fun _ => h, fun _ => h.two, h.two.one⟩
theorem Rd.par3 {t : Tr} (h : Rd t) : A3 (t.shown 3) t := by
  have := t.lev_range
  unfold Tr.shown
  by_cases hl : t.lev < 3
  · rw [decide_eq_true hl]; exact h.one.paren t.fst
  · rw [decide_eq_false hl]; exact h.three (by omega)
theorem Rd.par2 {t : Tr} (h : Rd t) : A2 (t.shown 2) t := by
  have := t.lev_range
  unfold Tr.shown
  by_cases hl : t.lev < 2
  · rw [decide_eq_true hl]; exact (h.one.paren t.fst).two
  · rw [decide_eq_false hl]; exact h.two (by omega)
theorem Rd.par1 {t : Tr} (h : Rd t) : A1 (t.shown 1) t := by rw [t.shown1]; exact h.one
theorem Tr.rd (t : Tr) : t.ok → Rd t := by
  induction t with
  | emp => intro _; exact .of3 A3.emp
  | rng lo hi =>
    rintro ⟨h0, h1, h2⟩
    refine .of3 ?_
    unfold Tr.str
    by_cases hl : lo < hi
    · rw [if_pos hl]; exact A3.range h0 h1 h2
    · rw [if_neg hl]
      have : lo = hi := by omega
      subst this
      exact A3.chr h0 h2
  | seq a b iha ihb =>
    rintro ⟨ha, hb⟩
    have h := A2.seq (iha ha).par2 (ihb hb).par3 (b.fst.par _)
    exact ⟨fun h => by simp [Tr.lev] at h, fun _ => h, h.one⟩
  | alt a b iha ihb =>
    rintro ⟨ha, hb⟩
    have h := A1.alt (iha ha).par1 (ihb hb).par2
    exact ⟨fun h => by simp [Tr.lev] at h, fun h => by simp [Tr.lev] at h, h⟩
  | rep a iha =>
    intro ha
    exact .of3 (A3.rep (iha ha).par3)

/-! ### the whole string -/
theorem at_self : ∀ (l : List Int) (s : ByteArray) (k : Nat), k + l.length = s.size → (∀ i, i < l.length → bt s ((k + i : Nat) : Int) = l.getD i 0) → At s k l
  | [], s, k, h, _ => by simp at h; unfold At; omega
  | c :: l, s, k, h, g => by
    refine ⟨by simp at h; omega, by simpa using g 0 (by simp), at_self l s (k + 1) (by simp at h; omega) fun i hi => ?_⟩
    have := g (i + 1) (by simpa using hi)
    rw [show k + 1 + i = k + (i + 1) by omega, this]; simp
/-- The reader reads a tree's string. -/
theorem A1.reads {l : List Int} {t : Tr} (h : A1 l t) {s : ByteArray} (hs : At s 0 l) (hl : l.length = s.size) : ∃ n, altF s n st0 = some (((t.size - 1 : Nat) : Int), ⟨s.size, t.post 0, false⟩) := by
  obtain ⟨N, hN⟩ := h s st0 (idx st0 t, adv st0 t l) rfl hs (fun hk => by simp [st0] at hk; omega) (al_end (fun hk => by simp [adv, st0] at hk; omega))
  refine ⟨N, ?_⟩
  rw [hN N (Nat.le_refl _)]
  simp [idx, adv, st0, hl]
theorem parse_tr {s : ByteArray} {t : Tr} {i : Int} (hz : t.size ≤ 512) : parseF s (i, ⟨s.size, t.post 0, false⟩) = (t.post 0, 0) := by
  have := t.post_length 0
  unfold parseF
  simp only [Bool.false_or, Nat.lt_irrefl, decide_false, Bool.false_eq_true, if_false]
  rw [if_neg (by omega)]
/-- The bytes of a string are in order. -/
theorem chr_ok {b : Int} (h0 : 0 ≤ b) (h1 : b ≤ 255) : ∀ c ∈ chrL b, okB c = true := by
  unfold chrL
  split
  · rename_i h
    have := plain_not h
    intro c hc; simp at hc; subst hc; unfold okB; simp; omega
  · have hd : ∀ d : Fin 16, okB (bt digits (d.val : Int)) = true := by decide
    intro c hc
    simp only [List.mem_cons, List.not_mem_nil, or_false] at hc
    rcases hc with rfl | rfl | rfl | rfl
    · decide
    · decide
    · have := hd ⟨(b / 16).toNat, by omega⟩; simp only [show ((b / 16).toNat : Int) = b / 16 by omega] at this; exact this
    · have := hd ⟨(b % 16).toNat, by omega⟩; simp only [show ((b % 16).toNat : Int) = b % 16 by omega] at this; exact this
theorem par_ok {l : List Int} (h : ∀ c ∈ l, okB c = true) (b : Bool) : ∀ c ∈ par b l, okB c = true := by
  cases b
  · exact h
  · intro c hc
    simp only [par_yes, List.mem_cons, List.mem_append, List.not_mem_nil, or_false] at hc
    rcases hc with rfl | hc | rfl
    · decide
    · exact h c hc
    · decide
theorem Tr.str_ok (t : Tr) : t.ok → ∀ c ∈ t.str, okB c = true := by
  induction t with
  | emp => intro _ c hc; simp only [Tr.str, List.mem_cons, List.not_mem_nil, or_false] at hc; rcases hc with rfl | rfl <;> decide
  | rng lo hi =>
    rintro ⟨h0, h1, h2⟩ c hc
    unfold Tr.str at hc
    split at hc
    · simp only [List.mem_cons, List.mem_append, List.not_mem_nil, or_false] at hc
      rcases hc with rfl | hc | rfl | hc | rfl
      · decide
      · exact chr_ok h0 (by omega) c hc
      · decide
      · exact chr_ok (by omega) h2 c hc
      · decide
    · exact chr_ok h0 (by omega) c hc
  | seq a b iha ihb =>
    rintro ⟨ha, hb⟩ c hc
    rcases List.mem_append.1 hc with hc | hc
    · exact par_ok (iha ha) _ c hc
    · exact par_ok (ihb hb) _ c hc
  | alt a b iha ihb =>
    rintro ⟨ha, hb⟩ c hc
    rcases List.mem_append.1 hc with hc | hc
    · exact par_ok (iha ha) _ c hc
    · rcases List.mem_cons.1 hc with rfl | hc
      · decide
      · exact par_ok (ihb hb) _ c hc
  | rep a iha =>
    intro ha c hc
    rcases List.mem_append.1 hc with hc | hc
    · exact par_ok (iha ha) _ c hc
    · simp at hc; subst hc; decide
end Go.Proofs.YtaphblnelmncaaaDoor.PA
end

section
/- What the statements' walks share: Print and Parse of trees. -/
set_option linter.unusedVariables false
namespace Go.Proofs.YtaphblnelmncaaaDoor.PA
open Go.RowKit Go.Proofs.YtaphblnelmncaaaDoorW.PrintWords Go.Proofs.YtaphblnelmncaaaDoorW.PrintLast Go.Proofs.YtaphblnelmncaaaDoorW.PrintMore

/-- A statement as a Bool. -/
noncomputable def dB (P : Prop) : Bool := @decide P (Classical.propDecidable P)
theorem dB_iff (P : Prop) : dB P = true ↔ P := by unfold dB; exact @decide_eq_true_iff P (Classical.propDecidable P)
theorem dB_eq {P Q : Prop} (h : P ↔ Q) : dB P = dB Q := by rw [Bool.eq_iff_iff, dB_iff, dB_iff]; exact h
theorem dB_yes {P : Prop} (h : P) : dB P = true := (dB_iff P).2 h
theorem dB_no {P : Prop} (h : ¬ P) : dB P = false := by
  cases hd : dB P
  · rfl
  · exact absurd ((dB_iff P).1 hd) h
theorem matches_dB {p : List S50} {t : Re} (g : Fine p t) {A : Option Addr} {c : Nat} {w : World} (h : Pt w A c p) (ht : Tab w) (s : ByteArray) (hs : s.size ≤ 140737488351232) {P : Prop} (hP : P ↔ t.Lang (bytesOf s)) :
    Calls Tryd.prog 23 #[.slice A p.length c, .string s] w fun e w' => e = .returned (.bool (dB P)) ∧ Below w.heap.size w w' := matches_law g h ht s hs (dB P) ((dB_iff P).trans hP)

theorem bt_str {l : List Int} (h : ∀ b ∈ l, 0 ≤ b ∧ b ≤ 255) (i : Nat) (hi : i < l.length) : bt (strOfNums l) (i : Int) = l.getD i 0 := by
  have e := bytes_strOf h
  have hs : i < (strOfNums l).size := by rw [strOfNums_size]; exact hi
  have : (bytesOf (strOfNums l)).getD i 0 = bt (strOfNums l) (i : Int) := by
    unfold bytesOf bt
    have hs' : i < (strOfNums l).data.toList.length := by rw [Array.length_toList]; exact hs
    rw [dif_pos (show (i : Int).toNat < (strOfNums l).size from hs)]
    rw [List.getD_eq_getElem?_getD, List.getElem?_map, List.getElem?_eq_getElem hs']
    rfl
  rw [← this, e]
theorem okB_byte {b : Int} (h : okB b = true) : 0 ≤ b ∧ b ≤ 255 := by unfold okB at h; simp at h; omega
theorem at_str {l : List Int} (h : ∀ b ∈ l, okB b = true) : At (strOfNums l) 0 l :=
  at_self l (strOfNums l) 0 (by rw [strOfNums_size]; omega) fun i hi => by rw [Nat.zero_add]; exact bt_str (fun b hb => okB_byte (h b hb)) i hi
/-- Parse of a tree's string. -/
theorem parse_law {l : List Int} {t : Tr} (h : A1 l t) (hok : ∀ c ∈ l, okB c = true) (hz : t.size ≤ 512) (hl : l.length ≤ 8192) (w : World) :
    Calls Tryd.prog 25 #[.string (strOfNums l)] w fun e w' => ∃ E ec, e = .returned (.tuple #[.slice E (t.post 0).length ec, .int .i64 0]) ∧ Pt w' E ec (t.post 0) ∧ Below w.heap.size w w' := by
  obtain ⟨n, hn⟩ := h.reads (at_str hok) (by rw [strOfNums_size])
  have hall : okTo (strOfNums l) (strOfNums l).size = true := by
    rw [okTo_spec]
    intro i hi
    rw [strOfNums_size] at hi
    rw [bt_str (fun b hb => okB_byte (hok b hb)) i hi]
    refine hok _ ?_
    rw [List.getD_eq_getElem?_getD, List.getElem?_eq_getElem hi]; exact List.getElem_mem hi
  refine (parse_any (strOfNums l) w (by rw [strOfNums_size]; exact hl) n _ hn).mono ?_
  rintro e w' ⟨v, rfl, hR, hb⟩
  rw [if_pos hall, parse_tr hz] at hR
  obtain ⟨E, ec, rfl⟩ := Kd.R_slice hR
  rw [if_pos hall, parse_tr hz]
  exact ⟨E, ec, rfl, (Pt.of hR).2, hb⟩
/-- Print of a pattern in postorder. -/
theorem print_law {t : Tr} (ht : t.ok) (hz : t.size ≤ 512) {A : Option Addr} {c : Nat} {w : World} (h : Pt w A c (t.post 0)) :
    Calls Tryd.prog 19 #[.slice A (t.post 0).length c] w fun e w' => e = .returned (.tuple #[.string (strOfNums t.str), .int .i64 0]) ∧ Below w.heap.size w w' := by
  obtain ⟨u, e, _, g⟩ := Pst.fine ⟨t, rfl, ht⟩ (by rw [t.post_length]; exact hz)
  have g2 := isRe_unique g.good.is (by rw [t.post_length]; simpa using t.isRe 0 (lies_self t))
  rw [g2] at g
  exact print_of g.good A c w h.C h.hc _ (by rw [t.shown_re, t.shown1])
theorem Tr.str_length (t : Tr) : t.str.length ≤ 13 * t.size := by
  have h := PA.str_length (t.re 0)
  rw [t.str_re] at h
  have : (t.re 0).size = t.size := by
    have : ∀ (t : Tr) o, (t.re o).size = t.size := by
      intro t
      induction t with
      | emp => intro o; rfl
      | rng => intro o; rfl
      | seq a b iha ihb => intro o; simp [Tr.re, Re.size, Tr.size, iha, ihb]
      | alt a b iha ihb => intro o; simp [Tr.re, Re.size, Tr.size, iha, ihb]
      | rep a iha => intro o; simp [Tr.re, Re.size, Tr.size, iha]
    exact this t 0
  rw [this] at h
  exact h
/-- The tree's own machine. -/
theorem Tr.fine (t : Tr) (ht : t.ok) (hz : t.size ≤ 512) : Fine (t.post 0) (t.re 0) := by
  obtain ⟨u, e, _, g⟩ := Pst.fine ⟨t, rfl, ht⟩ (by rw [t.post_length]; exact hz)
  have g2 := isRe_unique g.good.is (by rw [t.post_length]; simpa using t.isRe 0 (lies_self t))
  rw [g2] at g
  exact g
/-- The language does not hang on the numbers. -/
theorem Tr.lang_re (t : Tr) : ∀ (o o' : Nat) (w : List Int), (t.re o).Lang w ↔ (t.re o').Lang w := by
  induction t with
  | emp => intro o o' w; exact Iff.rfl
  | rng lo hi => intro o o' w; exact Iff.rfl
  | seq a b iha ihb =>
    intro o o' w
    constructor
    · rintro ⟨u, v, e, h1, h2⟩; exact ⟨u, v, e, (iha _ _ _).1 h1, (ihb _ _ _).1 h2⟩
    · rintro ⟨u, v, e, h1, h2⟩; exact ⟨u, v, e, (iha _ _ _).1 h1, (ihb _ _ _).1 h2⟩
  | alt a b iha ihb =>
    intro o o' w
    constructor
    · rintro (h | h); exact .inl ((iha _ _ _).1 h); exact .inr ((ihb _ _ _).1 h)
    · rintro (h | h); exact .inl ((iha _ _ _).1 h); exact .inr ((ihb _ _ _).1 h)
  | rep a iha =>
    intro o o' w
    have key : ∀ o o' w, Star (a.re o).Lang w → Star (a.re o').Lang w := by
      intro o o' w h
      induction h with
      | nil => exact .nil
      | app u v hu hv ih => exact .app u v ((iha _ _ _).1 hu) ih
    exact ⟨key o o' w, key o' o w⟩
def Tr.Lang (t : Tr) (w : List Int) : Prop := (t.re 0).Lang w
theorem Tr.lang_at (t : Tr) (o : Nat) (w : List Int) : (t.re o).Lang w ↔ t.Lang w := t.lang_re o 0 w
theorem Tr.lang_seq (a b : Tr) (w : List Int) : (Tr.seq a b).Lang w ↔ ∃ u v, w = u ++ v ∧ a.Lang u ∧ b.Lang v := by
  constructor
  · rintro ⟨u, v, e, h1, h2⟩; exact ⟨u, v, e, h1, (b.lang_at _ _).1 h2⟩
  · rintro ⟨u, v, e, h1, h2⟩; exact ⟨u, v, e, h1, (b.lang_at _ _).2 h2⟩
theorem Tr.lang_alt (a b : Tr) (w : List Int) : (Tr.alt a b).Lang w ↔ a.Lang w ∨ b.Lang w := by
  constructor
  · rintro (h | h); exact .inl h; exact .inr ((b.lang_at _ _).1 h)
  · rintro (h | h); exact .inl h; exact .inr ((b.lang_at _ _).2 h)
theorem Tr.lang_rep (a : Tr) (w : List Int) : (Tr.rep a).Lang w ↔ Star a.Lang w := Iff.rfl
end Go.Proofs.YtaphblnelmncaaaDoor.PA
end

section
/- What the statements' walks share: Same, Literal. -/
set_option linter.unusedVariables false
namespace Go.Proofs.YtaphblnelmncaaaDoor.PA
open Go.RowKit Go.Proofs.YtaphblnelmncaaaDoorW.PrintWords Go.Proofs.YtaphblnelmncaaaDoorW.PrintLast Go.Proofs.YtaphblnelmncaaaDoorW.PrintMore

theorem rd_eq {p : List S50} {i : Nat} (h : i < p.length) : rd_T50 p (i : Int) = p[i] := by simp [rd_T50, List.getD_eq_getElem?_getD, h]
theorem same_l0 {p q : List S50} (hl : p.length = q.length) (hp : p.length ≤ 1000000000) : ∀ (n i : Nat), p.length + 1 - i ≤ n → i ≤ p.length → koineref04_Same.l0 n p q (i : Int) = some (dB (p.drop i = q.drop i))
  | 0, i, h, hi => by omega
  | n + 1, i, h, hi => by
    unfold koineref04_Same.l0
    by_cases hlt : i < p.length
    · have hq : i < q.length := by omega
      have e : wrap64 ((i : Int) + 1) = ((i + 1 : Nat) : Int) := by unfold wrap64; omega
      rw [if_pos (by omega), if_pos (by omega), if_pos (by omega), e, same_l0 hl hp n (i + 1) (by omega) (by omega), rd_eq hlt, rd_eq hq]
      have hd : p.drop i = q.drop i ↔ p[i] = q[i] ∧ p.drop (i + 1) = q.drop (i + 1) := by
        rw [List.drop_eq_getElem_cons hlt, List.drop_eq_getElem_cons hq, List.cons.injEq]
      generalize p[i] = x at *
      generalize q[i] = y at *
      obtain ⟨a0, a1, a2, a3, a4⟩ := x
      obtain ⟨b0, b1, b2, b3, b4⟩ := y
      simp only [Bool.or_eq_true, Bool.not_eq_true', beq_eq_false_iff_ne, ne_eq]
      by_cases hx : a0 = b0 ∧ a1 = b1 ∧ a2 = b2 ∧ a3 = b3 ∧ a4 = b4
      · obtain ⟨rfl, rfl, rfl, rfl, rfl⟩ := hx
        rw [if_neg (by simp)]
        congr 1
        exact dB_eq (by rw [hd]; simp)
      · rw [if_pos (by
          apply Classical.byContradiction
          intro hn
          apply hx
          simp only [not_or, Classical.not_not] at hn
          exact hn)]
        congr 1
        refine (dB_no ?_).symm
        rw [hd]
        rintro ⟨h1, _⟩
        injection h1 with h1 h2 h3 h4 h5
        exact hx ⟨h1, h2, h3, h4, h5⟩
    · have hi' : i = p.length := by omega
      rw [if_neg (by omega)]
      congr 1
      refine (dB_yes ?_).symm
      rw [List.drop_eq_nil_of_le (by omega), List.drop_eq_nil_of_le (by omega)]
/-- Same of two patterns. -/
theorem same_law {p q : List S50} {A B : Option Addr} {ca cb : Nat} {w : World} (h : Pt w A ca p) (k : Pt w B cb q) (hp : p.length ≤ 1000000000) :
    Calls Tryd.prog 27 #[.slice A p.length ca, .slice B q.length cb] w fun e w' => e = .returned (.bool (dB (p = q))) ∧ Below w.heap.size w w' := by
  have hf : koineref04_Same.f (p.length + 1) p q = some (dB (p = q)) := by
    unfold koineref04_Same.f
    by_cases hl : p.length = q.length
    · rw [if_pos (by omega)]
      have := same_l0 hl hp (p.length + 1) 0 (by omega) (by omega)
      simpa using this
    · rw [if_neg (by omega), dB_no (fun e => hl (by rw [e]))]
  exact (koineref04_Same.calls _ A ca p B cb q _ w h.C h.hc k.C k.hc hf).mono fun e w' ⟨he, hd⟩ => ⟨he, hd.below⟩

theorem same_yes {p : List S50} {A B : Option Addr} {ca cb : Nat} {w : World} (h : Pt w A ca p) (k : Pt w B cb p) (hp : p.length ≤ 1000000000) :
    Calls Tryd.prog 27 #[.slice A p.length ca, .slice B p.length cb] w fun e w' => e = .returned (.bool true) ∧ Below w.heap.size w w' := by
  have := same_law h k hp
  rwa [dB_yes rfl] at this
theorem same_no {p q : List S50} {A B : Option Addr} {ca cb : Nat} {w : World} (h : Pt w A ca p) (k : Pt w B cb q) (hp : p.length ≤ 1000000000) (hne : p ≠ q) :
    Calls Tryd.prog 27 #[.slice A p.length ca, .slice B q.length cb] w fun e w' => e = .returned (.bool false) ∧ Below w.heap.size w w' := by
  have := same_law h k hp
  rwa [dB_no hne] at this

/-! ### the literal's pattern -/
def litT : List Int → Tr
  | [] => .emp
  | b :: l => l.foldl (fun t c => .seq t (.rng c c)) (.rng b b)
theorem litT_snoc (b : Int) (l : List Int) (c : Int) : litT (b :: (l ++ [c])) = .seq (litT (b :: l)) (.rng c c) := by simp [litT]
theorem snoc_cases (l : List Int) : l = [] ∨ ∃ m c, l = m ++ [c] := by
  rcases List.eq_nil_or_concat l with h | ⟨m, c, h⟩
  · exact .inl h
  · exact .inr ⟨m, c, by simpa using h⟩
theorem litT_all {P : List Int → Tr → Prop} (h1 : ∀ b, P [b] (.rng b b)) (h2 : ∀ l t c, l ≠ [] → P l t → P (l ++ [c]) (.seq t (.rng c c))) : ∀ (n : Nat) (b : Int) (l : List Int), l.length = n → P (b :: l) (litT (b :: l))
  | 0, b, l, h => by rw [List.length_eq_zero_iff.1 h]; exact h1 b
  | n + 1, b, l, h => by
    rcases snoc_cases l with rfl | ⟨m, c, rfl⟩
    · simp at h
    · rw [litT_snoc]
      exact h2 (b :: m) _ c (by simp) (litT_all h1 h2 n b m (by simpa using h))
theorem litT_size (l : List Int) (h : l ≠ []) : (litT l).size + 1 = 2 * l.length := by
  obtain ⟨b, m, rfl⟩ := List.exists_cons_of_ne_nil h
  exact litT_all (P := fun l t => t.size + 1 = 2 * l.length) (fun b => rfl) (fun l t c _ h => by simp only [Tr.size, List.length_append, List.length_cons, List.length_nil]; omega) _ b m rfl
theorem litT_ok (l : List Int) (h : ∀ b ∈ l, 0 ≤ b ∧ b ≤ 255) : (litT l).ok := by
  cases l with
  | nil => trivial
  | cons b m =>
    refine litT_all (P := fun l t => (∀ b ∈ l, 0 ≤ b ∧ b ≤ 255) → t.ok) (fun b hb => ?_) (fun l t c _ ih hb => ?_) _ b m rfl h
    · have := hb b (by simp); exact ⟨this.1, Int.le_refl _, this.2⟩
    · have := hb c (by simp)
      exact ⟨ih (fun b hb' => hb b (by simp [hb'])), this.1, Int.le_refl _, this.2⟩
theorem litT_lang (l : List Int) : ∀ w, (litT l).Lang w ↔ w = l := by
  cases l with
  | nil => intro w; exact Iff.rfl
  | cons b m =>
    refine litT_all (P := fun l t => ∀ w, t.Lang w ↔ w = l) (fun b w => ?_) (fun l t c _ ih w => ?_) _ b m rfl
    · constructor
      · rintro ⟨x, rfl, h1, h2⟩; rw [show x = b by omega]
      · rintro rfl; exact ⟨b, rfl, Int.le_refl _, Int.le_refl _⟩
    · rw [Tr.lang_seq]
      constructor
      · rintro ⟨u, v, rfl, h1, x, rfl, h2, h3⟩
        rw [(ih u).1 h1, show x = c by omega]
      · rintro rfl
        exact ⟨l, [c], rfl, (ih l).2 rfl, c, rfl, Int.le_refl _, Int.le_refl _⟩
theorem bt_bytes (s : ByteArray) (i : Nat) (h : i < s.size) : bt s (i : Int) = (bytesOf s).getD i 0 := by
  have hs' : i < s.data.toList.length := by rw [Array.length_toList]; exact h
  unfold bytesOf bt
  rw [dif_pos (show (i : Int).toNat < s.size from h), List.getD_eq_getElem?_getD, List.getElem?_map, List.getElem?_eq_getElem hs']
  rfl
theorem bytes_rng (s : ByteArray) : ∀ b ∈ bytesOf s, 0 ≤ b ∧ b ≤ 255 := by
  intro b hb
  unfold bytesOf at hb
  rw [List.mem_map] at hb
  obtain ⟨x, _, rfl⟩ := hb
  have := x.toNat_lt
  omega
theorem str_bytes (s : ByteArray) : strOfNums (bytesOf s) = s := by
  unfold strOfNums bytesOf
  apply ByteArray.ext
  apply Array.ext'
  simp only [List.map_map]
  conv => rhs; rw [← List.map_id s.data.toList]
  apply List.map_congr_left
  intro x _
  simp
theorem lit_l0 (s : ByteArray) (hs : s.size ≤ 256) : ∀ (n i : Nat) (out : List S50), s.size + 1 - i ≤ n → i ≤ s.size → (i = 0 ∧ out = [] ∨ 0 < i ∧ out = (litT ((bytesOf s).take i)).post 0) → 0 < s.size → pattern_Literal.l0 n s out (s.size : Int) (i : Int) = some ((litT (bytesOf s)).post 0, 0)
  | 0, i, out, h, hi, _, _ => by omega
  | n + 1, i, out, h, hi, ho, h0 => by
    have hbl := bytesOf_length s
    unfold pattern_Literal.l0
    by_cases hlt : i < s.size
    · have hb := bytes_rng s ((bytesOf s).getD i 0) (by rw [List.getD_eq_getElem?_getD, List.getElem?_eq_getElem (by omega)]; exact List.getElem_mem _)
      have e : wrap64 ((i : Int) + 1) = ((i + 1 : Nat) : Int) := by unfold wrap64; omega
      have eb : wrap64 (bt s (i : Int)) = (bytesOf s).getD i 0 := by rw [bt_bytes s i hlt]; unfold wrap64; omega
      have et : (bytesOf s).take (i + 1) = (bytesOf s).take i ++ [(bytesOf s).getD i 0] := by
        have hib : i < (bytesOf s).length := by omega
        rw [List.take_succ_eq_append_getElem hib]; simp [List.getD_eq_getElem?_getD, hib]
      have hne : i = 0 ∨ ((bytesOf s).take i ≠ [] ∧ (litT ((bytesOf s).take i)).size + 1 = 2 * i) := by
        by_cases hz : i = 0
        · exact .inl hz
        · have hne : (bytesOf s).take i ≠ [] := by intro hx; have := congrArg List.length hx; rw [List.length_take, List.length_nil] at this; omega
          exact .inr ⟨hne, by rw [litT_size _ hne, List.length_take]; omega⟩
      have hol : out.length ≤ 1000 := by
        rcases ho with ⟨_, rfl⟩ | ⟨h1, rfl⟩
        · simp
        · rw [Tr.post_length]; omega
      rw [if_pos (by omega), if_pos (by omega), if_pos (by omega), if_pos (by omega)]
      simp only [Option.bind_some]
      rw [eb, e]
      rcases ho with ⟨rfl, rfl⟩ | ⟨h1, rfl⟩
      · rw [if_neg (by omega)]
        refine lit_l0 s hs n 1 _ (by omega) (by omega) (.inr ⟨by omega, ?_⟩) h0
        rw [show (1 : Nat) = 0 + 1 from rfl, et]
        rfl
      · rw [if_pos (by omega), if_pos (by simp; omega)]
        refine lit_l0 s hs n (i + 1) _ (by omega) (by omega) (.inr ⟨by omega, ?_⟩) h0
        obtain ⟨hne, hsz⟩ := hne.resolve_left (by omega)
        obtain ⟨b, m, hbm⟩ := List.exists_cons_of_ne_nil hne
        rw [et, hbm, List.cons_append, litT_snoc, ← hbm, Tr.post_length]
        simp only [Tr.post, Tr.size, List.append_assoc, List.cons_append, List.nil_append, Nat.zero_add]
        have w1 : wrap64 (((litT ((bytesOf s).take i)).size : Int) - 1) = (((litT ((bytesOf s).take i)).size - 1 : Nat) : Int) := by unfold wrap64; omega
        have w2 : wrap64 ((((litT ((bytesOf s).take i)).size - 1 : Nat) : Int) + 1) = (((litT ((bytesOf s).take i)).size + 1 - 1 : Nat) : Int) := by unfold wrap64; omega
        rw [w1, w2]
    · have hi' : i = s.size := by omega
      rw [if_neg (by omega)]
      rcases ho with ⟨rfl, _⟩ | ⟨_, rfl⟩
      · omega
      · rw [List.take_of_length_le (by omega)]
/-- The program's Literal. -/
theorem literal_law {s : ByteArray} (hs : s.size ≤ 256) (w : World) :
    Calls Tryd.prog 36 #[.string s] w fun e w' => ∃ E ec, e = .returned (.tuple #[.slice E ((litT (bytesOf s)).post 0).length ec, .int .i64 0]) ∧ Pt w' E ec ((litT (bytesOf s)).post 0) ∧ Below w.heap.size w w' := by
  have hf : pattern_Literal.f (s.size + 1) s = some ((litT (bytesOf s)).post 0, 0) := by
    unfold pattern_Literal.f
    rw [if_neg (by unfold wrap64; omega)]
    by_cases h : s.toList = []
    · rw [if_pos h]
      have : bytesOf s = [] := by unfold bytesOf; rw [← Go.ByteArray.toList_eq, h]; rfl
      rw [this]; rfl
    · rw [if_neg h]
      have h0 : 0 < s.size := by
        rw [Nat.pos_iff_ne_zero]
        intro hz
        apply h
        rw [Go.ByteArray.toList_eq]
        exact List.length_eq_zero_iff.1 (by rw [Array.length_toList]; exact hz)
      exact lit_l0 s hs (s.size + 1) 0 [] (by omega) (by omega) (.inl ⟨rfl, rfl⟩) h0
  refine (pattern_Literal.calls _ s _ _ w hf).mono ?_
  rintro e w' ⟨v, rfl, hR, hb⟩
  obtain ⟨E, ec, rfl⟩ := Kd.R_slice hR
  exact ⟨E, ec, rfl, (Pt.of hR).2, hb⟩
/-- Check of a pattern in memory. -/
theorem check_law {p : List S50} {A : Option Addr} {c : Nat} {w : World} (h : Pt w A c p) (hp : p.length * 40 ≤ 140737488351232) {r : Int} (hr : chk p = r) :
    Calls Tryd.prog 21 #[.slice A p.length c] w fun e w' => e = .returned (.int .i64 r) ∧ Below w.heap.size w w' := by
  rw [← hr]; exact check_any A c p w h.C h.hc hp
end Go.Proofs.YtaphblnelmncaaaDoor.PA
end

section
/- The reader's functions as a parser of trees: what it reads, what that costs, that it ends. -/
set_option linter.unusedVariables false
namespace Go.Proofs.YtaphblnelmncaaaDoor.PA
open Go.RowKit Go.Proofs.YtaphblnelmncaaaDoorW.PrintWords Go.Proofs.YtaphblnelmncaaaDoorW.PrintLast Go.Proofs.YtaphblnelmncaaaDoorW.PrintMore

/-- The byte c lies at k. -/
def is (s : ByteArray) (k : Nat) (c : Int) : Bool := decide (k < s.size) && bt s (k : Int) == c
/-- A character: its byte, and the offset behind it. -/
def rChar (s : ByteArray) (k : Nat) : Option (Int × Nat) :=
  if k < s.size ∧ plainB (bt s (k : Int)) = true then some (bt s (k : Int), k + 1)
  else if k + 3 < s.size ∧ bt s (k : Int) = 92 ∧ bt s ((k + 1 : Nat) : Int) = 120 ∧ 0 ≤ hexV (bt s ((k + 2 : Nat) : Int)) ∧ 0 ≤ hexV (bt s ((k + 3 : Nat) : Int)) then some (16 * hexV (bt s ((k + 2 : Nat) : Int)) + hexV (bt s ((k + 3 : Nat) : Int)), k + 4)
  else none
/-- What stands between brackets. -/
def rRange (s : ByteArray) (k : Nat) : Option (Int × Int × Nat) :=
  (rChar s k).bind fun a => if is s a.2 45 then (rChar s (a.2 + 1)).bind fun b => if is s b.2 93 = true ∧ a.1 ≤ b.1 then some (a.1, b.1, b.2 + 1) else none else none
def rStar (s : ByteArray) : Nat → Tr → Nat → Option (Option (Tr × Nat))
  | 0, _, _ => none
  | n + 1, t, k => if is s k 42 then rStar s n (.rep t) (k + 1) else some (some (t, k))
mutual
def rAtom (s : ByteArray) : Nat → Nat → Option (Option (Tr × Nat))
  | 0, _ => none
  | n + 1, k =>
    if is s k 91 then
      match rRange s (k + 1) with
      | none => some none
      | some (lo, hi, k') => rStar s n (.rng lo hi) k'
    else if is s k 40 then
      if is s (k + 1) 41 then rStar s n .emp (k + 2)
      else (rAlt s n (k + 1)).bind fun x => match x with
        | none => some none
        | some (t, k') => if is s k' 41 then rStar s n t (k' + 1) else some none
    else match rChar s k with
      | none => some none
      | some (b, k') => rStar s n (.rng b b) k'
def rSeq (s : ByteArray) : Nat → Nat → Option (Option (Tr × Nat))
  | 0, _ => none
  | n + 1, k => (rAtom s n k).bind fun x => match x with
    | none => some none
    | some (t, k') => rSeqL s n t k'
def rSeqL (s : ByteArray) : Nat → Tr → Nat → Option (Option (Tr × Nat))
  | 0, _, _ => none
  | n + 1, t, k =>
    if k < s.size ∧ bt s (k : Int) ≠ 124 ∧ bt s (k : Int) ≠ 41 then (rAtom s n k).bind fun x => match x with
      | none => some none
      | some (u, k') => rSeqL s n (.seq t u) k'
    else some (some (t, k))
def rAlt (s : ByteArray) : Nat → Nat → Option (Option (Tr × Nat))
  | 0, _ => none
  | n + 1, k => (rSeq s n k).bind fun x => match x with
    | none => some none
    | some (t, k') => rAltL s n t k'
def rAltL (s : ByteArray) : Nat → Tr → Nat → Option (Option (Tr × Nat))
  | 0, _, _ => none
  | n + 1, t, k =>
    if is s k 124 then (rSeq s n (k + 1)).bind fun x => match x with
      | none => some none
      | some (u, k') => rAltL s n (.alt t u) k'
    else some (some (t, k))
end

/-! ### the program's reader does this -/
theorem isNext_is (s : ByteArray) (b : Int) (st : St) : isNext s b st = is s st.pos b := rfl
theorem is_iff {s : ByteArray} {k : Nat} {c : Int} : is s k c = true ↔ k < s.size ∧ bt s (k : Int) = c := by unfold is; simp
theorem pass_is {s : ByteArray} {b : Int} {st : St} (h : is s st.pos b = true) : pass s b st = ⟨st.pos + 1, st.out, st.wrong⟩ := by unfold pass; rw [if_pos (show isNext s b st = true from h)]
theorem charF_wrong {s : ByteArray} {st : St} (h : st.wrong = true) : (charF s st).2.wrong = true := by
  have p1 := (pass_out s 92 st).2.1
  have p2 := (pass_out s 120 (pass s 92 st)).2.1
  unfold charF St.bad
  split
  · exact h
  · split
    · split
      · split
        · split
          · simp only; rw [p2, p1]; exact h
          · rfl
        · rfl
      · rfl
    · rfl
theorem char_sim (s : ByteArray) (st : St) (hw : st.wrong = false) : (∃ b k, rChar s st.pos = some (b, k) ∧ charF s st = (b, ⟨k, st.out, false⟩)) ∨ (rChar s st.pos = none ∧ (charF s st).2.wrong = true) := by
  unfold rChar charF
  by_cases h1 : st.pos < s.size ∧ plainB (bt s (st.pos : Int)) = true
  · rw [if_pos h1, if_pos h1]
    exact .inl ⟨_, _, rfl, by rw [hw]⟩
  · rw [if_neg h1, if_neg h1]
    by_cases h2 : is s st.pos 92 = true
    · have e2 : isNext s 92 st = true := h2
      have p2 := pass_is h2
      rw [if_pos e2, p2]
      obtain ⟨q1, q2⟩ := is_iff.1 h2
      by_cases h3 : is s (st.pos + 1) 120 = true
      · have e3 : isNext s 120 ⟨st.pos + 1, st.out, st.wrong⟩ = true := h3
        have p3 : pass s 120 ⟨st.pos + 1, st.out, st.wrong⟩ = ⟨st.pos + 1 + 1, st.out, st.wrong⟩ := pass_is h3
        obtain ⟨q3, q4⟩ := is_iff.1 h3
        rw [if_pos e3, p3]
        simp only
        by_cases h4 : st.pos + 1 + 1 + 1 < s.size
        · rw [if_pos h4]
          have c1 : ((st.pos + 1 + 1 : Nat) : Int) = ((st.pos + 2 : Nat) : Int) := rfl
          have c2 : ((st.pos + 1 + 1 : Nat) : Int) + 1 = ((st.pos + 3 : Nat) : Int) := by omega
          rw [c2, c1]
          by_cases h5 : 0 ≤ hexV (bt s ((st.pos + 2 : Nat) : Int)) ∧ 0 ≤ hexV (bt s ((st.pos + 3 : Nat) : Int))
          · rw [if_pos h5, if_pos ⟨by omega, q2, q4, h5.1, h5.2⟩]
            exact .inl ⟨_, _, rfl, by rw [hw]⟩
          · rw [if_neg h5, if_neg (fun h => h5 ⟨h.2.2.2.1, h.2.2.2.2⟩)]
            exact .inr ⟨rfl, rfl⟩
        · rw [if_neg h4, if_neg (fun h => h4 (by omega))]
          exact .inr ⟨rfl, rfl⟩
      · have e3 : ¬ isNext s 120 ⟨st.pos + 1, st.out, st.wrong⟩ = true := h3
        rw [if_neg e3, if_neg (fun h => h3 (is_iff.2 ⟨by omega, h.2.2.1⟩))]
        exact .inr ⟨rfl, rfl⟩
    · have e2 : ¬ isNext s 92 st = true := h2
      rw [if_neg e2, if_neg (fun h => h2 (is_iff.2 ⟨by omega, h.2.1⟩))]
      exact .inr ⟨rfl, rfl⟩
theorem range_sim (s : ByteArray) (st : St) (hw : st.wrong = false) : (∃ lo hi k, rRange s st.pos = some (lo, hi, k) ∧ rangeF s st = (⟨1, lo, hi, 0, 0⟩, ⟨k, st.out, false⟩)) ∨ (rRange s st.pos = none ∧ (rangeF s st).2.wrong = true) := by
  unfold rRange rangeF
  rcases char_sim s st hw with ⟨lo, k1, h1, h2⟩ | ⟨h1, h2⟩
  · rw [h1, h2]
    simp only [Option.bind_some]
    by_cases h3 : is s k1 45 = true
    · have e3 : isNext s 45 (⟨k1, st.out, false⟩ : St) = true := h3
      have p3 : pass s 45 (⟨k1, st.out, false⟩ : St) = ⟨k1 + 1, st.out, false⟩ := pass_is h3
      rw [if_pos h3, e3, p3]
      rcases char_sim s ⟨k1 + 1, st.out, false⟩ rfl with ⟨hi, k2, h4, h5⟩ | ⟨h4, h5⟩
      · simp only at h4 h5
        rw [h4, h5]
        simp only [Option.bind_some, Bool.not_true, Bool.or_self, Bool.false_eq_true, if_false]
        by_cases h6 : is s k2 93 = true
        · have e6 : isNext s 93 (⟨k2, st.out, false⟩ : St) = true := h6
          have p6 : pass s 93 (⟨k2, st.out, false⟩ : St) = ⟨k2 + 1, st.out, false⟩ := pass_is h6
          rw [e6, p6]
          by_cases h7 : lo ≤ hi
          · rw [if_pos ⟨h6, h7⟩]
            exact .inl ⟨_, _, _, rfl, by simp [St.bad, h7]⟩
          · rw [if_neg (fun h => h7 h.2)]
            exact .inr ⟨rfl, by simp [St.bad]; omega⟩
        · have e6 : isNext s 93 (⟨k2, st.out, false⟩ : St) = false := Bool.eq_false_iff.2 h6
          rw [if_neg (fun h => h6 h.1), e6]
          exact .inr ⟨rfl, by simp [St.bad]⟩
      · simp only at h4
        rw [h4]
        simp only [Option.bind_none]
        refine .inr ⟨trivial, ?_⟩
        simp only [h5, Bool.true_or, if_true]
        rfl
    · have e3 : isNext s 45 (⟨k1, st.out, false⟩ : St) = false := Bool.eq_false_iff.2 h3
      rw [if_neg h3, e3]
      refine .inr ⟨rfl, ?_⟩
      simp only [Bool.not_false, Bool.or_true, if_true]
      rfl
  · rw [h1]
    refine .inr ⟨rfl, ?_⟩
    have h3 : (charF s (pass s 45 (charF s st).2)).2.wrong = true := charF_wrong (by rw [(pass_out s 45 _).2.1]; exact h2)
    simp only [h3, Bool.true_or, if_true]
    rfl
/-- What the program's reader has done, said by trees. -/
def Sim (st : St) (r : Int × St) (x : Option (Option (Tr × Nat))) : Prop := (x = some none ∧ r.2.wrong = true) ∨ ∃ t k, x = some (some (t, k)) ∧ r = (idx st t, ⟨k, st.out ++ t.post st.out.length, false⟩)
structure AllSim (s : ByteArray) (n : Nat) : Prop where
  bad : ∀ i st r, st.wrong = true → starF s n i st = some r → r.2.wrong = true
  badS : ∀ i st r, st.wrong = true → seqLoop s n i st = some r → r.2.wrong = true
  badA : ∀ i st r, st.wrong = true → altLoop s n i st = some r → r.2.wrong = true
  star : ∀ st t k r, starF s n (idx st t) ⟨k, st.out ++ t.post st.out.length, false⟩ = some r → Sim st r (rStar s n t k)
  atom : ∀ st r, st.wrong = false → atomF s n st = some r → Sim st r (rAtom s n st.pos)
  seq : ∀ st r, st.wrong = false → seqF s n st = some r → Sim st r (rSeq s n st.pos)
  seqL : ∀ st t k r, seqLoop s n (idx st t) ⟨k, st.out ++ t.post st.out.length, false⟩ = some r → Sim st r (rSeqL s n t k)
  alt : ∀ st r, st.wrong = false → altF s n st = some r → Sim st r (rAlt s n st.pos)
  altL : ∀ st t k r, altLoop s n (idx st t) ⟨k, st.out ++ t.post st.out.length, false⟩ = some r → Sim st r (rAltL s n t k)
theorem add_rep (st : St) (t : Tr) (k : Nat) : (⟨k, st.out ++ t.post st.out.length, false⟩ : St).add ⟨4, 0, 0, idx st t, 0⟩ = ⟨k, st.out ++ (Tr.rep t).post st.out.length, false⟩ := by
  simp only [St.add, Tr.post, idx, List.append_assoc]
theorem len_rep (st : St) (t : Tr) : ((st.out ++ t.post st.out.length).length : Int) = idx st (.rep t) := by
  rw [List.length_append, t.post_length]; unfold idx; simp only [Tr.size]; omega
theorem add_two (st : St) (t u : Tr) (k : Nat) (K : Int) (T : Tr) (hT : ∀ o, T.post o = t.post o ++ (u.post (o + t.size) ++ [⟨K, 0, 0, ((o + t.size - 1 : Nat) : Int), ((o + t.size + u.size - 1 : Nat) : Int)⟩])) :
    (⟨k, (st.out ++ t.post st.out.length) ++ u.post (st.out ++ t.post st.out.length).length, false⟩ : St).add ⟨K, 0, 0, idx st t, idx ⟨k, st.out ++ t.post st.out.length, false⟩ u⟩ = ⟨k, st.out ++ T.post st.out.length, false⟩ := by
  simp only [St.add, hT, idx, List.append_assoc, List.length_append, t.post_length]
theorem len_two (st : St) (t u T : Tr) (hT : T.size = t.size + u.size + 1) : (((st.out ++ t.post st.out.length) ++ u.post (st.out ++ t.post st.out.length).length).length : Int) = idx st T := by
  simp only [List.length_append, t.post_length, u.post_length]; unfold idx; rw [hT]; omega
theorem idx_k (st : St) (o : List S50) (k k' : Nat) (w w' : Bool) (u : Tr) : idx ⟨k, o, w⟩ u = idx ⟨k', o, w'⟩ u := rfl
theorem allSim (s : ByteArray) : ∀ n, AllSim s n
  | 0 => ⟨fun _ _ _ _ h => by simp [starF] at h, fun _ _ _ _ h => by simp [seqLoop] at h, fun _ _ _ _ h => by simp [altLoop] at h, fun _ _ _ _ h => by simp [starF] at h, fun _ _ _ h => by simp [atomF] at h, fun _ _ _ h => by simp [seqF] at h, fun _ _ _ _ h => by simp [seqLoop] at h, fun _ _ _ h => by simp [altF] at h, fun _ _ _ _ h => by simp [altLoop] at h⟩
  | n + 1 => by
    have ih := allSim s n
    refine ⟨?_, ?_, ?_, ?_, ?_, ?_, ?_, ?_, ?_⟩
    · intro i st r hw h
      rw [starF, if_pos hw] at h
      cases h; exact hw
    · intro i st r hw h
      rw [seqLoop, hw] at h
      simp at h
      subst h; exact hw
    · intro i st r hw h
      rw [altLoop, if_pos hw] at h
      cases h; exact hw
    · intro st t k r h
      rw [starF, if_neg (by simp)] at h
      rw [rStar]
      by_cases h1 : is s k 42 = true
      · rw [if_pos (show isNext s 42 (⟨k, st.out ++ t.post st.out.length, false⟩ : St) = true from h1)] at h
        rw [show pass s 42 (⟨k, st.out ++ t.post st.out.length, false⟩ : St) = ⟨k + 1, st.out ++ t.post st.out.length, false⟩ from pass_is h1, add_rep, len_rep] at h
        rw [if_pos h1]
        exact ih.star st _ _ _ h
      · rw [if_neg (show ¬ isNext s 42 (⟨k, st.out ++ t.post st.out.length, false⟩ : St) = true from h1)] at h
        rw [if_neg h1]
        cases h
        exact .inr ⟨t, k, rfl, rfl⟩
    · intro st r hw h
      rw [atomF] at h
      rw [rAtom]
      by_cases h1 : is s st.pos 91 = true
      · rw [if_pos (show isNext s 91 st = true from h1)] at h
        rw [pass_is h1, hw] at h
        rw [if_pos h1]
        rcases range_sim s ⟨st.pos + 1, st.out, false⟩ rfl with ⟨lo, hi, k, g1, g2⟩ | ⟨g1, g2⟩
        · simp only at g1 g2
          rw [g1]
          rw [g2] at h
          exact ih.star st (.rng lo hi) k r h
        · simp only at g1
          rw [g1]
          exact .inl ⟨rfl, ih.bad _ _ _ (by simp only [St.add]; exact g2) h⟩
      · rw [if_neg (show ¬ isNext s 91 st = true from h1)] at h
        rw [if_neg h1]
        by_cases h2 : is s st.pos 40 = true
        · rw [if_pos (show isNext s 40 st = true from h2)] at h
          rw [pass_is h2, hw] at h
          rw [if_pos h2]
          by_cases h3 : is s (st.pos + 1) 41 = true
          · rw [if_pos (show isNext s 41 (⟨st.pos + 1, st.out, false⟩ : St) = true from h3)] at h
            rw [show pass s 41 (⟨st.pos + 1, st.out, false⟩ : St) = ⟨st.pos + 1 + 1, st.out, false⟩ from pass_is h3] at h
            rw [if_pos h3]
            exact ih.star st .emp _ r h
          · rw [if_neg (show ¬ isNext s 41 (⟨st.pos + 1, st.out, false⟩ : St) = true from h3)] at h
            rw [if_neg h3]
            obtain ⟨r1, g1, g2⟩ := Option.bind_eq_some_iff.1 h
            rcases ih.alt _ _ rfl g1 with ⟨e1, e2⟩ | ⟨t, k, e1, e2⟩
            · simp only at e1
              rw [e1]
              rw [if_pos e2] at g2
              exact .inl ⟨rfl, ih.bad _ _ _ rfl g2⟩
            · simp only at e1
              rw [e1]
              rw [e2] at g2
              simp only [Bool.false_eq_true, if_false] at g2
              simp only [Option.bind_some]
              by_cases h4 : is s k 41 = true
              · rw [if_pos h4]
                rw [show pass s 41 (⟨k, st.out ++ t.post st.out.length, false⟩ : St) = ⟨k + 1, st.out ++ t.post st.out.length, false⟩ from pass_is h4, show isNext s 41 (⟨k, st.out ++ t.post st.out.length, false⟩ : St) = true from h4] at g2
                exact ih.star st t _ r g2
              · rw [if_neg h4]
                rw [show isNext s 41 (⟨k, st.out ++ t.post st.out.length, false⟩ : St) = false from Bool.eq_false_iff.2 h4] at g2
                exact .inl ⟨rfl, ih.bad _ _ _ rfl g2⟩
        · rw [if_neg (show ¬ isNext s 40 st = true from h2)] at h
          rw [if_neg h2]
          rcases char_sim s st hw with ⟨b, k, g1, g2⟩ | ⟨g1, g2⟩
          · rw [g1]
            rw [g2] at h
            exact ih.star st (.rng b b) k r h
          · rw [g1]
            exact .inl ⟨rfl, ih.bad _ _ _ (by simp only [St.add]; exact g2) h⟩
    · intro st r hw h
      rw [seqF] at h
      rw [rSeq]
      obtain ⟨r1, g1, g2⟩ := Option.bind_eq_some_iff.1 h
      rcases ih.atom _ _ hw g1 with ⟨e1, e2⟩ | ⟨t, k, e1, e2⟩
      · rw [e1]
        exact .inl ⟨rfl, ih.badS _ _ _ e2 g2⟩
      · rw [e1]
        rw [e2] at g2
        exact ih.seqL st t k r g2
    · intro st t k r h
      rw [seqLoop] at h
      rw [rSeqL]
      by_cases h1 : k < s.size ∧ bt s (k : Int) ≠ 124 ∧ bt s (k : Int) ≠ 41
      · rw [if_pos (by simp only [Bool.not_false, Bool.true_and, Bool.and_eq_true, decide_eq_true_eq, bne_iff_ne]; exact h1)] at h
        rw [if_pos h1]
        obtain ⟨r1, g1, g2⟩ := Option.bind_eq_some_iff.1 h
        rcases ih.atom _ _ rfl g1 with ⟨e1, e2⟩ | ⟨u, k', e1, e2⟩
        · simp only at e1
          rw [e1]
          exact .inl ⟨rfl, ih.badS _ _ _ (by simp only [St.add]; exact e2) g2⟩
        · simp only at e1
          rw [e1]
          rw [e2] at g2
          simp only at g2
          rw [idx_k st _ k k' false false u, add_two st t u k' 2 (.seq t u) (fun o => rfl), len_two st t u (.seq t u) rfl] at g2
          exact ih.seqL st (.seq t u) k' r g2
      · rw [if_neg (by simp only [Bool.not_false, Bool.true_and, Bool.and_eq_true, decide_eq_true_eq, bne_iff_ne]; exact h1)] at h
        rw [if_neg h1]
        cases h
        exact .inr ⟨t, k, rfl, rfl⟩
    · intro st r hw h
      rw [altF] at h
      rw [rAlt]
      obtain ⟨r1, g1, g2⟩ := Option.bind_eq_some_iff.1 h
      rcases ih.seq _ _ hw g1 with ⟨e1, e2⟩ | ⟨t, k, e1, e2⟩
      · rw [e1]
        exact .inl ⟨rfl, ih.badA _ _ _ e2 g2⟩
      · rw [e1]
        rw [e2] at g2
        exact ih.altL st t k r g2
    · intro st t k r h
      rw [altLoop, if_neg (by simp)] at h
      rw [rAltL]
      by_cases h1 : is s k 124 = true
      · rw [if_pos (show isNext s 124 (⟨k, st.out ++ t.post st.out.length, false⟩ : St) = true from h1)] at h
        rw [show pass s 124 (⟨k, st.out ++ t.post st.out.length, false⟩ : St) = ⟨k + 1, st.out ++ t.post st.out.length, false⟩ from pass_is h1] at h
        rw [if_pos h1]
        obtain ⟨r1, g1, g2⟩ := Option.bind_eq_some_iff.1 h
        rcases ih.seq _ _ rfl g1 with ⟨e1, e2⟩ | ⟨u, k', e1, e2⟩
        · simp only at e1
          rw [e1]
          exact .inl ⟨rfl, ih.badA _ _ _ (by simp only [St.add]; exact e2) g2⟩
        · simp only at e1
          rw [e1]
          rw [e2] at g2
          simp only at g2
          rw [idx_k st _ (k + 1) k' false false u, add_two st t u k' 3 (.alt t u) (fun o => rfl), len_two st t u (.alt t u) rfl] at g2
          exact ih.altL st (.alt t u) k' r g2
      · rw [if_neg (show ¬ isNext s 124 (⟨k, st.out ++ t.post st.out.length, false⟩ : St) = true from h1)] at h
        rw [if_neg h1]
        cases h
        exact .inr ⟨t, k, rfl, rfl⟩

/-! ### what is read, and what it costs -/
def Okay (s : ByteArray) (k k' : Nat) : Prop := ∀ i, k ≤ i → i < k' → i < s.size ∧ okB (bt s (i : Int)) = true
theorem Okay.join {s : ByteArray} {a b c : Nat} (h : Okay s a b) (k : Okay s b c) : Okay s a c := fun i h1 h2 => by
  by_cases hb : i < b
  · exact h i h1 hb
  · exact k i (by omega) h2
theorem okay_one {s : ByteArray} {k : Nat} {c : Int} (h : is s k c = true) (hc : okB c = true) : Okay s k (k + 1) := fun i h1 h2 => by
  obtain ⟨h3, h4⟩ := is_iff.1 h
  rw [show i = k by omega]
  exact ⟨h3, by rw [h4]; exact hc⟩
theorem hex_ok {b : Int} (h : 0 ≤ hexV b) : okB b = true ∧ 0 ≤ hexV b ∧ hexV b ≤ 15 := by
  unfold hexV at *
  unfold okB
  split
  · simp; omega
  · split
    · simp; omega
    · rename_i h1 h2
      rw [if_neg h1, if_neg h2] at h
      omega
theorem char_cost {s : ByteArray} {k k' : Nat} {b : Int} (h : rChar s k = some (b, k')) : 0 ≤ b ∧ b ≤ 255 ∧ k + (chrL b).length ≤ k' ∧ Okay s k k' ∧ k < k' := by
  unfold rChar at h
  split at h
  · rename_i h1
    cases h
    have := plain_not h1.2
    refine ⟨by omega, by omega, ?_, fun i h2 h3 => ?_, by omega⟩
    · unfold chrL; rw [if_pos h1.2]; simp
    · rw [show i = k by omega]
      exact ⟨h1.1, by unfold okB; simp; omega⟩
  · split at h
    · rename_i h1 h2
      cases h
      obtain ⟨a1, a2, a3, a4, a5⟩ := h2
      have b4 := hex_ok a4
      have b5 := hex_ok a5
      have := chrL_length (16 * hexV (bt s ((k + 2 : Nat) : Int)) + hexV (bt s ((k + 3 : Nat) : Int)))
      refine ⟨by omega, by omega, by omega, fun i h3 h4 => ⟨by omega, ?_⟩, by omega⟩
      have hi : i = k ∨ i = k + 1 ∨ i = k + 2 ∨ i = k + 3 := by omega
      rcases hi with rfl | rfl | rfl | rfl
      · rw [a2]; decide
      · rw [a3]; decide
      · exact b4.1
      · exact b5.1
    · cases h
theorem range_cost {s : ByteArray} {k k' : Nat} {lo hi : Int} (h : rRange s k = some (lo, hi, k')) : (Tr.rng lo hi).ok ∧ k + (Tr.rng lo hi).str.length ≤ k' + 1 ∧ Okay s k k' ∧ k < k' := by
  unfold rRange at h
  obtain ⟨⟨b1, k1⟩, h1, h2⟩ := Option.bind_eq_some_iff.1 h
  simp only at h2
  split at h2
  · rename_i h3
    obtain ⟨⟨b2, k2⟩, h4, h5⟩ := Option.bind_eq_some_iff.1 h2
    simp only at h5
    split at h5
    · rename_i h6
      cases h5
      obtain ⟨c1, c2, c3, c4, c5⟩ := char_cost h1
      obtain ⟨d1, d2, d3, d4, d5⟩ := char_cost h4
      refine ⟨⟨c1, h6.2, d2⟩, ?_, ((c4.join (okay_one h3 (by decide))).join d4).join (okay_one h6.1 (by decide)), by omega⟩
      unfold Tr.str
      split
      · simp only [List.length_cons, List.length_append, List.length_nil]; omega
      · omega
    · cases h5
  · cases h2
/-- A tree has been read from k to k', by a reader of level lv. -/
def Got (s : ByteArray) (lv : Int) (k : Nat) (t : Tr) (k' : Nat) : Prop := t.ok ∧ k + (t.shown lv).length ≤ k' ∧ Okay s k k' ∧ k < k'
theorem shown_len (t : Tr) (lv : Int) : (t.shown lv).length = if t.lev < lv then t.str.length + 2 else t.str.length := by
  unfold Tr.shown par
  by_cases h : t.lev < lv
  · rw [if_pos (by simpa using h), if_pos h]; simp
  · rw [if_neg (by simpa using h), if_neg h]
theorem shown_le (t : Tr) {a b : Int} (h : a ≤ b) : (t.shown a).length ≤ (t.shown b).length := by
  rw [shown_len, shown_len]; split <;> split <;> omega
theorem shown_max (t : Tr) (lv : Int) : (t.shown lv).length ≤ (t.shown 1).length + 2 := by
  have := t.lev_range
  rw [shown_len, shown_len]; split <;> split <;> omega
theorem Got.down {s : ByteArray} {a b : Int} {k k' : Nat} {t : Tr} (h : Got s b k t k') (hab : a ≤ b) : Got s a k t k' := ⟨h.1, by have := shown_le t hab; have := h.2.1; omega, h.2.2⟩
structure AllGot (s : ByteArray) (n : Nat) : Prop where
  star : ∀ k0 t k t' k', Got s 3 k0 t k → rStar s n t k = some (some (t', k')) → Got s 3 k0 t' k'
  atom : ∀ k t k', rAtom s n k = some (some (t, k')) → Got s 3 k t k'
  seq : ∀ k t k', rSeq s n k = some (some (t, k')) → Got s 2 k t k'
  seqL : ∀ k0 t k t' k', Got s 2 k0 t k → rSeqL s n t k = some (some (t', k')) → Got s 2 k0 t' k'
  alt : ∀ k t k', rAlt s n k = some (some (t, k')) → Got s 1 k t k'
  altL : ∀ k0 t k t' k', Got s 1 k0 t k → rAltL s n t k = some (some (t', k')) → Got s 1 k0 t' k'
theorem allGot (s : ByteArray) : ∀ n, AllGot s n
  | 0 => ⟨fun _ _ _ _ _ _ h => by simp [rStar] at h, fun _ _ _ h => by simp [rAtom] at h, fun _ _ _ h => by simp [rSeq] at h, fun _ _ _ _ _ _ h => by simp [rSeqL] at h, fun _ _ _ h => by simp [rAlt] at h, fun _ _ _ _ _ _ h => by simp [rAltL] at h⟩
  | n + 1 => by
    have ih := allGot s n
    refine ⟨?_, ?_, ?_, ?_, ?_, ?_⟩
    · intro k0 t k t' k' hg h
      rw [rStar] at h
      split at h
      · rename_i h1
        refine ih.star k0 (.rep t) (k + 1) _ _ ⟨hg.1, ?_, hg.2.2.1.join (okay_one h1 (by decide)), by have := hg.2.2.2; omega⟩ h
        have e : ((Tr.rep t).shown 3).length = (t.shown 3).length + 1 := by
          rw [shown_len, if_neg (by simp [Tr.lev])]
          show (t.shown 3 ++ [42]).length = _
          simp
        have := hg.2.1
        omega
      · cases h; exact hg
    · intro k t k' h
      rw [rAtom] at h
      split at h
      · rename_i h1
        split at h
        · cases h
        · rename_i lo hi k1 h2
          obtain ⟨c1, c2, c3, c4⟩ := range_cost h2
          refine ih.star k _ _ _ _ ⟨c1, ?_, (okay_one h1 (by decide)).join c3, by omega⟩ h
          rw [shown_len, if_neg (by simp [Tr.lev])]; omega
      · split at h
        · rename_i h1 h2
          split at h
          · rename_i h3
            refine ih.star k .emp _ _ _ ⟨trivial, ?_, (okay_one h2 (by decide)).join (okay_one h3 (by decide)), by omega⟩ h
            show k + 2 ≤ k + 2
            omega
          · obtain ⟨x, h4, h5⟩ := Option.bind_eq_some_iff.1 h
            match x, h4, h5 with
            | none, h4, h5 => cases h5
            | some (u, k1), h4, h5 =>
              simp only at h5
              split at h5
              · rename_i h6
                obtain ⟨c1, c2, c3, c4⟩ := ih.alt _ _ _ h4
                refine ih.star k u _ _ _ ⟨c1, ?_, ((okay_one h2 (by decide)).join c3).join (okay_one h6 (by decide)), by omega⟩ h5
                have := shown_max u 3
                omega
              · cases h5
        · split at h
          · cases h
          · rename_i b k1 h2
            obtain ⟨c1, c2, c3, c4, c5⟩ := char_cost h2
            refine ih.star k (.rng b b) _ _ _ ⟨⟨c1, Int.le_refl _, c2⟩, ?_, c4, c5⟩ h
            rw [shown_len, if_neg (by simp [Tr.lev])]
            unfold Tr.str
            rw [if_neg (by omega)]
            exact c3
    · intro k t k' h
      rw [rSeq] at h
      obtain ⟨x, h4, h5⟩ := Option.bind_eq_some_iff.1 h
      match x, h4, h5 with
      | none, h4, h5 => cases h5
      | some (u, k1), h4, h5 => exact ih.seqL k u k1 _ _ ((ih.atom _ _ _ h4).down (by decide)) h5
    · intro k0 t k t' k' hg h
      rw [rSeqL] at h
      split at h
      · obtain ⟨x, h4, h5⟩ := Option.bind_eq_some_iff.1 h
        match x, h4, h5 with
        | none, h4, h5 => cases h5
        | some (u, k1), h4, h5 =>
          have hu := ih.atom _ _ _ h4
          refine ih.seqL k0 (.seq t u) k1 _ _ ⟨⟨hg.1, hu.1⟩, ?_, hg.2.2.1.join hu.2.2.1, by have := hg.2.2.2; have := hu.2.2.2; omega⟩ h5
          have e : ((Tr.seq t u).shown 2).length = (t.shown 2).length + (u.shown 3).length := by
            rw [shown_len, if_neg (by simp [Tr.lev])]
            show (t.shown 2 ++ u.shown 3).length = _
            simp
          have := hg.2.1
          have := hu.2.1
          omega
      · cases h; exact hg
    · intro k t k' h
      rw [rAlt] at h
      obtain ⟨x, h4, h5⟩ := Option.bind_eq_some_iff.1 h
      match x, h4, h5 with
      | none, h4, h5 => cases h5
      | some (u, k1), h4, h5 => exact ih.altL k u k1 _ _ ((ih.seq _ _ _ h4).down (by decide)) h5
    · intro k0 t k t' k' hg h
      rw [rAltL] at h
      split at h
      · rename_i h1
        obtain ⟨x, h4, h5⟩ := Option.bind_eq_some_iff.1 h
        match x, h4, h5 with
        | none, h4, h5 => cases h5
        | some (u, k1), h4, h5 =>
          have hu := ih.seq _ _ _ h4
          refine ih.altL k0 (.alt t u) k1 _ _ ⟨⟨hg.1, hu.1⟩, ?_, (hg.2.2.1.join (okay_one h1 (by decide))).join hu.2.2.1, by have := hg.2.2.2; have := hu.2.2.2; omega⟩ h5
          have e : ((Tr.alt t u).shown 1).length = (t.shown 1).length + (u.shown 2).length + 1 := by
            rw [shown_len, if_neg (by simp [Tr.lev])]
            show (t.shown 1 ++ 124 :: u.shown 2).length = _
            simp; omega
          have := hg.2.1
          have := hu.2.1
          omega
      · cases h; exact hg

/-! ### the reader ends -/
structure AllEnd (s : ByteArray) (n : Nat) : Prop where
  star : ∀ i st, 1 + (s.size - st.pos) ≤ n → ∃ r, starF s n i st = some r
  atom : ∀ st, st.wrong = false → 4 * (s.size - st.pos) + 2 ≤ n → ∃ r, atomF s n st = some r
  seq : ∀ st, st.wrong = false → 4 * (s.size - st.pos) + 4 ≤ n → ∃ r, seqF s n st = some r
  seqL : ∀ i st, 4 * (s.size - st.pos) + 3 ≤ n → ∃ r, seqLoop s n i st = some r
  alt : ∀ st, st.wrong = false → 4 * (s.size - st.pos) + 5 ≤ n → ∃ r, altF s n st = some r
  altL : ∀ i st, 4 * (s.size - st.pos) + 3 ≤ n → ∃ r, altLoop s n i st = some r
theorem Sim.pos {s : ByteArray} {lv : Int} {st : St} {r : Int × St} {x : Option (Option (Tr × Nat))} (h : Sim st r x) (g : ∀ t k', x = some (some (t, k')) → Got s lv st.pos t k') : r.2.wrong = true ∨ (r.2.wrong = false ∧ st.pos < r.2.pos ∧ r.2.pos ≤ s.size) := by
  rcases h with ⟨_, h⟩ | ⟨t, k, h1, h2⟩
  · exact .inl h
  · obtain ⟨a, b, c, d⟩ := g t k h1
    rw [h2]
    refine .inr ⟨rfl, d, ?_⟩
    have := (c (k - 1) (by omega) (by omega)).1
    simp only; omega
theorem allEnd (s : ByteArray) : ∀ n, AllEnd s n
  | 0 => ⟨fun _ _ h => by omega, fun _ _ h => by omega, fun _ _ h => by omega, fun _ _ h => by omega, fun _ _ h => by omega, fun _ _ h => by omega⟩
  | n + 1 => by
    have ih := allEnd s n
    have sm := allSim s n
    have gt := allGot s n
    have gr := allGr s n
    refine ⟨?_, ?_, ?_, ?_, ?_, ?_⟩
    · intro i st h
      rw [starF]
      split
      · exact ⟨_, rfl⟩
      · split
        · rename_i h1
          rw [pass_is h1]
          have := (is_iff.1 h1).1
          exact ih.star _ _ (by simp only [St.add]; omega)
        · exact ⟨_, rfl⟩
    · intro st hw h
      rw [atomF]
      have hc := charF_gr s st
      split
      · rename_i h1
        refine ih.star _ _ ?_
        have h2 := (gr_range h1).1.pos
        have := (is_iff.1 h1).1
        omega
      · split
        · rename_i h1
          have p1 := pass_is h1
          have hlt := (is_iff.1 h1).1
          split
          · rename_i h2
            rw [p1] at h2
            rw [p1, pass_is h2]
            exact ih.star _ _ (by simp only [St.add]; omega)
          · rw [p1, hw]
            obtain ⟨r, hr⟩ := ih.alt ⟨st.pos + 1, st.out, false⟩ rfl (by simp only; omega)
            rw [hr, Option.bind_some]
            have hp := (gr.alt _ _ hr).pos
            simp only at hp
            split
            · exact ih.star _ _ (by simp only [St.bad]; omega)
            · have := (pass_out s 41 r.2).2.2.1
              exact ih.star _ _ (by simp only [St.bad]; omega)
        · exact ih.star _ _ (by simp only [St.add]; omega)
    · intro st hw h
      rw [seqF]
      obtain ⟨r, hr⟩ := ih.atom st hw (by omega)
      rw [hr, Option.bind_some]
      have hp := (gr.atom _ _ hr).pos
      exact ih.seqL _ _ (by omega)
    · intro i st h
      rw [seqLoop]
      split
      · rename_i h1
        simp only [Bool.and_eq_true, Bool.not_eq_true', decide_eq_true_eq] at h1
        obtain ⟨r, hr⟩ := ih.atom st h1.1 (by omega)
        rw [hr, Option.bind_some]
        rcases (sm.atom st r h1.1 hr).pos (fun t k' hx => gt.atom _ _ _ hx) with hb | ⟨hb, hb2, hb3⟩
        · obtain ⟨m, rfl⟩ : ∃ m, n = m + 1 := ⟨n - 1, by omega⟩
          rw [seqLoop, if_neg (by simp [St.add, hb])]
          exact ⟨_, rfl⟩
        · exact ih.seqL _ _ (by simp only [St.add]; omega)
      · exact ⟨_, rfl⟩
    · intro st hw h
      rw [altF]
      obtain ⟨r, hr⟩ := ih.seq st hw (by omega)
      rw [hr, Option.bind_some]
      have hp := (gr.seq _ _ hr).pos
      exact ih.altL _ _ (by omega)
    · intro i st h
      rw [altLoop]
      split
      · exact ⟨_, rfl⟩
      · rename_i hw
        split
        · rename_i h1
          have hlt := (is_iff.1 h1).1
          rw [pass_is h1]
          obtain ⟨r, hr⟩ := ih.seq ⟨st.pos + 1, st.out, st.wrong⟩ (by simpa using hw) (by simp only; omega)
          rw [hr, Option.bind_some]
          have hp := (gr.seq _ _ hr).pos
          simp only at hp
          exact ih.altL _ _ (by simp only [St.add]; omega)
        · exact ⟨_, rfl⟩
/-- The reader reads every string to an end. -/
theorem alt_total (s : ByteArray) : ∃ n r, altF s n st0 = some r := by
  obtain ⟨r, hr⟩ := (allEnd s (4 * s.size + 5)).alt st0 rfl (by simp [st0])
  exact ⟨_, r, hr⟩
theorem parseF_ok (s : ByteArray) (i : Int) (k : Nat) (o : List S50) : parseF s (i, ⟨k, o, false⟩) = if k < s.size then ([], 40) else if 512 < o.length then ([], 2) else (o, 0) := by
  unfold parseF
  by_cases h : k < s.size <;> simp [h]
/-- What Parse answers with OK is a tree, whose canonical string is no longer. -/
theorem parse_sound {s : ByteArray} {n : Nat} {r : Int × St} (h : altF s n st0 = some r) (hp : (parseF s r).2 = 0) : ∃ t : Tr, t.ok ∧ (parseF s r).1 = t.post 0 ∧ t.str.length ≤ s.size := by
  have hs := (allSim s n).alt st0 r rfl h
  rcases hs with ⟨_, hw⟩ | ⟨t, k, hx, hr⟩
  · unfold parseF at hp
    rw [hw] at hp
    simp at hp
  · obtain ⟨a, b, c, d⟩ := (allGot s n).alt _ _ _ hx
    rw [t.shown1] at b
    simp only [st0] at b d c
    have hk := (c (k - 1) (by omega) (by omega)).1
    have hr2 : r = (idx st0 t, ⟨k, t.post 0, false⟩) := hr
    rw [hr2, parseF_ok] at hp ⊢
    by_cases h1 : k < s.size
    · rw [if_pos h1] at hp; cases hp
    · rw [if_neg h1] at hp ⊢
      by_cases h2 : 512 < (t.post 0).length
      · rw [if_pos h2] at hp; cases hp
      · rw [if_neg h2]
        exact ⟨t, a, rfl, by omega⟩
end Go.Proofs.YtaphblnelmncaaaDoor.PA
end

section
/- What the statements' walks share: a pattern of the call's own beside a slice that grows; Parse of any string. -/
set_option linter.unusedVariables false
namespace Go.Proofs.YtaphblnelmncaaaDoor.PA
open Go.RowKit Go.Proofs.YtaphblnelmncaaaDoorW.PrintWords Go.Proofs.YtaphblnelmncaaaDoorW.PrintLast Go.Proofs.YtaphblnelmncaaaDoorW.PrintMore

/-- A pattern of the call's own. -/
structure Pq (w0 w : World) (A : Option Addr) (c : Nat) (p : List S50) : Prop where
  R : Kd.R k50 50 w w0.heap.size (fun _ => True) (.slice A p.length c) p
theorem Pq.pt {w0 w : World} {A : Option Addr} {c : Nat} {p : List S50} (h : Pq w0 w A c p) : Pt w A c p := (Pt.of h.R).2
theorem Pq.next {w0 w w' : World} {A : Option Addr} {c : Nat} {p : List S50} (h : Pq w0 w A c p) (k : Below w.heap.size w w') : Pq w0 w' A c p := ⟨Kd.R_below h.R k⟩
theorem made_lawQ {w0 : World} {A : Option Addr} {c : Nat} {l : List Int} {w : World} (h : Bt w A c l) (hs : w0.heap.size ≤ w.heap.size) (most : Int) (h0 : 0 ≤ most) (hm : most ≤ 400) :
    Calls Tryd.prog 16 #[.slice A l.length c, .int .i64 most] w fun e w' => ∃ E ec, e = .returned (.slice E (madeF l most).length ec) ∧ Pq w0 w' E ec (madeF l most) ∧ Below w.heap.size w w' :=
  (made_any A c l most w h.C h.hc h.rng h0 hm h.len).mono fun e w' ⟨v, he, hR, hb⟩ => by
    obtain ⟨E, ec, rfl⟩ := Kd.R_slice hR
    exact ⟨E, ec, he, ⟨Kd.R_lower hR hs⟩, hb⟩
/-- Whole numbers in a slice of the call's own. -/
structure OInv (w0 : World) (v : Value) (os : List Int) (w : World) : Prop where
  low : Below w0.heap.size w0 w
  hs : Kd.R (Kd.int .i64) 3 w w0.heap.size (fun _ => True) v os
theorem OInv.next {w0 w w' : World} {v : Value} {os : List Int} (h : OInv w0 v os w) (k : Below w.heap.size w w') : OInv w0 v os w' := ⟨h.low.trans (k.mono h.low.size), Kd.R_below h.hs k⟩
theorem OInv.push {w0 w w1 : World} {v v1 : Value} {os : List Int} {x : Int} (h : OInv w0 v os w) (hR : Kd.R (Kd.int .i64) 3 w1 w0.heap.size (fun _ => True) v1 (os ++ [x])) (hG : w.grownBy w1 v.ownBlock) : OInv w0 v1 (os ++ [x]) w1 := by
  have kp : Kp (fun g => g < w0.heap.size) w w1 := Kp.grown hG (fun g hg e => by have := Kd.R_base h.hs g e.symm; omega)
  exact ⟨h.low.trans (kp.below (fun g hg => hg) h.low.size), hR⟩
theorem Pq.grown {w0 w w1 : World} {v : Value} {os : List Int} {A : Option Addr} {c : Nat} {p : List S50} (h : Pq w0 w A c p) (hs : OInv w0 v os w) (hG : w.grownBy w1 v.ownBlock) : Pq w0 w1 A c p :=
  ⟨Kd.R_mono (Kd.R_grown (Kd.R_apartR h.R hs.hs (by decide)) hG (fun k hk => hk.2)) (fun _ _ => trivial)⟩
theorem OInv.take {w0 w : World} {A : Option Addr} {n c m : Nat} {os : List Int} (h : OInv w0 (.slice A n c) os w) (hm : m ≤ os.length) : OInv w0 (.slice A m c) (os.take m) w := ⟨h.low, Kd.R_take h.hs hm⟩
theorem OInv.cell {w0 w : World} {v : Value} {os : List Int} (h : OInv w0 v os w) {i : Nat} (hi : i < os.length) :
    ∃ (g c : Nat), v = .slice (some ⟨g, 0, none⟩) os.length c ∧ os.length ≤ c ∧ w.cell? ⟨g, i, none⟩ = some (.int .i64 (os.getD i 0)) := by
  have hs := h.hs
  obtain ⟨A0, c0, rfl⟩ := Kd.R_slice hs
  obtain ⟨g, cap, he, hg⟩ : ∃ g cap, Value.slice A0 os.length c0 = .slice (some ⟨g, 0, none⟩) os.length cap ∧ True := by
    obtain ⟨h0, inner, ho, hr⟩ := hs
    rcases ho.2 with ⟨e, hz⟩ | ⟨g, cap, cur, e, _⟩
    · exfalso; injection e; omega
    · injection e with e1 e2 e3
      exact ⟨g, cap, by rw [e1, e3], trivial⟩
  injection he with e1 _ e3
  subst e1; subst e3
  obtain ⟨cc, hcl, hM, hcc, hfr⟩ := Kd.R_elem hs 0 (i : Int) (by omega) (by omega)
  have e2 : cc = [.int .i64 (os.getD i 0)] := hM
  have f1 := hcc 0 _ (by rw [e2]; rfl)
  have e4 : (i : Int).toNat * (Kd.int .i64).sz + 0 = i := by
    show (i : Int).toNat * 1 + 0 = i
    simp
  rw [e4] at f1
  exact ⟨g, c0, rfl, (Kd.R_reads' hs).2.1, f1⟩
theorem kint_i64 (w : World) (base : Nat) (ok : Nat → Prop) (x : Int) : (Kd.int .i64).M w base ok x [.int .i64 x] := rfl
/-- What Parse answers for any string. -/
structure ParseP (s : ByteArray) (q : List S50) (e : Int) : Prop where
  len : q.length ≤ 512
  tree : e = 0 → ∃ t : Tr, t.ok ∧ q = t.post 0 ∧ t.str.length ≤ s.size
theorem parse_gen {s : ByteArray} (hs : s.size ≤ 8192) : ∃ (q : List S50) (e : Int), ParseP s q e ∧ ∀ w, Calls Tryd.prog 25 #[.string s] w fun e' w' => ∃ E ec, e' = .returned (.tuple #[.slice E q.length ec, .int .i64 e]) ∧ Pt w' E ec q ∧ Below w.heap.size w w' := by
  obtain ⟨n, r, hr⟩ := alt_total s
  obtain ⟨x, hx⟩ : ∃ x, x = (if okTo s s.size then parseF s r else ([], 40)) := ⟨_, rfl⟩
  refine ⟨x.1, x.2, ⟨?_, fun h => ?_⟩, fun w => (parse_any s w hs n r hr).mono ?_⟩
  · rw [hx]
    split
    · unfold parseF
      split
      · simp
      · split
        · simp
        · simp only; omega
    · simp
  · rw [hx] at h ⊢
    split
    · rename_i h1
      rw [if_pos h1] at h
      exact parse_sound hr h
    · rename_i h1
      rw [if_neg h1] at h
      cases h
  · rw [← hx]
    rintro e w' ⟨v, rfl, hR, hb⟩
    obtain ⟨E, ec, rfl⟩ := Kd.R_slice hR
    exact ⟨E, ec, rfl, (Pt.of hR).2, hb⟩
theorem post_str {t u : Tr} (h : t.post 0 = u.post 0) : t.str = u.str := by
  have a := t.isRe 0 (lies_self t)
  have b := u.isRe 0 (lies_self u)
  have hl : t.size = u.size := by rw [← t.post_length 0, h, u.post_length]
  rw [← h, ← hl] at b
  have e := isRe_unique a b
  rw [← t.str_re 0, e, u.str_re]

/-! ### the parentheses of a string -/
/-- The stack of opening parentheses. -/
def scanP : List Int → Nat → List Nat → Option (List Nat)
  | [], _, st => some st
  | c :: l, k, st => if c = 40 then scanP l (k + 1) (k :: st) else if c = 41 then (match st with | [] => none | _ :: r => scanP l (k + 1) r) else scanP l (k + 1) st
theorem scan_cons (c : Int) (l : List Int) (k : Nat) (st : List Nat) : scanP (c :: l) k st = if c = 40 then scanP l (k + 1) (k :: st) else if c = 41 then (match st with | [] => none | _ :: r => scanP l (k + 1) r) else scanP l (k + 1) st := by cases st <;> rfl
theorem scan_app : ∀ (a b : List Int) (k : Nat) (st : List Nat), scanP (a ++ b) k st = (scanP a k st).bind fun st' => scanP b (k + a.length) st'
  | [], b, k, st => rfl
  | c :: a, b, k, st => by
    simp only [List.cons_append, scanP, List.length_cons]
    rw [show k + (a.length + 1) = k + 1 + a.length by omega]
    split
    · exact scan_app a b _ _
    · split
      · cases st with
        | nil => rfl
        | cons x r => exact scan_app a b _ _
      · exact scan_app a b _ _
def Bal (l : List Int) : Prop := ∀ k st, scanP l k st = some st
theorem Bal.app {a b : List Int} (h : Bal a) (k : Bal b) : Bal (a ++ b) := fun i st => by rw [scan_app, h, Option.bind_some, k]
theorem bal_one {c : Int} (h1 : c ≠ 40) (h2 : c ≠ 41) : Bal [c] := fun i st => by unfold scanP; rw [if_neg h1, if_neg h2]; rfl
theorem Bal.cons {c : Int} {l : List Int} (h : Bal l) (h1 : c ≠ 40) (h2 : c ≠ 41) : Bal (c :: l) := (bal_one h1 h2).app h
theorem Bal.paren {l : List Int} (h : Bal l) : Bal (40 :: (l ++ [41])) := fun i st => by
  show scanP (40 :: (l ++ [41])) i st = _
  unfold scanP
  rw [if_pos rfl, scan_app, h, Option.bind_some]
  rfl
theorem Bal.par {l : List Int} (h : Bal l) (b : Bool) : Bal (par b l) := by
  cases b
  · exact h
  · exact h.paren
theorem bal_chr (b : Int) (h0 : 0 ≤ b) (h1 : b ≤ 255) : Bal (chrL b) := by
  unfold chrL
  split
  · rename_i h
    have := plain_not h
    exact bal_one (by omega) (by omega)
  · have hd : ∀ d : Fin 16, bt digits (d.val : Int) ≠ 40 ∧ bt digits (d.val : Int) ≠ 41 := by decide
    have d1 := hd ⟨(b / 16).toNat, by omega⟩
    have d2 := hd ⟨(b % 16).toNat, by omega⟩
    simp only [show ((b / 16).toNat : Int) = b / 16 by omega] at d1
    simp only [show ((b % 16).toNat : Int) = b % 16 by omega] at d2
    exact (((bal_one d2.1 d2.2).cons d1.1 d1.2).cons (by decide) (by decide)).cons (by decide) (by decide)
theorem Tr.bal (t : Tr) : t.ok → Bal t.str := by
  induction t with
  | emp => intro _ k st; rfl
  | rng lo hi =>
    rintro ⟨h0, h1, h2⟩
    unfold Tr.str
    split
    · exact ((bal_chr lo h0 (by omega)).app (((bal_chr hi (by omega) h2).app (bal_one (by decide) (by decide))).cons (by decide) (by decide))).cons (by decide) (by decide)
    · exact bal_chr lo h0 (by omega)
  | seq a b iha ihb => rintro ⟨ha, hb⟩; exact ((iha ha).par _).app ((ihb hb).par _)
  | alt a b iha ihb => rintro ⟨ha, hb⟩; exact ((iha ha).par _).app (((ihb hb).par _).cons (by decide) (by decide))
  | rep a iha => intro ha; exact ((iha ha).par _).app (bal_one (by decide) (by decide))
/-- Between the rounds: what is open, and that all will be closed. -/
structure Scan (bs : List Int) (i : Nat) (os : List Int) : Prop where
  len : os.length ≤ i
  st : ∃ st : List Nat, os = (st.reverse.map fun (x : Nat) => (x : Int)) ∧ scanP (bs.drop i) i st = some [] ∧ ∀ x ∈ st, x < i
theorem scan_start {bs : List Int} (h : Bal bs) : Scan bs 0 [] := ⟨by simp, [], rfl, h 0 [], by simp⟩
theorem scan_drop {bs : List Int} {i : Nat} (h : i < bs.length) : bs.drop i = bs.getD i 0 :: bs.drop (i + 1) := by rw [List.drop_eq_getElem_cons h]; simp [List.getD_eq_getElem?_getD, h]
theorem Scan.push {bs : List Int} {i : Nat} {os : List Int} (h : Scan bs i os) (hi : i < bs.length) (hc : bs.getD i 0 = 40) : Scan bs (i + 1) (os ++ [(i : Int)]) := by
  obtain ⟨st, e, hs, hl⟩ := h.st
  rw [scan_drop hi, hc] at hs
  refine ⟨by have := h.len; simp; omega, i :: st, by rw [e]; simp, hs, fun x hx => ?_⟩
  rcases List.mem_cons.1 hx with rfl | hx
  · omega
  · have := hl x hx; omega
theorem Scan.skip {bs : List Int} {i : Nat} {os : List Int} (h : Scan bs i os) (hi : i < bs.length) (h1 : bs.getD i 0 ≠ 40) (h2 : bs.getD i 0 ≠ 41) : Scan bs (i + 1) os := by
  obtain ⟨st, e, hs, hl⟩ := h.st
  rw [scan_drop hi, scan_cons, if_neg h1, if_neg h2] at hs
  exact ⟨by have := h.len; omega, st, e, hs, fun x hx => by have := hl x hx; omega⟩
theorem Scan.pop {bs : List Int} {i : Nat} {os : List Int} (h : Scan bs i os) (hi : i < bs.length) (hc : bs.getD i 0 = 41) : ∃ a : Nat, a < i ∧ 0 < os.length ∧ os.getD (os.length - 1) 0 = (a : Int) ∧ Scan bs (i + 1) (os.take (os.length - 1)) := by
  obtain ⟨st, e, hs, hl⟩ := h.st
  rw [scan_drop hi, hc] at hs
  cases st with
  | nil => cases hs
  | cons a r =>
    have e2 : os = (r.reverse.map fun (x : Nat) => (x : Int)) ++ [(a : Int)] := by rw [e]; simp
    have hlen : os.length = r.length + 1 := by rw [e2]; simp
    refine ⟨a, hl a (List.mem_cons_self ..), by omega, ?_, by have := h.len; rw [List.length_take]; omega, r, ?_, hs, fun x hx => by have := hl x (List.mem_cons_of_mem _ hx); omega⟩
    · rw [hlen, e2, Nat.add_sub_cancel, List.getD_eq_getElem?_getD, List.getElem?_append_right (by simp)]
      simp
    · rw [hlen, e2, Nat.add_sub_cancel]
      rw [List.take_append_of_le_length (by simp), List.take_of_length_le (by simp)]
theorem Scan.ends {bs : List Int} {os : List Int} (h : Scan bs bs.length os) : os = [] := by
  obtain ⟨st, e, hs, hl⟩ := h.st
  rw [List.drop_length] at hs
  cases hs
  exact e
end Go.Proofs.YtaphblnelmncaaaDoor.PA
end

section
/- The walk over PatternParentheses. -/
set_option linter.unusedVariables false
namespace Go.Proofs.YtaphblnelmncaaaDoor.PA
open Go.RowKit Go.Proofs.YtaphblnelmncaaaDoorW.PrintWords Go.Proofs.YtaphblnelmncaaaDoorW.PrintLast Go.Proofs.YtaphblnelmncaaaDoorW.PrintMore

/-- A string without two of its bytes. -/
def cutS (s : ByteArray) (a i : Nat) : ByteArray := s.extract 0 a ++ s.extract (a + 1) i ++ s.extract (i + 1) s.size
theorem extract_size (s : ByteArray) (a b : Nat) (h : b ≤ s.size) : (s.extract a b).size = b - a := by
  rw [← bytesOf_length, extract2, List.length_take, List.length_drop, bytesOf_length]; omega
theorem cutS_size {s : ByteArray} {a i : Nat} (h : a < i) (hi : i < s.size) : (cutS s a i).size + 2 = s.size := by
  unfold cutS
  rw [ByteArray.size_append, ByteArray.size_append, extract_size _ _ _ (by omega), extract_size _ _ _ (by omega), extract_size _ _ _ (by omega)]
  omega

set_option maxHeartbeats 8000000 in
set_option maxRecDepth 100000 in
theorem paren_row {A : Option Addr} {ca : Nat} {l : List Int} {W : World} (hl : Bt W A ca l) (ht : Tab W) :
    Calls Tryd.prog 12 #[.slice A l.length ca] W fun e w' => e = .returned (.bool true) ∧ Below W.heap.size W w' := by
  obtain ⟨⟨p, ep, op⟩, hpl⟩ := made_pst hl.rng (most := 30) (by decide) (by decide)
  rw [ep, p.post_length] at hpl
  have MP : Hid (madeF l 30 = p.post 0) := Lib.hid ep
  have prp : ∀ (A : Option Addr) (c : Nat) (w : World), Pt w A c (p.post 0) → Calls Tryd.prog 19 #[.slice A (p.post 0).length c] w fun e w' => e = .returned (.tuple #[.string (strOfNums p.str), .int .i64 0]) ∧ Below w.heap.size w w' := fun A c w h => print_law op (by omega) h
  have hsl : (strOfNums p.str).size = p.str.length := strOfNums_size _
  have hs1 : (strOfNums p.str).size ≤ 1000 := by rw [hsl]; have := p.str_length; omega
  have hby : bytesOf (strOfNums p.str) = p.str := bytes_strOf (fun b hb => okB_byte (p.str_ok op b hb))
  have hsc : Scan (bytesOf (strOfNums p.str)) 0 [] := by rw [hby]; exact scan_start (p.bal op)
  have hgen : ∀ (u : ByteArray), u.size + 2 = (strOfNums p.str).size → ∃ (q : List S50) (e : Int), q.length ≤ 512 ∧ (e = 0 → q ≠ p.post 0) ∧ ∀ w, Calls Tryd.prog 25 #[.string u] w fun e' w' => ∃ E ec, e' = .returned (.tuple #[.slice E q.length ec, .int .i64 e]) ∧ Pt w' E ec q ∧ Below w.heap.size w w' := by
    intro u hu
    obtain ⟨q, e, h1, h2⟩ := parse_gen (s := u) (by omega)
    refine ⟨q, e, h1.len, fun he hq => ?_, h2⟩
    obtain ⟨t, _, h3, h4⟩ := h1.tree he
    have := post_str (h3.symm.trans hq)
    rw [this] at h4
    omega
  have hpp : (p.post 0).length ≤ 512 := by rw [p.post_length]; omega
  generalize strOfNums p.str = s at *
  have PRP := Lib.hid prp
  have GEN := Lib.hid hgen
  have HPP := Lib.hid hpp
  have SC0 := Lib.hid hsc
  have HL := Lib.hid hl
  have S0 := Lib.hid (LS.init ht)
  have HBL := Lib.hid (bytesOf_length s)
  clear hl ht ep hpl prp hsl hby hsc hgen hpp op
  go_enter Tryd.func12, Tryd.ntmps12
  go_wp2_with fail
  refine (sanity_any W S0.out.tab).mono ?_
  rintro e1 w1 ⟨rfl, k1⟩
  have S1 := Lib.hid (S0.out.next k1)
  have L1 := Lib.hid (HL.out.next k1)
  clear k1
  go_wp2_with fail
  refine (made_lawQ L1.out S1.out.low.size 30 (by decide) (by decide)).mono ?_
  rw [MP.out]
  rintro e2 w2 ⟨E, ec, rfl, P2, k2⟩
  have P2 := Lib.hid P2
  have S2 := Lib.hid (S1.out.next k2)
  clear k2
  go_wp2_with fail
  refine (PRP.out _ _ _ P2.out.pt).mono ?_
  rintro e3 w3 ⟨rfl, k3⟩
  have P3 := Lib.hid (P2.out.next k3)
  have S3 := Lib.hid (S2.out.next k3)
  clear k3 P2 S2 S1 S0 L1 HL PRP MP
  go_wp2_with (first | ((with_reducible refine gate_dst (N := 22) rfl ?_); refine Kd.R_lit (Kd.int .i64) _ 3 ?hg (N := 22) ?hd (xs := ([] : List Int)) (inner := []) (ok := fun _ => True) (okp := fun _ => True) ?hr ?hp (fun _ hk => hk) trivial (Below.refl _ _) (Nat.le_refl _) (by decide) ?_; (case hd => rfl); (case hg => rfl); (case hr => first | (go_simp; done) | (go_simp; rfl)); (case hp => exact (Reps.none _ _)); intro v22 w4 ho5 hb hg_ hnew_; have HB1 := Lib.hid hb; have HO1 := Lib.hid ho5; clear hg_ hnew_ hb ho5))
  have O4 : Hid (OInv W v22 [] w4) := Lib.hid ⟨S3.out.low.trans (HB1.out.mono S3.out.low.size), Kd.R_lower HO1.out S3.out.low.size⟩
  have S4 := Lib.hid (S3.out.next HB1.out)
  have P4 := Lib.hid (P3.out.next HB1.out)
  clear HB1 HO1 S3 P3
  go_loopw [7, 8] (fun c7 c8 wd => ∃ (i : Nat) (os : List Int), i ≤ s.size ∧ c8 = .int .i64 (i : Int) ∧ Hid (Scan (bytesOf s) i os) ∧ Hid (OInv W c7 os wd) ∧ Hid (LS W wd) ∧ Hid (Pq W wd E ec (p.post 0))) (fun _ c8 _ => s.size - (intOf c8).toNat)
  case atStart => exact ⟨0, [], by omega, rfl, SC0, O4, S4, P4⟩
  case round =>
    obtain ⟨i, os, hi, rfl, hS, hO, S5, P5⟩ := hrel
    clear SC0 O4 S4 P4
    obtain ⟨V, cv, hv⟩ := Kd.R_slice hO.out.hs
    subst hv
    have hos : os.length ≤ 1000 := by have := hS.out.len; omega
    by_cases hlt : i < s.size
    · have hltb : decide ((i : Int) < (s.size : Int)) = true := decide_eq_true (by omega)
      have hiI : (i : Int) < (s.size : Int) := by omega
      have hib : i < (bytesOf s).length := by rw [HBL.out]; exact hlt
      obtain ⟨c, hcc⟩ : ∃ c, c = bt s (i : Int) := ⟨_, rfl⟩
      have hbt := bt_at s (i : Int)
      simp only [Int.toNat_natCast] at hbt
      rw [← hcc] at hbt
      have hbn := hbt hlt
      have HCC : Hid ((bytesOf s).getD i 0 = c) := Lib.hid (by rw [hcc, bt_bytes s i hlt])
      clear hcc hbt
      by_cases h40 : c = 40
      · subst h40
        have hS2 := Lib.hid (hS.out.push hib HCC.out)
        clear hib
        go_wp2_with (first | ((with_reducible refine gate_builtin (b := .append) (xs := #[.tmp 33, .tmp 35]) rfl ?_); at_builtin; refine Kd.R_append (Kd.int .i64) (w0 := wr) W.heap.size rfl (.tmp 33) (.tmp 35) 53 3 (.int .i64 0) 8 rfl Tryd.underlying53 info3 rfl (by decide) (by omega) (.slice V os.length cv) os (i : Int) [.int .i64 (i : Int)] (fun _ => True) (fun _ => False) rfl rfl ?aP (fun _ hk => hk.elim) ?aF ?aO ?aB ?aS ?aL ?_; (case aP => exact kint_i64 _ _ _ _); (case aF => exact (fun _ _ => trivial)); (case aO => exact hO.out.hs); (case aB => exact Below.refl _ _); (case aS => exact hO.out.low.size); (case aL => omega); intro v1 w6 ho1 hb1 hg1 hat1; have HO9 := Lib.hid ho1; have HG9 := Lib.hid hg1; clear ho1 hb1 hg1 hat1) | fail)
        have hP9 := Lib.hid (hO.out.push HO9.out HG9.out)
        have P15 := Lib.hid (P5.out.grown hO.out HG9.out)
        have S15 : Hid (LS W w6) := Lib.hid ⟨hP9.out.low, S5.out.tab0⟩
        exact ⟨⟨i + 1, _, by omega, by go_num, hS2, hP9, S15, P15⟩, by simp [intOf]; omega⟩
      · have b1 : (c == 40) = false := beq_eq_false_iff_ne.2 h40
        by_cases h41 : c = 41
        · subst h41
          obtain ⟨a, ha, ho0, hoa, hS2⟩ := hS.out.pop hib HCC.out
          have hS2 := Lib.hid hS2
          obtain ⟨g, cv', hv, hoc, hcell⟩ := hO.out.cell (i := os.length - 1) (by omega)
          injection hv with e1 _ e3
          subst e1; subst e3
          rw [hoa] at hcell
          have hT := Lib.hid (hO.out.take (m := os.length - 1) (by omega))
          have hwj : wrap64 ((os.length : Int) - 1) = (os.length : Int) - 1 := by unfold wrap64; omega
          have r2 : (os.length : Int) - 1 < (os.length : Int) := by omega
          have r8 : (0 : Int) ≤ (os.length : Int) - 1 := by omega
          have r9 : 1 ≤ os.length := by omega
          have r9' : (1 : Int) ≤ (os.length : Int) := by omega
          have r10 : (os.length : Int) - 1 ≤ (cv : Int) := by omega
          have r11 : os.length - 1 ≤ cv := by omega
          have r13 : ((os.length : Int) - 1).toNat = os.length - 1 := by omega
          have o0 : ((os.length : Int) == 0) = false := beq_eq_false_iff_ne.2 (by omega)
          have hw1 : wrap64 ((i : Int) - 1) = (i : Int) - 1 := by unfold wrap64; omega
          clear hib h40 hoa hoc
          go_upto_region 17 with fail
          by_cases hadj : a + 1 = i
          · have d1 : ((a : Int) == (i : Int) - 1) = true := beq_iff_eq.2 (by omega)
            have HADJ := Lib.hid hadj
            clear hadj
            go_wp2
            go_roundw
            case rel => exact ⟨i + 1, _, by omega, by go_num, hS2, hT, S5, P5⟩
            case measure => simp [intOf]; omega
          · have d1 : ((a : Int) == (i : Int) - 1) = false := beq_eq_false_iff_ne.2 (by omega)
            obtain ⟨q, e, hq1, hq2, hq3⟩ := GEN.out (cutS s a i) (cutS_size ha hlt)
            have HQ2 := Lib.hid hq2
            have hq4 : ∀ w, Calls Tryd.prog 25 #[.string (s.extract 0 a ++ s.extract (a + 1) i ++ s.extract (i + 1) s.size)] w fun e' w' => ∃ E ec, e' = .returned (.tuple #[.slice E q.length ec, .int .i64 e]) ∧ Pt w' E ec q ∧ Below w.heap.size w w' := hq3
            have HQ3 := Lib.hid hq4
            clear hq2 hq3 hq4
            have hwa : IntKind.i64.wrap ((a : Int) + 1) = (a : Int) + 1 := IntWalk.i64_in _ (by omega)
            have hwi : IntKind.i64.wrap ((i : Int) + 1) = (i : Int) + 1 := IntWalk.i64_in _ (by omega)
            have f1 : (0 : Int) ≤ (a : Int) := by omega
            have f2 : (a : Int) ≤ (s.size : Int) := by omega
            have f3 : (0 : Int) ≤ (a : Int) + 1 := by omega
            have f4 : (a : Int) + 1 ≤ (i : Int) := by omega
            have f5 : (i : Int) ≤ (s.size : Int) := by omega
            have f6 : (0 : Int) ≤ (i : Int) + 1 := by omega
            have f7 : (i : Int) + 1 ≤ (s.size : Int) := by omega
            have t1 : ((a : Int) + 1).toNat = a + 1 := by omega
            have t2 : ((i : Int) + 1).toNat = i + 1 := by omega
            have z1 : (s.extract 0 a).size ≤ 1000 := by rw [extract_size _ _ _ (by omega)]; omega
            have z2 : (s.extract (a + 1) i).size ≤ 1000 := by rw [extract_size _ _ _ (by omega)]; omega
            have z3 : (s.extract (i + 1) s.size).size ≤ 1000 := by rw [extract_size _ _ _ (by omega)]; omega
            go_wp2_with fail
            go_cut [10, 11] (fun c10 c11 wd => ∃ E' ec', c10 = .slice E' q.length ec' ∧ c11 = .int .i64 e ∧ Hid (Pt wd E' ec' q) ∧ Hid (OInv W (.slice (some ⟨g, 0, none⟩) (os.length - 1) cv) (os.take (os.length - 1)) wd) ∧ Hid (LS W wd) ∧ Hid (Pq W wd E ec (p.post 0)))
            case first =>
              go_region_with (go_at_call 25; refine (HQ3.out _).mono ?_; rintro e9 w9 ⟨E', ec', rfl, hPt, hb9⟩; have HPt := Lib.hid hPt; have hB9 := below_trans (Below.refl _ _).drew hb9; have hO9 := Lib.hid (hT.out.next hB9); have S9 := Lib.hid (S5.out.next hB9); have P9 := Lib.hid (P5.out.next hB9); clear hPt hb9 hB9)
              all_goals
                go_wp2
                go_meet
                exact ⟨E', ec', rfl, rfl, HPt, hO9, S9, P9⟩
            case rest =>
            obtain ⟨E', ec', rfl, rfl, HPt, hO9, S9, P9⟩ := hcut
            clear hO hT S5 P5 HQ3 hwa hwi
            by_cases he : e = 0
            · subst he
              have HNE := Lib.hid (HQ2.out rfl)
              go_wp2_with fail
              refine (same_no HPt.out P9.out.pt (by omega) HNE.out).mono ?_
              rintro e10 w10 ⟨rfl, kb⟩
              have hO10 := Lib.hid (hO9.out.next kb)
              have S10 := Lib.hid (S9.out.next kb)
              have P10 := Lib.hid (P9.out.next kb)
              clear kb
              go_wp2
              go_roundw
              case rel => exact ⟨i + 1, _, by omega, by go_num, hS2, hO10, S10, P10⟩
              case measure => simp [intOf]; omega
            · have he0 : (e == 0) = false := beq_eq_false_iff_ne.2 he
              clear he
              go_wp2
              go_roundw
              case rel => exact ⟨i + 1, _, by omega, by go_num, hS2, hO9, S9, P9⟩
              case measure => simp [intOf]; omega
        · have b2 : (c == 41) = false := beq_eq_false_iff_ne.2 h41
          have hS2 := Lib.hid (hS.out.skip hib (by rw [HCC.out]; exact h40) (by rw [HCC.out]; exact h41))
          clear hib h40 h41
          go_wp2
          go_roundw
          case rel => exact ⟨i + 1, os, by omega, by go_num, hS2, hO, S5, P5⟩
          case measure => simp [intOf]; omega
    · have hltb : decide ((i : Int) < (s.size : Int)) = false := decide_eq_false (by omega)
      have hie : i = (bytesOf s).length := by have := HBL.out; omega
      have hnil : os = [] := by have h := hS.out; rw [hie] at h; exact h.ends
      have HE := Lib.hid hie
      clear hie
      subst hnil
      go_wp2
      go_ret
      exact ⟨rfl, S5.out.low⟩
end Go.Proofs.YtaphblnelmncaaaDoor.PA
end
