/- What the statement's proof stands on, part 1: the walks over the program's functions and the plain laws. -/
import Derived.Test.YtaphblnelmncaaaDoorV8c
import Derived.Laws.Cover1
import Derived.Test.YtaphblnelmncaaaDoorPAx16
import Derived.Test.YtaphblnelmncaaaDoorPAx13
import Derived.Test.YtaphblnelmncaaaDoorPAx15
import Derived.Test.YtaphblnelmncaaaDoorPAx25
import Derived.Test.YtaphblnelmncaaaDoorPAx17
set_option linter.unusedSimpArgs false
set_option linter.unusedVariables false
section
/- The reader reads canonical strings. -/
set_option linter.unusedVariables false
namespace Go.Proofs.YtaphblnelmncaaaDoor.PA
open Go.RowKit Go.Proofs.YtaphblnelmncaaaDoorW.PrintWords Go.Proofs.YtaphblnelmncaaaDoorW.PrintLast Go.Proofs.YtaphblnelmncaaaDoorW.PrintMore

namespace Tr
def lev : Tr → Int
  | seq _ _ => 2
  | alt _ _ => 1
  | _ => 3
def str : Tr → List Int
  | emp => [40, 41]
  | rng lo hi => if lo < hi then 91 :: (chrL lo ++ 45 :: (chrL hi ++ [93])) else chrL lo
  | seq a b => par (decide (a.lev < 2)) a.str ++ par (decide (b.lev < 3)) b.str
  | alt a b => par (decide (a.lev < 1)) a.str ++ 124 :: par (decide (b.lev < 2)) b.str
  | rep a => par (decide (a.lev < 3)) a.str ++ [42]
def shown (t : Tr) (least : Int) : List Int := par (decide (t.lev < least)) t.str
theorem lev_re (t : Tr) (o : Nat) : (t.re o).lev = t.lev := by cases t <;> rfl
theorem str_re (t : Tr) : ∀ o, (t.re o).str = t.str := by
  induction t with
  | emp => intro o; rfl
  | rng => intro o; rfl
  | seq a b iha ihb => intro o; simp [re, Re.str, str, lev_re, iha, ihb]
  | alt a b iha ihb => intro o; simp [re, Re.str, str, lev_re, iha, ihb]
  | rep a iha => intro o; simp [re, Re.str, str, lev_re, iha]
theorem shown_re (t : Tr) (o : Nat) (k : Int) : (t.re o).shown k = t.shown k := by unfold Re.shown shown; rw [lev_re, str_re]
theorem lev_range (t : Tr) : 1 ≤ t.lev ∧ t.lev ≤ 3 := by cases t <;> simp [lev]
theorem shown1 (t : Tr) : t.shown 1 = t.str := by have := t.lev_range; unfold shown par; rw [if_neg (by simp; omega)]
end Tr

/-- The bytes l lie in s from k on. -/
def At (s : ByteArray) : Nat → List Int → Prop
  | k, [] => k ≤ s.size
  | k, c :: l => k < s.size ∧ bt s (k : Int) = c ∧ At s (k + 1) l
theorem At.app {s : ByteArray} : ∀ {a b : List Int} {k : Nat}, At s k (a ++ b) → At s k a ∧ At s (k + a.length) b
  | [], b, k, h => ⟨by cases b with | nil => exact h | cons c l => exact Nat.le_of_lt h.1, h⟩
  | c :: a, b, k, h => by
    obtain ⟨h1, h2, h3⟩ := h
    obtain ⟨h4, h5⟩ := At.app h3
    exact ⟨⟨h1, h2, h4⟩, by rw [List.length_cons, show k + (a.length + 1) = k + 1 + a.length by omega]; exact h5⟩
theorem At.le {s : ByteArray} : ∀ {l : List Int} {k : Nat}, At s k l → k + l.length ≤ s.size
  | [], k, h => h
  | c :: l, k, h => by have := At.le h.2.2; simp; omega

/-- Not an asterisk; the end, a bar or a closing parenthesis. -/
def NoStar (s : ByteArray) (k : Nat) : Prop := k < s.size → bt s k ≠ 42
def EndC (s : ByteArray) (k : Nat) : Prop := k < s.size → bt s k = 124 ∨ bt s k = 41
def ST (s : ByteArray) (i : Int) (st : St) (r : Int × St) : Prop := ∃ N, ∀ n, N ≤ n → starF s n i st = some r
def AF (s : ByteArray) (st : St) (r : Int × St) : Prop := ∃ N, ∀ n, N ≤ n → atomF s n st = some r
def SL (s : ByteArray) (i : Int) (st : St) (r : Int × St) : Prop := ∃ N, ∀ n, N ≤ n → seqLoop s n i st = some r
def SF (s : ByteArray) (st : St) (r : Int × St) : Prop := ∃ N, ∀ n, N ≤ n → seqF s n st = some r
def AL (s : ByteArray) (i : Int) (st : St) (r : Int × St) : Prop := ∃ N, ∀ n, N ≤ n → altLoop s n i st = some r
def TF (s : ByteArray) (st : St) (r : Int × St) : Prop := ∃ N, ∀ n, N ≤ n → altF s n st = some r

/-- Behind the string l of the tree t. -/
def adv (st : St) (t : Tr) (l : List Int) : St := ⟨st.pos + l.length, st.out ++ t.post st.out.length, false⟩
def idx (st : St) (t : Tr) : Int := ((st.out.length + t.size - 1 : Nat) : Int)
def A3 (l : List Int) (t : Tr) : Prop := ∀ (s : ByteArray) (st : St) (r : Int × St), st.wrong = false → At s st.pos l → ST s (idx st t) (adv st t l) r → AF s st r
def A2 (l : List Int) (t : Tr) : Prop := ∀ (s : ByteArray) (st : St) (r : Int × St), st.wrong = false → At s st.pos l → NoStar s (st.pos + l.length) → SL s (idx st t) (adv st t l) r → SF s st r
def A1 (l : List Int) (t : Tr) : Prop := ∀ (s : ByteArray) (st : St) (r : Int × St), st.wrong = false → At s st.pos l → EndC s (st.pos + l.length) → AL s (idx st t) (adv st t l) r → TF s st r
/-- What a string begins with. -/
def Fst (l : List Int) : Prop := ∃ c l', l = c :: l' ∧ c ≠ 42 ∧ c ≠ 124 ∧ c ≠ 41
theorem isNext_at {s : ByteArray} {b : Int} {st : St} (h : st.pos < s.size) (hb : bt s st.pos = b) : isNext s b st = true := by unfold isNext; simp [h, hb]
theorem isNext_no {s : ByteArray} {b : Int} {st : St} (h : st.pos < s.size → bt s st.pos ≠ b) : isNext s b st = false := by
  unfold isNext
  by_cases hh : st.pos < s.size
  · simp [hh, h hh]
  · simp [hh]
theorem pass_at {s : ByteArray} {b : Int} {st : St} (h : st.pos < s.size) (hb : bt s st.pos = b) : pass s b st = ⟨st.pos + 1, st.out, st.wrong⟩ := by unfold pass; rw [if_pos (isNext_at h hb)]
theorem st_end {s : ByteArray} {i : Int} {st : St} (hw : st.wrong = false) (h : NoStar s st.pos) : ST s i st (i, st) := by
  refine ⟨1, fun n hn => ?_⟩
  obtain ⟨m, rfl⟩ : ∃ m, n = m + 1 := ⟨n - 1, by omega⟩
  rw [starF, if_neg (by simp [hw]), if_neg (by rw [isNext_no h]; simp)]
theorem sl_end {s : ByteArray} {i : Int} {st : St} (h : EndC s st.pos) : SL s i st (i, st) := by
  refine ⟨1, fun n hn => ?_⟩
  obtain ⟨m, rfl⟩ : ∃ m, n = m + 1 := ⟨n - 1, by omega⟩
  rw [seqLoop, if_neg]
  intro hh
  simp only [Bool.and_eq_true, decide_eq_true_eq, bne_iff_ne, ne_eq] at hh
  have := h hh.2.1
  omega
theorem al_end {s : ByteArray} {i : Int} {st : St} (h : st.pos < s.size → bt s st.pos ≠ 124) : AL s i st (i, st) := by
  refine ⟨1, fun n hn => ?_⟩
  obtain ⟨m, rfl⟩ : ∃ m, n = m + 1 := ⟨n - 1, by omega⟩
  rw [altLoop]
  split
  · rfl
  · rw [if_neg (by rw [isNext_no h]; simp)]
theorem EndC.noStar {s : ByteArray} {k : Nat} (h : EndC s k) : NoStar s k := fun hk e => by have := h hk; omega
theorem A3.two {l : List Int} {t : Tr} (h : A3 l t) : A2 l t := by
  intro s st r hw ha hn hr
  obtain ⟨N, hN⟩ := h s st _ hw ha (st_end rfl (by exact hn))
  obtain ⟨M, hM⟩ := hr
  refine ⟨N + M + 1, fun n hn => ?_⟩
  obtain ⟨m, rfl⟩ : ∃ m, n = m + 1 := ⟨n - 1, by omega⟩
  rw [seqF, hN m (by omega)]
  exact hM m (by omega)
theorem A2.one {l : List Int} {t : Tr} (h : A2 l t) : A1 l t := by
  intro s st r hw ha hn hr
  obtain ⟨N, hN⟩ := h s st _ hw ha hn.noStar (sl_end (by exact hn))
  obtain ⟨M, hM⟩ := hr
  refine ⟨N + M + 1, fun n hn => ?_⟩
  obtain ⟨m, rfl⟩ : ∃ m, n = m + 1 := ⟨n - 1, by omega⟩
  rw [altF, hN m (by omega)]
  exact hM m (by omega)
theorem A1.paren {l : List Int} {t : Tr} (h : A1 l t) (hf : Fst l) : A3 (40 :: (l ++ [41])) t := by
  intro s st r hw ha hr
  obtain ⟨h1, h2, h3⟩ := ha
  obtain ⟨h4, h5, h6, _⟩ := h3.app
  obtain ⟨c, l', e, c1, c2, c3⟩ := hf
  have hc : st.pos + 1 < s.size ∧ bt s ((st.pos + 1 : Nat) : Int) = c := by rw [e] at h4; exact ⟨h4.1, h4.2.1⟩
  have hp := pass_at h1 h2
  obtain ⟨N, hN⟩ := h s (pass s 40 st) (idx (pass s 40 st) t, adv (pass s 40 st) t l) (by rw [hp]; exact hw) (by rw [hp]; exact h4) (by rw [hp]; exact fun _ => .inr h6) (al_end (by rw [hp]; intro _; show bt s ((st.pos + 1 + l.length : Nat) : Int) ≠ 124; rw [h6]; decide))
  obtain ⟨M, hM⟩ := hr
  refine ⟨N + M + 1, fun n hn => ?_⟩
  obtain ⟨m, rfl⟩ : ∃ m, n = m + 1 := ⟨n - 1, by omega⟩
  rw [atomF, if_neg (by rw [isNext_no (by intro _; rw [h2]; decide)]; simp), if_pos (isNext_at h1 h2), if_neg (by rw [isNext_no (by rw [hp]; intro _; show bt s ((st.pos + 1 : Nat) : Int) ≠ 41; rw [hc.2]; exact c3)]; simp), hN m (by omega), Option.bind_some]
  rw [if_neg (by simp [adv])]
  have e1 : isNext s 41 (adv (pass s 40 st) t l) = true := isNext_at (by rw [hp]; exact h5) (by rw [hp]; exact h6)
  have e2 : (pass s 41 (adv (pass s 40 st) t l)).bad (!isNext s 41 (adv (pass s 40 st) t l)) = adv st t (40 :: (l ++ [41])) := by
    rw [e1]
    rw [hp] at e1 ⊢
    unfold pass
    rw [if_pos e1]
    simp only [St.bad, adv, Bool.not_true, List.length_cons, List.length_append, List.length_nil]
    congr 1; omega
  have e3 : idx (pass s 40 st) t = idx st t := by rw [hp]; rfl
  rw [e2, e3]
  exact hM m (by omega)
theorem adv_bind (st : St) (a b : Tr) (l1 l2 : List Int) (K : Int) : (adv (adv st a l1) b l2).add ⟨K, 0, 0, idx st a, idx (adv st a l1) b⟩ = ⟨st.pos + l1.length + l2.length, st.out ++ (a.post st.out.length ++ (b.post (st.out.length + a.size) ++ [⟨K, 0, 0, ((st.out.length + a.size - 1 : Nat) : Int), ((st.out.length + a.size + b.size - 1 : Nat) : Int)⟩])), false⟩ := by
  simp only [adv, St.add, idx, List.length_append, a.post_length, List.append_assoc]
theorem adv_length (st : St) (t : Tr) (l : List Int) : (adv st t l).out.length = st.out.length + t.size := by simp [adv, t.post_length]
theorem A2.seq {l1 l2 : List Int} {a b : Tr} (h : A2 l1 a) (k : A3 l2 b) (hf : Fst l2) : A2 (l1 ++ l2) (.seq a b) := by
  intro s st r hw ha hn hr
  obtain ⟨h1, h2⟩ := ha.app
  obtain ⟨c, l', e, c1, c2, c3⟩ := hf
  have hc : st.pos + l1.length < s.size ∧ bt s ((st.pos + l1.length : Nat) : Int) = c := by rw [e] at h2; exact ⟨h2.1, h2.2.1⟩
  rw [List.length_append, ← Nat.add_assoc] at hn
  refine h s st r hw h1 (fun _ => by rw [hc.2]; exact c1) ?_
  obtain ⟨N, hN⟩ := k s (adv st a l1) _ rfl h2 (st_end rfl (by exact hn))
  obtain ⟨M, hM⟩ := hr
  refine ⟨N + M + 1, fun n hn => ?_⟩
  obtain ⟨m, rfl⟩ : ∃ m, n = m + 1 := ⟨n - 1, by omega⟩
  rw [seqLoop, if_pos, hN m (by omega), Option.bind_some]
  · have e1 : (adv (adv st a l1) b l2).add ⟨2, 0, 0, idx st a, idx (adv st a l1) b⟩ = adv st (.seq a b) (l1 ++ l2) := by
      rw [adv_bind]; simp only [adv, Tr.post, List.length_append]; congr 1; omega
    have e2 : ((adv (adv st a l1) b l2).out.length : Int) = idx st (.seq a b) := by
      rw [adv_length, adv_length]; unfold idx; simp only [Tr.size]; omega
    simp only
    rw [e1, e2]
    exact hM m (by omega)
  · show (!false && _) = true
    simp only [Bool.not_false, Bool.true_and, Bool.and_eq_true, decide_eq_true_eq, bne_iff_ne, ne_eq]
    have e3 : (adv st a l1).pos = st.pos + l1.length := rfl
    rw [e3, hc.2]
    exact ⟨hc.1, c2, c3⟩
theorem A1.alt {l1 l2 : List Int} {a b : Tr} (h : A1 l1 a) (k : A2 l2 b) : A1 (l1 ++ 124 :: l2) (.alt a b) := by
  intro s st r hw ha hn hr
  obtain ⟨h1, h2, h3, h4⟩ := ha.app
  rw [List.length_append, List.length_cons] at hn
  have hp : pass s 124 (adv st a l1) = ⟨st.pos + l1.length + 1, st.out ++ a.post st.out.length, false⟩ := pass_at h2 h3
  refine h s st r hw h1 (fun _ => .inl h3) ?_
  have hn' : EndC s (st.pos + l1.length + 1 + l2.length) := by rw [show st.pos + l1.length + 1 + l2.length = st.pos + (l1.length + (l2.length + 1)) by omega]; exact hn
  obtain ⟨N, hN⟩ := k s (pass s 124 (adv st a l1)) _ (by rw [hp]) (by rw [hp]; exact h4) (by rw [hp]; exact hn'.noStar) (sl_end (by rw [hp]; exact hn'))
  obtain ⟨M, hM⟩ := hr
  refine ⟨N + M + 1, fun n hn => ?_⟩
  obtain ⟨m, rfl⟩ : ∃ m, n = m + 1 := ⟨n - 1, by omega⟩
  rw [altLoop, if_neg (by simp [adv]), if_pos (isNext_at h2 h3), hN m (by omega), Option.bind_some]
  have ei : idx (pass s 124 (adv st a l1)) b = idx (adv st a l1) b := by rw [hp]; rfl
  have ea : (adv (pass s 124 (adv st a l1)) b l2) = ⟨st.pos + l1.length + 1 + l2.length, (adv (adv st a l1) b l2).out, false⟩ := by rw [hp]; rfl
  have e1 : (adv (pass s 124 (adv st a l1)) b l2).add ⟨3, 0, 0, idx st a, idx (adv st a l1) b⟩ = adv st (.alt a b) (l1 ++ 124 :: l2) := by
    rw [ea]
    have := congrArg St.out (adv_bind st a b l1 l2 3)
    simp only [St.add] at this ⊢
    rw [this]
    simp only [adv, Tr.post, List.length_append, List.length_cons]; congr 1; omega
  have e2 : ((adv (pass s 124 (adv st a l1)) b l2).out.length : Int) = idx st (.alt a b) := by
    rw [ea]; simp only; rw [adv_length, adv_length]; unfold idx; simp only [Tr.size]; omega
  simp only
  rw [ei, e1, e2]
  exact hM m (by omega)
theorem A3.rep {l : List Int} {a : Tr} (h : A3 l a) : A3 (l ++ [42]) (.rep a) := by
  intro s st r hw ha hr
  obtain ⟨h1, h2, h3, h4⟩ := ha.app
  refine h s st r hw h1 ?_
  obtain ⟨M, hM⟩ := hr
  refine ⟨M + 1, fun n hn => ?_⟩
  obtain ⟨m, rfl⟩ : ∃ m, n = m + 1 := ⟨n - 1, by omega⟩
  rw [starF, if_neg (by simp [adv]), if_pos (isNext_at h2 h3)]
  have hp : pass s 42 (adv st a l) = ⟨st.pos + l.length + 1, st.out ++ a.post st.out.length, false⟩ := pass_at h2 h3
  have ha := a.size_pos
  have e1 : (pass s 42 (adv st a l)).add ⟨4, 0, 0, idx st a, 0⟩ = adv st (.rep a) (l ++ [42]) := by
    rw [hp]; simp only [St.add, adv, Tr.post, List.length_append, List.length_cons, List.length_nil, List.append_assoc, idx]; congr 1
  have e2 : ((adv st a l).out.length : Int) = idx st (.rep a) := by rw [adv_length]; unfold idx; simp only [Tr.size]; omega
  rw [e1, e2]
  exact hM m (by omega)
theorem A3.emp : A3 [40, 41] .emp := by
  intro s st r hw ha hr
  obtain ⟨h1, h2, h3, h4, h5⟩ := ha
  have hp := pass_at h1 h2
  have hp2 : pass s 41 (pass s 40 st) = ⟨st.pos + 1 + 1, st.out, false⟩ := by rw [hp, hw]; exact pass_at h3 h4
  obtain ⟨M, hM⟩ := hr
  refine ⟨M + 1, fun n hn => ?_⟩
  obtain ⟨m, rfl⟩ : ∃ m, n = m + 1 := ⟨n - 1, by omega⟩
  rw [atomF, if_neg (by rw [isNext_no (by intro _; rw [h2]; decide)]; simp), if_pos (isNext_at h1 h2), if_pos (by rw [hp]; exact isNext_at h3 h4), hp2]
  exact hM m (by omega)

/-! ### characters -/
theorem plain_not {b : Int} (h : plainB b = true) : b ≠ 40 ∧ b ≠ 41 ∧ b ≠ 42 ∧ b ≠ 45 ∧ b ≠ 91 ∧ b ≠ 92 ∧ b ≠ 93 ∧ b ≠ 124 ∧ 32 < b ∧ b < 127 := by
  unfold plainB specials at h
  simp only [Bool.and_eq_true, Bool.not_eq_true', decide_eq_true_eq, List.contains_eq_mem, decide_eq_false_iff_not, List.mem_cons, List.not_mem_nil, or_false, not_or] at h
  obtain ⟨⟨a1, a2, a3, a4, a5, a6, a7, a8⟩, a9, a10⟩ := h
  exact ⟨a1, a2, a3, a4, a5, a6, a7, a8, a9, a10⟩
theorem plain_92 : plainB 92 = false := by decide
theorem hex_digit : ∀ d : Fin 16, hexV (bt digits (d.val : Int)) = (d.val : Int) := by decide
theorem char_rd {s : ByteArray} {st : St} {b : Int} (h0 : 0 ≤ b) (h1 : b ≤ 255) (ha : At s st.pos (chrL b)) : charF s st = (b, ⟨st.pos + (chrL b).length, st.out, st.wrong⟩) := by
  unfold chrL at *
  by_cases hp : plainB b = true
  · rw [if_pos hp] at *
    obtain ⟨a1, a2, a3⟩ := ha
    unfold charF
    rw [if_pos ⟨a1, by rw [a2]; exact hp⟩, a2]
    rfl
  · rw [if_neg hp] at *
    obtain ⟨a1, a2, a3, a4, a5, a6, a7, a8, a9⟩ := ha
    have p1 := pass_at a1 a2
    have p2 : pass s 120 (pass s 92 st) = ⟨st.pos + 1 + 1, st.out, st.wrong⟩ := by rw [p1]; exact pass_at a3 a4
    have d1 : hexV (bt digits (b / 16)) = b / 16 := by
      have := hex_digit ⟨(b / 16).toNat, by omega⟩
      simp only [show ((b / 16).toNat : Int) = b / 16 by omega] at this; exact this
    have d2 : hexV (bt digits (b % 16)) = b % 16 := by
      have := hex_digit ⟨(b % 16).toNat, by omega⟩
      simp only [show ((b % 16).toNat : Int) = b % 16 by omega] at this; exact this
    have a6' : bt s ((st.pos : Int) + 1 + 1) = bt digits (b / 16) := a6
    have a8' : bt s ((st.pos : Int) + 1 + 1 + 1) = bt digits (b % 16) := a8
    unfold charF
    rw [if_neg (by rw [a2, plain_92]; simp), if_pos (isNext_at a1 a2), if_pos (by rw [p1]; exact isNext_at a3 a4), p2]
    simp only [Int.natCast_add, Int.cast_ofNat_Int]
    rw [if_pos (by omega)]
    rw [a6', a8', d1, d2, if_pos (by omega)]
    rw [show 16 * (b / 16) + b % 16 = b by omega]
    rfl
theorem char_fst {b : Int} : Fst (chrL b) := by
  unfold chrL
  split
  · rename_i h
    have := plain_not h
    exact ⟨b, [], rfl, by omega, by omega, by omega⟩
  · exact ⟨92, _, rfl, by decide, by decide, by decide⟩
/-- What a character's first byte is not. -/
theorem char_fst2 {b : Int} : ∃ c l, chrL b = c :: l ∧ c ≠ 91 ∧ c ≠ 40 := by
  unfold chrL
  split
  · rename_i h
    have := plain_not h
    exact ⟨b, [], rfl, by omega, by omega⟩
  · exact ⟨92, _, rfl, by decide, by decide⟩
theorem A3.chr {b : Int} (h0 : 0 ≤ b) (h1 : b ≤ 255) : A3 (chrL b) (.rng b b) := by
  intro s st r hw ha hr
  have hc := char_rd h0 h1 ha
  obtain ⟨c, l, e, e1, e2⟩ := char_fst2 (b := b)
  have hb : bt s (st.pos : Int) = c := by rw [e] at ha; exact ha.2.1
  obtain ⟨M, hM⟩ := hr
  refine ⟨M + 1, fun n hn => ?_⟩
  obtain ⟨m, rfl⟩ : ∃ m, n = m + 1 := ⟨n - 1, by omega⟩
  rw [atomF, if_neg (by rw [isNext_no (by intro _; rw [hb]; exact e1)]; simp), if_neg (by rw [isNext_no (by intro _; rw [hb]; exact e2)]; simp), hc]
  have e4 : (⟨st.pos + (chrL b).length, st.out, st.wrong⟩ : St).add ⟨1, b, b, 0, 0⟩ = adv st (.rng b b) (chrL b) := by rw [hw]; rfl
  simp only
  rw [e4]
  exact hM m (by omega)
theorem A3.range {lo hi : Int} (h0 : 0 ≤ lo) (h1 : lo ≤ hi) (h2 : hi ≤ 255) : A3 (91 :: (chrL lo ++ 45 :: (chrL hi ++ [93]))) (.rng lo hi) := by
  intro s st r hw ha hr
  obtain ⟨a1, a2, a3⟩ := ha
  obtain ⟨a4, a5, a6, a7⟩ := a3.app
  obtain ⟨a8, a9, a10, _⟩ := a7.app
  have p1 : pass s 91 st = ⟨st.pos + 1, st.out, false⟩ := by rw [← hw]; exact pass_at a1 a2
  have c1 : charF s (pass s 91 st) = (lo, ⟨st.pos + 1 + (chrL lo).length, st.out, false⟩) := by rw [p1]; exact char_rd h0 (by omega) a4
  have n1 : isNext s 45 ⟨st.pos + 1 + (chrL lo).length, st.out, false⟩ = true := isNext_at a5 a6
  have p2 : pass s 45 ⟨st.pos + 1 + (chrL lo).length, st.out, false⟩ = ⟨st.pos + 1 + (chrL lo).length + 1, st.out, false⟩ := pass_at a5 a6
  have c2 : charF s ⟨st.pos + 1 + (chrL lo).length + 1, st.out, false⟩ = (hi, ⟨st.pos + 1 + (chrL lo).length + 1 + (chrL hi).length, st.out, false⟩) := char_rd (st := ⟨st.pos + 1 + (chrL lo).length + 1, st.out, false⟩) (by omega) h2 a8
  have n2 : isNext s 93 ⟨st.pos + 1 + (chrL lo).length + 1 + (chrL hi).length, st.out, false⟩ = true := isNext_at a9 a10
  have p3 : pass s 93 ⟨st.pos + 1 + (chrL lo).length + 1 + (chrL hi).length, st.out, false⟩ = ⟨st.pos + 1 + (chrL lo).length + 1 + (chrL hi).length + 1, st.out, false⟩ := pass_at a9 a10
  have hr' : rangeF s (pass s 91 st) = (⟨1, lo, hi, 0, 0⟩, ⟨st.pos + 1 + (chrL lo).length + 1 + (chrL hi).length + 1, st.out, false⟩) := by
    unfold rangeF
    rw [c1]
    simp only
    rw [n1, p2, c2]
    simp only
    rw [n2, p3]
    simp [St.bad, h1]
  obtain ⟨M, hM⟩ := hr
  refine ⟨M + 1, fun n hn => ?_⟩
  obtain ⟨m, rfl⟩ : ∃ m, n = m + 1 := ⟨n - 1, by omega⟩
  rw [atomF, if_pos (isNext_at a1 a2), hr']
  have e4 : (⟨st.pos + 1 + (chrL lo).length + 1 + (chrL hi).length + 1, st.out, false⟩ : St).add ⟨1, lo, hi, 0, 0⟩ = adv st (.rng lo hi) (91 :: (chrL lo ++ 45 :: (chrL hi ++ [93]))) := by
    simp only [St.add, adv, Tr.post, List.length_cons, List.length_append, List.length_nil]; congr 1; omega
  simp only
  rw [e4]
  exact hM m (by omega)

/-! ### trees -/
theorem par_yes (l : List Int) : par true l = 40 :: (l ++ [41]) := rfl
theorem par_no (l : List Int) : par false l = l := rfl
theorem fst_paren (l : List Int) : Fst (40 :: l) := ⟨40, l, rfl, by decide, by decide, by decide⟩
theorem Fst.app {l : List Int} (h : Fst l) (m : List Int) : Fst (l ++ m) := by
  obtain ⟨c, l', rfl, h⟩ := h; exact ⟨c, l' ++ m, rfl, h⟩
theorem Fst.par {l : List Int} (h : Fst l) (b : Bool) : Fst (par b l) := by
  cases b
  · exact h
  · exact fst_paren _
theorem Tr.fst (t : Tr) : Fst t.str := by
  induction t with
  | emp => exact fst_paren _
  | rng lo hi =>
    unfold Tr.str
    split
    · exact ⟨91, _, rfl, by decide, by decide, by decide⟩
    · exact char_fst
  | seq a b iha ihb => exact (iha.par _).app _
  | alt a b iha ihb => exact (iha.par _).app _
  | rep a iha => exact (iha.par _).app _
/-- A tree's string is read at each of the levels. -/
structure Rd (t : Tr) : Prop where
  three : t.lev = 3 → A3 t.str t
  two : 2 ≤ t.lev → A2 t.str t
  one : A1 t.str t
theorem Rd.of3 {t : Tr} (h : A3 t.str t) : Rd t := ⟨fun _ => h, fun _ => h.two, h.two.one⟩
theorem Rd.par3 {t : Tr} (h : Rd t) : A3 (t.shown 3) t := by
  have := t.lev_range
  unfold Tr.shown
  by_cases hl : t.lev < 3
  · rw [decide_eq_true hl]; exact h.one.paren t.fst
  · rw [decide_eq_false hl]; exact h.three (by omega)
theorem Rd.par2 {t : Tr} (h : Rd t) : A2 (t.shown 2) t := by
  have := t.lev_range
  unfold Tr.shown
  by_cases hl : t.lev < 2
  · rw [decide_eq_true hl]; exact (h.one.paren t.fst).two
  · rw [decide_eq_false hl]; exact h.two (by omega)
theorem Rd.par1 {t : Tr} (h : Rd t) : A1 (t.shown 1) t := by rw [t.shown1]; exact h.one
theorem Tr.rd (t : Tr) : t.ok → Rd t := by
  induction t with
  | emp => intro _; exact .of3 A3.emp
  | rng lo hi =>
    rintro ⟨h0, h1, h2⟩
    refine .of3 ?_
    unfold Tr.str
    by_cases hl : lo < hi
    · rw [if_pos hl]; exact A3.range h0 h1 h2
    · rw [if_neg hl]
      have : lo = hi := by omega
      subst this
      exact A3.chr h0 h2
  | seq a b iha ihb =>
    rintro ⟨ha, hb⟩
    have h := A2.seq (iha ha).par2 (ihb hb).par3 (b.fst.par _)
    exact ⟨fun h => by simp [Tr.lev] at h, fun _ => h, h.one⟩
  | alt a b iha ihb =>
    rintro ⟨ha, hb⟩
    have h := A1.alt (iha ha).par1 (ihb hb).par2
    exact ⟨fun h => by simp [Tr.lev] at h, fun h => by simp [Tr.lev] at h, h⟩
  | rep a iha =>
    intro ha
    exact .of3 (A3.rep (iha ha).par3)

/-! ### the whole string -/
theorem at_self : ∀ (l : List Int) (s : ByteArray) (k : Nat), k + l.length = s.size → (∀ i, i < l.length → bt s ((k + i : Nat) : Int) = l.getD i 0) → At s k l
  | [], s, k, h, _ => by simp at h; unfold At; omega
  | c :: l, s, k, h, g => by
    refine ⟨by simp at h; omega, by simpa using g 0 (by simp), at_self l s (k + 1) (by simp at h; omega) fun i hi => ?_⟩
    have := g (i + 1) (by simpa using hi)
    rw [show k + 1 + i = k + (i + 1) by omega, this]; simp
/-- The reader reads a tree's string. -/
theorem A1.reads {l : List Int} {t : Tr} (h : A1 l t) {s : ByteArray} (hs : At s 0 l) (hl : l.length = s.size) : ∃ n, altF s n st0 = some (((t.size - 1 : Nat) : Int), ⟨s.size, t.post 0, false⟩) := by
  obtain ⟨N, hN⟩ := h s st0 (idx st0 t, adv st0 t l) rfl hs (fun hk => by simp [st0] at hk; omega) (al_end (fun hk => by simp [adv, st0] at hk; omega))
  refine ⟨N, ?_⟩
  rw [hN N (Nat.le_refl _)]
  simp [idx, adv, st0, hl]
theorem parse_tr {s : ByteArray} {t : Tr} {i : Int} (hz : t.size ≤ 512) : parseF s (i, ⟨s.size, t.post 0, false⟩) = (t.post 0, 0) := by
  have := t.post_length 0
  unfold parseF
  simp only [Bool.false_or, Nat.lt_irrefl, decide_false, Bool.false_eq_true, if_false]
  rw [if_neg (by omega)]
/-- The bytes of a string are in order. -/
theorem chr_ok {b : Int} (h0 : 0 ≤ b) (h1 : b ≤ 255) : ∀ c ∈ chrL b, okB c = true := by
  unfold chrL
  split
  · rename_i h
    have := plain_not h
    intro c hc; simp at hc; subst hc; unfold okB; simp; omega
  · have hd : ∀ d : Fin 16, okB (bt digits (d.val : Int)) = true := by decide
    intro c hc
    simp only [List.mem_cons, List.not_mem_nil, or_false] at hc
    rcases hc with rfl | rfl | rfl | rfl
    · decide
    · decide
    · have := hd ⟨(b / 16).toNat, by omega⟩; simp only [show ((b / 16).toNat : Int) = b / 16 by omega] at this; exact this
    · have := hd ⟨(b % 16).toNat, by omega⟩; simp only [show ((b % 16).toNat : Int) = b % 16 by omega] at this; exact this
theorem par_ok {l : List Int} (h : ∀ c ∈ l, okB c = true) (b : Bool) : ∀ c ∈ par b l, okB c = true := by
  cases b
  · exact h
  · intro c hc
    simp only [par_yes, List.mem_cons, List.mem_append, List.not_mem_nil, or_false] at hc
    rcases hc with rfl | hc | rfl
    · decide
    · exact h c hc
    · decide
theorem Tr.str_ok (t : Tr) : t.ok → ∀ c ∈ t.str, okB c = true := by
  induction t with
  | emp => intro _ c hc; simp only [Tr.str, List.mem_cons, List.not_mem_nil, or_false] at hc; rcases hc with rfl | rfl <;> decide
  | rng lo hi =>
    rintro ⟨h0, h1, h2⟩ c hc
    unfold Tr.str at hc
    split at hc
    · simp only [List.mem_cons, List.mem_append, List.not_mem_nil, or_false] at hc
      rcases hc with rfl | hc | rfl | hc | rfl
      · decide
      · exact chr_ok h0 (by omega) c hc
      · decide
      · exact chr_ok (by omega) h2 c hc
      · decide
    · exact chr_ok h0 (by omega) c hc
  | seq a b iha ihb =>
    rintro ⟨ha, hb⟩ c hc
    rcases List.mem_append.1 hc with hc | hc
    · exact par_ok (iha ha) _ c hc
    · exact par_ok (ihb hb) _ c hc
  | alt a b iha ihb =>
    rintro ⟨ha, hb⟩ c hc
    rcases List.mem_append.1 hc with hc | hc
    · exact par_ok (iha ha) _ c hc
    · rcases List.mem_cons.1 hc with rfl | hc
      · decide
      · exact par_ok (ihb hb) _ c hc
  | rep a iha =>
    intro ha c hc
    rcases List.mem_append.1 hc with hc | hc
    · exact par_ok (iha ha) _ c hc
    · simp at hc; subst hc; decide
end Go.Proofs.YtaphblnelmncaaaDoor.PA
end

section
/- The reader's functions as a parser of trees: what it reads, what that costs, that it ends. -/
set_option linter.unusedVariables false
namespace Go.Proofs.YtaphblnelmncaaaDoor.PA
open Go.RowKit Go.Proofs.YtaphblnelmncaaaDoorW.PrintWords Go.Proofs.YtaphblnelmncaaaDoorW.PrintLast Go.Proofs.YtaphblnelmncaaaDoorW.PrintMore

/-- The byte c lies at k. -/
def is (s : ByteArray) (k : Nat) (c : Int) : Bool := decide (k < s.size) && bt s (k : Int) == c
/-- A character: its byte, and the offset behind it. -/
def rChar (s : ByteArray) (k : Nat) : Option (Int × Nat) :=
  if k < s.size ∧ plainB (bt s (k : Int)) = true then some (bt s (k : Int), k + 1)
  else if k + 3 < s.size ∧ bt s (k : Int) = 92 ∧ bt s ((k + 1 : Nat) : Int) = 120 ∧ 0 ≤ hexV (bt s ((k + 2 : Nat) : Int)) ∧ 0 ≤ hexV (bt s ((k + 3 : Nat) : Int)) then some (16 * hexV (bt s ((k + 2 : Nat) : Int)) + hexV (bt s ((k + 3 : Nat) : Int)), k + 4)
  else none
/-- What stands between brackets. -/
def rRange (s : ByteArray) (k : Nat) : Option (Int × Int × Nat) :=
  (rChar s k).bind fun a => if is s a.2 45 then (rChar s (a.2 + 1)).bind fun b => if is s b.2 93 = true ∧ a.1 ≤ b.1 then some (a.1, b.1, b.2 + 1) else none else none
def rStar (s : ByteArray) : Nat → Tr → Nat → Option (Option (Tr × Nat))
  | 0, _, _ => none
  | n + 1, t, k => if is s k 42 then rStar s n (.rep t) (k + 1) else some (some (t, k))
mutual
def rAtom (s : ByteArray) : Nat → Nat → Option (Option (Tr × Nat))
  | 0, _ => none
  | n + 1, k =>
    if is s k 91 then
      match rRange s (k + 1) with
      | none => some none
      | some (lo, hi, k') => rStar s n (.rng lo hi) k'
    else if is s k 40 then
      if is s (k + 1) 41 then rStar s n .emp (k + 2)
      else (rAlt s n (k + 1)).bind fun x => match x with
        | none => some none
        | some (t, k') => if is s k' 41 then rStar s n t (k' + 1) else some none
    else match rChar s k with
      | none => some none
      | some (b, k') => rStar s n (.rng b b) k'
def rSeq (s : ByteArray) : Nat → Nat → Option (Option (Tr × Nat))
  | 0, _ => none
  | n + 1, k => (rAtom s n k).bind fun x => match x with
    | none => some none
    | some (t, k') => rSeqL s n t k'
def rSeqL (s : ByteArray) : Nat → Tr → Nat → Option (Option (Tr × Nat))
  | 0, _, _ => none
  | n + 1, t, k =>
    if k < s.size ∧ bt s (k : Int) ≠ 124 ∧ bt s (k : Int) ≠ 41 then (rAtom s n k).bind fun x => match x with
      | none => some none
      | some (u, k') => rSeqL s n (.seq t u) k'
    else some (some (t, k))
def rAlt (s : ByteArray) : Nat → Nat → Option (Option (Tr × Nat))
  | 0, _ => none
  | n + 1, k => (rSeq s n k).bind fun x => match x with
    | none => some none
    | some (t, k') => rAltL s n t k'
def rAltL (s : ByteArray) : Nat → Tr → Nat → Option (Option (Tr × Nat))
  | 0, _, _ => none
  | n + 1, t, k =>
    if is s k 124 then (rSeq s n (k + 1)).bind fun x => match x with
      | none => some none
      | some (u, k') => rAltL s n (.alt t u) k'
    else some (some (t, k))
end

/-! ### the program's reader does this -/
theorem isNext_is (s : ByteArray) (b : Int) (st : St) : isNext s b st = is s st.pos b := rfl
theorem is_iff {s : ByteArray} {k : Nat} {c : Int} : is s k c = true ↔ k < s.size ∧ bt s (k : Int) = c := by unfold is; simp
theorem pass_is {s : ByteArray} {b : Int} {st : St} (h : is s st.pos b = true) : pass s b st = ⟨st.pos + 1, st.out, st.wrong⟩ := by unfold pass; rw [if_pos (show isNext s b st = true from h)]
theorem charF_wrong {s : ByteArray} {st : St} (h : st.wrong = true) : (charF s st).2.wrong = true := by
  have p1 := (pass_out s 92 st).2.1
  have p2 := (pass_out s 120 (pass s 92 st)).2.1
  unfold charF St.bad
  split
  · exact h
  · split
    · split
      · split
        · split
          · simp only; rw [p2, p1]; exact h
          · rfl
        · rfl
      · rfl
    · rfl
theorem char_sim (s : ByteArray) (st : St) (hw : st.wrong = false) : (∃ b k, rChar s st.pos = some (b, k) ∧ charF s st = (b, ⟨k, st.out, false⟩)) ∨ (rChar s st.pos = none ∧ (charF s st).2.wrong = true) := by
  unfold rChar charF
  by_cases h1 : st.pos < s.size ∧ plainB (bt s (st.pos : Int)) = true
  · rw [if_pos h1, if_pos h1]
    exact .inl ⟨_, _, rfl, by rw [hw]⟩
  · rw [if_neg h1, if_neg h1]
    by_cases h2 : is s st.pos 92 = true
    · have e2 : isNext s 92 st = true := h2
      have p2 := pass_is h2
      rw [if_pos e2, p2]
      obtain ⟨q1, q2⟩ := is_iff.1 h2
      by_cases h3 : is s (st.pos + 1) 120 = true
      · have e3 : isNext s 120 ⟨st.pos + 1, st.out, st.wrong⟩ = true := h3
        have p3 : pass s 120 ⟨st.pos + 1, st.out, st.wrong⟩ = ⟨st.pos + 1 + 1, st.out, st.wrong⟩ := pass_is h3
        obtain ⟨q3, q4⟩ := is_iff.1 h3
        rw [if_pos e3, p3]
        simp only
        by_cases h4 : st.pos + 1 + 1 + 1 < s.size
        · rw [if_pos h4]
          have c1 : ((st.pos + 1 + 1 : Nat) : Int) = ((st.pos + 2 : Nat) : Int) := rfl
          have c2 : ((st.pos + 1 + 1 : Nat) : Int) + 1 = ((st.pos + 3 : Nat) : Int) := by omega
          rw [c2, c1]
          by_cases h5 : 0 ≤ hexV (bt s ((st.pos + 2 : Nat) : Int)) ∧ 0 ≤ hexV (bt s ((st.pos + 3 : Nat) : Int))
          · rw [if_pos h5, if_pos ⟨by omega, q2, q4, h5.1, h5.2⟩]
            exact .inl ⟨_, _, rfl, by rw [hw]⟩
          · rw [if_neg h5, if_neg (fun h => h5 ⟨h.2.2.2.1, h.2.2.2.2⟩)]
            exact .inr ⟨rfl, rfl⟩
        · rw [if_neg h4, if_neg (fun h => h4 (by omega))]
          exact .inr ⟨rfl, rfl⟩
      · have e3 : ¬ isNext s 120 ⟨st.pos + 1, st.out, st.wrong⟩ = true := h3
        rw [if_neg e3, if_neg (fun h => h3 (is_iff.2 ⟨by omega, h.2.2.1⟩))]
        exact .inr ⟨rfl, rfl⟩
    · have e2 : ¬ isNext s 92 st = true := h2
      rw [if_neg e2, if_neg (fun h => h2 (is_iff.2 ⟨by omega, h.2.1⟩))]
      exact .inr ⟨rfl, rfl⟩
theorem range_sim (s : ByteArray) (st : St) (hw : st.wrong = false) : (∃ lo hi k, rRange s st.pos = some (lo, hi, k) ∧ rangeF s st = (⟨1, lo, hi, 0, 0⟩, ⟨k, st.out, false⟩)) ∨ (rRange s st.pos = none ∧ (rangeF s st).2.wrong = true) := by
  unfold rRange rangeF
  rcases char_sim s st hw with ⟨lo, k1, h1, h2⟩ | ⟨h1, h2⟩
  · rw [h1, h2]
    simp only [Option.bind_some]
    by_cases h3 : is s k1 45 = true
    · have e3 : isNext s 45 (⟨k1, st.out, false⟩ : St) = true := h3
      have p3 : pass s 45 (⟨k1, st.out, false⟩ : St) = ⟨k1 + 1, st.out, false⟩ := pass_is h3
      rw [if_pos h3, e3, p3]
      rcases char_sim s ⟨k1 + 1, st.out, false⟩ rfl with ⟨hi, k2, h4, h5⟩ | ⟨h4, h5⟩
      · simp only at h4 h5
        rw [h4, h5]
        simp only [Option.bind_some, Bool.not_true, Bool.or_self, Bool.false_eq_true, if_false]
        by_cases h6 : is s k2 93 = true
        · have e6 : isNext s 93 (⟨k2, st.out, false⟩ : St) = true := h6
          have p6 : pass s 93 (⟨k2, st.out, false⟩ : St) = ⟨k2 + 1, st.out, false⟩ := pass_is h6
          rw [e6, p6]
          by_cases h7 : lo ≤ hi
          · rw [if_pos ⟨h6, h7⟩]
            exact .inl ⟨_, _, _, rfl, by simp [St.bad, h7]⟩
          · rw [if_neg (fun h => h7 h.2)]
            exact .inr ⟨rfl, by simp [St.bad]; omega⟩
        · have e6 : isNext s 93 (⟨k2, st.out, false⟩ : St) = false := Bool.eq_false_iff.2 h6
          rw [if_neg (fun h => h6 h.1), e6]
          exact .inr ⟨rfl, by simp [St.bad]⟩
      · simp only at h4
        rw [h4]
        simp only [Option.bind_none]
        refine .inr ⟨trivial, ?_⟩
        simp only [h5, Bool.true_or, if_true]
        rfl
    · have e3 : isNext s 45 (⟨k1, st.out, false⟩ : St) = false := Bool.eq_false_iff.2 h3
      rw [if_neg h3, e3]
      refine .inr ⟨rfl, ?_⟩
      simp only [Bool.not_false, Bool.or_true, if_true]
      rfl
  · rw [h1]
    refine .inr ⟨rfl, ?_⟩
    have h3 : (charF s (pass s 45 (charF s st).2)).2.wrong = true := charF_wrong (by rw [(pass_out s 45 _).2.1]; exact h2)
    simp only [h3, Bool.true_or, if_true]
    rfl
/-- What the program's reader has done, said by trees. -/
def Sim (st : St) (r : Int × St) (x : Option (Option (Tr × Nat))) : Prop := (x = some none ∧ r.2.wrong = true) ∨ ∃ t k, x = some (some (t, k)) ∧ r = (idx st t, ⟨k, st.out ++ t.post st.out.length, false⟩)
structure AllSim (s : ByteArray) (n : Nat) : Prop where
  bad : ∀ i st r, st.wrong = true → starF s n i st = some r → r.2.wrong = true
  badS : ∀ i st r, st.wrong = true → seqLoop s n i st = some r → r.2.wrong = true
  badA : ∀ i st r, st.wrong = true → altLoop s n i st = some r → r.2.wrong = true
  star : ∀ st t k r, starF s n (idx st t) ⟨k, st.out ++ t.post st.out.length, false⟩ = some r → Sim st r (rStar s n t k)
  atom : ∀ st r, st.wrong = false → atomF s n st = some r → Sim st r (rAtom s n st.pos)
  seq : ∀ st r, st.wrong = false → seqF s n st = some r → Sim st r (rSeq s n st.pos)
  seqL : ∀ st t k r, seqLoop s n (idx st t) ⟨k, st.out ++ t.post st.out.length, false⟩ = some r → Sim st r (rSeqL s n t k)
  alt : ∀ st r, st.wrong = false → altF s n st = some r → Sim st r (rAlt s n st.pos)
  altL : ∀ st t k r, altLoop s n (idx st t) ⟨k, st.out ++ t.post st.out.length, false⟩ = some r → Sim st r (rAltL s n t k)
theorem add_rep (st : St) (t : Tr) (k : Nat) : (⟨k, st.out ++ t.post st.out.length, false⟩ : St).add ⟨4, 0, 0, idx st t, 0⟩ = ⟨k, st.out ++ (Tr.rep t).post st.out.length, false⟩ := by
  simp only [St.add, Tr.post, idx, List.append_assoc]
theorem len_rep (st : St) (t : Tr) : ((st.out ++ t.post st.out.length).length : Int) = idx st (.rep t) := by
  rw [List.length_append, t.post_length]; unfold idx; simp only [Tr.size]; omega
theorem add_two (st : St) (t u : Tr) (k : Nat) (K : Int) (T : Tr) (hT : ∀ o, T.post o = t.post o ++ (u.post (o + t.size) ++ [⟨K, 0, 0, ((o + t.size - 1 : Nat) : Int), ((o + t.size + u.size - 1 : Nat) : Int)⟩])) :
    (⟨k, (st.out ++ t.post st.out.length) ++ u.post (st.out ++ t.post st.out.length).length, false⟩ : St).add ⟨K, 0, 0, idx st t, idx ⟨k, st.out ++ t.post st.out.length, false⟩ u⟩ = ⟨k, st.out ++ T.post st.out.length, false⟩ := by
  simp only [St.add, hT, idx, List.append_assoc, List.length_append, t.post_length]
theorem len_two (st : St) (t u T : Tr) (hT : T.size = t.size + u.size + 1) : (((st.out ++ t.post st.out.length) ++ u.post (st.out ++ t.post st.out.length).length).length : Int) = idx st T := by
  simp only [List.length_append, t.post_length, u.post_length]; unfold idx; rw [hT]; omega
theorem idx_k (st : St) (o : List S50) (k k' : Nat) (w w' : Bool) (u : Tr) : idx ⟨k, o, w⟩ u = idx ⟨k', o, w'⟩ u := rfl
theorem allSim (s : ByteArray) : ∀ n, AllSim s n
  | 0 => ⟨fun _ _ _ _ h => by simp [starF] at h, fun _ _ _ _ h => by simp [seqLoop] at h, fun _ _ _ _ h => by simp [altLoop] at h, fun _ _ _ _ h => by simp [starF] at h, fun _ _ _ h => by simp [atomF] at h, fun _ _ _ h => by simp [seqF] at h, fun _ _ _ _ h => by simp [seqLoop] at h, fun _ _ _ h => by simp [altF] at h, fun _ _ _ _ h => by simp [altLoop] at h⟩
  | n + 1 => by
    have ih := allSim s n
    refine ⟨?_, ?_, ?_, ?_, ?_, ?_, ?_, ?_, ?_⟩
    · intro i st r hw h
      rw [starF, if_pos hw] at h
      cases h; exact hw
    · intro i st r hw h
      rw [seqLoop, hw] at h
      simp at h
      subst h; exact hw
    · intro i st r hw h
      rw [altLoop, if_pos hw] at h
      cases h; exact hw
    · intro st t k r h
      rw [starF, if_neg (by simp)] at h
      rw [rStar]
      by_cases h1 : is s k 42 = true
      · rw [if_pos (show isNext s 42 (⟨k, st.out ++ t.post st.out.length, false⟩ : St) = true from h1)] at h
        rw [show pass s 42 (⟨k, st.out ++ t.post st.out.length, false⟩ : St) = ⟨k + 1, st.out ++ t.post st.out.length, false⟩ from pass_is h1, add_rep, len_rep] at h
        rw [if_pos h1]
        exact ih.star st _ _ _ h
      · rw [if_neg (show ¬ isNext s 42 (⟨k, st.out ++ t.post st.out.length, false⟩ : St) = true from h1)] at h
        rw [if_neg h1]
        cases h
        exact .inr ⟨t, k, rfl, rfl⟩
    · intro st r hw h
      rw [atomF] at h
      rw [rAtom]
      by_cases h1 : is s st.pos 91 = true
      · rw [if_pos (show isNext s 91 st = true from h1)] at h
        rw [pass_is h1, hw] at h
        rw [if_pos h1]
        rcases range_sim s ⟨st.pos + 1, st.out, false⟩ rfl with ⟨lo, hi, k, g1, g2⟩ | ⟨g1, g2⟩
        · simp only at g1 g2
          rw [g1]
          rw [g2] at h
          exact ih.star st (.rng lo hi) k r h
        · simp only at g1
          rw [g1]
          exact .inl ⟨rfl, ih.bad _ _ _ (by simp only [St.add]; exact g2) h⟩
      · rw [if_neg (show ¬ isNext s 91 st = true from h1)] at h
        rw [if_neg h1]
        by_cases h2 : is s st.pos 40 = true
        · rw [if_pos (show isNext s 40 st = true from h2)] at h
          rw [pass_is h2, hw] at h
          rw [if_pos h2]
          by_cases h3 : is s (st.pos + 1) 41 = true
          · rw [if_pos (show isNext s 41 (⟨st.pos + 1, st.out, false⟩ : St) = true from h3)] at h
            rw [show pass s 41 (⟨st.pos + 1, st.out, false⟩ : St) = ⟨st.pos + 1 + 1, st.out, false⟩ from pass_is h3] at h
            rw [if_pos h3]
            exact ih.star st .emp _ r h
          · rw [if_neg (show ¬ isNext s 41 (⟨st.pos + 1, st.out, false⟩ : St) = true from h3)] at h
            rw [if_neg h3]
            obtain ⟨r1, g1, g2⟩ := Option.bind_eq_some_iff.1 h
            rcases ih.alt _ _ rfl g1 with ⟨e1, e2⟩ | ⟨t, k, e1, e2⟩
            · simp only at e1
              rw [e1]
              rw [if_pos e2] at g2
              exact .inl ⟨rfl, ih.bad _ _ _ rfl g2⟩
            · simp only at e1
              rw [e1]
              rw [e2] at g2
              simp only [Bool.false_eq_true, if_false] at g2
              simp only [Option.bind_some]
              by_cases h4 : is s k 41 = true
              · rw [if_pos h4]
                rw [show pass s 41 (⟨k, st.out ++ t.post st.out.length, false⟩ : St) = ⟨k + 1, st.out ++ t.post st.out.length, false⟩ from pass_is h4, show isNext s 41 (⟨k, st.out ++ t.post st.out.length, false⟩ : St) = true from h4] at g2
                exact ih.star st t _ r g2
              · rw [if_neg h4]
                rw [show isNext s 41 (⟨k, st.out ++ t.post st.out.length, false⟩ : St) = false from Bool.eq_false_iff.2 h4] at g2
                exact .inl ⟨rfl, ih.bad _ _ _ rfl g2⟩
        · rw [if_neg (show ¬ isNext s 40 st = true from h2)] at h
          rw [if_neg h2]
          rcases char_sim s st hw with ⟨b, k, g1, g2⟩ | ⟨g1, g2⟩
          · rw [g1]
            rw [g2] at h
            exact ih.star st (.rng b b) k r h
          · rw [g1]
            exact .inl ⟨rfl, ih.bad _ _ _ (by simp only [St.add]; exact g2) h⟩
    · intro st r hw h
      rw [seqF] at h
      rw [rSeq]
      obtain ⟨r1, g1, g2⟩ := Option.bind_eq_some_iff.1 h
      rcases ih.atom _ _ hw g1 with ⟨e1, e2⟩ | ⟨t, k, e1, e2⟩
      · rw [e1]
        exact .inl ⟨rfl, ih.badS _ _ _ e2 g2⟩
      · rw [e1]
        rw [e2] at g2
        exact ih.seqL st t k r g2
    · intro st t k r h
      rw [seqLoop] at h
      rw [rSeqL]
      by_cases h1 : k < s.size ∧ bt s (k : Int) ≠ 124 ∧ bt s (k : Int) ≠ 41
      · rw [if_pos (by simp only [Bool.not_false, Bool.true_and, Bool.and_eq_true, decide_eq_true_eq, bne_iff_ne]; exact h1)] at h
        rw [if_pos h1]
        obtain ⟨r1, g1, g2⟩ := Option.bind_eq_some_iff.1 h
        rcases ih.atom _ _ rfl g1 with ⟨e1, e2⟩ | ⟨u, k', e1, e2⟩
        · simp only at e1
          rw [e1]
          exact .inl ⟨rfl, ih.badS _ _ _ (by simp only [St.add]; exact e2) g2⟩
        · simp only at e1
          rw [e1]
          rw [e2] at g2
          simp only at g2
          rw [idx_k st _ k k' false false u, add_two st t u k' 2 (.seq t u) (fun o => rfl), len_two st t u (.seq t u) rfl] at g2
          exact ih.seqL st (.seq t u) k' r g2
      · rw [if_neg (by simp only [Bool.not_false, Bool.true_and, Bool.and_eq_true, decide_eq_true_eq, bne_iff_ne]; exact h1)] at h
        rw [if_neg h1]
        cases h
        exact .inr ⟨t, k, rfl, rfl⟩
    · intro st r hw h
      rw [altF] at h
      rw [rAlt]
      obtain ⟨r1, g1, g2⟩ := Option.bind_eq_some_iff.1 h
      rcases ih.seq _ _ hw g1 with ⟨e1, e2⟩ | ⟨t, k, e1, e2⟩
      · rw [e1]
        exact .inl ⟨rfl, ih.badA _ _ _ e2 g2⟩
      · rw [e1]
        rw [e2] at g2
        exact ih.altL st t k r g2
    · intro st t k r h
      rw [altLoop, if_neg (by simp)] at h
      rw [rAltL]
      by_cases h1 : is s k 124 = true
      · rw [if_pos (show isNext s 124 (⟨k, st.out ++ t.post st.out.length, false⟩ : St) = true from h1)] at h
        rw [show pass s 124 (⟨k, st.out ++ t.post st.out.length, false⟩ : St) = ⟨k + 1, st.out ++ t.post st.out.length, false⟩ from pass_is h1] at h
        rw [if_pos h1]
        obtain ⟨r1, g1, g2⟩ := Option.bind_eq_some_iff.1 h
        rcases ih.seq _ _ rfl g1 with ⟨e1, e2⟩ | ⟨u, k', e1, e2⟩
        · simp only at e1
          rw [e1]
          exact .inl ⟨rfl, ih.badA _ _ _ (by simp only [St.add]; exact e2) g2⟩
        · simp only at e1
          rw [e1]
          rw [e2] at g2
          simp only at g2
          rw [idx_k st _ (k + 1) k' false false u, add_two st t u k' 3 (.alt t u) (fun o => rfl), len_two st t u (.alt t u) rfl] at g2
          exact ih.altL st (.alt t u) k' r g2
      · rw [if_neg (show ¬ isNext s 124 (⟨k, st.out ++ t.post st.out.length, false⟩ : St) = true from h1)] at h
        rw [if_neg h1]
        cases h
        exact .inr ⟨t, k, rfl, rfl⟩

/-! ### what is read, and what it costs -/
def Okay (s : ByteArray) (k k' : Nat) : Prop := ∀ i, k ≤ i → i < k' → i < s.size ∧ okB (bt s (i : Int)) = true
theorem Okay.join {s : ByteArray} {a b c : Nat} (h : Okay s a b) (k : Okay s b c) : Okay s a c := fun i h1 h2 => by
  by_cases hb : i < b
  · exact h i h1 hb
  · exact k i (by omega) h2
theorem okay_one {s : ByteArray} {k : Nat} {c : Int} (h : is s k c = true) (hc : okB c = true) : Okay s k (k + 1) := fun i h1 h2 => by
  obtain ⟨h3, h4⟩ := is_iff.1 h
  rw [show i = k by omega]
  exact ⟨h3, by rw [h4]; exact hc⟩
theorem hex_ok {b : Int} (h : 0 ≤ hexV b) : okB b = true ∧ 0 ≤ hexV b ∧ hexV b ≤ 15 := by
  unfold hexV at *
  unfold okB
  split
  · simp; omega
  · split
    · simp; omega
    · rename_i h1 h2
      rw [if_neg h1, if_neg h2] at h
      omega
theorem char_cost {s : ByteArray} {k k' : Nat} {b : Int} (h : rChar s k = some (b, k')) : 0 ≤ b ∧ b ≤ 255 ∧ k + (chrL b).length ≤ k' ∧ Okay s k k' ∧ k < k' := by
  unfold rChar at h
  split at h
  · rename_i h1
    cases h
    have := plain_not h1.2
    refine ⟨by omega, by omega, ?_, fun i h2 h3 => ?_, by omega⟩
    · unfold chrL; rw [if_pos h1.2]; simp
    · rw [show i = k by omega]
      exact ⟨h1.1, by unfold okB; simp; omega⟩
  · split at h
    · rename_i h1 h2
      cases h
      obtain ⟨a1, a2, a3, a4, a5⟩ := h2
      have b4 := hex_ok a4
      have b5 := hex_ok a5
      have := chrL_length (16 * hexV (bt s ((k + 2 : Nat) : Int)) + hexV (bt s ((k + 3 : Nat) : Int)))
      refine ⟨by omega, by omega, by omega, fun i h3 h4 => ⟨by omega, ?_⟩, by omega⟩
      have hi : i = k ∨ i = k + 1 ∨ i = k + 2 ∨ i = k + 3 := by omega
      rcases hi with rfl | rfl | rfl | rfl
      · rw [a2]; decide
      · rw [a3]; decide
      · exact b4.1
      · exact b5.1
    · cases h
theorem range_cost {s : ByteArray} {k k' : Nat} {lo hi : Int} (h : rRange s k = some (lo, hi, k')) : (Tr.rng lo hi).ok ∧ k + (Tr.rng lo hi).str.length ≤ k' + 1 ∧ Okay s k k' ∧ k < k' := by
  unfold rRange at h
  obtain ⟨⟨b1, k1⟩, h1, h2⟩ := Option.bind_eq_some_iff.1 h
  simp only at h2
  split at h2
  · rename_i h3
    obtain ⟨⟨b2, k2⟩, h4, h5⟩ := Option.bind_eq_some_iff.1 h2
    simp only at h5
    split at h5
    · rename_i h6
      cases h5
      obtain ⟨c1, c2, c3, c4, c5⟩ := char_cost h1
      obtain ⟨d1, d2, d3, d4, d5⟩ := char_cost h4
      refine ⟨⟨c1, h6.2, d2⟩, ?_, ((c4.join (okay_one h3 (by decide))).join d4).join (okay_one h6.1 (by decide)), by omega⟩
      unfold Tr.str
      split
      · simp only [List.length_cons, List.length_append, List.length_nil]; omega
      · omega
    · cases h5
  · cases h2
/-- A tree has been read from k to k', by a reader of level lv. -/
def Got (s : ByteArray) (lv : Int) (k : Nat) (t : Tr) (k' : Nat) : Prop := t.ok ∧ k + (t.shown lv).length ≤ k' ∧ Okay s k k' ∧ k < k'
theorem shown_len (t : Tr) (lv : Int) : (t.shown lv).length = if t.lev < lv then t.str.length + 2 else t.str.length := by
  unfold Tr.shown par
  by_cases h : t.lev < lv
  · rw [if_pos (by simpa using h), if_pos h]; simp
  · rw [if_neg (by simpa using h), if_neg h]
theorem shown_le (t : Tr) {a b : Int} (h : a ≤ b) : (t.shown a).length ≤ (t.shown b).length := by
  rw [shown_len, shown_len]; split <;> split <;> omega
theorem shown_max (t : Tr) (lv : Int) : (t.shown lv).length ≤ (t.shown 1).length + 2 := by
  have := t.lev_range
  rw [shown_len, shown_len]; split <;> split <;> omega
theorem Got.down {s : ByteArray} {a b : Int} {k k' : Nat} {t : Tr} (h : Got s b k t k') (hab : a ≤ b) : Got s a k t k' := ⟨h.1, by have := shown_le t hab; have := h.2.1; omega, h.2.2⟩
structure AllGot (s : ByteArray) (n : Nat) : Prop where
  star : ∀ k0 t k t' k', Got s 3 k0 t k → rStar s n t k = some (some (t', k')) → Got s 3 k0 t' k'
  atom : ∀ k t k', rAtom s n k = some (some (t, k')) → Got s 3 k t k'
  seq : ∀ k t k', rSeq s n k = some (some (t, k')) → Got s 2 k t k'
  seqL : ∀ k0 t k t' k', Got s 2 k0 t k → rSeqL s n t k = some (some (t', k')) → Got s 2 k0 t' k'
  alt : ∀ k t k', rAlt s n k = some (some (t, k')) → Got s 1 k t k'
  altL : ∀ k0 t k t' k', Got s 1 k0 t k → rAltL s n t k = some (some (t', k')) → Got s 1 k0 t' k'
theorem allGot (s : ByteArray) : ∀ n, AllGot s n
  | 0 => ⟨fun _ _ _ _ _ _ h => by simp [rStar] at h, fun _ _ _ h => by simp [rAtom] at h, fun _ _ _ h => by simp [rSeq] at h, fun _ _ _ _ _ _ h => by simp [rSeqL] at h, fun _ _ _ h => by simp [rAlt] at h, fun _ _ _ _ _ _ h => by simp [rAltL] at h⟩
  | n + 1 => by
    have ih := allGot s n
    refine ⟨?_, ?_, ?_, ?_, ?_, ?_⟩
    · intro k0 t k t' k' hg h
      rw [rStar] at h
      split at h
      · rename_i h1
        refine ih.star k0 (.rep t) (k + 1) _ _ ⟨hg.1, ?_, hg.2.2.1.join (okay_one h1 (by decide)), by have := hg.2.2.2; omega⟩ h
        have e : ((Tr.rep t).shown 3).length = (t.shown 3).length + 1 := by
          rw [shown_len, if_neg (by simp [Tr.lev])]
          show (t.shown 3 ++ [42]).length = _
          simp
        have := hg.2.1
        omega
      · cases h; exact hg
    · intro k t k' h
      rw [rAtom] at h
      split at h
      · rename_i h1
        split at h
        · cases h
        · rename_i lo hi k1 h2
          obtain ⟨c1, c2, c3, c4⟩ := range_cost h2
          refine ih.star k _ _ _ _ ⟨c1, ?_, (okay_one h1 (by decide)).join c3, by omega⟩ h
          rw [shown_len, if_neg (by simp [Tr.lev])]; omega
      · split at h
        · rename_i h1 h2
          split at h
          · rename_i h3
            refine ih.star k .emp _ _ _ ⟨trivial, ?_, (okay_one h2 (by decide)).join (okay_one h3 (by decide)), by omega⟩ h
            show k + 2 ≤ k + 2
            omega
          · obtain ⟨x, h4, h5⟩ := Option.bind_eq_some_iff.1 h
            match x, h4, h5 with
            | none, h4, h5 => cases h5
            | some (u, k1), h4, h5 =>
              simp only at h5
              split at h5
              · rename_i h6
                obtain ⟨c1, c2, c3, c4⟩ := ih.alt _ _ _ h4
                refine ih.star k u _ _ _ ⟨c1, ?_, ((okay_one h2 (by decide)).join c3).join (okay_one h6 (by decide)), by omega⟩ h5
                have := shown_max u 3
                omega
              · cases h5
        · split at h
          · cases h
          · rename_i b k1 h2
            obtain ⟨c1, c2, c3, c4, c5⟩ := char_cost h2
            refine ih.star k (.rng b b) _ _ _ ⟨⟨c1, Int.le_refl _, c2⟩, ?_, c4, c5⟩ h
            rw [shown_len, if_neg (by simp [Tr.lev])]
            unfold Tr.str
            rw [if_neg (by omega)]
            exact c3
    · intro k t k' h
      rw [rSeq] at h
      obtain ⟨x, h4, h5⟩ := Option.bind_eq_some_iff.1 h
      match x, h4, h5 with
      | none, h4, h5 => cases h5
      | some (u, k1), h4, h5 => exact ih.seqL k u k1 _ _ ((ih.atom _ _ _ h4).down (by decide)) h5
    · intro k0 t k t' k' hg h
      rw [rSeqL] at h
      split at h
      · obtain ⟨x, h4, h5⟩ := Option.bind_eq_some_iff.1 h
        match x, h4, h5 with
        | none, h4, h5 => cases h5
        | some (u, k1), h4, h5 =>
          have hu := ih.atom _ _ _ h4
          refine ih.seqL k0 (.seq t u) k1 _ _ ⟨⟨hg.1, hu.1⟩, ?_, hg.2.2.1.join hu.2.2.1, by have := hg.2.2.2; have := hu.2.2.2; omega⟩ h5
          have e : ((Tr.seq t u).shown 2).length = (t.shown 2).length + (u.shown 3).length := by
            rw [shown_len, if_neg (by simp [Tr.lev])]
            show (t.shown 2 ++ u.shown 3).length = _
            simp
          have := hg.2.1
          have := hu.2.1
          omega
      · cases h; exact hg
    · intro k t k' h
      rw [rAlt] at h
      obtain ⟨x, h4, h5⟩ := Option.bind_eq_some_iff.1 h
      match x, h4, h5 with
      | none, h4, h5 => cases h5
      | some (u, k1), h4, h5 => exact ih.altL k u k1 _ _ ((ih.seq _ _ _ h4).down (by decide)) h5
    · intro k0 t k t' k' hg h
      rw [rAltL] at h
      split at h
      · rename_i h1
        obtain ⟨x, h4, h5⟩ := Option.bind_eq_some_iff.1 h
        match x, h4, h5 with
        | none, h4, h5 => cases h5
        | some (u, k1), h4, h5 =>
          have hu := ih.seq _ _ _ h4
          refine ih.altL k0 (.alt t u) k1 _ _ ⟨⟨hg.1, hu.1⟩, ?_, (hg.2.2.1.join (okay_one h1 (by decide))).join hu.2.2.1, by have := hg.2.2.2; have := hu.2.2.2; omega⟩ h5
          have e : ((Tr.alt t u).shown 1).length = (t.shown 1).length + (u.shown 2).length + 1 := by
            rw [shown_len, if_neg (by simp [Tr.lev])]
            show (t.shown 1 ++ 124 :: u.shown 2).length = _
            simp; omega
          have := hg.2.1
          have := hu.2.1
          omega
      · cases h; exact hg

/-! ### the reader ends -/
structure AllEnd (s : ByteArray) (n : Nat) : Prop where
  star : ∀ i st, 1 + (s.size - st.pos) ≤ n → ∃ r, starF s n i st = some r
  atom : ∀ st, st.wrong = false → 4 * (s.size - st.pos) + 2 ≤ n → ∃ r, atomF s n st = some r
  seq : ∀ st, st.wrong = false → 4 * (s.size - st.pos) + 4 ≤ n → ∃ r, seqF s n st = some r
  seqL : ∀ i st, 4 * (s.size - st.pos) + 3 ≤ n → ∃ r, seqLoop s n i st = some r
  alt : ∀ st, st.wrong = false → 4 * (s.size - st.pos) + 5 ≤ n → ∃ r, altF s n st = some r
  altL : ∀ i st, 4 * (s.size - st.pos) + 3 ≤ n → ∃ r, altLoop s n i st = some r
theorem Sim.pos {s : ByteArray} {lv : Int} {st : St} {r : Int × St} {x : Option (Option (Tr × Nat))} (h : Sim st r x) (g : ∀ t k', x = some (some (t, k')) → Got s lv st.pos t k') : r.2.wrong = true ∨ (r.2.wrong = false ∧ st.pos < r.2.pos ∧ r.2.pos ≤ s.size) := by
  rcases h with ⟨_, h⟩ | ⟨t, k, h1, h2⟩
  · exact .inl h
  · obtain ⟨a, b, c, d⟩ := g t k h1
    rw [h2]
    refine .inr ⟨rfl, d, ?_⟩
    have := (c (k - 1) (by omega) (by omega)).1
    simp only; omega
theorem allEnd (s : ByteArray) : ∀ n, AllEnd s n
  | 0 => ⟨fun _ _ h => by omega, fun _ _ h => by omega, fun _ _ h => by omega, fun _ _ h => by omega, fun _ _ h => by omega, fun _ _ h => by omega⟩
  | n + 1 => by
    have ih := allEnd s n
    have sm := allSim s n
    have gt := allGot s n
    have gr := allGr s n
    refine ⟨?_, ?_, ?_, ?_, ?_, ?_⟩
    · intro i st h
      rw [starF]
      split
      · exact ⟨_, rfl⟩
      · split
        · rename_i h1
          rw [pass_is h1]
          have := (is_iff.1 h1).1
          exact ih.star _ _ (by simp only [St.add]; omega)
        · exact ⟨_, rfl⟩
    · intro st hw h
      rw [atomF]
      have hc := charF_gr s st
      split
      · rename_i h1
        refine ih.star _ _ ?_
        have h2 := (gr_range h1).1.pos
        have := (is_iff.1 h1).1
        omega
      · split
        · rename_i h1
          have p1 := pass_is h1
          have hlt := (is_iff.1 h1).1
          split
          · rename_i h2
            rw [p1] at h2
            rw [p1, pass_is h2]
            exact ih.star _ _ (by simp only [St.add]; omega)
          · rw [p1, hw]
            obtain ⟨r, hr⟩ := ih.alt ⟨st.pos + 1, st.out, false⟩ rfl (by simp only; omega)
            rw [hr, Option.bind_some]
            have hp := (gr.alt _ _ hr).pos
            simp only at hp
            split
            · exact ih.star _ _ (by simp only [St.bad]; omega)
            · have := (pass_out s 41 r.2).2.2.1
              exact ih.star _ _ (by simp only [St.bad]; omega)
        · exact ih.star _ _ (by simp only [St.add]; omega)
    · intro st hw h
      rw [seqF]
      obtain ⟨r, hr⟩ := ih.atom st hw (by omega)
      rw [hr, Option.bind_some]
      have hp := (gr.atom _ _ hr).pos
      exact ih.seqL _ _ (by omega)
    · intro i st h
      rw [seqLoop]
      split
      · rename_i h1
        simp only [Bool.and_eq_true, Bool.not_eq_true', decide_eq_true_eq] at h1
        obtain ⟨r, hr⟩ := ih.atom st h1.1 (by omega)
        rw [hr, Option.bind_some]
        rcases (sm.atom st r h1.1 hr).pos (fun t k' hx => gt.atom _ _ _ hx) with hb | ⟨hb, hb2, hb3⟩
        · obtain ⟨m, rfl⟩ : ∃ m, n = m + 1 := ⟨n - 1, by omega⟩
          rw [seqLoop, if_neg (by simp [St.add, hb])]
          exact ⟨_, rfl⟩
        · exact ih.seqL _ _ (by simp only [St.add]; omega)
      · exact ⟨_, rfl⟩
    · intro st hw h
      rw [altF]
      obtain ⟨r, hr⟩ := ih.seq st hw (by omega)
      rw [hr, Option.bind_some]
      have hp := (gr.seq _ _ hr).pos
      exact ih.altL _ _ (by omega)
    · intro i st h
      rw [altLoop]
      split
      · exact ⟨_, rfl⟩
      · rename_i hw
        split
        · rename_i h1
          have hlt := (is_iff.1 h1).1
          rw [pass_is h1]
          obtain ⟨r, hr⟩ := ih.seq ⟨st.pos + 1, st.out, st.wrong⟩ (by simpa using hw) (by simp only; omega)
          rw [hr, Option.bind_some]
          have hp := (gr.seq _ _ hr).pos
          simp only at hp
          exact ih.altL _ _ (by simp only [St.add]; omega)
        · exact ⟨_, rfl⟩
/-- The reader reads every string to an end. -/
theorem alt_total (s : ByteArray) : ∃ n r, altF s n st0 = some r := by
  obtain ⟨r, hr⟩ := (allEnd s (4 * s.size + 5)).alt st0 rfl (by simp [st0])
  exact ⟨_, r, hr⟩
theorem parseF_ok (s : ByteArray) (i : Int) (k : Nat) (o : List S50) : parseF s (i, ⟨k, o, false⟩) = if k < s.size then ([], 40) else if 512 < o.length then ([], 2) else (o, 0) := by
  unfold parseF
  by_cases h : k < s.size <;> simp [h]
/-- What Parse answers with OK is a tree, whose canonical string is no longer. -/
theorem parse_sound {s : ByteArray} {n : Nat} {r : Int × St} (h : altF s n st0 = some r) (hp : (parseF s r).2 = 0) : ∃ t : Tr, t.ok ∧ (parseF s r).1 = t.post 0 ∧ t.str.length ≤ s.size := by
  have hs := (allSim s n).alt st0 r rfl h
  rcases hs with ⟨_, hw⟩ | ⟨t, k, hx, hr⟩
  · unfold parseF at hp
    rw [hw] at hp
    simp at hp
  · obtain ⟨a, b, c, d⟩ := (allGot s n).alt _ _ _ hx
    rw [t.shown1] at b
    simp only [st0] at b d c
    have hk := (c (k - 1) (by omega) (by omega)).1
    have hr2 : r = (idx st0 t, ⟨k, t.post 0, false⟩) := hr
    rw [hr2, parseF_ok] at hp ⊢
    by_cases h1 : k < s.size
    · rw [if_pos h1] at hp; cases hp
    · rw [if_neg h1] at hp ⊢
      by_cases h2 : 512 < (t.post 0).length
      · rw [if_pos h2] at hp; cases hp
      · rw [if_neg h2]
        exact ⟨t, a, rfl, by omega⟩
end Go.Proofs.YtaphblnelmncaaaDoor.PA
end

section
/- What the statements' walks share: Print and Parse of trees. -/
set_option linter.unusedVariables false
namespace Go.Proofs.YtaphblnelmncaaaDoor.PA
open Go.RowKit Go.Proofs.YtaphblnelmncaaaDoorW.PrintWords Go.Proofs.YtaphblnelmncaaaDoorW.PrintLast Go.Proofs.YtaphblnelmncaaaDoorW.PrintMore

/-- A statement as a Bool. -/
noncomputable def dB (P : Prop) : Bool := @decide P (Classical.propDecidable P)
theorem dB_iff (P : Prop) : dB P = true ↔ P := by unfold dB; exact @decide_eq_true_iff P (Classical.propDecidable P)
theorem dB_eq {P Q : Prop} (h : P ↔ Q) : dB P = dB Q := by rw [Bool.eq_iff_iff, dB_iff, dB_iff]; exact h
theorem dB_yes {P : Prop} (h : P) : dB P = true := (dB_iff P).2 h
theorem dB_no {P : Prop} (h : ¬ P) : dB P = false := by
  cases hd : dB P
  · rfl
  · exact absurd ((dB_iff P).1 hd) h
theorem matches_dB {p : List S50} {t : Re} (g : Fine p t) {A : Option Addr} {c : Nat} {w : World} (h : Pt w A c p) (ht : Tab w) (s : ByteArray) (hs : s.size ≤ 140737488351232) {P : Prop} (hP : P ↔ t.Lang (bytesOf s)) :
    Calls Tryd.prog 23 #[.slice A p.length c, .string s] w fun e w' => e = .returned (.bool (dB P)) ∧ Below w.heap.size w w' := matches_law g h ht s hs (dB P) ((dB_iff P).trans hP)

theorem bt_str {l : List Int} (h : ∀ b ∈ l, 0 ≤ b ∧ b ≤ 255) (i : Nat) (hi : i < l.length) : bt (strOfNums l) (i : Int) = l.getD i 0 := by
  have e := bytes_strOf h
  have hs : i < (strOfNums l).size := by rw [strOfNums_size]; exact hi
  have : (bytesOf (strOfNums l)).getD i 0 = bt (strOfNums l) (i : Int) := by
    unfold bytesOf bt
    have hs' : i < (strOfNums l).data.toList.length := by rw [Array.length_toList]; exact hs
    rw [dif_pos (show (i : Int).toNat < (strOfNums l).size from hs)]
    rw [List.getD_eq_getElem?_getD, List.getElem?_map, List.getElem?_eq_getElem hs']
    rfl
  rw [← this, e]
theorem okB_byte {b : Int} (h : okB b = true) : 0 ≤ b ∧ b ≤ 255 := by unfold okB at h; simp at h; omega
theorem at_str {l : List Int} (h : ∀ b ∈ l, okB b = true) : At (strOfNums l) 0 l :=
  at_self l (strOfNums l) 0 (by rw [strOfNums_size]; omega) fun i hi => by rw [Nat.zero_add]; exact bt_str (fun b hb => okB_byte (h b hb)) i hi
/-- Parse of a tree's string. -/
theorem parse_law {l : List Int} {t : Tr} (h : A1 l t) (hok : ∀ c ∈ l, okB c = true) (hz : t.size ≤ 512) (hl : l.length ≤ 8192) (w : World) :
    Calls Tryd.prog 25 #[.string (strOfNums l)] w fun e w' => ∃ E ec, e = .returned (.tuple #[.slice E (t.post 0).length ec, .int .i64 0]) ∧ Pt w' E ec (t.post 0) ∧ Below w.heap.size w w' := by
  obtain ⟨n, hn⟩ := h.reads (at_str hok) (by rw [strOfNums_size])
  have hall : okTo (strOfNums l) (strOfNums l).size = true := by
    rw [okTo_spec]
    intro i hi
    rw [strOfNums_size] at hi
    rw [bt_str (fun b hb => okB_byte (hok b hb)) i hi]
    refine hok _ ?_
    rw [List.getD_eq_getElem?_getD, List.getElem?_eq_getElem hi]; exact List.getElem_mem hi
  refine (parse_any (strOfNums l) w (by rw [strOfNums_size]; exact hl) n _ hn).mono ?_
  rintro e w' ⟨v, rfl, hR, hb⟩
  rw [if_pos hall, parse_tr hz] at hR
  obtain ⟨E, ec, rfl⟩ := Kd.R_slice hR
  rw [if_pos hall, parse_tr hz]
  exact ⟨E, ec, rfl, (Pt.of hR).2, hb⟩
/-- Print of a pattern in postorder. -/
theorem print_law {t : Tr} (ht : t.ok) (hz : t.size ≤ 512) {A : Option Addr} {c : Nat} {w : World} (h : Pt w A c (t.post 0)) :
    Calls Tryd.prog 19 #[.slice A (t.post 0).length c] w fun e w' => e = .returned (.tuple #[.string (strOfNums t.str), .int .i64 0]) ∧ Below w.heap.size w w' := by
  obtain ⟨u, e, _, g⟩ := Pst.fine ⟨t, rfl, ht⟩ (by rw [t.post_length]; exact hz)
  have g2 := isRe_unique g.good.is (by rw [t.post_length]; simpa using t.isRe 0 (lies_self t))
  rw [g2] at g
  exact print_of g.good A c w h.C h.hc _ (by rw [t.shown_re, t.shown1])
theorem Tr.str_length (t : Tr) : t.str.length ≤ 13 * t.size := by
  have h := PA.str_length (t.re 0)
  rw [t.str_re] at h
  have : (t.re 0).size = t.size := by
    have : ∀ (t : Tr) o, (t.re o).size = t.size := by
      intro t
      induction t with
      | emp => intro o; rfl
      | rng => intro o; rfl
      | seq a b iha ihb => intro o; simp [Tr.re, Re.size, Tr.size, iha, ihb]
      | alt a b iha ihb => intro o; simp [Tr.re, Re.size, Tr.size, iha, ihb]
      | rep a iha => intro o; simp [Tr.re, Re.size, Tr.size, iha]
    exact this t 0
  rw [this] at h
  exact h
/-- The tree's own machine. -/
theorem Tr.fine (t : Tr) (ht : t.ok) (hz : t.size ≤ 512) : Fine (t.post 0) (t.re 0) := by
  obtain ⟨u, e, _, g⟩ := Pst.fine ⟨t, rfl, ht⟩ (by rw [t.post_length]; exact hz)
  have g2 := isRe_unique g.good.is (by rw [t.post_length]; simpa using t.isRe 0 (lies_self t))
  rw [g2] at g
  exact g
end Go.Proofs.YtaphblnelmncaaaDoor.PA
end

section
/- What the statements' walks share: Same. -/
set_option linter.unusedVariables false
namespace Go.Proofs.YtaphblnelmncaaaDoor.PA
open Go.RowKit Go.Proofs.YtaphblnelmncaaaDoorW.PrintWords Go.Proofs.YtaphblnelmncaaaDoorW.PrintLast Go.Proofs.YtaphblnelmncaaaDoorW.PrintMore

theorem rd_eq {p : List S50} {i : Nat} (h : i < p.length) : rd_T50 p (i : Int) = p[i] := by simp [rd_T50, List.getD_eq_getElem?_getD, h]
theorem same_l0 {p q : List S50} (hl : p.length = q.length) (hp : p.length ≤ 1000000000) : ∀ (n i : Nat), p.length + 1 - i ≤ n → i ≤ p.length → koineref04_Same.l0 n p q (i : Int) = some (dB (p.drop i = q.drop i))
  | 0, i, h, hi => by omega
  | n + 1, i, h, hi => by
    unfold koineref04_Same.l0
    by_cases hlt : i < p.length
    · have hq : i < q.length := by omega
      have e : wrap64 ((i : Int) + 1) = ((i + 1 : Nat) : Int) := by unfold wrap64; omega
      rw [if_pos (by omega), if_pos (by omega), if_pos (by omega), e, same_l0 hl hp n (i + 1) (by omega) (by omega), rd_eq hlt, rd_eq hq]
      have hd : p.drop i = q.drop i ↔ p[i] = q[i] ∧ p.drop (i + 1) = q.drop (i + 1) := by
        rw [List.drop_eq_getElem_cons hlt, List.drop_eq_getElem_cons hq, List.cons.injEq]
      generalize p[i] = x at *
      generalize q[i] = y at *
      obtain ⟨a0, a1, a2, a3, a4⟩ := x
      obtain ⟨b0, b1, b2, b3, b4⟩ := y
      simp only [Bool.or_eq_true, Bool.not_eq_true', beq_eq_false_iff_ne, ne_eq]
      by_cases hx : a0 = b0 ∧ a1 = b1 ∧ a2 = b2 ∧ a3 = b3 ∧ a4 = b4
      · obtain ⟨rfl, rfl, rfl, rfl, rfl⟩ := hx
        rw [if_neg (by simp)]
        congr 1
        exact dB_eq (by rw [hd]; simp)
      · rw [if_pos (by
          apply Classical.byContradiction
          intro hn
          apply hx
          simp only [not_or, Classical.not_not] at hn
          exact hn)]
        congr 1
        refine (dB_no ?_).symm
        rw [hd]
        rintro ⟨h1, _⟩
        injection h1 with h1 h2 h3 h4 h5
        exact hx ⟨h1, h2, h3, h4, h5⟩
    · have hi' : i = p.length := by omega
      rw [if_neg (by omega)]
      congr 1
      refine (dB_yes ?_).symm
      rw [List.drop_eq_nil_of_le (by omega), List.drop_eq_nil_of_le (by omega)]
/-- Same of two patterns. -/
theorem same_law {p q : List S50} {A B : Option Addr} {ca cb : Nat} {w : World} (h : Pt w A ca p) (k : Pt w B cb q) (hp : p.length ≤ 1000000000) :
    Calls Tryd.prog 27 #[.slice A p.length ca, .slice B q.length cb] w fun e w' => e = .returned (.bool (dB (p = q))) ∧ Below w.heap.size w w' := by
  have hf : koineref04_Same.f (p.length + 1) p q = some (dB (p = q)) := by
    unfold koineref04_Same.f
    by_cases hl : p.length = q.length
    · rw [if_pos (by omega)]
      have := same_l0 hl hp (p.length + 1) 0 (by omega) (by omega)
      simpa using this
    · rw [if_neg (by omega), dB_no (fun e => hl (by rw [e]))]
  exact (koineref04_Same.calls _ A ca p B cb q _ w h.C h.hc k.C k.hc hf).mono fun e w' ⟨he, hd⟩ => ⟨he, hd.below⟩

theorem same_yes {p : List S50} {A B : Option Addr} {ca cb : Nat} {w : World} (h : Pt w A ca p) (k : Pt w B cb p) (hp : p.length ≤ 1000000000) :
    Calls Tryd.prog 27 #[.slice A p.length ca, .slice B p.length cb] w fun e w' => e = .returned (.bool true) ∧ Below w.heap.size w w' := by
  have := same_law h k hp
  rwa [dB_yes rfl] at this


theorem bt_bytes (s : ByteArray) (i : Nat) (h : i < s.size) : bt s (i : Int) = (bytesOf s).getD i 0 := by
  have hs' : i < s.data.toList.length := by rw [Array.length_toList]; exact h
  unfold bytesOf bt
  rw [dif_pos (show (i : Int).toNat < s.size from h), List.getD_eq_getElem?_getD, List.getElem?_map, List.getElem?_eq_getElem hs']
  rfl
theorem bytes_rng (s : ByteArray) : ∀ b ∈ bytesOf s, 0 ≤ b ∧ b ≤ 255 := by
  intro b hb
  unfold bytesOf at hb
  rw [List.mem_map] at hb
  obtain ⟨x, _, rfl⟩ := hb
  have := x.toNat_lt
  omega
end Go.Proofs.YtaphblnelmncaaaDoor.PA
end

section
/- The reference's reader: its characters; sizes. -/
set_option linter.unusedVariables false
namespace Go.Proofs.YtaphblnelmncaaaDoor.PA
open Go.RowKit Go.Proofs.YtaphblnelmncaaaDoorW.PrintWords Go.Proofs.YtaphblnelmncaaaDoorW.PrintLast Go.Proofs.YtaphblnelmncaaaDoorW.PrintMore

theorem digit_f : ∀ b : Fin 256, koineref04_digit.f 17 (b.val : Int) = some (hexV (b.val : Int)) := by decide +kernel
theorem plain_f : ∀ b : Fin 256, koineref04_plain.f 9 (b.val : Int) = some (plainB (b.val : Int)) := by decide +kernel
theorem byteAt_f (s : ByteArray) (k : Nat) : koineref04_byteAt.f s (k : Int) = some (bt s (k : Int)) := by
  unfold koineref04_byteAt.f
  by_cases h : k < s.size
  · rw [if_pos (by omega), if_pos (by omega)]
  · rw [if_neg (by omega)]
    unfold bt
    rw [dif_neg (by simpa using h)]
/-- Quiet calls: the reference's digit, plain, byteAt. -/
theorem rdigit_any (b : Int) (w : World) (h0 : 0 ≤ b) (h1 : b ≤ 255) : Calls Tryd.prog 97 #[.int .u8 b] w fun e w' => e = .returned (.int .i64 (hexV b)) ∧ ∃ n, w' = w.drewN n := by
  have := digit_f ⟨b.toNat, by omega⟩
  simp only [show ((b.toNat : Nat) : Int) = b by omega] at this
  exact (koineref04_digit.calls 17 b _ w this).mono fun e w' ⟨he, hd⟩ => ⟨he, hd.out⟩
theorem rplain_any (b : Int) (w : World) (h0 : 0 ≤ b) (h1 : b ≤ 255) : Calls Tryd.prog 90 #[.int .u8 b] w fun e w' => e = .returned (.bool (plainB b)) ∧ ∃ n, w' = w.drewN n := by
  have := plain_f ⟨b.toNat, by omega⟩
  simp only [show ((b.toNat : Nat) : Int) = b by omega] at this
  exact (koineref04_plain.calls 9 b _ w this).mono fun e w' ⟨he, hd⟩ => ⟨he, hd.out⟩
theorem byteAt_any (s : ByteArray) (k : Nat) (w : World) : Calls Tryd.prog 81 #[.string s, .int .i64 (k : Int)] w fun e w' => e = .returned (.int .u8 (bt s (k : Int))) ∧ Below w.heap.size w w' :=
  (koineref04_byteAt.calls s k _ w (byteAt_f s k)).mono fun e w' ⟨he, hd⟩ => ⟨he, hd.below⟩
theorem bt_rng (s : ByteArray) (i : Int) : 0 ≤ bt s i ∧ bt s i ≤ 255 := by
  unfold bt
  split
  · rename_i h
    have := (s[i.toNat]'h).toNat_lt
    omega
  · omega
/-- An atom without its asterisks. -/
def rBare (s : ByteArray) (n : Nat) (k : Nat) : Option (Option (Tr × Nat)) :=
  if is s k 91 then
    match rRange s (k + 1) with
    | none => some none
    | some (lo, hi, k') => some (some (.rng lo hi, k'))
  else if is s k 40 then
    if is s (k + 1) 41 then some (some (.emp, k + 2))
    else (rAlt s n (k + 1)).bind fun x => match x with
      | none => some none
      | some (t, k') => if is s k' 41 then some (some (t, k' + 1)) else some none
  else match rChar s k with
    | none => some none
    | some (b, k') => some (some (.rng b b, k'))
theorem atom_bare (s : ByteArray) (n k : Nat) : rAtom s (n + 1) k = (rBare s n k).bind fun x => match x with
    | none => some none
    | some (t, k') => rStar s n t k' := by
  rw [rAtom]
  unfold rBare
  split
  · split <;> simp_all
  · split
    · split
      · rfl
      · rw [Option.bind_assoc]
        congr 1
        funext x
        cases x with
        | none => rfl
        | some y =>
          obtain ⟨t, k'⟩ := y
          simp only
          split <;> rfl
    · split <;> simp_all
/-- A tree is no larger than its string. -/
theorem Tr.size_str (t : Tr) : t.size + 1 ≤ 2 * t.str.length := by
  induction t with
  | emp => decide
  | rng lo hi =>
    have h1 : ∀ b, 1 ≤ (chrL b).length := by intro b; obtain ⟨c, l, e, _⟩ := char_fst2 (b := b); rw [e]; simp
    have := h1 lo
    unfold Tr.str
    split
    · simp [Tr.size]; omega
    · simp only [Tr.size]; omega
  | seq a b iha ihb =>
    have h1 : ∀ (c : Bool) (l : List Int), l.length ≤ (par c l).length := by intro c l; cases c <;> simp [par] <;> omega
    have := h1 (decide (a.lev < 2)) a.str
    have := h1 (decide (b.lev < 3)) b.str
    simp only [Tr.size, Tr.str, List.length_append]; omega
  | alt a b iha ihb =>
    have h1 : ∀ (c : Bool) (l : List Int), l.length ≤ (par c l).length := by intro c l; cases c <;> simp [par] <;> omega
    have := h1 (decide (a.lev < 1)) a.str
    have := h1 (decide (b.lev < 2)) b.str
    simp only [Tr.size, Tr.str, List.length_append, List.length_cons]; omega
  | rep a iha =>
    have h1 : ∀ (c : Bool) (l : List Int), l.length ≤ (par c l).length := by intro c l; cases c <;> simp [par] <;> omega
    have := h1 (decide (a.lev < 3)) a.str
    simp only [Tr.size, Tr.str, List.length_append, List.length_cons, List.length_nil]; omega
theorem Got.size {s : ByteArray} {lv : Int} {k k' : Nat} {t : Tr} (h : Got s lv k t k') : t.size + 1 ≤ 2 * (k' - k) ∧ k' ≤ s.size := by
  have h1 := t.size_str
  have h2 : t.str.length ≤ (t.shown lv).length := by rw [shown_len]; split <;> omega
  have h3 := h.2.1
  have h4 := h.2.2.2
  have h5 := (h.2.2.1 (k' - 1) (by omega) (by omega)).1
  exact ⟨by omega, by omega⟩
theorem bare_got {s : ByteArray} {n k : Nat} {t : Tr} {k' : Nat} (h : rBare s n k = some (some (t, k'))) : Got s 3 k t k' := by
  have : rAtom s (n + 1) k = rStar s n t k' := by rw [atom_bare, h]; rfl
  unfold rBare at h
  split at h
  · rename_i h1
    split at h
    · cases h
    · rename_i lo hi k1 h2
      cases h
      obtain ⟨c1, c2, c3, c4⟩ := range_cost h2
      refine ⟨c1, ?_, (okay_one h1 (by decide)).join c3, by omega⟩
      rw [shown_len, if_neg (by simp [Tr.lev])]; omega
  · split at h
    · rename_i h1 h2
      split at h
      · rename_i h3
        cases h
        refine ⟨trivial, ?_, (okay_one h2 (by decide)).join (okay_one h3 (by decide)), by omega⟩
        show k + 2 ≤ k + 2
        omega
      · obtain ⟨x, h4, h5⟩ := Option.bind_eq_some_iff.1 h
        match x, h4, h5 with
        | none, h4, h5 => cases h5
        | some (u, k1), h4, h5 =>
          simp only at h5
          split at h5
          · rename_i h6
            cases h5
            obtain ⟨c1, c2, c3, c4⟩ := (allGot s n).alt _ _ _ h4
            refine ⟨c1, ?_, ((okay_one h2 (by decide)).join c3).join (okay_one h6 (by decide)), by omega⟩
            have := shown_max t 3
            omega
          · cases h5
    · split at h
      · cases h
      · rename_i b k1 h2
        cases h
        obtain ⟨c1, c2, c3, c4, c5⟩ := char_cost h2
        refine ⟨⟨c1, Int.le_refl _, c2⟩, ?_, c4, c5⟩
        rw [shown_len, if_neg (by simp [Tr.lev])]
        unfold Tr.str
        rw [if_neg (by omega)]
        exact c3
/-- What the reference's functions answer: a pattern and the offset behind it, or -1. -/
def chN (x : Option (Int × Nat)) : Int := match x with | none => -1 | some a => (a.2 : Int)
def chB (x : Option (Int × Nat)) : Int := match x with | none => 0 | some a => a.1

theorem hexV_rng (b : Int) : -1 ≤ hexV b ∧ hexV b ≤ 15 := by unfold hexV; split; omega; split <;> omega
theorem rdigit_q (b x : Int) (w : World) (h0 : 0 ≤ b) (h1 : b ≤ 255) (ht : Hid (hexV b = x)) : Calls Tryd.prog 97 #[.int .u8 b] w fun e w' => e = .returned (.int .i64 x) ∧ ∃ n, w' = w.drewN n := by
  rw [← ht.out]; exact rdigit_any b w h0 h1
theorem rdigit_any' (b x : Int) (w : World) (h0 : 0 ≤ b) (h1 : b ≤ 255) (ht : Hid (hexV b = x)) : Calls Tryd.prog 97 #[.int .u8 b] w fun e w' => e = .returned (.int .i64 x) ∧ Below w.heap.size w w' :=
  (rdigit_q b x w h0 h1 ht).mono fun e w' ⟨he, n, hd⟩ => ⟨he, by rw [hd]; apply pw_below_drewN; exact Below.refl _ _⟩
theorem ret_ii {k l : IntKind} {a b c d : Int} (h : a = b) (g : c = d) : Ending.returned (.tuple #[.int k a, .int l c]) = .returned (.tuple #[.int k b, .int l d]) := by rw [h, g]

set_option maxHeartbeats 4000000 in
set_option maxRecDepth 100000 in
theorem rchar_any (s : ByteArray) (k : Nat) (hk : k ≤ 100000) (hs : s.size ≤ 100000) (w : World) :
    Calls Tryd.prog 96 #[.string s, .int .i64 (k : Int)] w fun e w' => e = .returned (.tuple #[.int .i64 (chB (rChar s k)), .int .i64 (chN (rChar s k))]) ∧ Below w.heap.size w w' := by
  obtain ⟨c0, hc0⟩ : ∃ c, c = bt s (k : Int) := ⟨_, rfl⟩
  have r0 := bt_rng s (k : Int)
  rw [← hc0] at r0
  have b0 := bt_at s (k : Int)
  simp only [Int.toNat_natCast] at b0
  rw [← hc0] at b0
  have hX : ∀ x, x = rChar s k → x = (if k < s.size ∧ plainB c0 = true then some (c0, k + 1) else if k + 3 < s.size ∧ c0 = 92 ∧ bt s ((k + 1 : Nat) : Int) = 120 ∧ 0 ≤ hexV (bt s ((k + 2 : Nat) : Int)) ∧ 0 ≤ hexV (bt s ((k + 3 : Nat) : Int)) then some (16 * hexV (bt s ((k + 2 : Nat) : Int)) + hexV (bt s ((k + 3 : Nat) : Int)), k + 4) else none) := by
    intro x hx; rw [hx, hc0]; rfl
  obtain ⟨x, hx⟩ : ∃ x, x = rChar s k := ⟨_, rfl⟩
  rw [← hx]
  have HX := Lib.hid (hX x hx)
  clear hX hx hc0
  by_cases h1 : k < s.size ∧ plainB c0 = true
  · obtain ⟨hlt, hpl⟩ := h1
    have HE : Hid (x = some (c0, k + 1)) := Lib.hid (by rw [HX.out, if_pos ⟨hlt, hpl⟩])
    have hltb : decide ((k : Int) < (s.size : Int)) = true := decide_eq_true (by omega)
    have hkI : (k : Int) < (s.size : Int) := by omega
    have bn := b0 hlt
    have HP := Lib.hid hpl
    clear hpl b0
    go_enter Tryd.func96, Tryd.ntmps96
    go_wp2_with fail
    refine (rplain_any c0 _ r0.1 r0.2).mono ?_
    rw [HP.out]
    rintro e w' ⟨rfl, n, rfl⟩
    go_wp2
    go_ret2
    exact ⟨by rw [HE.out]; exact ret_ii rfl (by simp [chN]), by apply pw_below_drewN; exact Below.refl _ _⟩
  · have HE : Hid (x = (if k + 3 < s.size ∧ c0 = 92 ∧ bt s ((k + 1 : Nat) : Int) = 120 ∧ 0 ≤ hexV (bt s ((k + 2 : Nat) : Int)) ∧ 0 ≤ hexV (bt s ((k + 3 : Nat) : Int)) then some (16 * hexV (bt s ((k + 2 : Nat) : Int)) + hexV (bt s ((k + 3 : Nat) : Int)), k + 4) else none)) := Lib.hid (by rw [HX.out, if_neg h1])
    have H1 := Lib.hid h1
    clear h1
    go_enter Tryd.func96, Tryd.ntmps96
    go_upto_region 1 with fail
    go_cut [15] (fun c15 wd => c15 = .bool false ∧ Hid (Below w.heap.size w wd))
    case first =>
      by_cases hlt : k < s.size
      · have hltb : decide ((k : Int) < (s.size : Int)) = true := decide_eq_true (by omega)
        have hkI : (k : Int) < (s.size : Int) := by omega
        have bn := b0 hlt
        have HP : Hid (plainB c0 = false) := Lib.hid (Bool.eq_false_iff.2 (fun h => H1.out ⟨hlt, h⟩))
        clear b0
        go_wp2_with fail
        refine (rplain_any c0 _ r0.1 r0.2).mono ?_
        rw [HP.out]
        rintro e w' ⟨rfl, n, rfl⟩
        have HB := Lib.hid (show Below w.heap.size w (w.drewN n) by apply pw_below_drewN; exact Below.refl _ _)
        go_wp2
        go_meet
        exact ⟨rfl, HB⟩
      · have hltb : decide ((k : Int) < (s.size : Int)) = false := decide_eq_false (by omega)
        go_wp2
        go_meet
        exact ⟨rfl, Lib.hid (Below.refl _ _)⟩
    case rest =>
    obtain ⟨rfl, HB⟩ := hcut
    obtain ⟨c1, hc1⟩ : ∃ c, c = bt s ((k + 1 : Nat) : Int) := ⟨_, rfl⟩
    obtain ⟨c2, hc2⟩ : ∃ c, c = bt s ((k + 2 : Nat) : Int) := ⟨_, rfl⟩
    obtain ⟨c3, hc3⟩ : ∃ c, c = bt s ((k + 3 : Nat) : Int) := ⟨_, rfl⟩
    have r2 := bt_rng s ((k + 2 : Nat) : Int)
    have r3 := bt_rng s ((k + 3 : Nat) : Int)
    have b1 := bt_at s ((k + 1 : Nat) : Int)
    have b2 := bt_at s ((k + 2 : Nat) : Int)
    have b3 := bt_at s ((k + 3 : Nat) : Int)
    simp only [Int.toNat_natCast] at b1 b2 b3
    rw [← hc1] at b1
    rw [← hc2] at b2 r2
    rw [← hc3] at b3 r3
    rw [← hc1, ← hc2, ← hc3] at HE
    clear hc1 hc2 hc3 HX
    go_upto_region 3 with fail
    by_cases h3 : k + 3 < s.size
    · have d3 : decide ((k : Int) + 3 < (s.size : Int)) = true := decide_eq_true (by omega)
      have bn0 := b0 (by omega)
      have bn1 := b1 (by omega)
      have bn2 := b2 (by omega)
      have bn3 := b3 h3
      have i0 : (k : Int) < (s.size : Int) := by omega
      have i1 : (k : Int) + 1 < (s.size : Int) := by omega
      have i2 : (k : Int) + 2 < (s.size : Int) := by omega
      have i3 : (k : Int) + 3 < (s.size : Int) := by omega
      clear b0 b1 b2 b3
      by_cases e0 : c0 = 92
      · by_cases e1 : c1 = 120
        · obtain ⟨x2, hx2⟩ : ∃ x, x = hexV c2 := ⟨_, rfl⟩
          obtain ⟨x3, hx3⟩ : ∃ x, x = hexV c3 := ⟨_, rfl⟩
          have HX2 := Lib.hid hx2.symm
          have HX3 := Lib.hid hx3.symm
          have hr2 : -1 ≤ x2 ∧ x2 ≤ 15 := by rw [hx2]; exact hexV_rng c2
          have hr3 : -1 ≤ x3 ∧ x3 ≤ 15 := by rw [hx3]; exact hexV_rng c3
          clear hx2 hx3
          subst e0
          subst e1
          by_cases g2 : 0 ≤ x2
          · have dg2 : decide (0 ≤ x2) = true := decide_eq_true g2
            by_cases g3 : 0 ≤ x3
            · have dg3 : decide (0 ≤ x3) = true := decide_eq_true g3
              have HF : Hid (x = some (16 * x2 + x3, k + 4)) := Lib.hid (by rw [HE.out, HX2.out, HX3.out, if_pos ⟨h3, rfl, rfl, g2, g3⟩])
              go_wp2_with fail
              refine (rdigit_any' c2 x2 _ r2.1 r2.2 HX2).mono ?_
              rintro e w' ⟨rfl, hb1⟩
              have HB1 := Lib.hid (below_trans HB.out hb1)
              clear hb1
              go_wp2_with fail
              refine (rdigit_any' c3 x3 _ r3.1 r3.2 HX3).mono ?_
              rintro e w' ⟨rfl, hb1⟩
              have HB2 := Lib.hid (below_trans HB1.out hb1)
              clear hb1
              have ww2 : IntKind.i64.wrap ((k : Int) + 2) = (k : Int) + 2 := IntWalk.i64_in _ (by omega)
              have ww3 : IntKind.i64.wrap ((k : Int) + 3) = (k : Int) + 3 := IntWalk.i64_in _ (by omega)
              have ww4 : IntKind.i64.wrap ((k : Int) + 4) = (k : Int) + 4 := IntWalk.i64_in _ (by omega)
              have ww5 : IntKind.i64.wrap (16 * x2) = 16 * x2 := IntWalk.i64_in _ (by omega)
              have ww6 : IntKind.i64.wrap (16 * x2 + x3) = 16 * x2 + x3 := IntWalk.i64_in _ (by omega)
              go_wp2_with fail
              go_quiet (first | (go_at_call 97; first | (with_reducible refine Calls.quiet_of (rdigit_q c2 x2 _ r2.1 r2.2 HX2)) | (with_reducible refine Calls.quiet_of (rdigit_q c3 x3 _ r3.1 r3.2 HX3))) | fail)
              go_wp2
              go_ret2
              exact ⟨by rw [HF.out]; exact ret_ii rfl (by simp [chN]), by apply pw_below_drewN; exact HB2.out⟩
            · have dg3 : decide (0 ≤ x3) = false := decide_eq_false g3
              have HF : Hid (x = none) := Lib.hid (by rw [HE.out, HX2.out, HX3.out, if_neg (fun h => g3 h.2.2.2.2)])
              go_wp2_with fail
              refine (rdigit_any' c2 x2 _ r2.1 r2.2 HX2).mono ?_
              rintro e w' ⟨rfl, hb1⟩
              have HB1 := Lib.hid (below_trans HB.out hb1)
              clear hb1
              go_wp2_with fail
              refine (rdigit_any' c3 x3 _ r3.1 r3.2 HX3).mono ?_
              rintro e w' ⟨rfl, hb1⟩
              have HB2 := Lib.hid (below_trans HB1.out hb1)
              clear hb1
              go_wp2
              go_ret2
              exact ⟨by rw [HF.out]; rfl, HB2.out⟩
          · have dg2 : decide (0 ≤ x2) = false := decide_eq_false g2
            have HF : Hid (x = none) := Lib.hid (by rw [HE.out, HX2.out, HX3.out, if_neg (fun h => g2 h.2.2.2.1)])
            go_wp2_with fail
            refine (rdigit_any' c2 x2 _ r2.1 r2.2 HX2).mono ?_
            rintro e w' ⟨rfl, hb1⟩
            have HB1 := Lib.hid (below_trans HB.out hb1)
            clear hb1
            go_wp2
            go_ret2
            exact ⟨by rw [HF.out]; rfl, HB1.out⟩
        · have de1 : (c1 == 120) = false := beq_eq_false_iff_ne.2 e1
          have HF : Hid (x = none) := Lib.hid (by rw [HE.out, if_neg (fun h => e1 h.2.2.1)])
          subst e0
          clear e1
          go_wp2
          go_ret2
          exact ⟨by rw [HF.out]; rfl, HB.out⟩
      · have de0 : (c0 == 92) = false := beq_eq_false_iff_ne.2 e0
        have HF : Hid (x = none) := Lib.hid (by rw [HE.out, if_neg (fun h => e0 h.2.1)])
        clear e0
        go_wp2
        go_ret2
        exact ⟨by rw [HF.out]; rfl, HB.out⟩
    · have d3 : decide ((k : Int) + 3 < (s.size : Int)) = false := decide_eq_false (by omega)
      have HF : Hid (x = none) := Lib.hid (by rw [HE.out, if_neg (fun h => h3 h.1)])
      clear b0 b1 b2 b3
      go_wp2
      go_ret2
      exact ⟨by rw [HF.out]; rfl, HB.out⟩
end Go.Proofs.YtaphblnelmncaaaDoor.PA
end

section
/- The reference's join, of great patterns. -/
set_option linter.unusedVariables false
namespace Go.Proofs.YtaphblnelmncaaaDoor.PA
open Go.RowKit Go.Proofs.YtaphblnelmncaaaDoorW.PrintWords Go.Proofs.YtaphblnelmncaaaDoorW.PrintLast Go.Proofs.YtaphblnelmncaaaDoorW.PrintMore

set_option maxHeartbeats 4000000 in
set_option maxRecDepth 100000 in
theorem rjoin_big (K : Int) (A B : Option Addr) (ca cb : Nat) (p q : List S50) (w : World) (hC : Kd.C k50 w A p.length p) (hD : Kd.C k50 w B q.length q) (hc : p.length ≤ ca) (hd : q.length ≤ cb) (hpb : p.length ≤ 1000000) (hqb : q.length ≤ 1000000) :
    Calls Tryd.prog 41 #[.int .i64 K, .slice A p.length ca, .slice B q.length cb] w fun e w' => ∃ v, e = .returned v ∧ Kd.R k50 50 w' w.heap.size (fun _ => True) v (joinF K p q) ∧ Below w.heap.size w w' := by
  have HC := Lib.hid hC
  have HD := Lib.hid hD
  clear hC hD
  go_enter Tryd.func41, Tryd.ntmps41
  go_wp2_with (first | ((with_reducible refine gate_dst (N := 12) rfl ?_); refine Kd.R_lit k50 _ 50 ?hg (N := 12) ?hd (xs := ([] : List (S50))) (inner := []) (ok := fun _ => True) (okp := fun _ => True) ?hr ?hp (fun _ hk => hk) trivial (Below.refl _ _) (Nat.le_refl _) (by simp) ?_; (case hd => rfl); (case hg => rfl); (case hr => first | (go_simp; done) | (go_simp; rfl)); (case hp => exact (Reps.none _ _)); intro v225 w4 ho5 hb hg_ hnew_; have HB1 := Lib.hid hb; have HO1 := Lib.hid ho5; clear hg_ hnew_ hb ho5) | ((with_reducible refine gate_builtin (b := .append) (xs := #[.tmp 12, .tmp 13]) rfl ?_); at_builtin; refine Kd.R_append_rows k50 (w0 := w) w.heap.size rfl (.tmp 12) (.tmp 13) 25 50 (.agg #[(.int .i64 0), (.int .i64 0), (.int .i64 0), (.int .i64 0), (.int .i64 0)]) 40 rfl Tryd.underlying25 info50 rfl (by decide) (by omega) v225 [] p A p.length ca (fun _ => True) (fun _ => False) rfl rfl ?aO ?aR (fun _ _ h => h) (fun _ h => h.elim) ?aF ?aB ?aS ?aL ?_; (case aR => exact Kd.C_below HC.out HB1.out); (case aB => exact HB1.out); (case aF => exact (fun _ _ => trivial)); (case aO => exact HO1.out); (case aS => exact HB1.out.size); (case aL => simp; omega); intro v228 w6 ho hb hg hat; have HO2 := Lib.hid ho; have HB2 := Lib.hid hb; clear ho hb hg hat))
  have hI : Hid (RJoin w v228 p w6) := Lib.hid ⟨HB2.out, by simpa using HO2.out⟩
  clear HO1 HO2 HB1 HB2
  go_loopw [7, 8] (fun c7 c8 wr => ∃ (k : Nat), k ≤ q.length ∧ c8 = .int .i64 (k : Int) ∧ Hid (RJoin w c7 (p ++ (q.take k).map (shN p.length)) wr)) (fun _ c8 _ => q.length - (intOf c8).toNat)
  case atStart => exact ⟨0, Nat.zero_le _, rfl, by simpa using hI⟩
  case round =>
    obtain ⟨k, hk, rfl, hJ⟩ := hrel
    by_cases hlt : k < q.length
    · have hkI : (k : Int) < (q.length : Int) := by omega
      have hkb : decide ((k : Int) < (q.length : Int)) = true := by simp; omega
      obtain ⟨ad, rfl, x0, x1, x2, x3, x4⟩ := at_T50 (Kd.C_below HD.out hJ.out.low) k (by omega) hkI
      have HX : Hid (q.take (k + 1) = q.take k ++ [rd_T50 q k]) := Lib.hid (take_rd hlt)
      simp only [Int.toNat_natCast] at x0 x1 x2 x3 x4
      generalize rd_T50 q k = x at *
      obtain ⟨K1, lo, hi, a, b⟩ := x
      obtain ⟨ob, hob⟩ := ops_f K1
      have hr := opn_range K1
      have HS : Hid (∀ n, opn K1 = n → shN (p.length : Int) ⟨K1, lo, hi, a, b⟩ = ⟨K1, lo, hi, if 1 ≤ n then wrap64 (a + p.length) else a, if 2 ≤ n then wrap64 (b + p.length) else b⟩) := Lib.hid (fun n h => by subst h; rfl)
      generalize hn : opn K1 = n at *
      have hob' := Lib.hid hob
      have HS2 := Lib.hid (HS.out n rfl)
      have hll : (p ++ List.map (shN ↑p.length) (List.take k q)).length ≤ 2000000 := by simp; omega
      clear hob hn HS
      have h3 : n = 0 ∨ n = 1 ∨ n = 2 := by omega
      clear hr
      obtain ⟨L, hL⟩ : ∃ L, L = p ++ List.map (shN ↑p.length) (List.take k q) := ⟨_, rfl⟩
      rw [← hL] at hJ hll
      have HL := Lib.hid hL
      obtain ⟨O, co, rfl⟩ := Kd.R_slice hJ.out.hq
      clear hL
      rcases h3 with rfl | rfl | rfl
      · go_upto_region 11 with (first | (go_at_call 52; refine (koineref04_operands.calls 1 K1 _ _ _ hob'.out).mono ?_; rintro e w' ⟨rfl, ⟨nd, rfl⟩⟩) | (fail))
        generalize hW : World.drewN _ _ = W1
        have HBL : Hid (Below wr.heap.size wr W1) := Lib.hid (by subst hW; (repeat (first | exact Below.refl _ _ | apply below_alloc | apply pw_below_drewN | (refine below_set ?_ (Nat.le_refl _)))))
        have HBK : Hid (Blk W1 wr.heap.size 50 [.int .i64 K1, .int .i64 lo, .int .i64 hi, .int .i64 (a), .int .i64 (b)]) := Lib.hid (by subst hW; exact Blk.new wr _ 50)
        have f0 := HBK.out.cell 0
        have f1 := HBK.out.cell 1
        have f2 := HBK.out.cell 2
        have f3 := HBK.out.cell 3
        have f4 := HBK.out.cell 4
        simp only [List.getElem?_cons_zero, List.getElem?_cons_succ] at f0 f1 f2 f3 f4
        clear hW x0 x1 x2 x3 x4
        go_wp2_with (first | ((with_reducible refine gate_builtin (b := .append) (xs := #[.tmp 47, .tmp 49]) rfl ?_); at_builtin; refine Kd.R_append k50 (w0 := wr) w.heap.size rfl (.tmp 47) (.tmp 49) 25 50 (.agg #[(.int .i64 0), (.int .i64 0), (.int .i64 0), (.int .i64 0), (.int .i64 0)]) 40 rfl Tryd.underlying25 info50 rfl (by decide) (by omega) (.slice O L.length co) L (⟨K1, lo, hi, a, b⟩ : S50) [.int .i64 K1, .int .i64 lo, .int .i64 hi, .int .i64 (a), .int .i64 (b)] (fun _ => True) (fun _ => False) rfl rfl ?aP (fun _ hk => hk.elim) ?aF ?aO ?aB ?aS ?aL ?_; (case aP => exact k50_mkM _ _ _ (⟨K1, lo, hi, a, b⟩ : S50)); (case aF => exact (fun _ _ => trivial)); (case aO => exact Kd.R_below hJ.out.hq HBL.out); (case aB => exact HBL.out.mono hJ.out.low.size); (case aS => exact Nat.le_trans hJ.out.low.size HBL.out.size); (case aL => omega); intro v1 w6 ho1 hb1 hg1 hat1; have HO1 := Lib.hid ho1; have HB1 := Lib.hid hb1; clear ho1 hb1 hg1 hat1) | (fail))
        go_roundw
        case rel => exact ⟨k + 1, by omega, by go_num, Lib.hid ⟨hJ.out.low.trans HB1.out, by have h := HO1.out; rw [HX.out, List.map_append, ← List.append_assoc, ← HL.out]; simpa [HS2.out] using h⟩⟩
        case measure => simp [intOf]; omega
      · go_upto_region 11 with (first | (go_at_call 52; refine (koineref04_operands.calls 1 K1 _ _ _ hob'.out).mono ?_; rintro e w' ⟨rfl, ⟨nd, rfl⟩⟩) | (fail))
        generalize hW : World.setCell _ _ _ = W1
        have HBL : Hid (Below wr.heap.size wr W1) := Lib.hid (by subst hW; (repeat (first | exact Below.refl _ _ | apply below_alloc | apply pw_below_drewN | (refine below_set ?_ (Nat.le_refl _)))))
        have HBK : Hid (Blk W1 wr.heap.size 50 [.int .i64 K1, .int .i64 lo, .int .i64 hi, .int .i64 (wrap64 (a + (p.length : Int))), .int .i64 (b)]) := Lib.hid (by subst hW; exact (Blk.newD wr _ 50 nd).set 3 _)
        have f0 := HBK.out.cell 0
        have f1 := HBK.out.cell 1
        have f2 := HBK.out.cell 2
        have f3 := HBK.out.cell 3
        have f4 := HBK.out.cell 4
        simp only [List.getElem?_cons_zero, List.getElem?_cons_succ] at f0 f1 f2 f3 f4
        clear hW x0 x1 x2 x3 x4
        go_wp2_with (first | ((with_reducible refine gate_builtin (b := .append) (xs := #[.tmp 47, .tmp 49]) rfl ?_); at_builtin; refine Kd.R_append k50 (w0 := wr) w.heap.size rfl (.tmp 47) (.tmp 49) 25 50 (.agg #[(.int .i64 0), (.int .i64 0), (.int .i64 0), (.int .i64 0), (.int .i64 0)]) 40 rfl Tryd.underlying25 info50 rfl (by decide) (by omega) (.slice O L.length co) L (⟨K1, lo, hi, wrap64 (a + (p.length : Int)), b⟩ : S50) [.int .i64 K1, .int .i64 lo, .int .i64 hi, .int .i64 (wrap64 (a + (p.length : Int))), .int .i64 (b)] (fun _ => True) (fun _ => False) rfl rfl ?aP (fun _ hk => hk.elim) ?aF ?aO ?aB ?aS ?aL ?_; (case aP => exact k50_mkM _ _ _ (⟨K1, lo, hi, wrap64 (a + (p.length : Int)), b⟩ : S50)); (case aF => exact (fun _ _ => trivial)); (case aO => exact Kd.R_below hJ.out.hq HBL.out); (case aB => exact HBL.out.mono hJ.out.low.size); (case aS => exact Nat.le_trans hJ.out.low.size HBL.out.size); (case aL => omega); intro v1 w6 ho1 hb1 hg1 hat1; have HO1 := Lib.hid ho1; have HB1 := Lib.hid hb1; clear ho1 hb1 hg1 hat1) | (fail))
        go_roundw
        case rel => exact ⟨k + 1, by omega, by go_num, Lib.hid ⟨hJ.out.low.trans HB1.out, by have h := HO1.out; rw [HX.out, List.map_append, ← List.append_assoc, ← HL.out]; simpa [HS2.out] using h⟩⟩
        case measure => simp [intOf]; omega
      · go_upto_region 11 with (first | (go_at_call 52; refine (koineref04_operands.calls 1 K1 _ _ _ hob'.out).mono ?_; rintro e w' ⟨rfl, ⟨nd, rfl⟩⟩) | (fail))
        generalize hW : World.setCell _ _ _ = W1
        have HBL : Hid (Below wr.heap.size wr W1) := Lib.hid (by subst hW; (repeat (first | exact Below.refl _ _ | apply below_alloc | apply pw_below_drewN | (refine below_set ?_ (Nat.le_refl _)))))
        have HBK : Hid (Blk W1 wr.heap.size 50 [.int .i64 K1, .int .i64 lo, .int .i64 hi, .int .i64 (wrap64 (a + (p.length : Int))), .int .i64 (wrap64 (b + (p.length : Int)))]) := Lib.hid (by subst hW; exact ((Blk.newD wr _ 50 nd).set 3 _).set 4 _)
        have f0 := HBK.out.cell 0
        have f1 := HBK.out.cell 1
        have f2 := HBK.out.cell 2
        have f3 := HBK.out.cell 3
        have f4 := HBK.out.cell 4
        simp only [List.getElem?_cons_zero, List.getElem?_cons_succ] at f0 f1 f2 f3 f4
        clear hW x0 x1 x2 x3 x4
        go_wp2_with (first | ((with_reducible refine gate_builtin (b := .append) (xs := #[.tmp 47, .tmp 49]) rfl ?_); at_builtin; refine Kd.R_append k50 (w0 := wr) w.heap.size rfl (.tmp 47) (.tmp 49) 25 50 (.agg #[(.int .i64 0), (.int .i64 0), (.int .i64 0), (.int .i64 0), (.int .i64 0)]) 40 rfl Tryd.underlying25 info50 rfl (by decide) (by omega) (.slice O L.length co) L (⟨K1, lo, hi, wrap64 (a + (p.length : Int)), wrap64 (b + (p.length : Int))⟩ : S50) [.int .i64 K1, .int .i64 lo, .int .i64 hi, .int .i64 (wrap64 (a + (p.length : Int))), .int .i64 (wrap64 (b + (p.length : Int)))] (fun _ => True) (fun _ => False) rfl rfl ?aP (fun _ hk => hk.elim) ?aF ?aO ?aB ?aS ?aL ?_; (case aP => exact k50_mkM _ _ _ (⟨K1, lo, hi, wrap64 (a + (p.length : Int)), wrap64 (b + (p.length : Int))⟩ : S50)); (case aF => exact (fun _ _ => trivial)); (case aO => exact Kd.R_below hJ.out.hq HBL.out); (case aB => exact HBL.out.mono hJ.out.low.size); (case aS => exact Nat.le_trans hJ.out.low.size HBL.out.size); (case aL => omega); intro v1 w6 ho1 hb1 hg1 hat1; have HO1 := Lib.hid ho1; have HB1 := Lib.hid hb1; clear ho1 hb1 hg1 hat1) | (fail))
        go_roundw
        case rel => exact ⟨k + 1, by omega, by go_num, Lib.hid ⟨hJ.out.low.trans HB1.out, by have h := HO1.out; rw [HX.out, List.map_append, ← List.append_assoc, ← HL.out]; simpa [HS2.out] using h⟩⟩
        case measure => simp [intOf]; omega
    · have hkb : decide ((k : Int) < (q.length : Int)) = false := by simp; omega
      have hke : k = q.length := by omega
      have HJ : Hid (RJoin w u7 (p ++ q.map (shN ↑p.length)) wr) := by have h := hJ; rw [hke, List.take_length] at h; exact h
      obtain ⟨L, hL⟩ : ∃ L, L = p ++ q.map (shN ↑p.length) := ⟨_, rfl⟩
      rw [← hL] at HJ
      have HL := Lib.hid hL
      have hll : L.length ≤ 2000000 := by rw [hL]; simp; omega
      obtain ⟨O, co, rfl⟩ := Kd.R_slice HJ.out.hq
      have s1 : wrap64 ((p.length : Int) - 1) = (p.length : Int) - 1 := by unfold wrap64; omega
      have s2 : wrap64 ((p.length : Int) + q.length) = (p.length : Int) + q.length := by unfold wrap64; omega
      have s3 : wrap64 ((p.length : Int) + q.length - 1) = (p.length : Int) + q.length - 1 := by unfold wrap64; omega
      clear hL hke hJ
      go_wp2_with (first | ((with_reducible refine gate_builtin (b := .append) (xs := #[.tmp 51, .tmp 63]) rfl ?_); at_builtin; refine Kd.R_append k50 (w0 := wr) w.heap.size rfl (.tmp 51) (.tmp 63) 25 50 (.agg #[(.int .i64 0), (.int .i64 0), (.int .i64 0), (.int .i64 0), (.int .i64 0)]) 40 rfl Tryd.underlying25 info50 rfl (by decide) (by omega) (.slice O L.length co) L (⟨K, 0, 0, (p.length : Int) - 1, (p.length : Int) + q.length - 1⟩ : S50) [.int .i64 K, .int .i64 0, .int .i64 0, .int .i64 ((p.length : Int) - 1), .int .i64 ((p.length : Int) + q.length - 1)] (fun _ => True) (fun _ => False) rfl rfl ?aP (fun _ hk => hk.elim) ?aF ?aO ?aB ?aS ?aL ?_; (case aP => exact k50_mkM _ _ _ (⟨K, 0, 0, (p.length : Int) - 1, (p.length : Int) + q.length - 1⟩ : S50)); (case aF => exact (fun _ _ => trivial)); (case aO => exact HJ.out.hq); (case aB => exact Below.refl _ _); (case aS => exact HJ.out.low.size); (case aL => omega); intro v1 w6 ho1 hb1 hg1 hat1; have HO1 := Lib.hid ho1; have HB1 := Lib.hid hb1; clear ho1 hb1 hg1 hat1) | (fail))
      go_ret
      exact ⟨v1, rfl, by have h := HO1.out; rw [HL.out] at h; exact h, HJ.out.low.trans HB1.out⟩
end Go.Proofs.YtaphblnelmncaaaDoor.PA
end

section
/- The walks over the reference's parser. -/
set_option linter.unusedVariables false
namespace Go.Proofs.YtaphblnelmncaaaDoor.PA
open Go.RowKit Go.Proofs.YtaphblnelmncaaaDoorW.PrintWords Go.Proofs.YtaphblnelmncaaaDoorW.PrintLast Go.Proofs.YtaphblnelmncaaaDoorW.PrintMore

/-- A pattern and an offset say what was read. -/
def RX (B : Nat) (x : Option (Tr × Nat)) (q : List S50) (nx : Int) : Prop := match x with | none => nx = -1 ∧ q.length ≤ B | some a => nx = (a.2 : Int) ∧ q = a.1.post 0
def RP (B : Nat) (w : World) (x : Option (Tr × Nat)) (e : Ending) (w' : World) : Prop := ∃ E ec q nx, e = .returned (.tuple #[.slice E (List.length (α := S50) q) ec, .int .i64 nx]) ∧ Pt w' E ec q ∧ Below w.heap.size w w' ∧ RX B x q nx
theorem pt_nil (w : World) : Pt w none 0 [] := ⟨Kd.C_nil _ _, Nat.le_refl _⟩
theorem rp_none {w w' : World} (h : Below w.heap.size w w') : RP 0 w none (.returned (.tuple #[.slice none 0 0, .int .i64 (-1)])) w' := ⟨none, 0, [], -1, rfl, pt_nil _, h, rfl, by simp⟩
theorem byteAt_c {s : ByteArray} {k : Nat} {c : Int} (h : Hid (bt s (k : Int) = c)) (w : World) : Calls Tryd.prog 81 #[.string s, .int .i64 (k : Int)] w fun e w' => e = .returned (.int .u8 c) ∧ Below w.heap.size w w' := by
  rw [← h.out]; exact byteAt_any s k w
theorem is_bt {s : ByteArray} {k : Nat} {c : Int} (hc : c ≠ 0) : is s k c = true ↔ bt s (k : Int) = c := by
  rw [is_iff]
  constructor
  · exact fun h => h.2
  · intro h
    refine ⟨?_, h⟩
    apply Classical.byContradiction
    intro hn
    have : bt s (k : Int) = 0 := by unfold bt; rw [dif_neg (by simpa using hn)]
    exact hc (h.symm.trans this)
theorem rone (lo hi : Int) (w : World) : Calls Tryd.prog 39 #[.int .i64 lo, .int .i64 hi] w fun e w' => ∃ E ec, e = .returned (.slice E 1 ec) ∧ Pt w' E ec ((Tr.rng lo hi).post 0) ∧ Below w.heap.size w w' :=
  (koineref04_one.calls lo hi _ w rfl).mono fun e w' ⟨v, he, hR, hb⟩ => by
    obtain ⟨E, ec, rfl⟩ := Kd.R_slice hR
    exact ⟨E, ec, he, (Pt.of hR).2, hb⟩
theorem rempty (w : World) : Calls Tryd.prog 38 #[] w fun e w' => ∃ E ec, e = .returned (.slice E 1 ec) ∧ Pt w' E ec ((Tr.emp).post 0) ∧ Below w.heap.size w w' :=
  (koineref04_empty.calls _ w rfl).mono fun e w' ⟨v, he, hR, hb⟩ => by
    obtain ⟨E, ec, rfl⟩ := Kd.R_slice hR
    exact ⟨E, ec, he, (Pt.of hR).2, hb⟩
/-- The range's parts. -/
theorem range_none {s : ByteArray} {k : Nat} (h : rChar s k = none) : rRange s k = none := by unfold rRange; rw [h]; rfl
theorem range_dash {s : ByteArray} {k k1 : Nat} {lo : Int} (h : rChar s k = some (lo, k1)) (h2 : bt s (k1 : Int) ≠ 45) : rRange s k = none := by
  unfold rRange; rw [h, Option.bind_some, if_neg (by rw [is_bt (by decide)]; exact h2)]
theorem range_none2 {s : ByteArray} {k k1 : Nat} {lo : Int} (h : rChar s k = some (lo, k1)) (h2 : bt s (k1 : Int) = 45) (h3 : rChar s (k1 + 1) = none) : rRange s k = none := by
  unfold rRange; rw [h, Option.bind_some, if_pos ((is_bt (by decide)).2 h2)]; simp only; rw [h3]; rfl
theorem range_some {s : ByteArray} {k k1 k2 : Nat} {lo hi : Int} (h : rChar s k = some (lo, k1)) (h2 : bt s (k1 : Int) = 45) (h3 : rChar s (k1 + 1) = some (hi, k2)) : rRange s k = if bt s (k2 : Int) = 93 ∧ lo ≤ hi then some (lo, hi, k2 + 1) else none := by
  unfold rRange; rw [h, Option.bind_some, if_pos ((is_bt (by decide)).2 h2)]; simp only; rw [h3, Option.bind_some]
  have := is_bt (s := s) (k := k2) (c := 93) (by decide)
  by_cases hh : bt s (k2 : Int) = 93 ∧ lo ≤ hi
  · rw [if_pos hh, if_pos ⟨this.2 hh.1, hh.2⟩]
  · rw [if_neg hh, if_neg (fun h => hh ⟨this.1 h.1, h.2⟩)]
theorem char_le {s : ByteArray} {k k' : Nat} {b : Int} (h : rChar s k = some (b, k')) : k' ≤ s.size ∧ 0 ≤ b ∧ b ≤ 255 ∧ k < k' := by
  obtain ⟨a, b, c, d, e⟩ := char_cost h
  have := (d (k' - 1) (by omega) (by omega)).1
  exact ⟨by omega, a, b, e⟩

set_option maxHeartbeats 8000000 in
set_option maxRecDepth 100000 in
theorem ratom_any (s : ByteArray) (n : Nat) (hs : s.size ≤ 8192) (ih : ∀ k x, k ≤ s.size → rAlt s n k = some x → ∀ w, Calls Tryd.prog 56 #[.string s, .int .i64 (k : Int)] w (RP 40000 w x)) (k : Nat) (hk : k ≤ s.size) (x : Option (Tr × Nat)) (hx : rBare s n k = some x) (w : World) :
    Calls Tryd.prog 94 #[.string s, .int .i64 (k : Int)] w (RP 0 w x) := by
  obtain ⟨c0, hc0⟩ : ∃ c, bt s (k : Int) = c := ⟨_, rfl⟩
  have C0 := Lib.hid hc0
  have IH := Lib.hid ih
  unfold rBare at hx
  clear ih
  by_cases h91 : c0 = 91
  · rw [if_pos ((is_bt (by decide)).2 (hc0.trans h91))] at hx
    subst h91
    have ck := rchar_any s (k + 1) (by omega) (by omega)
    have hlt : k < s.size := (is_iff.1 ((is_bt (s := s) (k := k) (c := 91) (by decide)).2 hc0)).1
    cases hr1 : rChar s (k + 1) with
    | none =>
      rw [range_none hr1] at hx
      simp only [Option.some.injEq] at hx
      subst hx
      rw [hr1] at ck
      have CK := Lib.hid ck
      clear ck hc0 hr1
      go_enter Tryd.func94, Tryd.ntmps94
      go_wp2_with fail
      refine (byteAt_c C0 w).mono ?_
      rintro e w1 ⟨rfl, k1⟩
      have B1 := Lib.hid k1
      clear k1
      go_wp2_with fail
      refine (CK.out w1).mono ?_
      rintro e w2 ⟨rfl, k1⟩
      have B2 := Lib.hid (below_trans B1.out k1)
      clear k1
      go_wp2
      go_ret2
      exact rp_none B2.out
    | some a =>
      obtain ⟨lo, k1⟩ := a
      have hk1 := char_le hr1
      rw [hr1] at ck
      have CK := Lib.hid (show ∀ w, Calls Tryd.prog 96 #[.string s, .int .i64 ((k : Int) + 1)] w fun e w' => e = .returned (.tuple #[.int .i64 lo, .int .i64 (k1 : Int)]) ∧ Below w.heap.size w w' from ck)
      clear ck hc0
      obtain ⟨c1, hc1⟩ : ∃ c, bt s (k1 : Int) = c := ⟨_, rfl⟩
      have C1 := Lib.hid hc1
      by_cases h45 : c1 = 45
      · subst h45
        have ck2 := rchar_any s (k1 + 1) (by omega) (by omega)
        cases hr2 : rChar s (k1 + 1) with
        | none =>
          rw [range_none2 hr1 hc1 hr2] at hx
          simp only [Option.some.injEq] at hx
          subst hx
          rw [hr2] at ck2
          have CK2 := Lib.hid ck2
          clear ck2 hc1 hr1 hr2
          go_enter Tryd.func94, Tryd.ntmps94
          go_wp2_with fail
          refine (byteAt_c C0 w).mono ?_
          rintro e w1 ⟨rfl, k1⟩
          have B1 := Lib.hid k1
          clear k1
          go_wp2_with fail
          refine (CK.out w1).mono ?_
          rintro e w2 ⟨rfl, k1⟩
          have B2 := Lib.hid (below_trans B1.out k1)
          clear k1
          go_wp2_with fail
          refine (byteAt_c C1 w2).mono ?_
          rintro e w3 ⟨rfl, k1⟩
          have B3 := Lib.hid (below_trans B2.out k1)
          clear k1
          go_wp2_with fail
          refine (CK2.out w3).mono ?_
          rintro e w4 ⟨rfl, k1⟩
          have B4 := Lib.hid (below_trans B3.out k1)
          clear k1
          go_wp2
          go_ret2
          exact rp_none B4.out
        | some a =>
          obtain ⟨hi, k2⟩ := a
          have hk2 := char_le hr2
          rw [range_some hr1 hc1 hr2] at hx
          rw [hr2] at ck2
          have CK2 := Lib.hid (show ∀ w, Calls Tryd.prog 96 #[.string s, .int .i64 ((k1 : Int) + 1)] w fun e w' => e = .returned (.tuple #[.int .i64 hi, .int .i64 (k2 : Int)]) ∧ Below w.heap.size w w' from ck2)
          obtain ⟨c2, hc2⟩ : ∃ c, bt s (k2 : Int) = c := ⟨_, rfl⟩
          have C2 := Lib.hid hc2
          rw [hc2] at hx
          have HX := Lib.hid hx
          have n1 : decide ((k1 : Int) < 0) = false := decide_eq_false (by omega)
          have n2 : decide ((k2 : Int) < 0) = false := decide_eq_false (by omega)
          clear ck2 hc1 hr1 hr2 hc2 hx
          go_enter Tryd.func94, Tryd.ntmps94
          go_wp2_with fail
          refine (byteAt_c C0 w).mono ?_
          rintro e w1 ⟨rfl, k1⟩
          have B1 := Lib.hid k1
          clear k1
          go_wp2_with fail
          refine (CK.out w1).mono ?_
          rintro e w2 ⟨rfl, k1⟩
          have B2 := Lib.hid (below_trans B1.out k1)
          clear k1
          go_wp2_with fail
          refine (byteAt_c C1 w2).mono ?_
          rintro e w3 ⟨rfl, k1⟩
          have B3 := Lib.hid (below_trans B2.out k1)
          clear k1
          go_wp2_with fail
          refine (CK2.out w3).mono ?_
          rintro e w4 ⟨rfl, k1⟩
          have B4 := Lib.hid (below_trans B3.out k1)
          clear k1
          go_wp2_with fail
          refine (byteAt_c C2 w4).mono ?_
          rintro e w5 ⟨rfl, k1⟩
          have B5 := Lib.hid (below_trans B4.out k1)
          clear k1
          by_cases h93 : c2 = 93
          · subst h93
            by_cases hle : lo ≤ hi
            · have dl : decide (hi < lo) = false := decide_eq_false (by omega)
              have HE : Hid (x = some (.rng lo hi, k2 + 1)) := Lib.hid (by have h := HX.out; rw [if_pos ⟨rfl, hle⟩] at h; simpa using h.symm)
              clear hle
              go_wp2_with fail
              refine (rone lo hi w5).mono ?_
              rintro e w6 ⟨E, ec, rfl, hp, k1⟩
              have HPT := Lib.hid hp
              have B6 := Lib.hid (below_trans B5.out k1)
              clear k1 hp
              go_wp2
              go_ret2
              exact ⟨E, ec, _, _, rfl, HPT.out, B6.out, by rw [HE.out]; exact ⟨by simp, rfl⟩⟩
            · have dl : decide (hi < lo) = true := decide_eq_true (by omega)
              have HE : Hid (x = none) := Lib.hid (by have h := HX.out; rw [if_neg (fun h => hle h.2)] at h; simpa using h.symm)
              clear hle
              go_wp2
              go_ret2
              rw [HE.out]
              exact rp_none B5.out
          · have d93 : (c2 == 93) = false := beq_eq_false_iff_ne.2 h93
            have dn93 : (c2 != 93) = true := by rw [bne, d93]; rfl
            have HE : Hid (x = none) := Lib.hid (by have h := HX.out; rw [if_neg (fun h => h93 h.1)] at h; simpa using h.symm)
            clear h93
            go_wp2
            go_ret2
            rw [HE.out]
            exact rp_none B5.out
      · rw [range_dash hr1 (by rw [hc1]; exact h45)] at hx
        simp only [Option.some.injEq] at hx
        subst hx
        have d45 : (c1 == 45) = false := beq_eq_false_iff_ne.2 h45
        have dn45 : (c1 != 45) = true := by rw [bne, d45]; rfl
        have n1 : decide ((k1 : Int) < 0) = false := decide_eq_false (by omega)
        clear hc1 hr1 h45
        go_enter Tryd.func94, Tryd.ntmps94
        go_wp2_with fail
        refine (byteAt_c C0 w).mono ?_
        rintro e w1 ⟨rfl, k1⟩
        have B1 := Lib.hid k1
        clear k1
        go_wp2_with fail
        refine (CK.out w1).mono ?_
        rintro e w2 ⟨rfl, k1⟩
        have B2 := Lib.hid (below_trans B1.out k1)
        clear k1
        go_wp2_with fail
        refine (byteAt_c C1 w2).mono ?_
        rintro e w3 ⟨rfl, k1⟩
        have B3 := Lib.hid (below_trans B2.out k1)
        clear k1
        go_wp2
        go_ret2
        exact rp_none B3.out
  · rw [if_neg (by rw [is_bt (by decide), hc0]; exact h91)] at hx
    have d91 : (c0 == 91) = false := beq_eq_false_iff_ne.2 h91
    clear h91
    by_cases h40 : c0 = 40
    · subst h40
      rw [if_pos ((is_bt (by decide)).2 hc0)] at hx
      have hlt : k < s.size := (is_iff.1 ((is_bt (s := s) (k := k) (c := 40) (by decide)).2 hc0)).1
      obtain ⟨c1, hc1⟩ : ∃ c, bt s ((k + 1 : Nat) : Int) = c := ⟨_, rfl⟩
      have C1' := Lib.hid hc1
      have C1 := Lib.hid (show ∀ w, Calls Tryd.prog 81 #[.string s, .int .i64 ((k : Int) + 1)] w fun e w' => e = .returned (.int .u8 c1) ∧ Below w.heap.size w w' from fun w => byteAt_c (k := k + 1) C1' w)
      by_cases h41 : c1 = 41
      · subst h41
        rw [if_pos ((is_bt (by decide)).2 hc1)] at hx
        simp only [Option.some.injEq] at hx
        subst hx
        clear hc0 hc1
        go_enter Tryd.func94, Tryd.ntmps94
        go_wp2_with fail
        refine (byteAt_c C0 w).mono ?_
        rintro e w1 ⟨rfl, k1⟩
        have B1 := Lib.hid (k1)
        clear k1
        go_wp2_with fail
        refine (byteAt_c C0 w1).mono ?_
        rintro e w2 ⟨rfl, k1⟩
        have B2 := Lib.hid (below_trans B1.out k1)
        clear k1
        go_wp2_with fail
        refine (C1.out w2).mono ?_
        rintro e w3 ⟨rfl, k1⟩
        have B3 := Lib.hid (below_trans B2.out k1)
        clear k1
        go_wp2_with fail
        refine (rempty w3).mono ?_
        rintro e w4 ⟨E, ec, rfl, hp, k1⟩
        have HPT := Lib.hid hp
        have B4 := Lib.hid (below_trans B3.out k1)
        clear k1 hp
        go_wp2
        go_ret2
        exact ⟨E, ec, _, _, rfl, HPT.out, B4.out, by simp, rfl⟩
      · rw [if_neg (by rw [is_bt (by decide), hc1]; exact h41)] at hx
        have d41 : (c1 == 41) = false := beq_eq_false_iff_ne.2 h41
        obtain ⟨x1, hx1, hx2⟩ := Option.bind_eq_some_iff.1 hx
        have HA := Lib.hid (show ∀ w, Calls Tryd.prog 56 #[.string s, .int .i64 ((k : Int) + 1)] w (RP 40000 w x1) from IH.out (k + 1) x1 hlt hx1)
        clear h41 hc0 hc1 hx
        cases x1 with
        | none =>
          simp only [Option.some.injEq] at hx2
          subst hx2
          clear hx1
          go_enter Tryd.func94, Tryd.ntmps94
          go_wp2_with fail
          refine (byteAt_c C0 w).mono ?_
          rintro e w1 ⟨rfl, k1⟩
          have B1 := Lib.hid (k1)
          clear k1
          go_wp2_with fail
          refine (byteAt_c C0 w1).mono ?_
          rintro e w2 ⟨rfl, k1⟩
          have B2 := Lib.hid (below_trans B1.out k1)
          clear k1
          go_wp2_with fail
          refine (C1.out w2).mono ?_
          rintro e w3 ⟨rfl, k1⟩
          have B3 := Lib.hid (below_trans B2.out k1)
          clear k1
          go_wp2_with fail
          refine (byteAt_c C0 w3).mono ?_
          rintro e w4 ⟨rfl, k1⟩
          have B4 := Lib.hid (below_trans B3.out k1)
          clear k1
          go_wp2_with fail
          refine (HA.out w4).mono ?_
          rintro e w5 ⟨E, ec, q, nx, rfl, hp, k1, hr⟩
          have B5 := Lib.hid (below_trans B4.out k1)
          obtain ⟨rfl, hql⟩ := hr
          clear k1 hp
          go_wp2
          go_ret2
          exact rp_none B5.out
        | some a =>
          obtain ⟨t, k2⟩ := a
          have hg := ((allGot s n).alt _ _ _ hx1).size
          obtain ⟨c2, hc2⟩ : ∃ c, bt s (k2 : Int) = c := ⟨_, rfl⟩
          have C2 := Lib.hid hc2
          have n2 : decide ((k2 : Int) < 0) = false := decide_eq_false (by omega)
          by_cases h41b : c2 = 41
          · subst h41b
            simp only at hx2
            rw [if_pos ((is_bt (by decide)).2 hc2)] at hx2
            simp only [Option.some.injEq] at hx2
            subst hx2
            clear hx1 hc2
            go_enter Tryd.func94, Tryd.ntmps94
            go_wp2_with fail
            refine (byteAt_c C0 w).mono ?_
            rintro e w1 ⟨rfl, k1⟩
            have B1 := Lib.hid (k1)
            clear k1
            go_wp2_with fail
            refine (byteAt_c C0 w1).mono ?_
            rintro e w2 ⟨rfl, k1⟩
            have B2 := Lib.hid (below_trans B1.out k1)
            clear k1
            go_wp2_with fail
            refine (C1.out w2).mono ?_
            rintro e w3 ⟨rfl, k1⟩
            have B3 := Lib.hid (below_trans B2.out k1)
            clear k1
            go_wp2_with fail
            refine (byteAt_c C0 w3).mono ?_
            rintro e w4 ⟨rfl, k1⟩
            have B4 := Lib.hid (below_trans B3.out k1)
            clear k1
            go_wp2_with fail
            refine (HA.out w4).mono ?_
            rintro e w5 ⟨E, ec, q, nx, rfl, hp, k1, hr⟩
            obtain ⟨rfl, rfl⟩ := hr
            have B5 := Lib.hid (below_trans B4.out k1)
            have HPT := Lib.hid hp
            clear k1 hp
            go_wp2_with fail
            refine (byteAt_c C2 w5).mono ?_
            rintro e w6 ⟨rfl, k1⟩
            have B6 := Lib.hid (below_trans B5.out k1)
            have HPT2 := Lib.hid (HPT.out.next k1)
            clear k1
            go_wp2
            go_ret2
            exact ⟨E, ec, _, _, rfl, HPT2.out, B6.out, by simp, rfl⟩
          · simp only at hx2
            rw [if_neg (by rw [is_bt (by decide), hc2]; exact h41b)] at hx2
            simp only [Option.some.injEq] at hx2
            subst hx2
            have d41b : (c2 == 41) = false := beq_eq_false_iff_ne.2 h41b
            have dn41b : (c2 != 41) = true := by rw [bne, d41b]; rfl
            clear hx1 hc2 h41b
            go_enter Tryd.func94, Tryd.ntmps94
            go_wp2_with fail
            refine (byteAt_c C0 w).mono ?_
            rintro e w1 ⟨rfl, k1⟩
            have B1 := Lib.hid (k1)
            clear k1
            go_wp2_with fail
            refine (byteAt_c C0 w1).mono ?_
            rintro e w2 ⟨rfl, k1⟩
            have B2 := Lib.hid (below_trans B1.out k1)
            clear k1
            go_wp2_with fail
            refine (C1.out w2).mono ?_
            rintro e w3 ⟨rfl, k1⟩
            have B3 := Lib.hid (below_trans B2.out k1)
            clear k1
            go_wp2_with fail
            refine (byteAt_c C0 w3).mono ?_
            rintro e w4 ⟨rfl, k1⟩
            have B4 := Lib.hid (below_trans B3.out k1)
            clear k1
            go_wp2_with fail
            refine (HA.out w4).mono ?_
            rintro e w5 ⟨E, ec, q, nx, rfl, hp, k1, hr⟩
            obtain ⟨rfl, rfl⟩ := hr
            have B5 := Lib.hid (below_trans B4.out k1)
            clear k1 hp
            go_wp2_with fail
            refine (byteAt_c C2 w5).mono ?_
            rintro e w6 ⟨rfl, k1⟩
            have B6 := Lib.hid (below_trans B5.out k1)
            clear k1
            go_wp2
            go_ret2
            exact rp_none B6.out
    · rw [if_neg (by rw [is_bt (by decide), hc0]; exact h40)] at hx
      have d40 : (c0 == 40) = false := beq_eq_false_iff_ne.2 h40
      have ck := rchar_any s k (by omega) (by omega)
      clear h40 hc0
      cases hr1 : rChar s k with
      | none =>
        rw [hr1] at hx ck
        simp only [Option.some.injEq] at hx
        subst hx
        have CK := Lib.hid ck
        clear ck hr1
        go_enter Tryd.func94, Tryd.ntmps94
        go_wp2_with fail
        refine (byteAt_c C0 w).mono ?_
        rintro e w1 ⟨rfl, k1⟩
        have B1 := Lib.hid (k1)
        clear k1
        go_wp2_with fail
        refine (byteAt_c C0 w1).mono ?_
        rintro e w2 ⟨rfl, k1⟩
        have B2 := Lib.hid (below_trans B1.out k1)
        clear k1
        go_wp2_with fail
        refine (byteAt_c C0 w2).mono ?_
        rintro e w3 ⟨rfl, k1⟩
        have B3 := Lib.hid (below_trans B2.out k1)
        clear k1
        go_wp2_with fail
        refine (CK.out w3).mono ?_
        rintro e w4 ⟨rfl, k1⟩
        have B4 := Lib.hid (below_trans B3.out k1)
        clear k1
        go_wp2
        go_ret2
        exact rp_none B4.out
      | some a =>
        obtain ⟨b, k2⟩ := a
        have hk2 := char_le hr1
        rw [hr1] at hx ck
        simp only [Option.some.injEq] at hx
        subst hx
        have CK := Lib.hid (show ∀ w, Calls Tryd.prog 96 #[.string s, .int .i64 (k : Int)] w fun e w' => e = .returned (.tuple #[.int .i64 b, .int .i64 (k2 : Int)]) ∧ Below w.heap.size w w' from ck)
        have n2 : decide ((k2 : Int) < 0) = false := decide_eq_false (by omega)
        clear ck hr1
        go_enter Tryd.func94, Tryd.ntmps94
        go_wp2_with fail
        refine (byteAt_c C0 w).mono ?_
        rintro e w1 ⟨rfl, k1⟩
        have B1 := Lib.hid (k1)
        clear k1
        go_wp2_with fail
        refine (byteAt_c C0 w1).mono ?_
        rintro e w2 ⟨rfl, k1⟩
        have B2 := Lib.hid (below_trans B1.out k1)
        clear k1
        go_wp2_with fail
        refine (byteAt_c C0 w2).mono ?_
        rintro e w3 ⟨rfl, k1⟩
        have B3 := Lib.hid (below_trans B2.out k1)
        clear k1
        go_wp2_with fail
        refine (CK.out w3).mono ?_
        rintro e w4 ⟨rfl, k1⟩
        have B4 := Lib.hid (below_trans B3.out k1)
        clear k1
        go_wp2_with fail
        refine (rone b b w4).mono ?_
        rintro e w5 ⟨E, ec, rfl, hp, k1⟩
        have HPT := Lib.hid hp
        have B5 := Lib.hid (below_trans B4.out k1)
        clear k1 hp
        go_wp2
        go_ret2
        exact ⟨E, ec, _, _, rfl, HPT.out, B5.out, rfl, rfl⟩
end Go.Proofs.YtaphblnelmncaaaDoor.PA
end

section
/- The walks over the reference's parser: repetition, sequence, alternatives, Parse. -/
set_option linter.unusedVariables false
namespace Go.Proofs.YtaphblnelmncaaaDoor.PA
open Go.RowKit Go.Proofs.YtaphblnelmncaaaDoorW.PrintWords Go.Proofs.YtaphblnelmncaaaDoorW.PrintLast Go.Proofs.YtaphblnelmncaaaDoorW.PrintMore

def AltOK (s : ByteArray) (n : Nat) : Prop := ∀ m, m ≤ n → ∀ k x, k ≤ s.size → rAlt s m k = some x → ∀ w, Calls Tryd.prog 56 #[.string s, .int .i64 (k : Int)] w (RP 40000 w x)
theorem rep_f_big {p : List S50} (h : p.length ≤ 1000000) : koineref04_repeat.f p = some (repF p) := by
  have e : wrap64 ((p.length : Int) - 1) = (p.length : Int) - 1 := by unfold wrap64; omega
  unfold koineref04_repeat.f repF
  simp only [Option.bind_some, List.length_nil, Nat.zero_add, List.nil_append]
  rw [if_pos (by omega), if_pos (by omega), e]
theorem rrepeat (t : Tr) (ht : t.size ≤ 900000) {A : Option Addr} {c : Nat} {w : World} (h : Pt w A c (t.post 0)) :
    Calls Tryd.prog 40 #[.slice A (t.post 0).length c] w fun e w' => ∃ E ec, e = .returned (.slice E ((Tr.rep t).post 0).length ec) ∧ Pt w' E ec ((Tr.rep t).post 0) ∧ Below w.heap.size w w' :=
  (koineref04_repeat.calls A c (t.post 0) _ w h.C h.hc (rep_f_big (by rw [t.post_length]; omega))).mono fun e w' ⟨v, he, hR, hb⟩ => by
    rw [rep_post] at hR
    obtain ⟨E, ec, rfl⟩ := Kd.R_slice hR
    exact ⟨E, ec, he, (Pt.of hR).2, hb⟩
theorem rjoin (K : Int) {p q : List S50} {A B : Option Addr} {c d : Nat} {w : World} (h : Pt w A c p) (k : Pt w B d q) (hp : p.length ≤ 1000000) (hq : q.length ≤ 1000000) :
    Calls Tryd.prog 41 #[.int .i64 K, .slice A p.length c, .slice B q.length d] w fun e w' => ∃ E ec, e = .returned (.slice E (joinF K p q).length ec) ∧ Pt w' E ec (joinF K p q) ∧ Below w.heap.size w w' :=
  (rjoin_big K A B c d p q w h.C k.C h.hc k.hc hp hq).mono fun e w' ⟨v, he, hR, hb⟩ => by
    obtain ⟨E, ec, rfl⟩ := Kd.R_slice hR
    exact ⟨E, ec, he, (Pt.of hR).2, hb⟩
/-- How far a reader's loop has still to go. -/
def msr (n : Nat) (v : Value) : Nat := if intOf v < 0 then 0 else n + 1 - (intOf v).toNat
theorem msr_lt {n k : Nat} {nx : Int} (hk : k ≤ n) (h : 0 ≤ nx → (k : Int) < nx) : msr n (.int .i64 nx) < msr n (.int .i64 (k : Int)) := by
  have e1 : intOf (.int .i64 nx) = nx := rfl
  have e2 : intOf (.int .i64 (k : Int)) = (k : Int) := rfl
  unfold msr
  split <;> split <;> omega
/-- Between the rounds of a reader's loop. -/
def LSt (s : ByteArray) (B : Nat) (G : Tr → Nat → Prop) (x : Option (Tr × Nat)) (q : List S50) (nx : Int) : Prop := (x = none ∧ nx = -1 ∧ q.length ≤ B) ∨ ∃ t k, nx = (k : Nat) ∧ q = t.post 0 ∧ k ≤ s.size ∧ t.size ≤ 2 * k ∧ G t k

set_option maxHeartbeats 8000000 in
set_option maxRecDepth 100000 in
theorem rrep_any (s : ByteArray) (n : Nat) (hs : s.size ≤ 8192) (ih : AltOK s n) (m : Nat) (hm : m ≤ n + 1) (k : Nat) (hk : k ≤ s.size) (x : Option (Tr × Nat)) (hx : rAtom s m k = some x) (w : World) :
    Calls Tryd.prog 92 #[.string s, .int .i64 (k : Int)] w (RP 0 w x) := by
  obtain ⟨m', rfl⟩ : ∃ m', m = m' + 1 := by
    cases m with
    | zero => simp [rAtom] at hx
    | succ m => exact ⟨m, rfl⟩
  rw [atom_bare] at hx
  obtain ⟨y, hy, hx⟩ := Option.bind_eq_some_iff.1 hx
  have HA := Lib.hid (ratom_any s m' hs (fun k x hk h w => ih m' (by omega) k x hk h w) k hk y hy)
  have HS : Hid (∀ q nx, RX 0 y q nx → LSt s 0 (fun t k => ∃ j, rStar s j t k = some x) x q nx) := Lib.hid (by
    intro q nx h
    cases y with
    | none => simp only [Option.some.injEq] at hx; exact .inl ⟨hx.symm, h⟩
    | some a =>
      obtain ⟨t, k'⟩ := a
      have hg := (bare_got hy).size
      exact .inr ⟨t, k', h.1, h.2, hg.2, by omega, m', hx⟩)
  clear hx hy ih
  go_enter Tryd.func92, Tryd.ntmps92
  go_wp2_with fail
  refine (HA.out w).mono ?_
  rintro e w1 ⟨E, ec, q, nx, rfl, hp, k1, hr⟩
  have HP := Lib.hid hp
  have HB := Lib.hid k1
  have HL := Lib.hid (HS.out q nx hr)
  clear hp k1 hr HA HS
  go_wp2
  go_loopw [6, 7] (fun c6 c7 wd => ∃ (E : Option Addr) (ec : Nat) (q : List S50) (nx : Int), c6 = .slice E q.length ec ∧ c7 = .int .i64 nx ∧ Hid (Pt wd E ec q) ∧ Hid (Below w.heap.size w wd) ∧ Hid (LSt s 0 (fun t k => ∃ j, rStar s j t k = some x) x q nx)) (fun _ c7 _ => msr s.size c7)
  case atStart => exact ⟨E, ec, q, nx, rfl, rfl, HP, HB, HL⟩
  case round =>
    obtain ⟨E, ec, q, nx, rfl, rfl, hP, hB, hL⟩ := hrel
    clear HP HB HL
    rcases hL.out with ⟨rfl, rfl, hq⟩ | ⟨t, k', rfl, rfl, hk', hsz, j, hj⟩
    · go_wp2
      go_ret2
      exact ⟨E, ec, q, _, rfl, hP.out, hB.out, rfl, hq⟩
    · have d0 : decide ((0 : Int) ≤ (k' : Int)) = true := decide_eq_true (by omega)
      obtain ⟨c, hc⟩ : ∃ c, bt s (k' : Int) = c := ⟨_, rfl⟩
      have C := Lib.hid hc
      obtain ⟨j', rfl⟩ : ∃ j', j = j' + 1 := by
        cases j with
        | zero => simp [rStar] at hj
        | succ j => exact ⟨j, rfl⟩
      rw [rStar] at hj
      by_cases h42 : c = 42
      · subst h42
        rw [if_pos ((is_bt (by decide)).2 hc)] at hj
        have hlt : k' < s.size := (is_iff.1 ((is_bt (s := s) (k := k') (c := 42) (by decide)).2 hc)).1
        have HJ := Lib.hid hj
        clear hj hc
        go_wp2_with fail
        refine (byteAt_c C wr).mono ?_
        rintro e w2 ⟨rfl, k1⟩
        have hB2 := Lib.hid (below_trans hB.out k1)
        have hP2 := Lib.hid (hP.out.next k1)
        clear k1
        go_wp2_with fail
        refine (rrepeat t (by omega) hP2.out).mono ?_
        rintro e w3 ⟨E3, ec3, rfl, hp, k1⟩
        have hP3 := Lib.hid hp
        have hB3 := Lib.hid (below_trans hB2.out k1)
        clear k1 hp
        go_wp2
        go_roundw
        case rel => exact ⟨E3, ec3, _, _, rfl, rfl, hP3, hB3, Lib.hid (.inr ⟨.rep t, k' + 1, by simp, rfl, by omega, by simp [Tr.size]; omega, j', HJ.out⟩)⟩
        case measure => exact msr_lt (by omega) (by omega)
      · rw [if_neg (by rw [is_bt (by decide), hc]; exact h42)] at hj
        simp only [Option.some.injEq] at hj
        subst hj
        have d42 : (c == 42) = false := beq_eq_false_iff_ne.2 h42
        clear h42 hc
        go_wp2_with fail
        refine (byteAt_c C wr).mono ?_
        rintro e w2 ⟨rfl, k1⟩
        have hB2 := Lib.hid (below_trans hB.out k1)
        have hP2 := Lib.hid (hP.out.next k1)
        clear k1
        go_wp2
        go_ret2
        exact ⟨E, ec, _, _, rfl, hP2.out, hB2.out, rfl, rfl⟩

set_option maxHeartbeats 8000000 in
set_option maxRecDepth 100000 in
theorem rseq_any (s : ByteArray) (n : Nat) (hs : s.size ≤ 8192) (ih : AltOK s n) (m : Nat) (hm : m ≤ n + 2) (k : Nat) (hk : k ≤ s.size) (x : Option (Tr × Nat)) (hx : rSeq s m k = some x) (w : World) :
    Calls Tryd.prog 80 #[.string s, .int .i64 (k : Int)] w (RP 20000 w x) := by
  obtain ⟨m', rfl⟩ : ∃ m', m = m' + 1 := by
    cases m with
    | zero => simp [rSeq] at hx
    | succ m => exact ⟨m, rfl⟩
  rw [rSeq] at hx
  obtain ⟨y, hy, hx⟩ := Option.bind_eq_some_iff.1 hx
  have HA := Lib.hid (rrep_any s n hs ih m' (by omega) k hk y hy)
  have HR : Hid (∀ j k x, j ≤ n + 1 → k ≤ s.size → rAtom s j k = some x → ∀ w, Calls Tryd.prog 92 #[.string s, .int .i64 (k : Int)] w (RP 0 w x)) := Lib.hid (fun j k x hj hk h w => rrep_any s n hs ih j hj k hk x h w)
  have HS : Hid (∀ q nx, RX 0 y q nx → LSt s 20000 (fun t k => ∃ j, j ≤ n + 1 ∧ rSeqL s j t k = some x) x q nx) := Lib.hid (by
    intro q nx h
    cases y with
    | none => simp only [Option.some.injEq] at hx; exact .inl ⟨hx.symm, h.1, by have := h.2; omega⟩
    | some a =>
      obtain ⟨t, k'⟩ := a
      have hg := ((allGot s m').atom _ _ _ hy).size
      exact .inr ⟨t, k', h.1, h.2, hg.2, by omega, m', by omega, hx⟩)
  clear hx hy ih
  go_enter Tryd.func80, Tryd.ntmps80
  go_wp2_with fail
  refine (HA.out w).mono ?_
  rintro e w1 ⟨E, ec, q, nx, rfl, hp, k1, hr⟩
  have HP := Lib.hid hp
  have HB := Lib.hid k1
  have HL := Lib.hid (HS.out q nx hr)
  clear hp k1 hr HA HS
  go_wp2
  go_loopw [6, 7] (fun c6 c7 wd => ∃ (E : Option Addr) (ec : Nat) (q : List S50) (nx : Int), c6 = .slice E q.length ec ∧ c7 = .int .i64 nx ∧ Hid (Pt wd E ec q) ∧ Hid (Below w.heap.size w wd) ∧ Hid (LSt s 20000 (fun t k => ∃ j, j ≤ n + 1 ∧ rSeqL s j t k = some x) x q nx)) (fun _ c7 _ => msr s.size c7)
  case atStart => exact ⟨E, ec, q, nx, rfl, rfl, HP, HB, HL⟩
  case round =>
    obtain ⟨E, ec, q, nx, rfl, rfl, hP, hB, hL⟩ := hrel
    clear HP HB HL
    rcases hL.out with ⟨rfl, rfl, hq⟩ | ⟨t, k', rfl, rfl, hk', hsz, j, hjn, hj⟩
    · go_wp2
      go_ret2
      exact ⟨E, ec, q, _, rfl, hP.out, hB.out, rfl, hq⟩
    · have d0 : decide ((0 : Int) ≤ (k' : Int)) = true := decide_eq_true (by omega)
      obtain ⟨c, hc⟩ : ∃ c, bt s (k' : Int) = c := ⟨_, rfl⟩
      have hbt := bt_at s (k' : Int)
      simp only [Int.toNat_natCast] at hbt
      rw [hc] at hbt
      obtain ⟨j', rfl⟩ : ∃ j', j = j' + 1 := by
        cases j with
        | zero => simp [rSeqL] at hj
        | succ j => exact ⟨j, rfl⟩
      rw [rSeqL, hc] at hj
      by_cases hgo : k' < s.size ∧ c ≠ 124 ∧ c ≠ 41
      · rw [if_pos hgo] at hj
        obtain ⟨hlt, h1, h2⟩ := hgo
        have hltb : decide ((k' : Int) < (s.size : Int)) = true := decide_eq_true (by omega)
        have hkI : (k' : Int) < (s.size : Int) := by omega
        have bn := hbt hlt
        have d1 : (c == 124) = false := beq_eq_false_iff_ne.2 h1
        have d2 : (c == 41) = false := beq_eq_false_iff_ne.2 h2
        have e1 : (c != 124) = true := by rw [bne, d1]; rfl
        have e2 : (c != 41) = true := by rw [bne, d2]; rfl
        obtain ⟨y, hy, hj⟩ := Option.bind_eq_some_iff.1 hj
        have HQ := Lib.hid (HR.out j' k' y (by omega) hk' hy)
        have HN : Hid (∀ q nx, RX 0 y q nx → q.length ≤ 100000 ∧ nx ≤ 100000 ∧ -1 ≤ nx ∧ (0 ≤ nx → (k' : Int) < nx) ∧ LSt s 20000 (fun t k => ∃ j, j ≤ n + 1 ∧ rSeqL s j t k = some x) x (joinF 2 (t.post 0) q) nx) := Lib.hid (by
          intro q nx h
          cases y with
          | none =>
            simp only [Option.some.injEq] at hj
            have := h.2
            exact ⟨by omega, by rw [h.1]; decide, by rw [h.1]; decide, by rw [h.1]; omega, .inl ⟨hj.symm, h.1, by rw [joinF_length, t.post_length]; omega⟩⟩
          | some a =>
            obtain ⟨u, k2⟩ := a
            have hgot := (allGot s j').atom _ _ _ hy
            have hg := hgot.size
            have hlt2 := hgot.2.2.2
            obtain ⟨rfl, rfl⟩ := h
            simp only at *
            exact ⟨by rw [u.post_length]; omega, by omega, by omega, by omega, .inr ⟨.seq t u, k2, rfl, join_seq t u (by omega), hg.2, by simp [Tr.size]; omega, j', by omega, hj⟩⟩)
        clear hj hy h1 h2 hbt hc
        go_wp2_with fail
        refine (HQ.out wr).mono ?_
        rintro e w2 ⟨E2, ec2, q2, nx2, rfl, hp, k1, hr⟩
        obtain ⟨n1, n2, n2', n3, n4⟩ := HN.out q2 nx2 hr
        have N4 := Lib.hid n4
        have hP2 := Lib.hid (hP.out.next k1)
        have hQ2 := Lib.hid hp
        have hB2 := Lib.hid (below_trans hB.out k1)
        clear k1 hp hr n4
        go_wp2_with fail
        refine (rjoin 2 hP2.out hQ2.out (by rw [t.post_length]; omega) (by omega)).mono ?_
        rintro e w3 ⟨E3, ec3, rfl, hp, k1⟩
        have hP3 := Lib.hid hp
        have hB3 := Lib.hid (below_trans hB2.out k1)
        clear k1 hp
        go_wp2
        go_roundw
        case rel => exact ⟨E3, ec3, _, nx2, rfl, rfl, hP3, hB3, N4⟩
        case measure => exact msr_lt hk' n3
      · rw [if_neg hgo] at hj
        simp only [Option.some.injEq] at hj
        subst hj
        by_cases hlt : k' < s.size
        · have hltb : decide ((k' : Int) < (s.size : Int)) = true := decide_eq_true (by omega)
          have hkI : (k' : Int) < (s.size : Int) := by omega
          have bn := hbt hlt
          by_cases h1 : c = 124
          · subst h1
            clear hgo hbt hc
            go_wp2
            go_ret2
            exact ⟨E, ec, _, _, rfl, hP.out, hB.out, rfl, rfl⟩
          · have d1 : (c == 124) = false := beq_eq_false_iff_ne.2 h1
            have e1 : (c != 124) = true := by rw [bne, d1]; rfl
            have h2 : c = 41 := Classical.byContradiction (fun h => hgo ⟨hlt, h1, h⟩)
            subst h2
            clear hgo hbt hc
            go_wp2
            go_ret2
            exact ⟨E, ec, _, _, rfl, hP.out, hB.out, rfl, rfl⟩
        · have hltb : decide ((k' : Int) < (s.size : Int)) = false := decide_eq_false (by omega)
          clear hgo hbt hc
          go_wp2
          go_ret2
          exact ⟨E, ec, _, _, rfl, hP.out, hB.out, rfl, rfl⟩

set_option maxHeartbeats 8000000 in
set_option maxRecDepth 100000 in
theorem ralt_any (s : ByteArray) (n : Nat) (hs : s.size ≤ 8192) (ih : AltOK s n) (m : Nat) (hm : m ≤ n + 3) (k : Nat) (hk : k ≤ s.size) (x : Option (Tr × Nat)) (hx : rAlt s m k = some x) (w : World) :
    Calls Tryd.prog 56 #[.string s, .int .i64 (k : Int)] w (RP 40000 w x) := by
  obtain ⟨m', rfl⟩ : ∃ m', m = m' + 1 := by
    cases m with
    | zero => simp [rAlt] at hx
    | succ m => exact ⟨m, rfl⟩
  rw [rAlt] at hx
  obtain ⟨y, hy, hx⟩ := Option.bind_eq_some_iff.1 hx
  have HA := Lib.hid (rseq_any s n hs ih m' (by omega) k hk y hy)
  have HR : Hid (∀ j k x, j ≤ n + 2 → k ≤ s.size → rSeq s j k = some x → ∀ w, Calls Tryd.prog 80 #[.string s, .int .i64 (k : Int)] w (RP 20000 w x)) := Lib.hid (fun j k x hj hk h w => rseq_any s n hs ih j hj k hk x h w)
  have HS : Hid (∀ q nx, RX 20000 y q nx → LSt s 40000 (fun t k => ∃ j, j ≤ n + 2 ∧ rAltL s j t k = some x) x q nx) := Lib.hid (by
    intro q nx h
    cases y with
    | none => simp only [Option.some.injEq] at hx; exact .inl ⟨hx.symm, h.1, by have := h.2; omega⟩
    | some a =>
      obtain ⟨t, k'⟩ := a
      have hg := ((allGot s m').seq _ _ _ hy).size
      exact .inr ⟨t, k', h.1, h.2, hg.2, by omega, m', by omega, hx⟩)
  clear hx hy ih
  go_enter Tryd.func56, Tryd.ntmps56
  go_wp2_with fail
  refine (HA.out w).mono ?_
  rintro e w1 ⟨E, ec, q, nx, rfl, hp, k1, hr⟩
  have HP := Lib.hid hp
  have HB := Lib.hid k1
  have HL := Lib.hid (HS.out q nx hr)
  clear hp k1 hr HA HS
  go_wp2
  go_loopw [6, 7] (fun c6 c7 wd => ∃ (E : Option Addr) (ec : Nat) (q : List S50) (nx : Int), c6 = .slice E q.length ec ∧ c7 = .int .i64 nx ∧ Hid (Pt wd E ec q) ∧ Hid (Below w.heap.size w wd) ∧ Hid (LSt s 40000 (fun t k => ∃ j, j ≤ n + 2 ∧ rAltL s j t k = some x) x q nx)) (fun _ c7 _ => msr s.size c7)
  case atStart => exact ⟨E, ec, q, nx, rfl, rfl, HP, HB, HL⟩
  case round =>
    obtain ⟨E, ec, q, nx, rfl, rfl, hP, hB, hL⟩ := hrel
    clear HP HB HL
    rcases hL.out with ⟨rfl, rfl, hq⟩ | ⟨t, k', rfl, rfl, hk', hsz, j, hjn, hj⟩
    · go_wp2
      go_ret2
      exact ⟨E, ec, q, _, rfl, hP.out, hB.out, rfl, hq⟩
    · have d0 : decide ((0 : Int) ≤ (k' : Int)) = true := decide_eq_true (by omega)
      obtain ⟨c, hc⟩ : ∃ c, bt s (k' : Int) = c := ⟨_, rfl⟩
      have C := Lib.hid hc
      obtain ⟨j', rfl⟩ : ∃ j', j = j' + 1 := by
        cases j with
        | zero => simp [rAltL] at hj
        | succ j => exact ⟨j, rfl⟩
      rw [rAltL] at hj
      by_cases h124 : c = 124
      · subst h124
        rw [if_pos ((is_bt (by decide)).2 hc)] at hj
        have hlt : k' < s.size := (is_iff.1 ((is_bt (s := s) (k := k') (c := 124) (by decide)).2 hc)).1
        obtain ⟨y, hy, hj⟩ := Option.bind_eq_some_iff.1 hj
        have HQ := Lib.hid (show ∀ w, Calls Tryd.prog 80 #[.string s, .int .i64 ((k' : Int) + 1)] w (RP 20000 w y) from HR.out j' (k' + 1) y (by omega) hlt hy)
        have HN : Hid (∀ q nx, RX 20000 y q nx → q.length ≤ 100000 ∧ nx ≤ 100000 ∧ -1 ≤ nx ∧ (0 ≤ nx → (k' : Int) < nx) ∧ LSt s 40000 (fun t k => ∃ j, j ≤ n + 2 ∧ rAltL s j t k = some x) x (joinF 3 (t.post 0) q) nx) := Lib.hid (by
          intro q nx h
          cases y with
          | none =>
            simp only [Option.some.injEq] at hj
            have := h.2
            exact ⟨by omega, by rw [h.1]; decide, by rw [h.1]; decide, by rw [h.1]; omega, .inl ⟨hj.symm, h.1, by rw [joinF_length, t.post_length]; omega⟩⟩
          | some a =>
            obtain ⟨u, k2⟩ := a
            have hgot := (allGot s j').seq _ _ _ hy
            have hg := hgot.size
            have hlt2 := hgot.2.2.2
            obtain ⟨rfl, rfl⟩ := h
            simp only at *
            exact ⟨by rw [u.post_length]; omega, by omega, by omega, by omega, .inr ⟨.alt t u, k2, rfl, join_alt t u (by omega), hg.2, by simp [Tr.size]; omega, j', by omega, hj⟩⟩)
        clear hj hy hc
        go_wp2_with fail
        refine (byteAt_c C wr).mono ?_
        rintro e w2 ⟨rfl, k1⟩
        have hB1 := Lib.hid (below_trans hB.out k1)
        have hP1 := Lib.hid (hP.out.next k1)
        clear k1
        go_wp2_with fail
        refine (HQ.out w2).mono ?_
        rintro e w3 ⟨E2, ec2, q2, nx2, rfl, hp, k1, hr⟩
        obtain ⟨n1, n2, n2', n3, n4⟩ := HN.out q2 nx2 hr
        have N4 := Lib.hid n4
        have hP2 := Lib.hid (hP1.out.next k1)
        have hQ2 := Lib.hid hp
        have hB2 := Lib.hid (below_trans hB1.out k1)
        clear k1 hp hr n4
        go_wp2_with fail
        refine (rjoin 3 hP2.out hQ2.out (by rw [t.post_length]; omega) (by omega)).mono ?_
        rintro e w4 ⟨E3, ec3, rfl, hp, k1⟩
        have hP3 := Lib.hid hp
        have hB3 := Lib.hid (below_trans hB2.out k1)
        clear k1 hp
        go_wp2
        go_roundw
        case rel => exact ⟨E3, ec3, _, nx2, rfl, rfl, hP3, hB3, N4⟩
        case measure => exact msr_lt hk' n3
      · rw [if_neg (by rw [is_bt (by decide), hc]; exact h124)] at hj
        simp only [Option.some.injEq] at hj
        subst hj
        have d1 : (c == 124) = false := beq_eq_false_iff_ne.2 h124
        clear h124 hc
        go_wp2_with fail
        refine (byteAt_c C wr).mono ?_
        rintro e w2 ⟨rfl, k1⟩
        have hB2 := Lib.hid (below_trans hB.out k1)
        have hP2 := Lib.hid (hP.out.next k1)
        clear k1
        go_wp2
        go_ret2
        exact ⟨E, ec, _, _, rfl, hP2.out, hB2.out, rfl, rfl⟩
theorem alt_ok (s : ByteArray) (hs : s.size ≤ 8192) : ∀ n, AltOK s n
  | 0 => fun m hm k x hk hx w => by
    obtain rfl : m = 0 := by omega
    simp [rAlt] at hx
  | n + 1 => fun m hm k x hk hx w => ralt_any s n hs (alt_ok s hs n) m (by omega) k hk x hx w
end Go.Proofs.YtaphblnelmncaaaDoor.PA
end

section
/- The two parsers answer alike. -/
set_option linter.unusedVariables false
namespace Go.Proofs.YtaphblnelmncaaaDoor.PA
open Go.RowKit Go.Proofs.YtaphblnelmncaaaDoorW.PrintWords Go.Proofs.YtaphblnelmncaaaDoorW.PrintLast Go.Proofs.YtaphblnelmncaaaDoorW.PrintMore

/-- A parser's answer in memory. -/
def PP (q : List S50) (e : Int) (w : World) (e' : Ending) (w' : World) : Prop := ∃ E ec, e' = .returned (.tuple #[.slice E q.length ec, .int .i64 e]) ∧ Pt w' E ec q ∧ Below w.heap.size w w'
/-- What both parsers answer, out of what is read. -/
def ansR (s : ByteArray) (x : Option (Tr × Nat)) : List S50 × Int := match x with
  | none => ([], 40)
  | some a => if a.2 ≠ s.size then ([], 40) else if 512 < a.1.size then ([], 2) else (a.1.post 0, 0)
theorem prog_ans {s : ByteArray} {n : Nat} {r : Int × St} {x : Option (Tr × Nat)} (h : altF s n st0 = some r) (hx : rAlt s n 0 = some x) : (if okTo s s.size then parseF s r else ([], 40)) = ansR s x := by
  rcases (allSim s n).alt st0 r rfl h with ⟨e1, hw⟩ | ⟨t, k, e1, hr⟩
  · have e1 : rAlt s n 0 = some none := e1
    rw [hx] at e1
    cases e1
    have : parseF s r = ([], 40) := by unfold parseF; rw [hw]; rfl
    rw [this]
    unfold ansR
    split <;> rfl
  · have e1 : rAlt s n 0 = some (some (t, k)) := e1
    rw [hx] at e1
    cases e1
    have hr2 : r = (idx st0 t, ⟨k, t.post 0, false⟩) := hr
    have hg := (allGot s n).alt _ _ _ hx
    have hk := hg.size
    rw [hr2, parseF_ok]
    unfold ansR
    simp only
    by_cases hks : k = s.size
    · subst hks
      have hok : okTo s s.size = true := okTo_spec.2 (fun i hi => (hg.2.2.1 i (by omega) hi).2)
      rw [if_pos hok, if_neg (Nat.lt_irrefl _), t.post_length, if_neg (show ¬ (s.size ≠ s.size) from fun h => h rfl)]
    · rw [if_pos (show k < s.size by omega), if_pos hks]
      split <;> rfl
set_option maxHeartbeats 4000000 in
set_option maxRecDepth 100000 in
theorem rparse_any {s : ByteArray} (hs : s.size ≤ 8192) {n : Nat} {x : Option (Tr × Nat)} (hx : rAlt s n 0 = some x) (w : World) :
    Calls Tryd.prog 26 #[.string s] w (PP (ansR s x).1 (ansR s x).2 w) := by
  have HA := Lib.hid (show ∀ w, Calls Tryd.prog 56 #[.string s, .int .i64 0] w (RP 40000 w x) from fun w => alt_ok s hs n n (Nat.le_refl _) 0 x (by omega) hx w)
  have d1 : decide (8192 < s.size) = false := decide_eq_false (by omega)
  have d2 : decide ((8192 : Int) < (s.size : Int)) = false := decide_eq_false (by omega)
  cases x with
  | none =>
    have HE : Hid (ansR s none = ([], 40)) := Lib.hid rfl
    have n1 : ((-1 : Int) == (s.size : Int)) = false := beq_eq_false_iff_ne.2 (by omega)
    have n2 : ((-1 : Int) != (s.size : Int)) = true := by rw [bne, n1]; rfl
    clear hx
    go_enter Tryd.func26, Tryd.ntmps26
    go_wp2_with fail
    refine (HA.out w).mono ?_
    rintro e w1 ⟨E, ec, q, nx, rfl, hp, k1, hr⟩
    obtain ⟨rfl, hq⟩ := hr
    have HB := Lib.hid k1
    clear hp k1
    go_wp2
    go_ret2
    rw [HE.out]
    exact ⟨none, 0, rfl, pt_nil _, HB.out⟩
  | some a =>
    obtain ⟨t, k⟩ := a
    have hk := ((allGot s n).alt _ _ _ hx).size
    clear hx
    by_cases hks : k = s.size
    · subst hks
      have n1 : ((s.size : Int) == (s.size : Int)) = true := by simp
      have hpl := t.post_length 0
      by_cases h5 : 512 < t.size
      · have HE : Hid (ansR s (some (t, s.size)) = ([], 2)) := Lib.hid (by unfold ansR; simp only; rw [if_neg (by simp), if_pos h5])
        have h6 : decide ((512 : Int) < ((t.post 0).length : Int)) = true := decide_eq_true (by omega)
        have h7 : decide (512 < (t.post 0).length) = true := decide_eq_true (by omega)
        clear hpl
        go_enter Tryd.func26, Tryd.ntmps26
        go_wp2_with fail
        refine (HA.out w).mono ?_
        rintro e w1 ⟨E, ec, q, nx, rfl, hp, k1, hr⟩
        obtain ⟨rfl, rfl⟩ := hr
        have HB := Lib.hid k1
        clear hp k1
        go_wp2
        go_ret2
        rw [HE.out]
        exact ⟨none, 0, rfl, pt_nil _, HB.out⟩
      · have HE : Hid (ansR s (some (t, s.size)) = (t.post 0, 0)) := Lib.hid (by unfold ansR; simp only; rw [if_neg (by simp), if_neg h5])
        have h6 : decide ((512 : Int) < ((t.post 0).length : Int)) = false := decide_eq_false (by omega)
        have h7 : decide (512 < (t.post 0).length) = false := decide_eq_false (by omega)
        clear hpl
        go_enter Tryd.func26, Tryd.ntmps26
        go_wp2_with fail
        refine (HA.out w).mono ?_
        rintro e w1 ⟨E, ec, q, nx, rfl, hp, k1, hr⟩
        obtain ⟨rfl, rfl⟩ := hr
        have HB := Lib.hid k1
        have HPT := Lib.hid hp
        clear hp k1
        go_wp2
        go_ret2
        rw [HE.out]
        exact ⟨E, ec, rfl, HPT.out, HB.out⟩
    · have HE : Hid (ansR s (some (t, k)) = ([], 40)) := Lib.hid (by unfold ansR; simp only; rw [if_pos hks])
      have n1 : ((k : Int) == (s.size : Int)) = false := beq_eq_false_iff_ne.2 (by omega)
      have n2 : ((k : Int) != (s.size : Int)) = true := by rw [bne, n1]; rfl
      clear hks
      go_enter Tryd.func26, Tryd.ntmps26
      go_wp2_with fail
      refine (HA.out w).mono ?_
      rintro e w1 ⟨E, ec, q, nx, rfl, hp, k1, hr⟩
      obtain ⟨rfl, rfl⟩ := hr
      have HB := Lib.hid k1
      clear hp k1
      go_wp2
      go_ret2
      rw [HE.out]
      exact ⟨none, 0, rfl, pt_nil _, HB.out⟩
/-- Both parsers answer alike. -/
theorem parse_both {s : ByteArray} (hs : s.size ≤ 8192) : ∃ (q : List S50) (e : Int), q.length ≤ 512 ∧ (∀ w, Calls Tryd.prog 25 #[.string s] w (PP q e w)) ∧ ∀ w, Calls Tryd.prog 26 #[.string s] w (PP q e w) := by
  obtain ⟨n, r, hr⟩ := alt_total s
  obtain ⟨x, hx⟩ : ∃ x, rAlt s n 0 = some x := by
    rcases (allSim s n).alt st0 r rfl hr with ⟨e1, _⟩ | ⟨t, k, e1, _⟩
    · exact ⟨_, e1⟩
    · exact ⟨_, e1⟩
  have ha := prog_ans hr hx
  refine ⟨(ansR s x).1, (ansR s x).2, ?_, fun w => (parse_any s w hs n r hr).mono ?_, fun w => rparse_any hs hx w⟩
  · unfold ansR
    cases x with
    | none => simp
    | some a =>
      simp only
      split
      · simp
      · split
        · simp
        · simp only; rw [Tr.post_length]; omega
  · rw [ha]
    rintro e w' ⟨v, rfl, hR, hb⟩
    obtain ⟨E, ec, rfl⟩ := Kd.R_slice hR
    exact ⟨E, ec, rfl, (Pt.of hR).2, hb⟩

end Go.Proofs.YtaphblnelmncaaaDoor.PA
end

section
/- The walk over PatternLimits. -/
set_option linter.unusedVariables false
namespace Go.Proofs.YtaphblnelmncaaaDoor.PA
open Go.RowKit Go.Proofs.YtaphblnelmncaaaDoorW.PrintWords Go.Proofs.YtaphblnelmncaaaDoorW.PrintLast Go.Proofs.YtaphblnelmncaaaDoorW.PrintMore

/-! ### near the limits -/
theorem repeated_l0 (s : ByteArray) (m : Nat) (hs0 : 1 ≤ s.size) (hs : s.size ≤ 10) (hm : m ≤ 10000) : ∀ (d : Nat) (out : ByteArray), m * s.size ≤ out.size + d → out.size ≤ 1000000 → ∃ r, koinelaw04_repeated.l0 (d + 1) s (m : Int) out = some r ∧ r.size = m * s.size
  | d, out, h, ho => by
    have hT : m * s.size ≤ 100000 := Nat.le_trans (Nat.mul_le_mul hm hs) (by decide)
    have e : wrap64 ((m : Int) * (s.size : Int)) = ((m * s.size : Nat) : Int) := by
      have : (m : Int) * (s.size : Int) = ((m * s.size : Nat) : Int) := by simp
      rw [this]; unfold wrap64; omega
    unfold koinelaw04_repeated.l0
    rw [e]
    by_cases hlt : out.size < m * s.size
    · have hs2 : (out ++ out).size = out.size + out.size := by rw [ByteArray.size_append]
      have hs3 : (out ++ out ++ s).size = out.size + out.size + s.size := by rw [ByteArray.size_append, hs2]
      rw [if_pos (by omega), if_pos (by omega), if_pos (by omega)]
      cases d with
      | zero => omega
      | succ d => exact repeated_l0 s m hs0 hs hm d _ (by omega) (by omega)
    · rw [if_neg (by omega), if_pos (by omega), if_pos (by omega), Int.toNat_natCast]
      refine ⟨_, rfl, ?_⟩
      rw [← bytesOf_length, extract2, List.length_take, List.length_drop, bytesOf_length]
      omega
theorem repeated_any (s : ByteArray) (m : Nat) (hs0 : 1 ≤ s.size) (hs : s.size ≤ 10) (hm : m ≤ 10000) : ∃ r : ByteArray, r.size = m * s.size ∧ ∀ w, Calls Tryd.prog 28 #[.string s, .int .i64 (m : Int)] w fun e w' => e = .returned (.string r) ∧ Below w.heap.size w w' := by
  obtain ⟨r, h1, h2⟩ := repeated_l0 s m hs0 hs hm (m * s.size) ⟨#[]⟩ (by simp) (by decide)
  exact ⟨r, h2, fun w => (koinelaw04_repeated.calls _ s m r w h1).mono fun e w' ⟨he, hd⟩ => ⟨he, hd.below⟩⟩
theorem rep_at (s : ByteArray) (hs0 : 1 ≤ s.size) (hs : s.size ≤ 10) (m : Nat) (hm : m ≤ 10000) (z : Int) (hz : (m : Int) = z) : ∃ r : ByteArray, r.size = m * s.size ∧ ∀ w, Calls Tryd.prog 28 #[.string s, .int .i64 z] w fun e w' => e = .returned (.string r) ∧ Below w.heap.size w w' := by
  subst hz; exact repeated_any s m hs0 hs hm

set_option maxHeartbeats 8000000 in
set_option maxRecDepth 100000 in
theorem limits_row {k kind : Int} {W : World} (hk : -9223372036854775808 ≤ k ∧ k ≤ 9223372036854775807) (hkd : 0 ≤ kind ∧ kind ≤ 255) (ht : Tab W) :
    Calls Tryd.prog 5 #[.int .i64 k, .int .u8 kind] W fun e w' => e = .returned (.bool true) ∧ Below W.heap.size W w' := by
  have S0 := Lib.hid (LS.init ht)
  clear ht
  obtain ⟨m, hm⟩ : ∃ m, Int.tmod k 12 = m := ⟨_, rfl⟩
  have hm1 : -12 < m ∧ m < 12 := by
    rw [← hm]
    exact ⟨Int.lt_tmod_of_pos k (by decide), Int.tmod_lt_of_pos k (by decide)⟩
  obtain ⟨n, hn, hn11⟩ : ∃ n : Nat, (m + 12) % 12 = (n : Int) ∧ n ≤ 11 := ⟨((m + 12) % 12).toNat, by omega, by omega⟩
  have hn2 : Int.tmod (m + 12) 12 = (n : Int) := by rw [Int.tmod_eq_emod_of_nonneg (by omega)]; exact hn
  obtain ⟨r1, hr1, c1⟩ := rep_at ⟨#[97]⟩ (by decide) (by decide) (250 + n) (by omega) (250 + (n : Int)) (by omega)
  have hr1' : r1.size = 250 + n := by rw [hr1]; show (250 + n) * 1 = _; omega
  have R1 := Lib.hid c1
  clear c1 hr1
  have hz : kind % 3 = 0 ∨ kind % 3 = 1 ∨ kind % 3 = 2 := by omega
  have ht3 : Int.tmod kind 3 = kind % 3 := Int.tmod_eq_emod_of_nonneg hkd.1
  rcases hz with z0 | z0 | z0
  · rw [z0] at ht3
    go_enter Tryd.func5, Tryd.ntmps5
    go_wp2_with fail
    refine (sanity_any W S0.out.tab).mono ?_
    rintro e1 w1 ⟨rfl, k1⟩
    have S1 := Lib.hid (S0.out.next k1)
    clear k1
    go_wp2_with fail
    refine (R1.out w1).mono ?_
    rintro e1 w2 ⟨rfl, k1⟩
    have S2 := Lib.hid (S1.out.next k1)
    clear k1
    have SP := S2
    have hsz : r1.size ≤ 8192 := by omega
    clear hr1'
    obtain ⟨q, e, hq, h1, h2⟩ := parse_both (s := r1) (by omega)
    have H1 := Lib.hid h1
    have H2 := Lib.hid h2
    clear h1 h2
    go_wp2_with fail
    refine (H1.out _).mono ?_
    rintro e2 w12 ⟨E, ec, rfl, hp, k2⟩
    have P2 := Lib.hid hp
    have S12 := Lib.hid (SP.out.next k2)
    clear k2 hp
    go_wp2_with fail
    refine (H2.out w12).mono ?_
    rintro e3 w13 ⟨F, fc, rfl, hp, k3⟩
    have Q3 := Lib.hid hp
    have P3 := Lib.hid (P2.out.next k3)
    have S13 := Lib.hid (S12.out.next k3)
    clear k3 hp
    go_wp2_with fail
    refine (same_yes P3.out Q3.out (by omega)).mono ?_
    rintro e4 w14 ⟨rfl, k4⟩
    have S14 := Lib.hid (S13.out.next k4)
    clear k4
    go_wp2
    go_ret
    exact ⟨rfl, S14.out.low⟩
  · rw [z0] at ht3
    obtain ⟨r2, hr2, c2⟩ := rep_at ⟨#[40, 41]⟩ (by decide) (by decide) (250 + n) (by omega) (250 + (n : Int)) (by omega)
    have hr2' : r2.size = 500 + 2 * n := by rw [hr2]; show (250 + n) * 2 = _; omega
    have R2 := Lib.hid c2
    clear c2 hr2
    go_enter Tryd.func5, Tryd.ntmps5
    go_wp2_with fail
    refine (sanity_any W S0.out.tab).mono ?_
    rintro e1 w1 ⟨rfl, k1⟩
    have S1 := Lib.hid (S0.out.next k1)
    clear k1
    go_wp2_with fail
    refine (R1.out w1).mono ?_
    rintro e1 w2 ⟨rfl, k1⟩
    have S2 := Lib.hid (S1.out.next k1)
    clear k1
    go_wp2_with fail
    refine (R2.out w2).mono ?_
    rintro e1 w3 ⟨rfl, k1⟩
    have S3 := Lib.hid (S2.out.next k1)
    clear k1
    have SP := S3
    have hsz : r2.size ≤ 8192 := by omega
    clear hr1' hr2'
    obtain ⟨q, e, hq, h1, h2⟩ := parse_both (s := r2) (by omega)
    have H1 := Lib.hid h1
    have H2 := Lib.hid h2
    clear h1 h2
    go_wp2_with fail
    refine (H1.out _).mono ?_
    rintro e2 w12 ⟨E, ec, rfl, hp, k2⟩
    have P2 := Lib.hid hp
    have S12 := Lib.hid (SP.out.next k2)
    clear k2 hp
    go_wp2_with fail
    refine (H2.out w12).mono ?_
    rintro e3 w13 ⟨F, fc, rfl, hp, k3⟩
    have Q3 := Lib.hid hp
    have P3 := Lib.hid (P2.out.next k3)
    have S13 := Lib.hid (S12.out.next k3)
    clear k3 hp
    go_wp2_with fail
    refine (same_yes P3.out Q3.out (by omega)).mono ?_
    rintro e4 w14 ⟨rfl, k4⟩
    have S14 := Lib.hid (S13.out.next k4)
    clear k4
    go_wp2
    go_ret
    exact ⟨rfl, S14.out.low⟩
  · rw [z0] at ht3
    obtain ⟨a, ha⟩ : ∃ a, n / 2 = a := ⟨_, rfl⟩
    obtain ⟨b, hb⟩ : ∃ b, n % 2 = b := ⟨_, rfl⟩
    have ha1 : (n : Int) / 2 = (a : Int) := by omega
    have hb1 : (n : Int) % 2 = (b : Int) := by omega
    have ha2 : Int.tdiv (n : Int) 2 = (a : Int) := by rw [Int.tdiv_eq_ediv_of_nonneg (by omega)]; exact ha1
    have hb2 : Int.tmod (n : Int) 2 = (b : Int) := by rw [Int.tmod_eq_emod_of_nonneg (by omega)]; exact hb1
    have hab : 2 * a + b ≤ 11 := by omega
    obtain ⟨r2, hr2, c2⟩ := rep_at ⟨#[40]⟩ (by decide) (by decide) (4090 + a) (by omega) (4090 + (a : Int)) (by omega)
    obtain ⟨r3, hr3, c3⟩ := rep_at ⟨#[97]⟩ (by decide) (by decide) (1 + b) (by omega) (1 + (b : Int)) (by omega)
    obtain ⟨r4, hr4, c4⟩ := rep_at ⟨#[41]⟩ (by decide) (by decide) (4090 + a) (by omega) (4090 + (a : Int)) (by omega)
    have hr2' : r2.size = 4090 + a := by rw [hr2]; show (4090 + a) * 1 = _; omega
    have hr3' : r3.size = 1 + b := by rw [hr3]; show (1 + b) * 1 = _; omega
    have hr4' : r4.size = 4090 + a := by rw [hr4]; show (4090 + a) * 1 = _; omega
    have q1 : r1.size ≤ 10000 := by omega
    have q2 : r2.size ≤ 4100 := by omega
    have q3 : r3.size ≤ 10 := by omega
    have q4 : r4.size ≤ 4100 := by omega
    have hsz : (r2 ++ r3 ++ r4).size ≤ 8192 := by rw [ByteArray.size_append, ByteArray.size_append]; omega
    have R2 := Lib.hid c2
    have R3 := Lib.hid c3
    have R4 := Lib.hid c4
    clear c2 hr2 c3 hr3 c4 hr4 hr1' hr2' hr3' hr4' ha hb
    go_enter Tryd.func5, Tryd.ntmps5
    go_wp2_with fail
    refine (sanity_any W S0.out.tab).mono ?_
    rintro e1 w1 ⟨rfl, k1⟩
    have S1 := Lib.hid (S0.out.next k1)
    clear k1
    go_wp2_with fail
    refine (R1.out w1).mono ?_
    rintro e1 w2 ⟨rfl, k1⟩
    have S2 := Lib.hid (S1.out.next k1)
    clear k1
    go_wp2_with fail
    refine (R2.out w2).mono ?_
    rintro e1 w3 ⟨rfl, k1⟩
    have S3 := Lib.hid (S2.out.next k1)
    clear k1
    go_wp2_with fail
    refine (R3.out w3).mono ?_
    rintro e1 w4 ⟨rfl, k1⟩
    have S4 := Lib.hid (S3.out.next k1)
    clear k1
    go_wp2_with fail
    refine (R4.out w4).mono ?_
    rintro e1 w5 ⟨rfl, k1⟩
    have S5 := Lib.hid (S4.out.next k1)
    clear k1
    have SP := S5
    obtain ⟨q, e, hq, h1, h2⟩ := parse_both (s := r2 ++ r3 ++ r4) (by omega)
    have H1 := Lib.hid h1
    have H2 := Lib.hid h2
    clear h1 h2
    go_wp2_with fail
    refine (H1.out _).mono ?_
    rintro e2 w12 ⟨E, ec, rfl, hp, k2⟩
    have P2 := Lib.hid hp
    have S12 := Lib.hid (SP.out.next k2)
    clear k2 hp
    go_wp2_with fail
    refine (H2.out w12).mono ?_
    rintro e3 w13 ⟨F, fc, rfl, hp, k3⟩
    have Q3 := Lib.hid hp
    have P3 := Lib.hid (P2.out.next k3)
    have S13 := Lib.hid (S12.out.next k3)
    clear k3 hp
    go_wp2_with fail
    refine (same_yes P3.out Q3.out (by omega)).mono ?_
    rintro e4 w14 ⟨rfl, k4⟩
    have S14 := Lib.hid (S13.out.next k4)
    clear k4
    go_wp2
    go_ret
    exact ⟨rfl, S14.out.low⟩
end Go.Proofs.YtaphblnelmncaaaDoor.PA
end
