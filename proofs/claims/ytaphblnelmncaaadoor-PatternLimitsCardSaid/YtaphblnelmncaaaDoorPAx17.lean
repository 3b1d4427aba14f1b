-- PRINTED BY print.sh 35421559b90ae4d0a3588c463048766b98c2df88dd9212a6774a882060cdf62d: not written by this session
import Derived.Test.YtaphblnelmncaaaDoorPAx0
namespace Go.Proofs.YtaphblnelmncaaaDoor.PA
open Go.RowKit Go.Proofs.YtaphblnelmncaaaDoorW.PrintWords Go.Proofs.YtaphblnelmncaaaDoorW.PrintLast Go.Proofs.YtaphblnelmncaaaDoorW.PrintMore
attribute [local go_sem] max2_int min2_int max_two min_two max_three min_three max_four min_four   -- for this text's walks alone
set_option linter.unusedVariables false
set_option linter.unusedSimpArgs false

/-! ### koinelaw04_repeated: function 28 -/
def koinelaw04_repeated.l0 : Nat → ByteArray → Int → ByteArray → Option (ByteArray)
  | 0, _, _, _ => none
  | k + 1, x0, x1, x5 => if (x5.size : Int) < (wrap64 (x1 * (x0.size : Int))) then (if x5.size + x5.size ≤ 9223372036854775807 then (if (x5 ++ x5).size + x0.size ≤ 9223372036854775807 then (koinelaw04_repeated.l0 k x0 x1 ((x5 ++ x5) ++ x0)) else (none)) else (none)) else (if 0 ≤ (wrap64 (x1 * (x0.size : Int))) then (if (wrap64 (x1 * (x0.size : Int))) ≤ (x5.size : Int) then (some (x5.extract 0 ((wrap64 (x1 * (x0.size : Int))) : Int).toNat)) else (none)) else (none))
def koinelaw04_repeated.f (k : Nat) (a0 : ByteArray) (a1 : Int) : Option (ByteArray) := koinelaw04_repeated.l0 k a0 a1 (⟨#[]⟩ : ByteArray)
theorem koinelaw04_repeated.mono_l : ∀ k, (∀ y0 y1 y2, LeO (koinelaw04_repeated.l0 k y0 y1 y2) (koinelaw04_repeated.l0 (k + 1) y0 y1 y2))
  | 0 => fun _ _ _ r h => by simp [koinelaw04_repeated.l0] at h
  | k + 1 => by
    have ih0 := koinelaw04_repeated.mono_l k
    · intro y0 y1 y2
      unfold koinelaw04_repeated.l0
      repeat' first
      | (with_reducible exact ih0 _ _ _)
      | (with_reducible exact LeO.refl _)
      | (with_reducible exact LeO.none _)
      | (with_reducible refine LeO.ite ?_ ?_)
      | (with_reducible refine LeO.bind ?_ (fun _ => ?_))
      | exact ih0 _ _ _
      | exact LeO.none _
      | refine LeO.ite ?_ ?_
      | refine LeO.bind ?_ (fun _ => ?_)
theorem koinelaw04_repeated.mono : ∀ a0 a1 k, LeO (koinelaw04_repeated.f k a0 a1) (koinelaw04_repeated.f (k + 1) a0 a1) := by
  intro a0 a1 k
  have ih0 := koinelaw04_repeated.mono_l k
  unfold koinelaw04_repeated.f
  repeat' first
      | (with_reducible exact ih0 _ _ _)
      | (with_reducible exact LeO.refl _)
      | (with_reducible exact LeO.none _)
      | (with_reducible refine LeO.ite ?_ ?_)
      | (with_reducible refine LeO.bind ?_ (fun _ => ?_))
      | exact ih0 _ _ _
      | exact LeO.none _
      | refine LeO.ite ?_ ?_
      | refine LeO.bind ?_ (fun _ => ?_)
set_option maxHeartbeats 8000000 in
set_option maxRecDepth 100000 in
theorem koinelaw04_repeated.calls (k : Nat) (a0 : ByteArray) (a1 : Int) (r : ByteArray) (w : World) (h : koinelaw04_repeated.f k a0 a1 = some r) :
    Calls Tryd.prog 28 #[.string a0, .int .i64 a1] w fun e w' => e = .returned (.string r) ∧ Drawn0 w w' := by
  have H : (koinelaw04_repeated.l0 k a0 a1 (⟨#[]⟩ : ByteArray)) = some r := h
  clear h
  have H' := Aside0.mk H
  clear H
  go_enter Tryd.func28, Tryd.ntmps28
  go_wp2
  go_loopg [5] k (fun kq v5 w' => ∃ (x5_1 : ByteArray), v5 = .string x5_1 ∧ Aside0 (koinelaw04_repeated.l0 kq a0 a1 x5_1 = some r) ∧ Aside0 (kq ≤ k) ∧ Drawn0 w w')
  case atStart => exact ⟨((⟨#[]⟩ : ByteArray)), (by first | rfl | (simp; done) | (simp [*]; done)), H', ⟨Nat.le_refl _⟩, by repeat (first | exact Drawn0.refl _ | apply Drawn0.step)⟩
  case round =>
    clear H'
    try clear c2
    try clear p2
    obtain ⟨x5_1, rfl, HA, HK1, ⟨m1, rfl⟩⟩ := hrel
    cases gk with
    | zero => exact absurd HA.out (by simp [koinelaw04_repeated.l0])
    | succ k1 =>
      have H := HA.out
      clear HA
      simp only [koinelaw04_repeated.l0] at H
      by_cases c3 : (x5_1.size : Int) < (wrap64 (a1 * (a0.size : Int)))
      · rw [if_pos c3] at H
        have c3b0 : decide ((x5_1.size : Int) < (wrap64 (a1 * (a0.size : Int)))) = true := decide_eq_true c3
        clear c3
        by_cases c4 : x5_1.size + x5_1.size ≤ 9223372036854775807
        · rw [if_pos c4] at H
          have c4b0 := eq_true c4
          have c4b1 : decide (x5_1.size + x5_1.size ≤ 9223372036854775807) = true := decide_eq_true c4
          try have c4b2 : (9223372036854775807 < x5_1.size + x5_1.size) = False := eq_false (Nat.not_lt.2 c4)
          by_cases c5 : (x5_1 ++ x5_1).size + a0.size ≤ 9223372036854775807
          · rw [if_pos c5] at H
            have c5b0 := eq_true c5
            have c5b1 : decide ((x5_1 ++ x5_1).size + a0.size ≤ 9223372036854775807) = true := decide_eq_true c5
            try have c5b2 : (9223372036854775807 < (x5_1 ++ x5_1).size + a0.size) = False := eq_false (Nat.not_lt.2 c5)
            have H' := Aside0.mk H
            clear H
            go_wp2
            go_roundg k1
            case measure => have := HK1.out; omega
            case rel => exact ⟨((x5_1 ++ x5_1) ++ a0), (by first | rfl | (simp; done) | (simp [*]; done)), H', ⟨by have := HK1.out; omega⟩, by repeat (first | exact Drawn0.refl _ | apply Drawn0.step)⟩
          · rw [if_neg c5] at H
            exact absurd H (by simp)
        · rw [if_neg c4] at H
          exact absurd H (by simp)
      · rw [if_neg c3] at H
        have c3b0 : decide ((x5_1.size : Int) < (wrap64 (a1 * (a0.size : Int)))) = false := decide_eq_false c3
        clear c3
        obtain ⟨ji6, hji6⟩ : ∃ j_ : Int, (wrap64 (a1 * (a0.size : Int))) = j_ := ⟨_, rfl⟩
        replace H : (if 0 ≤ (ji6) then (if (ji6) ≤ (x5_1.size : Int) then (some (x5_1.extract 0 ((ji6) : Int).toNat)) else (none)) else (none)) = some r := by first | (rw [hji6] at H; exact H) | (simp only [hji6] at H ⊢; exact H)
        (try rw [hji6] at c3b0)
        have hji6w : (IntKind.i64.wrap (a1 * (a0.size : Int))) = ji6 := (i64_w _).trans hji6
        by_cases c7 : 0 ≤ (ji6)
        · rw [if_pos c7] at H
          have c7b0 := eq_true c7
          have c7b1 : decide (0 ≤ (ji6)) = true := decide_eq_true c7
          clear c7
          by_cases c8 : (ji6) ≤ (x5_1.size : Int)
          · rw [if_pos c8] at H
            have c8b0 := eq_true c8
            have c8b1 : decide ((ji6) ≤ (x5_1.size : Int)) = true := decide_eq_true c8
            clear c8
            obtain rfl := Option.some.inj H
            go_wp2
            go_ret
            exact ⟨by first | rfl | (simp; done) | (simp only [← hji6] <;> (first | rfl | simp)) | (simp [*]; done), by repeat (first | exact Drawn0.refl _ | apply Drawn0.step)⟩
          · rw [if_neg c8] at H
            exact absurd H (by simp)
        · rw [if_neg c7] at H
          exact absurd H (by simp)

end Go.Proofs.YtaphblnelmncaaaDoor.PA
