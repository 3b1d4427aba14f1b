/- What the statement's proof stands on, part 3: the walks over the program's functions and the plain laws. -/
import Derived.Test.YtaphblnelmncaaaDoorV8b
import Derived.Laws.RangeAny
import Derived.Test.YtaphblnelmncaaaDoorV8a
import Derived.Laws.EntriesVeiled
import Derived.Deep.RegionHeld3
import Derived.ChangeKeysEq
import Derived.Laws.StructEq
import Derived.Test.YtaphblnelmncaaaDoorPAx2
import Derived.Test.YtaphblnelmncaaaDoorPAx24
import Derived.Test.YtaphblnelmncaaaDoorPAx22
import Derived.Test.YtaphblnelmncaaaDoorPAx23
import Derived.Test.YtaphblnelmncaaaDoorPAx18
import Derived.Laws.Strings2
import Derived.Laws.Strings3
import Derived.Test.YtaphblnelmncaaaDoorCards
import Derived.Test.YtaphblnelmncaaaDoorTie
import Derived.Test.YtaphblnelmncaaaDoorWSized
import Derived.WalkKit
import Derived.ProofKit
import Derived.OpenShut
import Derived.ShutString
import Derived.ChangeOld
import Derived.Below
import Derived.SizedLaws
import Derived.Deep.DeepHandedRow
import Derived.Lib.LaidTab
set_option linter.unusedSimpArgs false
set_option linter.unusedVariables false
section
/- The reader's atoms, given its alternatives. -/
set_option linter.unusedVariables false
namespace Go.Proofs.YtaphblnelmncaaaDoor.PA
open Go.RowKit Go.Proofs.YtaphblnelmncaaaDoorW.PrintWords Go.Proofs.YtaphblnelmncaaaDoorW.PrintLast Go.Proofs.YtaphblnelmncaaaDoorW.PrintMore

/-- An atom without its asterisks. -/
def headF (s : ByteArray) (n : Nat) (st : St) : Option (Int × St) :=
  if isNext s 91 st then some ((rangeF s (pass s 91 st)).2.out.length, (rangeF s (pass s 91 st)).2.add (rangeF s (pass s 91 st)).1)
  else if isNext s 40 st then
    if isNext s 41 (pass s 40 st) then some ((pass s 41 (pass s 40 st)).out.length, (pass s 41 (pass s 40 st)).add ⟨0, 0, 0, 0, 0⟩)
    else (altF s n (pass s 40 st)).bind fun r => some (r.1, if r.2.wrong then r.2.bad true else (pass s 41 r.2).bad (!isNext s 41 r.2))
  else some ((charF s st).2.out.length, (charF s st).2.add ⟨1, (charF s st).1, (charF s st).1, 0, 0⟩)
theorem atomF_head (s : ByteArray) (n : Nat) (st : St) : atomF s (n + 1) st = (headF s n st).bind fun r => starF s n r.1 r.2 := by
  simp only [atomF, headF]
  split
  · rfl
  split
  · split
    · rfl
    · cases altF s n (pass s 40 st) with
      | none => rfl
      | some r => simp only [Option.bind_some]; split <;> rfl
  · rfl
theorem head_gr {s : ByteArray} {n : Nat} {st : St} {r : Int × St} (h : headF s n st = some r) : Gr st r.2 := by
  unfold headF at h
  split at h
  · rename_i hn; cases h; exact (gr_range hn).1
  split at h
  · rename_i hn
    split at h
    · rename_i hn2; cases h; exact gr_paren hn hn2
    · obtain ⟨r1, h1, h2⟩ := Option.bind_eq_some_iff.1 h
      cases h2
      exact gr_in hn ((allGr s n).alt _ _ h1)
  · cases h; exact gr_char s st _

set_option maxHeartbeats 2000000 in
set_option maxRecDepth 100000 in
theorem atom_step (base rb : Nat) (s : ByteArray) (hf : Fit s) (n : Nat) (halt : RdOK base rb s 55 (altF s n)) : RdOK base rb s 91 (atomF s (n + 1)) := by
  intro st r w hF hR hb
  have HS := Lib.hid halt
  have HB := Lib.hid hb
  rw [atomF_head] at hF
  obtain ⟨r0, h0, hstar⟩ := Option.bind_eq_some_iff.1 hF
  have G0 : Hid (Gr st r0.2) := Lib.hid (head_gr h0)
  have H0 := Lib.hid h0
  have HX := Lib.hid hstar
  have HR := Lib.hid hR
  clear halt hb hF h0 hstar hR
  go_enter Tryd.func91, Tryd.ntmps91
  go_upto_block 0 with (fail)
  go_cut [3] (fun c wc => c = .int .i64 r0.1 ∧ Hid (RS base rb s r0.2 wc) ∧ Hid (Below base w wc))
  case first =>
    cases n1 : isNext s 91 st with
    | true =>
      have N1 := Lib.hid n1
      have HP1 := pass_out s 91 st
      obtain ⟨lo, st1, hA⟩ : ∃ lo st1, charF s (pass s 91 st) = (lo, st1) := ⟨_, _, rfl⟩
      obtain ⟨hi, st3, hB⟩ : ∃ hi st3, charF s (pass s 45 st1) = (hi, st3) := ⟨_, _, rfl⟩
      have hlen : st3.out.length = st.out.length := by
        have e1 := (charF_gr s (pass s 91 st)).1
        have e2 := (charF_gr s (pass s 45 st1)).1
        have e3 := (pass_out s 45 st1).1
        rw [hA] at e1
        rw [hB] at e2
        simp only at e1 e2
        rw [e2, e3, e1, HP1.1]
      have hle3 : st3.out.length ≤ 1000000 := by
        rw [hlen]; have := HB.out; have := HR.out.le; unfold Fit at hf; omega
      have hle4 : (pass s 93 st3).out.length ≤ 1000000 := by rw [(pass_out s 93 st3).1]; exact hle3
      have HE : Hid (r0 = ((((rangeF s (pass s 91 st)).2.out.length : Nat) : Int), (rangeF s (pass s 91 st)).2.add (rangeF s (pass s 91 st)).1)) := Lib.hid (by have := H0.out; unfold headF at this; rw [if_pos n1] at this; exact (Option.some.inj this).symm)
      have HRF : Hid (rangeF s (pass s 91 st) = if st3.wrong || !isNext s 45 st1 then (⟨1, lo, hi, 0, 0⟩, st3.bad true) else (⟨1, lo, hi, 0, 0⟩, (pass s 93 st3).bad (!isNext s 93 st3 || decide (hi < lo)))) := Lib.hid (by
        unfold rangeF; rw [hA]; simp only; rw [hB])
      have HA := Lib.hid hA
      have HB3 := Lib.hid hB
      clear n1 HP1 hA hB hlen
      go_wp2_with fail
      refine (next_r base rb s st 91 true _ HR.out hf N1).mono ?_
      rintro e w1 ⟨rfl, k1, k2⟩
      have K1 := Lib.hid k1
      have L1 := Lib.hid k2
      clear k1 k2
      go_wp2_with fail
      refine (char_any base rb s (pass s 91 st) _ K1.out hf).mono ?_
      rw [HA.out]
      rintro e w2 ⟨rfl, k1, k2⟩
      have K2 := Lib.hid k1
      have L2 := Lib.hid k2
      clear k1 k2
      go_wp2_with fail
      cases n2 : isNext s 45 st1 with
      | false =>
        have N2 := Lib.hid n2
        have HE2 : Hid (r0 = ((((st3.bad true).out.length : Nat) : Int), (st3.bad true).add ⟨1, lo, hi, 0, 0⟩)) := Lib.hid (by rw [HE.out, HRF.out, if_pos (by simp [n2])])
        clear n2 HE
        refine (next_r base rb s st1 45 false _ K2.out hf N2).mono ?_
        rintro e w3 ⟨rfl, k1, k2⟩
        have K3 := Lib.hid k1
        have L3 := Lib.hid k2
        clear k1 k2
        go_wp2_with fail
        refine (char_any base rb s (pass s 45 st1) _ K3.out hf).mono ?_
        rw [HB3.out]
        rintro e w4 ⟨rfl, k1, k2⟩
        have K4 := Lib.hid k1
        have L4 := Lib.hid k2
        have c3 := k1.c3
        have f3 := k1.fz 3
        have hlt4 := k1.lt
        clear k1 k2
        cases hw : st3.wrong
        all_goals
          rw [hw] at c3
          clear hw
          go_wp2_with fail
          refine (radd_any base rb s (st3.bad true) ⟨1, lo, hi, 0, 0⟩ _ (K4.out.wrong true) hle3).mono ?_
          rintro e w5 ⟨rfl, k1, k2⟩
          have K5 := Lib.hid k1
          have L5 := Lib.hid k2
          clear k1 k2
          go_wp2_with fail
          go_meet
          rw [HE2.out]
          exact ⟨rfl, K5, Lib.hid ((K4.out.low _ _ (((L1.out.trans L2.out).trans L3.out).trans L4.out)).trans L5.out)⟩
      | true =>
        have N2 := Lib.hid n2
        have HRF2 : Hid (rangeF s (pass s 91 st) = if st3.wrong = true then (⟨1, lo, hi, 0, 0⟩, st3.bad true) else (⟨1, lo, hi, 0, 0⟩, (pass s 93 st3).bad (!isNext s 93 st3 || decide (hi < lo)))) := Lib.hid (by rw [HRF.out, n2]; simp)
        clear n2 HRF
        refine (next_r base rb s st1 45 true _ K2.out hf N2).mono ?_
        rintro e w3 ⟨rfl, k1, k2⟩
        have K3 := Lib.hid k1
        have L3 := Lib.hid k2
        clear k1 k2
        go_wp2_with fail
        refine (char_any base rb s (pass s 45 st1) _ K3.out hf).mono ?_
        rw [HB3.out]
        rintro e w4 ⟨rfl, k1, k2⟩
        have K4 := Lib.hid k1
        have L4 := Lib.hid k2
        have c3 := k1.c3
        have f3 := k1.fz 3
        have hlt4 := k1.lt
        clear k1 k2
        cases hw : st3.wrong with
        | true =>
          rw [hw] at c3
          have HE2 : Hid (r0 = ((((st3.bad true).out.length : Nat) : Int), (st3.bad true).add ⟨1, lo, hi, 0, 0⟩)) := Lib.hid (by rw [HE.out, HRF2.out, if_pos hw])
          clear hw HE
          go_wp2_with fail
          refine (radd_any base rb s (st3.bad true) ⟨1, lo, hi, 0, 0⟩ _ (K4.out.wrong true) hle3).mono ?_
          rintro e w5 ⟨rfl, k1, k2⟩
          have K5 := Lib.hid k1
          have L5 := Lib.hid k2
          clear k1 k2
          go_wp2_with fail
          go_meet
          rw [HE2.out]
          exact ⟨rfl, K5, Lib.hid ((K4.out.low _ _ (((L1.out.trans L2.out).trans L3.out).trans L4.out)).trans L5.out)⟩
        | false =>
          rw [hw] at c3
          cases n3 : isNext s 93 st3 with
          | false =>
            have N3 := Lib.hid n3
            have HE2 : Hid (r0 = (((((pass s 93 st3).bad true).out.length : Nat) : Int), ((pass s 93 st3).bad true).add ⟨1, lo, hi, 0, 0⟩)) := Lib.hid (by rw [HE.out, HRF2.out, if_neg (by simp [hw]), n3]; rfl)
            clear hw HE n3
            go_wp2_with fail
            refine (next_r base rb s st3 93 false _ K4.out hf N3).mono ?_
            rintro e w5 ⟨rfl, k1, k2⟩
            have K5 := Lib.hid k1
            have L5 := Lib.hid k2
            have c5 := k1.c3
            have f5 := k1.fz 3
            have hlt5 := k1.lt
            clear k1 k2
            go_wp2_with fail
            refine (radd_any base rb s ((pass s 93 st3).bad true) ⟨1, lo, hi, 0, 0⟩ _ (K5.out.wrong true) hle4).mono ?_
            rintro e w6 ⟨rfl, k1, k2⟩
            have K6 := Lib.hid k1
            have L6 := Lib.hid k2
            clear k1 k2
            go_wp2_with fail
            go_meet
            rw [HE2.out]
            exact ⟨rfl, K6, Lib.hid ((K5.out.low _ _ ((((L1.out.trans L2.out).trans L3.out).trans L4.out).trans L5.out)).trans L6.out)⟩
          | true =>
            have N3 := Lib.hid n3
            have HE2 : Hid (r0 = (((((pass s 93 st3).bad (decide (hi < lo))).out.length : Nat) : Int), ((pass s 93 st3).bad (decide (hi < lo))).add ⟨1, lo, hi, 0, 0⟩)) := Lib.hid (by rw [HE.out, HRF2.out, if_neg (by simp [hw]), n3]; rfl)
            clear hw HE n3
            go_wp2_with fail
            refine (next_r base rb s st3 93 true _ K4.out hf N3).mono ?_
            rintro e w5 ⟨rfl, k1, k2⟩
            have K5 := Lib.hid k1
            have L5 := Lib.hid k2
            have c5 := k1.c3
            have f5 := k1.fz 3
            have hlt5 := k1.lt
            clear k1 k2
            by_cases hgt : hi < lo
            · have HE3 : Hid (r0 = (((((pass s 93 st3).bad true).out.length : Nat) : Int), ((pass s 93 st3).bad true).add ⟨1, lo, hi, 0, 0⟩)) := Lib.hid (by rw [HE2.out]; simp [hgt])
              go_wp2_with fail
              refine (radd_any base rb s ((pass s 93 st3).bad true) ⟨1, lo, hi, 0, 0⟩ _ (K5.out.wrong true) hle4).mono ?_
              rintro e w6 ⟨rfl, k1, k2⟩
              have K6 := Lib.hid k1
              have L6 := Lib.hid k2
              clear k1 k2
              go_wp2_with fail
              go_meet
              rw [HE3.out]
              exact ⟨rfl, K6, Lib.hid ((K5.out.low _ _ ((((L1.out.trans L2.out).trans L3.out).trans L4.out).trans L5.out)).trans L6.out)⟩
            · have HE3 := HE2
              go_wp2_with fail
              refine (radd_any base rb s ((pass s 93 st3).bad (decide (hi < lo))) ⟨1, lo, hi, 0, 0⟩ _ (K5.out.wrong (decide (hi < lo))) hle4).mono ?_
              rintro e w6 ⟨rfl, k1, k2⟩
              have K6 := Lib.hid k1
              have L6 := Lib.hid k2
              clear k1 k2
              go_wp2_with fail
              go_meet
              rw [HE3.out]
              exact ⟨rfl, K6, Lib.hid ((K5.out.low _ _ ((((L1.out.trans L2.out).trans L3.out).trans L4.out).trans L5.out)).trans L6.out)⟩
    | false =>
      have N1 := Lib.hid n1
      have P1 : Hid (pass s 91 st = st) := Lib.hid (pass_no n1)
      go_wp2_with fail
      refine (next_r base rb s st 91 false _ HR.out hf N1).mono ?_
      rw [P1.out]
      rintro e w1 ⟨rfl, k1, k2⟩
      have K1 := Lib.hid k1
      have L1 := Lib.hid k2
      clear k1 k2
      go_wp2_with fail
      cases n2 : isNext s 40 st with
      | true =>
        have N2 := Lib.hid n2
        have HP1 := pass_out s 40 st
        refine (next_r base rb s st 40 true _ K1.out hf N2).mono ?_
        rintro e w2 ⟨rfl, k1, k2⟩
        have K2 := Lib.hid k1
        have L2 := Lib.hid k2
        clear k1 k2
        go_wp2_with fail
        cases n3 : isNext s 41 (pass s 40 st) with
        | true =>
          have N3 := Lib.hid n3
          have HE2 : Hid (r0 = ((((pass s 41 (pass s 40 st)).out.length : Nat) : Int), (pass s 41 (pass s 40 st)).add ⟨0, 0, 0, 0, 0⟩)) := Lib.hid (by have := H0.out; unfold headF at this; rw [if_neg (by simp [n1]), if_pos n2, if_pos n3] at this; exact (Option.some.inj this).symm)
          have hle3 : (pass s 41 (pass s 40 st)).out.length ≤ 1000000 := by
            rw [(pass_out s 41 (pass s 40 st)).1, HP1.1]; have := HB.out; have := HR.out.le; unfold Fit at hf; omega
          clear n1 n2 n3 HP1
          refine (next_r base rb s (pass s 40 st) 41 true _ K2.out hf N3).mono ?_
          rintro e w3 ⟨rfl, k1, k2⟩
          have K3 := Lib.hid k1
          have L3 := Lib.hid k2
          clear k1 k2
          go_wp2_with fail
          refine (radd_any base rb s (pass s 41 (pass s 40 st)) ⟨0, 0, 0, 0, 0⟩ _ K3.out hle3).mono ?_
          rintro e w4 ⟨rfl, k1, k2⟩
          have K4 := Lib.hid k1
          have L4 := Lib.hid k2
          clear k1 k2
          go_wp2_with fail
          go_meet
          rw [HE2.out]
          exact ⟨rfl, K4, Lib.hid (((L1.out.trans L2.out).trans L3.out).trans L4.out)⟩
        | false =>
          have N3 := Lib.hid n3
          have P3 : Hid (pass s 41 (pass s 40 st) = pass s 40 st) := Lib.hid (pass_no n3)
          have h0 := H0.out
          unfold headF at h0
          rw [if_neg (by simp [n1]), if_pos n2, if_neg (by simp [n3])] at h0
          obtain ⟨ra, ha, hb⟩ := Option.bind_eq_some_iff.1 h0
          have HA := Lib.hid ha
          have HE := Lib.hid (Option.some.inj hb)
          have HBD : Hid ((pass s 40 st).out.length ≤ 2 * (pass s 40 st).pos) := Lib.hid (by rw [HP1.1]; have := HB.out; have := HP1.2.2.1; omega)
          clear n1 n2 n3 HP1 h0 ha hb
          refine (next_r base rb s (pass s 40 st) 41 false _ K2.out hf N3).mono ?_
          rw [P3.out]
          rintro e w3 ⟨rfl, k1, k2⟩
          have K3 := Lib.hid k1
          have L3 := Lib.hid k2
          clear k1 k2
          go_wp2_with fail
          refine (HS.out (pass s 40 st) ra _ HA.out K3.out HBD.out).mono ?_
          rintro e w4 ⟨rfl, k1, k2⟩
          have K4 := Lib.hid k1
          have L4 := Lib.hid k2
          have c3 := k1.c3
          have f3 := k1.fz 3
          have hlt4 := k1.lt
          clear k1 k2
          cases hw : ra.2.wrong with
          | true =>
            rw [hw] at c3
            have HE2 : Hid (r0 = (ra.1, ra.2.bad true)) := Lib.hid (by rw [← HE.out, if_pos hw])
            clear hw HE
            go_wp2_with fail
            go_meet
            rw [HE2.out]
            exact ⟨rfl, Lib.hid (K4.out.wrong true), Lib.hid (K4.out.low _ _ (((L1.out.trans L2.out).trans L3.out).trans L4.out))⟩
          | false =>
            rw [hw] at c3
            cases n4 : isNext s 41 ra.2
            all_goals
              have N4 := Lib.hid n4
              have HE2 := Lib.hid HE.out
              clear HE n4
              go_wp2_with fail
              refine (next_r base rb s ra.2 41 _ _ K4.out hf N4).mono ?_
              rintro e w5 ⟨rfl, k1, k2⟩
              have K5 := Lib.hid k1
              have L5 := Lib.hid k2
              have c5 := k1.c3
              have f5 := k1.fz 3
              have hlt5 := k1.lt
              have HW := Lib.hid hw
              clear k1 k2 hw
              go_wp2_with fail
              go_meet
              rw [← HE2.out, HW.out, N4.out]
              exact ⟨rfl, Lib.hid (K5.out.wrong _), Lib.hid (K5.out.low _ _ ((((L1.out.trans L2.out).trans L3.out).trans L4.out).trans L5.out))⟩
      | false =>
        have N2 := Lib.hid n2
        have P2 : Hid (pass s 40 st = st) := Lib.hid (pass_no n2)
        obtain ⟨b, st1, hA⟩ : ∃ b st1, charF s st = (b, st1) := ⟨_, _, rfl⟩
        have HE2 : Hid (r0 = (((st1.out.length : Nat) : Int), st1.add ⟨1, b, b, 0, 0⟩)) := Lib.hid (by have := H0.out; unfold headF at this; rw [if_neg (by simp [n1]), if_neg (by simp [n2]), hA] at this; exact (Option.some.inj this).symm)
        have hle3 : st1.out.length ≤ 1000000 := by
          have e1 := (charF_gr s st).1
          rw [hA] at e1
          simp only at e1
          rw [e1]; have := HB.out; have := HR.out.le; unfold Fit at hf; omega
        have HA := Lib.hid hA
        clear n1 n2 hA
        refine (next_r base rb s st 40 false _ K1.out hf N2).mono ?_
        rw [P2.out]
        rintro e w2 ⟨rfl, k1, k2⟩
        have K2 := Lib.hid k1
        have L2 := Lib.hid k2
        clear k1 k2
        go_wp2_with fail
        refine (char_any base rb s st _ K2.out hf).mono ?_
        rw [HA.out]
        rintro e w3 ⟨rfl, k1, k2⟩
        have K3 := Lib.hid k1
        have L3 := Lib.hid k2
        clear k1 k2
        go_wp2_with fail
        refine (radd_any base rb s st1 ⟨1, b, b, 0, 0⟩ _ K3.out hle3).mono ?_
        rintro e w4 ⟨rfl, k1, k2⟩
        have K4 := Lib.hid k1
        have L4 := Lib.hid k2
        clear k1 k2
        go_wp2_with fail
        go_meet
        rw [HE2.out]
        exact ⟨rfl, K4, Lib.hid (((L1.out.trans L2.out).trans L3.out).trans L4.out)⟩
  case rest =>
    obtain ⟨rfl, hR0, hL0⟩ := hcut
    go_wp2_with fail
    go_loopg [3] n (fun k c wr => ∃ (i : Int) (st' : St), c = .int .i64 i ∧ k ≤ n ∧ Hid (RS base rb s st' wr) ∧ Hid (starF s k i st' = some r) ∧ Hid (Gr st st') ∧ Hid (Below base w wr))
    case atStart => exact ⟨r0.1, r0.2, rfl, Nat.le_refl _, hR0, HX, G0, hL0⟩
    case round =>
      obtain ⟨i, st', rfl, hkn, hR', hL, hG, hB'⟩ := hrel
      cases gk with
      | zero => exact absurd hL.out (by simp [starF])
      | succ k =>
        have c3 := hR'.out.c3
        have hE : Hid ((if st'.wrong = true then some (i, st') else if isNext s 42 st' = true then starF s k st'.out.length ((pass s 42 st').add ⟨4, 0, 0, i, 0⟩) else some (i, st')) = some r) := Lib.hid (by have := hL.out; simpa only [starF] using this)
        clear hL
        cases hw : st'.wrong with
        | true =>
          rw [hw] at c3
          have hr : Hid (r = (i, st')) := Lib.hid (by have := hE.out; rw [if_pos hw] at this; exact (Option.some.inj this).symm)
          clear hw hE
          go_wp2
          go_ret
          rw [hr.out]
          exact ⟨rfl, hR'.out, hB'.out⟩
        | false =>
          rw [hw] at c3
          cases hn : isNext s 42 st' with
          | false =>
            have hr : Hid (r = (i, st')) := Lib.hid (by have := hE.out; rw [if_neg (by simp [hw]), if_neg (by simp [hn])] at this; exact (Option.some.inj this).symm)
            have HN := Lib.hid hn
            clear hw hn hE
            go_wp2_with fail
            refine (next_r base rb s st' 42 false _ hR'.out hf HN).mono ?_
            rintro e w2 ⟨rfl, k1, k2⟩
            have K2 := Lib.hid k1
            have L2 := Lib.hid k2
            clear k1 k2
            go_wp2
            go_ret
            rw [hr.out]
            have := K2.out
            rw [pass_no HN.out] at this
            exact ⟨rfl, this, hB'.out.trans L2.out⟩
          | true =>
            have HN := Lib.hid hn
            have hE2 := hE.out
            rw [if_neg (by simp [hw]), if_pos hn] at hE2
            have H4 := Lib.hid hE2
            have HP := pass_out s 42 st'
            have GN : Hid (Gr st ((pass s 42 st').add ⟨4, 0, 0, i, 0⟩)) := Lib.hid (gr_star hG.out hw hn)
            have hroom : (pass s 42 st').out.length ≤ 1000000 := by rw [HP.1]; exact hG.out.room HB.out hf hR'.out.le
            have HPO : Hid ((pass s 42 st').out.length = st'.out.length) := Lib.hid (by rw [HP.1])
            clear hw hn hE hE2 HP
            go_wp2_with fail
            refine (next_r base rb s st' 42 true _ hR'.out hf HN).mono ?_
            rintro e w2 ⟨rfl, k1, k2⟩
            have K2 := Lib.hid k1
            have L2 := Lib.hid k2
            clear k1 k2
            go_wp2_with fail
            refine (radd_any base rb s (pass s 42 st') ⟨4, 0, 0, i, 0⟩ _ K2.out hroom).mono ?_
            rintro e w4 ⟨rfl, k1, k2⟩
            have K4 := Lib.hid k1
            have L4 := Lib.hid k2
            clear k1 k2
            go_wp2
            go_roundg k
            case measure => omega
            case rel => exact ⟨_, _, rfl, by omega, K4, Lib.hid (by rw [HPO.out]; exact H4.out), GN, Lib.hid ((hB'.out.trans L2.out).trans L4.out)⟩
end Go.Proofs.YtaphblnelmncaaaDoor.PA
end

section
/- The reader: atoms, sequences and alternatives do what the plain functions tell. -/
namespace Go.Proofs.YtaphblnelmncaaaDoor.PA

theorem rd_all (base rb : Nat) (s : ByteArray) (hf : Fit s) : ∀ n m, m ≤ n → RdOK base rb s 91 (atomF s m) ∧ RdOK base rb s 77 (seqF s m) ∧ RdOK base rb s 55 (altF s m)
  | 0, m, h => by
    obtain rfl : m = 0 := by omega
    exact ⟨fun st r w h => by simp [atomF] at h, fun st r w h => by simp [seqF] at h, fun st r w h => by simp [altF] at h⟩
  | n + 1, m, h => by
    have ih := rd_all base rb s hf n
    by_cases e : m = n + 1
    · subst e
      exact ⟨atom_step base rb s hf n (ih n (Nat.le_refl _)).2.2, seq_step base rb s hf n fun k hk => (ih k hk).1, alt_step base rb s hf n fun k hk => (ih k hk).2.1⟩
    · exact ih m (by omega)
end Go.Proofs.YtaphblnelmncaaaDoor.PA
end

section
/- The walk over Parse. -/
set_option linter.unusedVariables false
namespace Go.Proofs.YtaphblnelmncaaaDoor.PA
open Go.RowKit Go.Proofs.YtaphblnelmncaaaDoorW.PrintWords Go.Proofs.YtaphblnelmncaaaDoorW.PrintLast Go.Proofs.YtaphblnelmncaaaDoorW.PrintMore

/-- A byte that a pattern's string may hold. -/
def okB (b : Int) : Bool := decide (33 ≤ b) && decide (b ≤ 126)
/-- The first k bytes are such. -/
def okTo (s : ByteArray) (k : Nat) : Bool := (List.range k).all fun i => okB (bt s i)
theorem okTo_spec {s : ByteArray} {k : Nat} : okTo s k = true ↔ ∀ i, i < k → okB (bt s i) = true := by simp [okTo]
/-- What Parse makes of the reader's result. -/
def parseF (s : ByteArray) (r : Int × St) : List S50 × Int := if r.2.wrong || decide (r.2.pos < s.size) then ([], 40) else if 512 < r.2.out.length then ([], 2) else (r.2.out, 0)
/-- The reader at the beginning. -/
def st0 : St := ⟨0, [], false⟩
/-- A pattern and an error code that a function hands back. -/
def PPost (w : World) (r : List S50 × Int) (e : Ending) (w' : World) : Prop := ∃ v, e = .returned (.tuple #[v, .int .i64 r.2]) ∧ Kd.R k50 50 w' w.heap.size (fun _ => True) v r.1 ∧ Below w.heap.size w w'

theorem parse_long (s : ByteArray) (w : World) (h : 8192 < s.size) (hs : s.size ≤ 140737488351232) : Calls Tryd.prog 25 #[.string s] w (PPost w ([], 2)) := by
  go_enter Tryd.func25, Tryd.ntmps25
  go_wp2
  go_ret2
  exact ⟨_, rfl, Kd.R_nil _ _ _ _ _, Below.refl _ _⟩

theorem iter_below (w : World) (s : ByteArray) (pos : Nat) : Below w.heap.size w (w.iter s pos) := (Below.refl _ _).alloc (Nat.le_refl _) _
theorem rune_high (s : ByteArray) (pos : Nat) (h : pos < s.size) (hb : 126 < bt s pos) : 126 < ((Utf8.decode s pos).1 : Int) := by
  have := bt_at s pos (by simpa using h)
  simp only [Int.toNat_natCast] at this
  by_cases ha : (s[pos]'h).toNat < 128
  · rw [decode_ascii s pos h ha]; show 126 < (((s[pos]'h).toNat : Nat) : Int); omega
  · have := (decode_high s pos h (by omega)).1; omega

set_option maxHeartbeats 1000000 in
theorem parse_any (s : ByteArray) (w : World) (h : s.size ≤ 8192) (n : Nat) (r : Int × St) (hr : altF s n st0 = some r) : Calls Tryd.prog 25 #[.string s] w (PPost w (if okTo s s.size then parseF s r else ([], 40))) := by
  have HR := Lib.hid hr
  clear hr
  obtain ⟨post, hpost⟩ : ∃ post, post = PPost w (if okTo s s.size then parseF s r else ([], 40)) := ⟨_, rfl⟩
  have HP := Lib.hid hpost
  rw [← hpost]
  clear hpost
  go_enter Tryd.func25, Tryd.ntmps25
  go_wp2
  go_loopw [] (fun wr => ∃ pos : Nat, wr = w.iter s pos ∧ Hid (okTo s (min pos s.size) = true)) (fun wr => s.size - wr.iterPos w.heap.size)
  case atStart => exact ⟨0, rfl, Lib.hid (by simp [okTo])⟩
  case round =>
    obtain ⟨pos, rfl, ha⟩ := hrel
    by_cases hp : pos < s.size
    · have hnx : ∀ ty, (Instr.next (.pointer (some ⟨w.heap.size, 0, none⟩)) true ty).run Tryd.prog (w.iter s pos) = _ := fun ty => run_next_any w s pos ty hp
      have hbt := bt_at s pos (by simpa using hp)
      simp only [Int.toNat_natCast] at hbt
      obtain ⟨q, hq⟩ : ∃ q, q = bt s pos := ⟨_, rfl⟩
      by_cases hok : 33 ≤ q ∧ q ≤ 126
      · obtain ⟨h1, h2⟩ := hok
        have hdec : Utf8.decode s pos = ((s[pos]'hp).toNat, 1) := decode_ascii s pos hp (by omega)
        rw [hdec] at hnx
        rw [← hq] at hbt
        have hnx2 : ∀ ty, (Instr.next (.pointer (some ⟨w.heap.size, 0, none⟩)) true ty).run Tryd.prog (w.iter s pos) = .ok (.tuple #[.bool true, .int .i64 pos, .int .i32 q]) (w.iter s (pos + 1)) := fun ty => by rw [hnx]; simp [hbt]
        have HA : Hid (okTo s (min (pos + 1) s.size) = true) := Lib.hid (by
          rw [okTo_spec]; intro i hi
          by_cases e : i = pos
          · subst e; rw [← hq]; simp [okB, h1, h2]
          · exact okTo_spec.1 ha.out i (by omega))
        have HM : Hid (pos < s.size) := Lib.hid hp
        clear hnx hdec hq hbt ha hp
        go_wp2
        go_roundw
        case rel => exact ⟨pos + 1, rfl, HA⟩
        case measure => have := HM.out; simp; omega
      · have HE : Hid (okTo s s.size = false) := Lib.hid (by
          cases e : okTo s s.size
          · rfl
          · have := okTo_spec.1 e pos hp; rw [← hq] at this; simp [okB] at this; exact absurd this hok)
        have hz : ∃ z : Int, ((Utf8.decode s pos).1 : Int) = z ∧ (z < 33 ∨ 126 < z) := by
          refine ⟨_, rfl, ?_⟩
          by_cases h3 : q < 33
          · left; rw [decode_ascii s pos hp (by omega)]; show (((s[pos]'hp).toNat : Nat) : Int) < 33; omega
          · right; exact rune_high s pos hp (by omega)
        obtain ⟨z, hz1, hz2⟩ := hz
        rw [hz1] at hnx
        have hnx2 : ∀ ty, (Instr.next (.pointer (some ⟨w.heap.size, 0, none⟩)) true ty).run Tryd.prog (w.iter s pos) = .ok (.tuple #[.bool true, .int .i64 pos, .int .i32 z]) (w.iter s (pos + (Utf8.decode s pos).2)) := hnx
        clear hnx hz1 hq hbt ha hp
        rcases hz2 with hz2 | hz2
        all_goals
          go_wp2
          rw [HP.out, HE.out]
          exact ⟨_, rfl, Kd.R_nil _ _ _ _ _, iter_below _ _ _⟩
    · have hnx : ∀ ty, (Instr.next (.pointer (some ⟨w.heap.size, 0, none⟩)) true ty).run Tryd.prog (w.iter s pos) = _ := fun ty => run_next_end w s pos ty hp
      have HE : Hid (okTo s s.size = true) := Lib.hid (by have := ha.out; rwa [Nat.min_eq_right (by omega)] at this)
      have hsz : (w.iter s pos).heap.size = w.heap.size + 1 := by simp [World.iter]
      have hbw := iter_below w s pos
      have HBW := Lib.hid hbw
      clear ha hp hbw
      go_wp2_with fail
      have HR0 : Hid (RS (w.heap.size + 1) (w.heap.size + 1) s st0 ((w.iter s pos).alloc (.cells #[.string s, .int .i64 0, .slice none 0 0, .bool false] 83))) := Lib.hid
        ⟨⟨.slice none 0 0, Blk.newE _ _ _ _ _ hsz.symm rfl, Kd.R_nil _ _ _ _ _⟩, Nat.le_refl _, Nat.zero_le _⟩
      have HL0 : Hid (Below w.heap.size w ((w.iter s pos).alloc (.cells #[.string s, .int .i64 0, .slice none 0 0, .bool false] 83))) := Lib.hid (HBW.out.alloc (by omega) _)
      refine ((rd_all (w.heap.size + 1) (w.heap.size + 1) s (by unfold Fit; omega) n n (Nat.le_refl _)).2.2 st0 r _ HR.out HR0.out (by decide)).mono ?_
      rintro e w1 ⟨rfl, k1, k2⟩
      have K1 := Lib.hid k1
      have L1 : Hid (Below w.heap.size w w1) := Lib.hid (HL0.out.trans (k2.mono (by omega)))
      have c1 := k1.c1
      have c3 := k1.c3
      have hlt1 := k1.lt
      have hle1 := k1.le
      clear k2
      obtain ⟨v, hB, hRv⟩ := k1.ex
      obtain ⟨A, c, rfl⟩ := Kd.R_slice hRv
      have c2 : w1.cell? ⟨w.heap.size + 1, 2, none⟩ = some (.slice A r.2.out.length c) := hB.cell 2
      have HRV : Hid (Kd.R k50 50 w1 w.heap.size (fun _ => True) (.slice A r.2.out.length c) r.2.out) := Lib.hid (Kd.R_mono (Kd.R_lower hRv (by omega)) (fun _ _ => trivial))
      clear k1 hB hRv hsz
      cases hw : r.2.wrong with
      | true =>
        have HE2 : Hid (parseF s r = ([], 40)) := Lib.hid (by unfold parseF; rw [hw]; rfl)
        rw [hw] at c3
        clear hw
        go_wp2
        rw [HP.out, HE.out, if_pos rfl, HE2.out]
        exact ⟨_, rfl, Kd.R_nil _ _ _ _ _, L1.out⟩
      | false =>
        rw [hw] at c3
        by_cases hlt : r.2.pos < s.size
        · have HE2 : Hid (parseF s r = ([], 40)) := Lib.hid (by unfold parseF; rw [hw]; simp [hlt])
          have hd : decide ((r.2.pos : Int) < (s.size : Int)) = true := by simp; omega
          clear hw
          go_wp2
          rw [HP.out, HE.out, if_pos rfl, HE2.out]
          exact ⟨_, rfl, Kd.R_nil _ _ _ _ _, L1.out⟩
        · have hd : decide ((r.2.pos : Int) < (s.size : Int)) = false := by simp; omega
          by_cases hl : 512 < r.2.out.length
          · have HE2 : Hid (parseF s r = ([], 2)) := Lib.hid (by unfold parseF; rw [hw, if_neg (by simp; omega), if_pos hl])
            have hlI : (512 : Int) < (r.2.out.length : Int) := by omega
            clear hw
            go_wp2
            rw [HP.out, HE.out, if_pos rfl, HE2.out]
            exact ⟨_, rfl, Kd.R_nil _ _ _ _ _, L1.out⟩
          · have HE2 : Hid (parseF s r = (r.2.out, 0)) := Lib.hid (by unfold parseF; rw [hw, if_neg (by simp; omega), if_neg hl])
            have hlI : ¬ (512 : Int) < (r.2.out.length : Int) := by omega
            clear hw
            go_wp2
            rw [HP.out, HE.out, if_pos rfl, HE2.out]
            exact ⟨_, rfl, HRV.out, L1.out⟩
end Go.Proofs.YtaphblnelmncaaaDoor.PA
end

section
/- The walk over Print's recursive closure: empty, ranges, repetitions. -/
set_option linter.unusedVariables false
namespace Go.Proofs.YtaphblnelmncaaaDoor.PA
open Go.RowKit Go.Proofs.YtaphblnelmncaaaDoorW.PrintWords Go.Proofs.YtaphblnelmncaaaDoorW.PrintLast Go.Proofs.YtaphblnelmncaaaDoorW.PrintMore

/-- What stands while Print's closure walks over the pattern. -/
structure ShowPre (pv sv : Nat) (A : Option Addr) (c : Nat) (p : List S50) (w0 w : World) : Prop where
  below : Below w0.heap.size w0 w
  hp : Blk w pv 25 [.slice A p.length c]
  hC : Kd.C k50 w0 A p.length p
  hs : Blk w sv 66 [.func (.func 46) #[] #[.pointer (some ⟨pv, 0, none⟩), .pointer (some ⟨sv, 0, none⟩)]]
theorem ShowPre.next {pv sv : Nat} {A : Option Addr} {c : Nat} {p : List S50} {w0 w w' : World} (h : ShowPre pv sv A c p w0 w) (hb : Below w.heap.size w w') : ShowPre pv sv A c p w0 w' :=
  ⟨h.below.trans (hb.mono h.below.size), h.hp.below hb, h.hC, h.hs.below hb⟩
/-- The closure's call. -/
def ShowOK (pv sv : Nat) (A : Option Addr) (c : Nat) (p : List S50) (w0 : World) (i : Nat) (t : Re) : Prop :=
  ∀ (least : Int) (w : World), ShowPre pv sv A c p w0 w → Calls Tryd.prog 46 #[.int .i64 (i : Int), .int .i64 least, .pointer (some ⟨pv, 0, none⟩), .pointer (some ⟨sv, 0, none⟩)] w fun e w' => e = .returned (.string (strOfNums (t.shown least))) ∧ Below w.heap.size w w'

set_option maxHeartbeats 1000000 in
theorem show_emp (pv sv : Nat) (A : Option Addr) (c : Nat) (p : List S50) (w0 : World) (i : Nat) (lo hi a b : Int) (hx : p[i]? = some ⟨0, lo, hi, a, b⟩) : ShowOK pv sv A c p w0 i .emp := by
  intro least w h
  have hip := (List.getElem?_eq_some_iff.1 hx).1
  have hibI : (i : Int) < (p.length : Int) := by omega
  have hc1 : w.cell? ⟨pv, 0, none⟩ = some (.slice A p.length c) := h.hp.cell 0
  obtain ⟨ad, rfl, x0, x1, x2, x3, x4⟩ := at_T50 (Kd.C_below h.hC h.below) i (by omega) hibI
  have hrd : rd_T50 p i = ⟨0, lo, hi, a, b⟩ := by simp [rd_T50, List.getD_eq_getElem?_getD, hx]
  rw [hrd] at x0 x1 x2 x3 x4
  simp only [Int.toNat_natCast] at x0 x1 x2 x3 x4
  have b1 := h.hp.lt
  have b2 := World.block_lt_of_cell? w _ x0
  have b3 := h.hs.lt
  have hcs : w.cell? ⟨sv, 0, none⟩ = some (.func (.func 46) #[] #[.pointer (some ⟨pv, 0, none⟩), .pointer (some ⟨sv, 0, none⟩)]) := h.hs.cell 0
  have H := Lib.hid h
  clear h hx hrd
  have HE : Hid (Re.emp.str = [40, 41]) := Lib.hid rfl
  have hlv : Re.emp.lev = 3 := rfl
  by_cases hl : (3 : Int) < least
  · have HS : Hid (Re.emp.shown least = 40 :: ([40, 41] ++ [41])) := Lib.hid (shown_yes hl)
    rw [HS.out]
    clear hlv
    go_enter Tryd.func46, Tryd.ntmps46
    go_wp2
    go_ret
    exact ⟨rfl, (Below.refl _ _).alloc (Nat.le_refl _) _⟩
  · have HS : Hid (Re.emp.shown least = [40, 41]) := Lib.hid (shown_no hl)
    rw [HS.out]
    clear hlv
    go_enter Tryd.func46, Tryd.ntmps46
    go_wp2
    go_ret
    exact ⟨rfl, (Below.refl _ _).alloc (Nat.le_refl _) _⟩

set_option maxHeartbeats 1000000 in
theorem show_rng (pv sv : Nat) (A : Option Addr) (c : Nat) (p : List S50) (w0 : World) (i : Nat) (lo hi a b : Int) (hok : 0 ≤ lo ∧ lo ≤ hi ∧ hi ≤ 255) (hx : p[i]? = some ⟨1, lo, hi, a, b⟩) : ShowOK pv sv A c p w0 i (.rng lo hi i) := by
  intro least w h
  have hip := (List.getElem?_eq_some_iff.1 hx).1
  have hibI : (i : Int) < (p.length : Int) := by omega
  have hc1 : w.cell? ⟨pv, 0, none⟩ = some (.slice A p.length c) := h.hp.cell 0
  obtain ⟨ad, rfl, x0, x1, x2, x3, x4⟩ := at_T50 (Kd.C_below h.hC h.below) i (by omega) hibI
  have hrd : rd_T50 p i = ⟨1, lo, hi, a, b⟩ := by simp [rd_T50, List.getD_eq_getElem?_getD, hx]
  rw [hrd] at x0 x1 x2 x3 x4
  simp only [Int.toNat_natCast] at x0 x1 x2 x3 x4
  have b1 := h.hp.lt
  have b2 := World.block_lt_of_cell? w _ x0
  have b3 := h.hs.lt
  have hcs : w.cell? ⟨sv, 0, none⟩ = some (.func (.func 46) #[] #[.pointer (some ⟨pv, 0, none⟩), .pointer (some ⟨sv, 0, none⟩)]) := h.hs.cell 0
  have H := Lib.hid h
  clear h hx hrd
  obtain ⟨o1, o2, o3⟩ := hok
  obtain ⟨s1, hs1⟩ : ∃ s, s = strOfNums (chrL lo) := ⟨_, rfl⟩
  obtain ⟨s2, hs2⟩ : ∃ s, s = strOfNums (chrL hi) := ⟨_, rfl⟩
  have hz1 : s1.size ≤ 4 := by rw [hs1, strOfNums_size]; exact chrL_length lo
  have hz2 : s2.size ≤ 4 := by rw [hs2, strOfNums_size]; exact chrL_length hi
  have K1 : ∀ w1, Calls Tryd.prog 47 #[.int .i64 lo] w1 fun e w' => e = .returned (.string s1) ∧ Below w1.heap.size w1 w' := fun w1 => by rw [hs1]; exact chr_any lo w1 (by omega) (by omega)
  have K2 : ∀ w1, Calls Tryd.prog 47 #[.int .i64 hi] w1 fun e w' => e = .returned (.string s2) ∧ Below w1.heap.size w1 w' := fun w1 => by rw [hs2]; exact chr_any hi w1 (by omega) (by omega)
  have HK1 := Lib.hid K1
  have HK2 := Lib.hid K2
  have HS1 := Lib.hid hs1
  have HS2 := Lib.hid hs2
  clear hs1 hs2 K1 K2
  obtain ⟨r, hr⟩ : ∃ r, r = strOfNums ((Re.rng lo hi i).shown least) := ⟨_, rfl⟩
  rw [← hr]
  have HR := Lib.hid hr
  clear hr
  go_enter Tryd.func46, Tryd.ntmps46
  go_wp2_with fail
  generalize hW : World.alloc _ _ = W
  have e1 : Blk W w.heap.size 50 [.int .i64 1, .int .i64 lo, .int .i64 hi, .int .i64 a, .int .i64 b] := by subst hW; exact Blk.new w _ 50
  have hbW : Hid (Below w.heap.size w W) := Lib.hid (by subst hW; exact (Below.refl _ _).alloc (Nat.le_refl _) _)
  clear hW
  have E1 := Lib.hid e1
  clear e1
  refine (HK1.out W).mono ?_
  rintro e w1 ⟨rfl, k1⟩
  have B1 := Lib.hid k1
  have E2 : Hid (Blk w1 w.heap.size 50 [.int .i64 1, .int .i64 lo, .int .i64 hi, .int .i64 a, .int .i64 b]) := Lib.hid (E1.out.below k1)
  have y1 := E2.out.cell 1
  have y2 := E2.out.cell 2
  simp only [List.getElem?_cons_zero, List.getElem?_cons_succ] at y1 y2
  have HB : Hid (Below w.heap.size w w1) := Lib.hid (hbW.out.trans (k1.mono hbW.out.size))
  clear k1
  by_cases hlh : lo < hi
  · have hst : Hid ((Re.rng lo hi i).str = 91 :: (chrL lo ++ 45 :: (chrL hi ++ [93]))) := Lib.hid (by simp only [Re.str]; rw [if_pos hlh])
    have hcat : Hid ((⟨#[91]⟩ : ByteArray) ++ s1 ++ ⟨#[45]⟩ ++ s2 ++ ⟨#[93]⟩ = strOfNums (91 :: (chrL lo ++ 45 :: (chrL hi ++ [93])))) := Lib.hid (by
      rw [HS1.out, HS2.out]
      rw [show (⟨#[91]⟩ : ByteArray) = strOfNums [91] from rfl, show (⟨#[45]⟩ : ByteArray) = strOfNums [45] from rfl, show (⟨#[93]⟩ : ByteArray) = strOfNums [93] from rfl]
      simp only [strOfNums_app, List.append_assoc, List.cons_append, List.nil_append])
    go_wp2_with fail
    refine (HK2.out w1).mono ?_
    rintro e w2 ⟨rfl, k2⟩
    have HB2 : Hid (Below w.heap.size w w2) := Lib.hid (HB.out.trans (k2.mono HB.out.size))
    clear k2
    by_cases hl : (3 : Int) < least
    · have HX := Lib.hid (show r = _ by rw [HR.out, shown_yes hl, hst.out, ← enclosed, ← hcat.out])
      go_wp2
      go_ret
      exact ⟨by rw [HX.out]; rfl, HB2.out⟩
    · have HX := Lib.hid (show r = _ by rw [HR.out, shown_no hl, hst.out, ← hcat.out])
      go_wp2
      go_ret
      exact ⟨by rw [HX.out]; rfl, HB2.out⟩
  · have hst : Hid ((Re.rng lo hi i).str = chrL lo) := Lib.hid (by simp only [Re.str]; rw [if_neg hlh])
    by_cases hl : (3 : Int) < least
    · have HX := Lib.hid (show r = _ by rw [HR.out, shown_yes hl, hst.out, ← enclosed, ← HS1.out])
      go_wp2
      go_ret
      exact ⟨by rw [HX.out]; rfl, HB.out⟩
    · have HX := Lib.hid (show r = _ by rw [HR.out, shown_no hl, hst.out, ← HS1.out])
      go_wp2
      go_ret
      exact ⟨by rw [HX.out]; rfl, HB.out⟩

set_option maxHeartbeats 2000000 in
theorem show_rep (pv sv : Nat) (A : Option Addr) (c : Nat) (p : List S50) (w0 : World) (i : Nat) (lo hi : Int) (a : Nat) (b : Int) (a' : Re) (hsz : a'.size ≤ 1000000) (ha : ShowOK pv sv A c p w0 a a') (hx : p[i]? = some ⟨4, lo, hi, (a : Int), b⟩) : ShowOK pv sv A c p w0 i (.rep a') := by
  intro least w h
  have hip := (List.getElem?_eq_some_iff.1 hx).1
  have hibI : (i : Int) < (p.length : Int) := by omega
  have hc1 : w.cell? ⟨pv, 0, none⟩ = some (.slice A p.length c) := h.hp.cell 0
  obtain ⟨ad, rfl, x0, x1, x2, x3, x4⟩ := at_T50 (Kd.C_below h.hC h.below) i (by omega) hibI
  have hrd : rd_T50 p i = ⟨4, lo, hi, (a : Int), b⟩ := by simp [rd_T50, List.getD_eq_getElem?_getD, hx]
  rw [hrd] at x0 x1 x2 x3 x4
  simp only [Int.toNat_natCast] at x0 x1 x2 x3 x4
  have b1 := h.hp.lt
  have b2 := World.block_lt_of_cell? w _ x0
  have b3 := h.hs.lt
  have hcs : w.cell? ⟨sv, 0, none⟩ = some (.func (.func 46) #[] #[.pointer (some ⟨pv, 0, none⟩), .pointer (some ⟨sv, 0, none⟩)]) := h.hs.cell 0
  have H := Lib.hid h
  clear h hx hrd
  obtain ⟨s1, hs1⟩ : ∃ s, s = strOfNums (a'.shown 3) := ⟨_, rfl⟩
  have hz1 : s1.size ≤ 13000002 := by rw [hs1]; exact shown_size a' _ (by omega)
  have Ka : ∀ w1, ShowPre pv sv (some ad) c p w0 w1 → Calls Tryd.prog 46 #[.int .i64 (a : Int), .int .i64 3, .pointer (some ⟨pv, 0, none⟩), .pointer (some ⟨sv, 0, none⟩)] w1 fun e w' => e = .returned (.string s1) ∧ Below w1.heap.size w1 w' := fun w1 hp => by rw [hs1]; exact ha _ w1 hp
  have HKa := Lib.hid Ka
  have hcat : Hid (s1 ++ ⟨#[42]⟩ = strOfNums (Re.rep a').str) := Lib.hid (by
    rw [hs1, show (⟨#[42]⟩ : ByteArray) = strOfNums [42] from rfl]
    simp only [strOfNums_app, Re.str, Re.shown])
  clear hs1 Ka ha
  obtain ⟨r, hr⟩ : ∃ r, r = strOfNums ((Re.rep a').shown least) := ⟨_, rfl⟩
  rw [← hr]
  have HR := Lib.hid hr
  clear hr
  have b4 : sv < w.heap.size + 1 := by omega
  go_enter Tryd.func46, Tryd.ntmps46
  go_wp2_with fail
  generalize hW : World.alloc _ _ = W
  have hbW : Hid (Below w.heap.size w W) := Lib.hid (by subst hW; exact (Below.refl _ _).alloc (Nat.le_refl _) _)
  clear hW
  refine (HKa.out W (H.out.next hbW.out)).mono ?_
  rintro e w1 ⟨rfl, k1⟩
  have HB : Hid (Below w.heap.size w w1) := Lib.hid (hbW.out.trans (k1.mono hbW.out.size))
  clear k1
  by_cases hl : (3 : Int) < least
  · have HX := Lib.hid (show r = _ by rw [HR.out, shown_yes hl, ← enclosed, ← hcat.out])
    go_wp2
    go_ret
    exact ⟨by rw [HX.out]; rfl, HB.out⟩
  · have HX := Lib.hid (show r = _ by rw [HR.out, shown_no hl, ← hcat.out])
    go_wp2
    go_ret
    exact ⟨by rw [HX.out]; rfl, HB.out⟩

end Go.Proofs.YtaphblnelmncaaaDoor.PA
end

section
/- The walk over Print's recursive closure: alternatives. -/
set_option linter.unusedVariables false
namespace Go.Proofs.YtaphblnelmncaaaDoor.PA
open Go.RowKit Go.Proofs.YtaphblnelmncaaaDoorW.PrintWords Go.Proofs.YtaphblnelmncaaaDoorW.PrintLast Go.Proofs.YtaphblnelmncaaaDoorW.PrintMore

set_option maxHeartbeats 2000000 in
set_option maxRecDepth 100000 in
theorem show_alt (pv sv : Nat) (A : Option Addr) (c : Nat) (p : List S50) (w0 : World) (i : Nat) (lo hi : Int) (a b : Nat) (a' b' : Re) (hsz : a'.size + b'.size ≤ 1000000) (ha : ShowOK pv sv A c p w0 a a') (hb : ShowOK pv sv A c p w0 b b') (hx : p[i]? = some ⟨3, lo, hi, (a : Int), (b : Int)⟩) : ShowOK pv sv A c p w0 i (.alt a' b') := by
  intro least w h
  have hip := (List.getElem?_eq_some_iff.1 hx).1
  have hibI : (i : Int) < (p.length : Int) := by omega
  have hc1 : w.cell? ⟨pv, 0, none⟩ = some (.slice A p.length c) := h.hp.cell 0
  obtain ⟨ad, rfl, x0, x1, x2, x3, x4⟩ := at_T50 (Kd.C_below h.hC h.below) i (by omega) hibI
  have hrd : rd_T50 p i = ⟨3, lo, hi, (a : Int), (b : Int)⟩ := by simp [rd_T50, List.getD_eq_getElem?_getD, hx]
  rw [hrd] at x0 x1 x2 x3 x4
  simp only [Int.toNat_natCast] at x0 x1 x2 x3 x4
  have b1 := h.hp.lt
  have b2 := World.block_lt_of_cell? w _ x0
  have b3 := h.hs.lt
  have hcs : w.cell? ⟨sv, 0, none⟩ = some (.func (.func 46) #[] #[.pointer (some ⟨pv, 0, none⟩), .pointer (some ⟨sv, 0, none⟩)]) := h.hs.cell 0
  have H := Lib.hid h
  clear h hx hrd
  obtain ⟨s1, hs1⟩ : ∃ s, s = strOfNums (a'.shown 1) := ⟨_, rfl⟩
  obtain ⟨s2, hs2⟩ : ∃ s, s = strOfNums (b'.shown 2) := ⟨_, rfl⟩
  have hz1 : s1.size ≤ 13000002 := by rw [hs1]; exact shown_size a' _ (by omega)
  have hz2 : s2.size ≤ 13000002 := by rw [hs2]; exact shown_size b' _ (by omega)
  have hz12 : (s1 ++ (⟨#[124]⟩ : ByteArray)).size = s1.size + 1 := by simp [ByteArray.size_append]; rfl
  have Ka : ∀ w1, ShowPre pv sv (some ad) c p w0 w1 → Calls Tryd.prog 46 #[.int .i64 (a : Int), .int .i64 1, .pointer (some ⟨pv, 0, none⟩), .pointer (some ⟨sv, 0, none⟩)] w1 fun e w' => e = .returned (.string s1) ∧ Below w1.heap.size w1 w' := fun w1 hp => by rw [hs1]; exact ha _ w1 hp
  have Kb : ∀ w1, ShowPre pv sv (some ad) c p w0 w1 → Calls Tryd.prog 46 #[.int .i64 (b : Int), .int .i64 2, .pointer (some ⟨pv, 0, none⟩), .pointer (some ⟨sv, 0, none⟩)] w1 fun e w' => e = .returned (.string s2) ∧ Below w1.heap.size w1 w' := fun w1 hp => by rw [hs2]; exact hb _ w1 hp
  have HKa := Lib.hid Ka
  have HKb := Lib.hid Kb
  have hcat : Hid (s1 ++ ⟨#[124]⟩ ++ s2 = strOfNums (Re.alt a' b').str) := Lib.hid (by
    rw [hs1, hs2, show (⟨#[124]⟩ : ByteArray) = strOfNums [124] from rfl]
    simp only [strOfNums_app, Re.str, Re.shown, List.append_assoc, List.cons_append, List.nil_append])
  clear hs1 hs2 Ka Kb ha hb
  obtain ⟨r, hr⟩ : ∃ r, r = strOfNums ((Re.alt a' b').shown least) := ⟨_, rfl⟩
  rw [← hr]
  have HR := Lib.hid hr
  clear hr
  go_enter Tryd.func46, Tryd.ntmps46
  go_wp2_with fail
  generalize hW : World.alloc _ _ = W
  have HE1 : Hid (Blk W w.heap.size 50 [.int .i64 3, .int .i64 lo, .int .i64 hi, .int .i64 (a : Int), .int .i64 (b : Int)]) := Lib.hid (by subst hW; exact Blk.new w _ 50)
  have hbW : Hid (Below w.heap.size w W) := Lib.hid (by subst hW; exact (Below.refl _ _).alloc (Nat.le_refl _) _)
  clear hW
  refine region_rule (ε := Unit) 12 [0, 0, 2, 7, 15, 0, 0, 64, 239, 511, 1023, 2047] [3, 8] [some 47, some 48, some 49, some 50, some 51, some 52, some 53, some 54, some 55, some 56, some 8, some 9] (fun _ => [(.func (.func 46) #[] #[.pointer (some ⟨pv, 0, none⟩), .pointer (some ⟨sv, 0, none⟩)]), (.pointer (some ⟨w.heap.size, 3, none⟩)), (.int .i64 (a : Int)), (.string s1), (.string (s1 ++ ⟨#[124]⟩)), (.func (.func 46) #[] #[.pointer (some ⟨pv, 0, none⟩), .pointer (some ⟨sv, 0, none⟩)]), (.pointer (some ⟨w.heap.size, 4, none⟩)), (.int .i64 (b : Int)), (.string s2), (.string ((s1 ++ ⟨#[124]⟩) ++ s2)), (.string ((s1 ++ ⟨#[124]⟩) ++ s2)), (.int .i64 1)]) (fun k _ w1 => Hid (Below w.heap.size w w1) ∧ Hid (ShowPre pv sv (some ad) c p w0 w1) ∧ Hid (Blk w1 w.heap.size 50 [.int .i64 3, .int .i64 lo, .int .i64 hi, .int .i64 (a : Int), .int .i64 (b : Int)])) 71 () (by kernel_rfl) rfl rfl (by kernel_rfl) rfl (by decide) (by kernel_rfl) ?h0 (AllOb.lt ?hob) ?hend
  case hob =>
    refine ⟨⟨⟨⟨⟨⟨⟨⟨⟨⟨⟨⟨trivial, ?_⟩, ?_⟩, ?_⟩, ?_⟩, ?_⟩, ?_⟩, ?_⟩, ?_⟩, ?_⟩, ?_⟩, ?_⟩, ?_⟩
    · exact ob_read _ _ _ rfl rfl (fun _ => rfl) (fun k _ w1 h1 h2 h3 => by
        have h3 : Hid (Below w.heap.size w w1) ∧ Hid (ShowPre pv sv (some ad) c p w0 w1) ∧ Hid (Blk w1 w.heap.size 50 [.int .i64 3, .int .i64 lo, .int .i64 hi, .int .i64 (a : Int), .int .i64 (b : Int)]) := h3
        exact x_load66 (by kernel_rfl) w1 (h3.2.1.out.hs.cell 0))
    · exact ob_val _ _ _ rfl rfl (fun _ => rfl) (fun _ => x_f3t50 (by kernel_rfl))
    · exact ob_read _ _ _ rfl rfl (fun _ => rfl) (fun k _ w1 h1 h2 h3 => by
        have h3 : Hid (Below w.heap.size w w1) ∧ Hid (ShowPre pv sv (some ad) c p w0 w1) ∧ Hid (Blk w1 w.heap.size 50 [.int .i64 3, .int .i64 lo, .int .i64 hi, .int .i64 (a : Int), .int .i64 (b : Int)]) := h3
        exact x_load3 (by kernel_rfl) w1 (h3.2.2.out.cell 3))
    · exact ob_callv _ _ (f := 46) (fun _ => #[.pointer (some ⟨pv, 0, none⟩), .pointer (some ⟨sv, 0, none⟩)]) Tryd.func46 rfl rfl (fun _ => #[.int .i64 (a : Int), .int .i64 1, .pointer (some ⟨pv, 0, none⟩), .pointer (some ⟨sv, 0, none⟩)]) rfl rfl (fun _ => rfl) (fun _ => by kernel_rfl) (fun _ => by kernel_rfl) (fun k _ w1 h1 h2 h3 => by
        have h3 : Hid (Below w.heap.size w w1) ∧ Hid (ShowPre pv sv (some ad) c p w0 w1) ∧ Hid (Blk w1 w.heap.size 50 [.int .i64 3, .int .i64 lo, .int .i64 hi, .int .i64 (a : Int), .int .i64 (b : Int)]) := h3
        refine (HKa.out w1 h3.2.1.out).mono ?_
        rintro e w2 ⟨rfl, g1⟩
        exact ⟨(), rfl, ⟨Lib.hid (h3.1.out.trans (g1.mono h3.1.out.size)), Lib.hid (h3.2.1.out.next g1), Lib.hid (h3.2.2.out.below g1)⟩, fun j _ _ => rfl⟩)
    · exact ob_val _ _ _ rfl rfl (fun _ => rfl) (fun _ => x_cat (by kernel_rfl) (by kernel_rfl) (by show s1.size + 1 ≤ 1000000000; omega))
    · exact ob_read _ _ _ rfl rfl (fun _ => rfl) (fun k _ w1 h1 h2 h3 => by
        have h3 : Hid (Below w.heap.size w w1) ∧ Hid (ShowPre pv sv (some ad) c p w0 w1) ∧ Hid (Blk w1 w.heap.size 50 [.int .i64 3, .int .i64 lo, .int .i64 hi, .int .i64 (a : Int), .int .i64 (b : Int)]) := h3
        exact x_load66 (by kernel_rfl) w1 (h3.2.1.out.hs.cell 0))
    · exact ob_val _ _ _ rfl rfl (fun _ => rfl) (fun _ => x_f4t50 (by kernel_rfl))
    · exact ob_read _ _ _ rfl rfl (fun _ => rfl) (fun k _ w1 h1 h2 h3 => by
        have h3 : Hid (Below w.heap.size w w1) ∧ Hid (ShowPre pv sv (some ad) c p w0 w1) ∧ Hid (Blk w1 w.heap.size 50 [.int .i64 3, .int .i64 lo, .int .i64 hi, .int .i64 (a : Int), .int .i64 (b : Int)]) := h3
        exact x_load3 (by kernel_rfl) w1 (h3.2.2.out.cell 4))
    · exact ob_callv _ _ (f := 46) (fun _ => #[.pointer (some ⟨pv, 0, none⟩), .pointer (some ⟨sv, 0, none⟩)]) Tryd.func46 rfl rfl (fun _ => #[.int .i64 (b : Int), .int .i64 2, .pointer (some ⟨pv, 0, none⟩), .pointer (some ⟨sv, 0, none⟩)]) rfl rfl (fun _ => rfl) (fun _ => by kernel_rfl) (fun _ => by kernel_rfl) (fun k _ w1 h1 h2 h3 => by
        have h3 : Hid (Below w.heap.size w w1) ∧ Hid (ShowPre pv sv (some ad) c p w0 w1) ∧ Hid (Blk w1 w.heap.size 50 [.int .i64 3, .int .i64 lo, .int .i64 hi, .int .i64 (a : Int), .int .i64 (b : Int)]) := h3
        refine (HKb.out w1 h3.2.1.out).mono ?_
        rintro e w2 ⟨rfl, g1⟩
        exact ⟨(), rfl, ⟨Lib.hid (h3.1.out.trans (g1.mono h3.1.out.size)), Lib.hid (h3.2.1.out.next g1), Lib.hid (h3.2.2.out.below g1)⟩, fun j _ _ => rfl⟩)
    · exact ob_val _ _ _ rfl rfl (fun _ => rfl) (fun _ => x_cat (by kernel_rfl) (by kernel_rfl) (by rw [hz12]; omega))
    · exact ob_assign _ _ _ rfl rfl (fun _ => rfl) (fun _ => by kernel_rfl)
    · exact ob_assign _ _ _ rfl rfl (fun _ => rfl) (fun _ => by kernel_rfl)
  case h0 => exact ⟨Lib.hid (below_drew1 hbW.out), Lib.hid (H.out.next (below_drew1 hbW.out)), Lib.hid HE1.out.drew⟩
  case hend =>
    intro _ w1 hW
    have hW : Hid (Below w.heap.size w w1) ∧ Hid (ShowPre pv sv (some ad) c p w0 w1) ∧ Hid (Blk w1 w.heap.size 50 [.int .i64 3, .int .i64 lo, .int .i64 hi, .int .i64 (a : Int), .int .i64 (b : Int)]) := hW
    simp only [putsL, List.tail_cons, List.headD_cons, Act.put, List.setIfInBounds_toArray, List.set_cons_zero, List.set_cons_succ]
    generalize hcv : s1 ++ ⟨#[124]⟩ ++ s2 = sc at *
    have hzs : sc.size ≤ 26000010 := by rw [← hcv]; simp only [ByteArray.size_append]; have : (⟨#[124]⟩ : ByteArray).size = 1 := rfl; omega
    clear hcv
    by_cases hl : (1 : Int) < least
    · have HX := Lib.hid (show r = _ by rw [HR.out, shown_yes hl, ← enclosed, ← hcat.out])
      go_wp2
      go_ret
      exact ⟨by rw [HX.out]; rfl, hW.1.out⟩
    · have HX := Lib.hid (show r = _ by rw [HR.out, shown_no hl, ← hcat.out])
      go_wp2
      go_ret
      exact ⟨by rw [HX.out]; rfl, hW.1.out⟩

end Go.Proofs.YtaphblnelmncaaaDoor.PA
end

section
/- The walk over Print's recursive closure: sequences. -/
set_option linter.unusedVariables false
namespace Go.Proofs.YtaphblnelmncaaaDoor.PA
open Go.RowKit Go.Proofs.YtaphblnelmncaaaDoorW.PrintWords Go.Proofs.YtaphblnelmncaaaDoorW.PrintLast Go.Proofs.YtaphblnelmncaaaDoorW.PrintMore

set_option maxHeartbeats 2000000 in
set_option maxRecDepth 100000 in
theorem show_seq (pv sv : Nat) (A : Option Addr) (c : Nat) (p : List S50) (w0 : World) (i : Nat) (lo hi : Int) (a b : Nat) (a' b' : Re) (hsz : a'.size + b'.size ≤ 1000000) (ha : ShowOK pv sv A c p w0 a a') (hb : ShowOK pv sv A c p w0 b b') (hx : p[i]? = some ⟨2, lo, hi, (a : Int), (b : Int)⟩) : ShowOK pv sv A c p w0 i (.seq a' b') := by
  intro least w h
  have hip := (List.getElem?_eq_some_iff.1 hx).1
  have hibI : (i : Int) < (p.length : Int) := by omega
  have hc1 : w.cell? ⟨pv, 0, none⟩ = some (.slice A p.length c) := h.hp.cell 0
  obtain ⟨ad, rfl, x0, x1, x2, x3, x4⟩ := at_T50 (Kd.C_below h.hC h.below) i (by omega) hibI
  have hrd : rd_T50 p i = ⟨2, lo, hi, (a : Int), (b : Int)⟩ := by simp [rd_T50, List.getD_eq_getElem?_getD, hx]
  rw [hrd] at x0 x1 x2 x3 x4
  simp only [Int.toNat_natCast] at x0 x1 x2 x3 x4
  have b1 := h.hp.lt
  have b2 := World.block_lt_of_cell? w _ x0
  have b3 := h.hs.lt
  have hcs : w.cell? ⟨sv, 0, none⟩ = some (.func (.func 46) #[] #[.pointer (some ⟨pv, 0, none⟩), .pointer (some ⟨sv, 0, none⟩)]) := h.hs.cell 0
  have H := Lib.hid h
  clear h hx hrd
  obtain ⟨s1, hs1⟩ : ∃ s, s = strOfNums (a'.shown 2) := ⟨_, rfl⟩
  obtain ⟨s2, hs2⟩ : ∃ s, s = strOfNums (b'.shown 3) := ⟨_, rfl⟩
  have hz1 : s1.size ≤ 13000002 := by rw [hs1]; exact shown_size a' _ (by omega)
  have hz2 : s2.size ≤ 13000002 := by rw [hs2]; exact shown_size b' _ (by omega)
  have hz12 : (s1 ++ (⟨#[124]⟩ : ByteArray)).size = s1.size + 1 := by simp [ByteArray.size_append]; rfl
  have Ka : ∀ w1, ShowPre pv sv (some ad) c p w0 w1 → Calls Tryd.prog 46 #[.int .i64 (a : Int), .int .i64 2, .pointer (some ⟨pv, 0, none⟩), .pointer (some ⟨sv, 0, none⟩)] w1 fun e w' => e = .returned (.string s1) ∧ Below w1.heap.size w1 w' := fun w1 hp => by rw [hs1]; exact ha _ w1 hp
  have Kb : ∀ w1, ShowPre pv sv (some ad) c p w0 w1 → Calls Tryd.prog 46 #[.int .i64 (b : Int), .int .i64 3, .pointer (some ⟨pv, 0, none⟩), .pointer (some ⟨sv, 0, none⟩)] w1 fun e w' => e = .returned (.string s2) ∧ Below w1.heap.size w1 w' := fun w1 hp => by rw [hs2]; exact hb _ w1 hp
  have HKa := Lib.hid Ka
  have HKb := Lib.hid Kb
  have hcat : Hid (s1 ++ s2 = strOfNums (Re.seq a' b').str) := Lib.hid (by
    rw [hs1, hs2]
    simp only [strOfNums_app, Re.str, Re.shown, List.append_assoc, List.cons_append, List.nil_append])
  clear hs1 hs2 Ka Kb ha hb
  obtain ⟨r, hr⟩ : ∃ r, r = strOfNums ((Re.seq a' b').shown least) := ⟨_, rfl⟩
  rw [← hr]
  have HR := Lib.hid hr
  clear hr
  go_enter Tryd.func46, Tryd.ntmps46
  go_wp2_with fail
  generalize hW : World.alloc _ _ = W
  have HE1 : Hid (Blk W w.heap.size 50 [.int .i64 2, .int .i64 lo, .int .i64 hi, .int .i64 (a : Int), .int .i64 (b : Int)]) := Lib.hid (by subst hW; exact Blk.new w _ 50)
  have hbW : Hid (Below w.heap.size w W) := Lib.hid (by subst hW; exact (Below.refl _ _).alloc (Nat.le_refl _) _)
  clear hW
  refine region_rule (ε := Unit) 11 [0, 0, 2, 7, 0, 0, 32, 127, 255, 511, 1023] [3, 7] [some 36, some 37, some 38, some 39, some 40, some 41, some 42, some 43, some 44, some 8, some 9] (fun _ => [(.func (.func 46) #[] #[.pointer (some ⟨pv, 0, none⟩), .pointer (some ⟨sv, 0, none⟩)]), (.pointer (some ⟨w.heap.size, 3, none⟩)), (.int .i64 (a : Int)), (.string s1), (.func (.func 46) #[] #[.pointer (some ⟨pv, 0, none⟩), .pointer (some ⟨sv, 0, none⟩)]), (.pointer (some ⟨w.heap.size, 4, none⟩)), (.int .i64 (b : Int)), (.string s2), (.string (s1 ++ s2)), (.string (s1 ++ s2)), (.int .i64 2)]) (fun k _ w1 => Hid (Below w.heap.size w w1) ∧ Hid (ShowPre pv sv (some ad) c p w0 w1) ∧ Hid (Blk w1 w.heap.size 50 [.int .i64 2, .int .i64 lo, .int .i64 hi, .int .i64 (a : Int), .int .i64 (b : Int)])) 71 () (by kernel_rfl) rfl rfl (by kernel_rfl) rfl (by decide) (by kernel_rfl) ?h0 (AllOb.lt ?hob) ?hend
  case hob =>
    refine ⟨⟨⟨⟨⟨⟨⟨⟨⟨⟨⟨trivial, ?_⟩, ?_⟩, ?_⟩, ?_⟩, ?_⟩, ?_⟩, ?_⟩, ?_⟩, ?_⟩, ?_⟩, ?_⟩
    · exact ob_read _ _ _ rfl rfl (fun _ => rfl) (fun k _ w1 h1 h2 h3 => by
        have h3 : Hid (Below w.heap.size w w1) ∧ Hid (ShowPre pv sv (some ad) c p w0 w1) ∧ Hid (Blk w1 w.heap.size 50 [.int .i64 2, .int .i64 lo, .int .i64 hi, .int .i64 (a : Int), .int .i64 (b : Int)]) := h3
        exact x_load66 (by kernel_rfl) w1 (h3.2.1.out.hs.cell 0))
    · exact ob_val _ _ _ rfl rfl (fun _ => rfl) (fun _ => x_f3t50 (by kernel_rfl))
    · exact ob_read _ _ _ rfl rfl (fun _ => rfl) (fun k _ w1 h1 h2 h3 => by
        have h3 : Hid (Below w.heap.size w w1) ∧ Hid (ShowPre pv sv (some ad) c p w0 w1) ∧ Hid (Blk w1 w.heap.size 50 [.int .i64 2, .int .i64 lo, .int .i64 hi, .int .i64 (a : Int), .int .i64 (b : Int)]) := h3
        exact x_load3 (by kernel_rfl) w1 (h3.2.2.out.cell 3))
    · exact ob_callv _ _ (f := 46) (fun _ => #[.pointer (some ⟨pv, 0, none⟩), .pointer (some ⟨sv, 0, none⟩)]) Tryd.func46 rfl rfl (fun _ => #[.int .i64 (a : Int), .int .i64 2, .pointer (some ⟨pv, 0, none⟩), .pointer (some ⟨sv, 0, none⟩)]) rfl rfl (fun _ => rfl) (fun _ => by kernel_rfl) (fun _ => by kernel_rfl) (fun k _ w1 h1 h2 h3 => by
        have h3 : Hid (Below w.heap.size w w1) ∧ Hid (ShowPre pv sv (some ad) c p w0 w1) ∧ Hid (Blk w1 w.heap.size 50 [.int .i64 2, .int .i64 lo, .int .i64 hi, .int .i64 (a : Int), .int .i64 (b : Int)]) := h3
        refine (HKa.out w1 h3.2.1.out).mono ?_
        rintro e w2 ⟨rfl, g1⟩
        exact ⟨(), rfl, ⟨Lib.hid (h3.1.out.trans (g1.mono h3.1.out.size)), Lib.hid (h3.2.1.out.next g1), Lib.hid (h3.2.2.out.below g1)⟩, fun j _ _ => rfl⟩)
    · exact ob_read _ _ _ rfl rfl (fun _ => rfl) (fun k _ w1 h1 h2 h3 => by
        have h3 : Hid (Below w.heap.size w w1) ∧ Hid (ShowPre pv sv (some ad) c p w0 w1) ∧ Hid (Blk w1 w.heap.size 50 [.int .i64 2, .int .i64 lo, .int .i64 hi, .int .i64 (a : Int), .int .i64 (b : Int)]) := h3
        exact x_load66 (by kernel_rfl) w1 (h3.2.1.out.hs.cell 0))
    · exact ob_val _ _ _ rfl rfl (fun _ => rfl) (fun _ => x_f4t50 (by kernel_rfl))
    · exact ob_read _ _ _ rfl rfl (fun _ => rfl) (fun k _ w1 h1 h2 h3 => by
        have h3 : Hid (Below w.heap.size w w1) ∧ Hid (ShowPre pv sv (some ad) c p w0 w1) ∧ Hid (Blk w1 w.heap.size 50 [.int .i64 2, .int .i64 lo, .int .i64 hi, .int .i64 (a : Int), .int .i64 (b : Int)]) := h3
        exact x_load3 (by kernel_rfl) w1 (h3.2.2.out.cell 4))
    · exact ob_callv _ _ (f := 46) (fun _ => #[.pointer (some ⟨pv, 0, none⟩), .pointer (some ⟨sv, 0, none⟩)]) Tryd.func46 rfl rfl (fun _ => #[.int .i64 (b : Int), .int .i64 3, .pointer (some ⟨pv, 0, none⟩), .pointer (some ⟨sv, 0, none⟩)]) rfl rfl (fun _ => rfl) (fun _ => by kernel_rfl) (fun _ => by kernel_rfl) (fun k _ w1 h1 h2 h3 => by
        have h3 : Hid (Below w.heap.size w w1) ∧ Hid (ShowPre pv sv (some ad) c p w0 w1) ∧ Hid (Blk w1 w.heap.size 50 [.int .i64 2, .int .i64 lo, .int .i64 hi, .int .i64 (a : Int), .int .i64 (b : Int)]) := h3
        refine (HKb.out w1 h3.2.1.out).mono ?_
        rintro e w2 ⟨rfl, g1⟩
        exact ⟨(), rfl, ⟨Lib.hid (h3.1.out.trans (g1.mono h3.1.out.size)), Lib.hid (h3.2.1.out.next g1), Lib.hid (h3.2.2.out.below g1)⟩, fun j _ _ => rfl⟩)
    · exact ob_val _ _ _ rfl rfl (fun _ => rfl) (fun _ => x_cat (by kernel_rfl) (by kernel_rfl) (by omega))
    · exact ob_assign _ _ _ rfl rfl (fun _ => rfl) (fun _ => by kernel_rfl)
    · exact ob_assign _ _ _ rfl rfl (fun _ => rfl) (fun _ => by kernel_rfl)
  case h0 => exact ⟨Lib.hid (below_drew1 hbW.out), Lib.hid (H.out.next (below_drew1 hbW.out)), Lib.hid HE1.out.drew⟩
  case hend =>
    intro _ w1 hW
    have hW : Hid (Below w.heap.size w w1) ∧ Hid (ShowPre pv sv (some ad) c p w0 w1) ∧ Hid (Blk w1 w.heap.size 50 [.int .i64 2, .int .i64 lo, .int .i64 hi, .int .i64 (a : Int), .int .i64 (b : Int)]) := hW
    simp only [putsL, List.tail_cons, List.headD_cons, Act.put, List.setIfInBounds_toArray, List.set_cons_zero, List.set_cons_succ]
    generalize hcv : s1 ++ s2 = sc at *
    have hzs : sc.size ≤ 26000010 := by rw [← hcv]; simp only [ByteArray.size_append]; omega
    clear hcv
    by_cases hl : (2 : Int) < least
    · have HX := Lib.hid (show r = _ by rw [HR.out, shown_yes hl, ← enclosed, ← hcat.out])
      go_wp2
      go_ret
      exact ⟨by rw [HX.out]; rfl, hW.1.out⟩
    · have HX := Lib.hid (show r = _ by rw [HR.out, shown_no hl, ← hcat.out])
      go_wp2
      go_ret
      exact ⟨by rw [HX.out]; rfl, hW.1.out⟩

end Go.Proofs.YtaphblnelmncaaaDoor.PA
end

section
/- The walk over Print. -/
set_option linter.unusedVariables false
namespace Go.Proofs.YtaphblnelmncaaaDoor.PA
open Go.RowKit Go.Proofs.YtaphblnelmncaaaDoorW.PrintWords Go.Proofs.YtaphblnelmncaaaDoorW.PrintLast Go.Proofs.YtaphblnelmncaaaDoorW.PrintMore

/-- Print's closure at every tree. -/
theorem show_any (pv sv : Nat) (A : Option Addr) (c : Nat) (p : List S50) (w0 : World) {i : Nat} {t : Re} (ht : IsRe p i t) : t.ok → t.size ≤ 1000000 → ShowOK pv sv A c p w0 i t := by
  induction ht with
  | emp i x h hk =>
    intro _ _
    obtain ⟨k, lo, hi, a, b⟩ := x
    obtain rfl : k = 0 := hk
    exact show_emp pv sv A c p w0 i lo hi a b h
  | rng i x h hk =>
    intro ho _
    obtain ⟨k, lo, hi, a, b⟩ := x
    obtain rfl : k = 1 := hk
    exact show_rng pv sv A c p w0 i lo hi a b ho h
  | seq i x a b s t h hk ha hb hs ht ihs iht =>
    intro ho hz
    obtain ⟨k, lo, hi, a', b'⟩ := x
    obtain rfl : k = 2 := hk
    obtain rfl : a' = (a : Int) := ha
    obtain rfl : b' = (b : Int) := hb
    simp only [Re.size] at hz
    exact show_seq pv sv A c p w0 i lo hi a b s t (by omega) (ihs ho.1 (by omega)) (iht ho.2 (by omega)) h
  | alt i x a b s t h hk ha hb hs ht ihs iht =>
    intro ho hz
    obtain ⟨k, lo, hi, a', b'⟩ := x
    obtain rfl : k = 3 := hk
    obtain rfl : a' = (a : Int) := ha
    obtain rfl : b' = (b : Int) := hb
    simp only [Re.size] at hz
    exact show_alt pv sv A c p w0 i lo hi a b s t (by omega) (ihs ho.1 (by omega)) (iht ho.2 (by omega)) h
  | rep i x a s h hk ha hs ih =>
    intro ho hz
    obtain ⟨k, lo, hi, a', b'⟩ := x
    obtain rfl : k = 4 := hk
    obtain rfl : a' = (a : Int) := ha
    simp only [Re.size] at hz
    exact show_rep pv sv A c p w0 i lo hi a b' s (by omega) (ih ho (by omega)) h

set_option maxHeartbeats 1000000 in
theorem print_bad (A : Option Addr) (c : Nat) (p : List S50) (w : World) (hC : Kd.C k50 w A p.length p) (hc : p.length ≤ c) (hb : p.length * 40 ≤ 140737488351232) (hbad : chk p ≠ 0) :
    Calls Tryd.prog 19 #[.slice A p.length c] w fun e w' => e = .returned (.tuple #[.string ⟨#[]⟩, .int .i64 (chk p)]) ∧ Below w.heap.size w w' := by
  obtain ⟨z, hz⟩ : ∃ z, z = chk p := ⟨_, rfl⟩
  rw [← hz] at hbad ⊢
  have HZ := Lib.hid hz
  have HC := Lib.hid hC
  have hbb : (z == 0) = false := by simpa using hbad
  have hbn : (z != 0) = true := by simpa using hbad
  clear hz hC hbad
  go_enter Tryd.func19, Tryd.ntmps19
  go_wp2_with fail
  refine (check_any A c p _ (Kd.C_alloc HC.out _) hc hb).mono ?_
  rw [← HZ.out]
  rintro e w1 ⟨rfl, k1⟩
  have L1 : Hid (Below w.heap.size w w1) := Lib.hid (((Below.refl _ _).alloc (Nat.le_refl _) _).trans (k1.mono (by simp)))
  clear k1
  go_wp2
  go_ret2
  exact ⟨rfl, L1.out⟩

set_option maxHeartbeats 1000000 in
theorem print_good (A : Option Addr) (c : Nat) (p : List S50) (t : Re) (w : World) (hC : Kd.C k50 w A p.length p) (hc : p.length ≤ c) (hb : p.length * 40 ≤ 140737488351232) (hgood : chk p = 0) (ht : IsRe p (p.length - 1) t) (ho : t.ok) (hz : t.size ≤ 1000000) :
    Calls Tryd.prog 19 #[.slice A p.length c] w fun e w' => e = .returned (.tuple #[.string (strOfNums (t.shown 1)), .int .i64 0]) ∧ Below w.heap.size w w' := by
  have hpl := ht.lt
  have HC := Lib.hid hC
  have HG := Lib.hid hgood
  have HT := Lib.hid ht
  have HO := Lib.hid ho
  obtain ⟨s, hs⟩ : ∃ s, s = strOfNums (t.shown 1) := ⟨_, rfl⟩
  rw [← hs]
  have HS := Lib.hid hs
  clear hgood hC ht ho hs
  go_enter Tryd.func19, Tryd.ntmps19
  go_wp2_with fail
  refine (check_any A c p _ (Kd.C_alloc HC.out _) hc hb).mono ?_
  rw [HG.out]
  rintro e w1 ⟨rfl, k1⟩
  have L1 : Hid (Below w.heap.size w w1) := Lib.hid (((Below.refl _ _).alloc (Nat.le_refl _) _).trans (k1.mono (by simp)))
  have P1 : Hid (Blk w1 w.heap.size 25 [.slice A p.length c]) := Lib.hid ((Blk.new w #[.slice A p.length c] 25).below k1)
  have c1 := P1.out.cell 0
  simp only [List.getElem?_cons_zero] at c1
  have hlt := P1.out.lt
  have hw1 : IntKind.i64.wrap ((p.length : Int) - 1) = ((p.length - 1 : Nat) : Int) := by rw [show ((p.length : Int) - 1) = ((p.length - 1 : Nat) : Int) by omega]; exact IntWalk.i64_in _ (by omega)
  have hw2 : (p.length : Int) - 1 = ((p.length - 1 : Nat) : Int) := by omega
  clear k1
  go_wp2_with fail
  have HP : Hid (ShowPre w.heap.size w1.heap.size A c p w ((w1.alloc (.cells #[.func (.func 46) #[] #[.pointer (some ⟨w.heap.size, 0, none⟩), .pointer (some ⟨w1.heap.size, 0, none⟩)]] 66)))) := Lib.hid
    ⟨L1.out.alloc (by omega) _, P1.out.alloc _, HC.out, Blk.new w1 _ 66⟩
  have HB2 : Hid (Below w.heap.size w (w1.alloc (.cells #[.func (.func 46) #[] #[.pointer (some ⟨w.heap.size, 0, none⟩), .pointer (some ⟨w1.heap.size, 0, none⟩)]] 66))) := Lib.hid HP.out.below
  refine (show_any _ _ A c p w HT.out HO.out hz 1 _ HP.out).mono ?_
  rw [← HS.out]
  rintro e w2 ⟨rfl, k2⟩
  have L2 : Hid (Below w.heap.size w w2) := Lib.hid (HB2.out.trans (k2.mono HB2.out.size))
  clear k2
  go_wp2
  go_ret2
  exact ⟨rfl, L2.out⟩
end Go.Proofs.YtaphblnelmncaaaDoor.PA
end

section
/- The walk over run's closure: one place reads a byte. -/
set_option linter.unusedVariables false
namespace Go.Proofs.YtaphblnelmncaaaDoor.PA
open Go.RowKit Go.Proofs.YtaphblnelmncaaaDoorW.PrintWords Go.Proofs.YtaphblnelmncaaaDoorW.PrintLast Go.Proofs.YtaphblnelmncaaaDoorW.PrintMore

/-- What run's closure needs of the world. -/
structure RunPre (sv nv mv mb fb : Nat) (s : ByteArray) (n : Nat) (A : Option Addr) (c : Nat) (p : List S50) (t : Re) (w0 w : World) : Prop where
  tab : Tab w
  below : Below w0.heap.size w0 w
  hC : Kd.C k50 w0 A p.length p
  hs : Blk w sv 9 [.string s]
  hnv : Blk w nv 3 [.int .i64 n]
  hm : Blk w mv 61 [.pointer (some ⟨mb, 0, none⟩)]
  hmb : Blk w mb 79 (mcells (.slice A p.length c) t.first t.last (.slice (some ⟨fb, 0, none⟩) p.length p.length) t.null)
  hfb : Blk w fb 76 (fcells (t.link (List.replicate p.length 0)))
  hn : n < s.size
  hn5 : p.length ≤ 512
  hlink : ∀ i, Small ((t.link (List.replicate p.length 0)).getD i 0)
  new : 0 < w0.heap.size

/-- What run's closure leaves: the sets R and X in its two variables. -/
def Run1Post (rv xv R X : Nat) (w : World) (e : Ending) (w' : World) : Prop := e = .returned (.tuple #[]) ∧ Blk w' rv 76 (pl R) ∧ Blk w' xv 76 (pl X) ∧ Chg [rv, xv] w w'

set_option maxHeartbeats 2000000 in
theorem run1_any (sv nv mv mb fb rv xv R X n i : Nat) (s : ByteArray) (A : Option Addr) (c : Nat) (p : List S50) (t : Re) (w0 w : World) (h : RunPre sv nv mv mb fb s n A c p t w0 w) (hi : i < p.length)
    (hr : Blk w rv 76 (pl R)) (hx : Blk w xv 76 (pl X)) (hrx : rv ≠ xv) (hrf : rv ≠ fb) :
    Calls Tryd.prog 71 #[.int .i64 (i : Int), .pointer (some ⟨sv, 0, none⟩), .pointer (some ⟨nv, 0, none⟩), .pointer (some ⟨mv, 0, none⟩), .pointer (some ⟨rv, 0, none⟩), .pointer (some ⟨xv, 0, none⟩)] w
      (Run1Post rv xv (if hit p i (bt s n) then R ||| 1 <<< i else R) (if hit p i (bt s n) then X ||| (t.link (List.replicate p.length 0)).getD i 0 else X) w) := by
  have hibI : (i : Int) < (p.length : Int) := by omega
  have c1 : w.cell? ⟨sv, 0, none⟩ = some (.string s) := h.hs.cell 0
  have c2 : w.cell? ⟨nv, 0, none⟩ = some (.int .i64 n) := h.hnv.cell 0
  have c3 : w.cell? ⟨mv, 0, none⟩ = some (.pointer (some ⟨mb, 0, none⟩)) := h.hm.cell 0
  have c4 : w.cell? ⟨mb, 0, none⟩ = some (.slice A p.length c) := h.hmb.cell 0
  have hns := h.hn
  have hnI : (n : Int) < (s.size : Int) := by omega
  obtain ⟨ad, rfl, x0, x1, x2, x3, x4⟩ := at_T50 (Kd.C_below h.hC h.below) i (by omega) hibI
  have hbt := bt_at s n
  have hbr := bt_range s n
  simp only [Int.toNat_natCast] at x0 x1 x2 x3 x4 hbt
  obtain ⟨b, hb⟩ : ∃ b, b = bt s n := ⟨_, rfl⟩
  have hbn := hbt hns
  rw [← hb] at hbn hbr ⊢
  have HB := Lib.hid hb
  have H := Lib.hid h
  have HR := Lib.hid hr
  have HX := Lib.hid hx
  obtain ⟨Y, hY⟩ : ∃ Y, Y = (t.link (List.replicate p.length 0)).getD i 0 := ⟨_, rfl⟩
  rw [← hY]
  have HY := Lib.hid hY
  obtain ⟨h0, hh⟩ : ∃ h0, h0 = hit p i b := ⟨_, rfl⟩
  rw [← hh]
  have HH := Lib.hid hh
  have sY : Small Y := by rw [hY]; exact H.out.hlink i
  have a8 := fcells_at8 (t.link (List.replicate p.length 0)) i (by rw [Re.link_length]; simpa using hi)
  rw [← hY] at a8
  obtain ⟨u0, u1, u2, u3, u4, u5, u6, u7⟩ := cells8 (o := 8 * i) (S := Y) H.out.hfb (fun k hk => a8.get hk)
  rw [Nat.mul_comm 8 i] at u0 u1 u2 u3 u4 u5 u6 u7
  have c5 : w.cell? ⟨mb, 17, none⟩ = some (.slice (some ⟨fb, 0, none⟩) p.length p.length) := (H.out.hmb.cell 17).trans (by simp [mcells, pl_eq])
  have nr1 : mv ≠ rv := H.out.hm.ne HR.out (by decide)
  have nr2 : mb ≠ rv := H.out.hmb.ne HR.out (by decide)
  clear hbt h hr hx hb hY hh a8
  by_cases k1 : (rd_T50 p i).f1 ≤ b
  · by_cases k2 : b ≤ (rd_T50 p i).f2
    · obtain rfl : h0 = true := by rw [HH.out]; simp [hit, k1, k2]
      have HI : Hid (i < 512) := Lib.hid (by have := H.out.hn5; omega)
      go_enter Tryd.func71, Tryd.ntmps71
      go_wp2_with fail
      refine (add_any rv 76 0 _ R i w HI.out HR.out (pl_at8 R)).mono ?_
      rintro e w1 ⟨rfl, g1, g2⟩
      rw [pl_put8] at g1
      have G1 := Lib.hid g1
      have G2 := Lib.hid g2
      have X1 := Lib.hid (HX.out.keep g2 (by simpa using Ne.symm hrx))
      have d3 : w1.cell? ⟨mv, 0, none⟩ = some (.pointer (some ⟨mb, 0, none⟩)) := (H.out.hm.keep g2 (by simpa using nr1)).cell 0
      have d5 : w1.cell? ⟨mb, 17, none⟩ = some (.slice (some ⟨fb, 0, none⟩) p.length p.length) := ((H.out.hmb.keep g2 (by simpa using nr2)).cell 17).trans (by simp [mcells, pl_eq])
      have kf : ∀ k, w1.cell? ⟨fb, k, none⟩ = w.cell? ⟨fb, k, none⟩ := fun k => World.cell?_of_block (w := w) (g2.block fb H.out.hfb.lt (by simpa using Ne.symm hrf))
      have v0 := (kf _).trans u0
      have v1 := (kf _).trans u1
      have v2 := (kf _).trans u2
      have v3 := (kf _).trans u3
      have v4 := (kf _).trans u4
      have v5 := (kf _).trans u5
      have v6 := (kf _).trans u6
      have v7 := (kf _).trans u7
      clear g1 g2 kf u0 u1 u2 u3 u4 u5 u6 u7 c1 c2 c3 c4 c5 x0 x1 x2 x3 x4
      go_wp2_with fail
      refine (join_ex xv 76 0 _ X Y w1 sY X1.out (pl_at8 X)).mono ?_
      rintro e w2 ⟨rfl, g1, g2⟩
      rw [pl_put8] at g1
      have R1 := Lib.hid (G1.out.keep g2 (by simpa using hrx))
      have X2 := Lib.hid g1
      have C2 := Lib.hid ((G2.out.mono (L' := [rv, xv]) (by simp)).then g2 (by simp))
      clear g1 g2
      go_wp2
      go_end0
      exact ⟨rfl, R1.out, X2.out, C2.out⟩
    · obtain rfl : h0 = false := by rw [HH.out]; simp [hit, k1]; omega
      go_enter Tryd.func71, Tryd.ntmps71
      go_wp2
      go_end0
      exact ⟨rfl, HR.out, HX.out, Chg.refl _ _⟩
  · obtain rfl : h0 = false := by rw [HH.out]; simp [hit]; omega
    go_enter Tryd.func71, Tryd.ntmps71
    go_wp2
    go_end0
    exact ⟨rfl, HR.out, HX.out, Chg.refl _ _⟩
end Go.Proofs.YtaphblnelmncaaaDoor.PA
end

section
/- A set of places held against the empty one. -/
namespace Go.Proofs.YtaphblnelmncaaaDoor.PA
open Go.RowKit
theorem info74 : (Tryd.prog.info? 74).map (fun i => (i.zero, i.size, i.bytes)) = some (some (.int .u64 0), 1, 8) := by kernel_rfl
theorem run_eql_places (a0 a1 a2 a3 a4 a5 a6 a7 : Int) (w : World) : (binOp .eql 76 (.agg #[.int .u64 a0, .int .u64 a1, .int .u64 a2, .int .u64 a3, .int .u64 a4, .int .u64 a5, .int .u64 a6, .int .u64 a7])
   (.agg #[.int .u64 0, .int .u64 0, .int .u64 0, .int .u64 0, .int .u64 0, .int .u64 0, .int .u64 0, .int .u64 0])).run Tryd.prog w = .ok (.bool (a0 == 0 && (a1 == 0 && (a2 == 0 && (a3 == 0 && (a4 == 0 && (a5 == 0 && (a6 == 0 && a7 == 0)))))))) w := by
  obtain ⟨i, hi, hzz⟩ := Option.map_eq_some_iff.1 info74
  simp only [Prod.mk.injEq] at hzz
  obtain ⟨hz, hs, hb⟩ := hzz
  have hc : Tryd.prog.cellsOf 74 = 1 := by kernel_rfl
  simp only [binOp, Op.equal]
  rw [Sem.run_bind]
  have key : (Op.equalIn (9999 + 1) 76 (.agg #[.int .u64 a0, .int .u64 a1, .int .u64 a2, .int .u64 a3, .int .u64 a4, .int .u64 a5, .int .u64 a6, .int .u64 a7]) (.agg #[.int .u64 0, .int .u64 0, .int .u64 0, .int .u64 0, .int .u64 0, .int .u64 0, .int .u64 0, .int .u64 0])).run Tryd.prog w = .ok (a0 == 0 && (a1 == 0 && (a2 == 0 && (a3 == 0 && (a4 == 0 && (a5 == 0 && (a6 == 0 && a7 == 0))))))) w := by
    rw [run_equalIn_array w 9999 _ _ Tryd.underlying76 hi, hc]
    generalize hd : (9999 : Nat) = d
    obtain ⟨d, rfl⟩ : ∃ d', d = d' + 1 := ⟨9998, by rw [← hd]⟩
    clear hd
    have hr : List.range 8 = [0, 1, 2, 3, 4, 5, 6, 7] := rfl
    rw [hr]
    simp [Op.eqItems, go_sem, Tryd.underlying74, run_equalIn_int]
    by_cases h0 : a0 = 0
    · by_cases h1 : a1 = 0
      · by_cases h2 : a2 = 0
        · by_cases h3 : a3 = 0
          · by_cases h4 : a4 = 0
            · by_cases h5 : a5 = 0
              · by_cases h6 : a6 = 0
                · by_cases h7 : a7 = 0 <;> simp [h0, h1, h2, h3, h4, h5, h6, h7]
                · simp [h0, h1, h2, h3, h4, h5, h6]
              · simp [h0, h1, h2, h3, h4, h5]
            · simp [h0, h1, h2, h3, h4]
          · simp [h0, h1, h2, h3]
        · simp [h0, h1, h2]
      · simp [h0, h1]
    · simp [h0]
  change ((Op.equalIn (9999 + 1) 76 _ _).run Tryd.prog w).andThen _ = _
  rw [key]
  rfl
/-- Against the empty set, as one fact on sets. -/
theorem run_eql_set (R : Nat) (hR : Small R) (w : World) : (binOp .eql 76 (.agg #[.int .u64 (limb R 0), .int .u64 (limb R 1), .int .u64 (limb R 2), .int .u64 (limb R 3), .int .u64 (limb R 4), .int .u64 (limb R 5), .int .u64 (limb R 6), .int .u64 (limb R 7)])
   (.agg #[.int .u64 0, .int .u64 0, .int .u64 0, .int .u64 0, .int .u64 0, .int .u64 0, .int .u64 0, .int .u64 0])).run Tryd.prog w = .ok (.bool (R == 0)) w := by
  rw [run_eql_places]
  congr 2
  by_cases h : R = 0
  · subst h; simp [limb_zero]
  · have h1 : (R == 0) = false := by simpa using h
    rw [h1]
    cases e : (limb R 0 == 0 && (limb R 1 == 0 && (limb R 2 == 0 && (limb R 3 == 0 && (limb R 4 == 0 && (limb R 5 == 0 && (limb R 6 == 0 && limb R 7 == 0))))))) with
    | false => rfl
    | true =>
      simp only [Bool.and_eq_true, beq_iff_eq] at e
      obtain ⟨e0, e1, e2, e3, e4, e5, e6, e7⟩ := e
      have := meet_limbs (S := R) (T := R) hR (fun k hk => by
        rw [Nat.and_self]
        rcases (show k = 0 ∨ k = 1 ∨ k = 2 ∨ k = 3 ∨ k = 4 ∨ k = 5 ∨ k = 6 ∨ k = 7 by omega) with rfl | rfl | rfl | rfl | rfl | rfl | rfl | rfl <;> assumption)
      simp [meetsB, h] at this
end Go.Proofs.YtaphblnelmncaaaDoor.PA
end

section
/- The walk over run: the function value is told of each nonempty prefix. -/
set_option linter.unusedVariables false
namespace Go.Proofs.YtaphblnelmncaaaDoor.PA
open Go.RowKit Go.Proofs.YtaphblnelmncaaaDoorW.PrintWords Go.Proofs.YtaphblnelmncaaaDoorW.PrintLast Go.Proofs.YtaphblnelmncaaaDoorW.PrintMore

theorem drop_bytes (s : ByteArray) (n : Nat) (h : n < s.size) : (bytesOf s).drop n = bt s n :: (bytesOf s).drop (n + 1) := by
  have hl : n < (bytesOf s).length := by rw [bytesOf_length]; exact h
  rw [List.drop_eq_getElem_cons hl]
  congr 1
  have := rd_bytesOf s n
  rw [← this]
  simp [rd, List.getD_eq_getElem?_getD, List.getElem?_eq_getElem hl]
theorem enters71 : ∀ args w, (callFunc 71 args).run Tryd.prog w = .ok (.enter 71 args) w := enters_of Tryd.func71 (by kernel_rfl) rfl

/-- What stands at each byte of the string. -/
structure RunInv (B gv mb fb : Nat) (s : ByteArray) (A : Option Addr) (c : Nat) (p : List S50) (t : Re) (w0 wb w : World) : Prop where
  tab : Tab w
  below : Below w0.heap.size w0 w
  hC : Kd.C k50 w0 A p.length p
  hm : Blk w B 61 [.pointer (some ⟨mb, 0, none⟩)]
  hs : Blk w (B + 1) 9 [.string s]
  hmb : Blk w mb 79 (mcells (.slice A p.length c) t.first t.last (.slice (some ⟨fb, 0, none⟩) p.length p.length) t.null)
  hfb : Blk w fb 76 (fcells (t.link (List.replicate p.length 0)))
  hn5 : p.length ≤ 512
  hlink : Within (t.link (List.replicate p.length 0)) p.length
  new : 0 < w0.heap.size
  size0 : w0.heap.size ≤ B
  size : wb.heap.size = B
  chg : Chg [gv] wb w
  hgv : gv < B
  gv0 : w0.heap.size ≤ gv
  gvm : gv ≠ mb
  gvf : gv ≠ fb
  mbB : mb < B
  fbB : fb < B
  sS : Small t.first ∧ Small t.last
  hgs : 1 < w.heap.size

theorem RunInv.next {B gv mb fb : Nat} {s : ByteArray} {A : Option Addr} {c : Nat} {p : List S50} {t : Re} {w0 wb w w' : World} {L : List Nat} (h : RunInv B gv mb fb s A c p t w0 wb w) (k : Chg L w w') (hL : ∀ x, x ∈ L → x = gv ∨ B + 2 ≤ x) : RunInv B gv mb fb s A c p t w0 wb w' where
  tab := h.tab.chg k (fun h0 => by have := hL 0 h0; have := h.gv0; have := h.new; omega)
  below := h.below.trans ⟨k.os, k.tape, k.output, k.size, fun i hi => k.block i (Nat.lt_of_lt_of_le hi h.below.size) (fun hm => by have := hL i hm; have := h.gv0; have := h.size0; omega)⟩
  hC := h.hC
  hm := h.hm.keep k (fun hm => by have := hL _ hm; have := h.hgv; omega)
  hs := h.hs.keep k (fun hm => by have := hL _ hm; have := h.hgv; omega)
  hmb := h.hmb.keep k (fun hm => by have := hL _ hm; have := h.mbB; have := h.gvm; omega)
  hfb := h.hfb.keep k (fun hm => by have := hL _ hm; have := h.fbB; have := h.gvf; omega)
  hn5 := h.hn5
  hlink := h.hlink
  new := h.new
  size0 := h.size0
  size := h.size
  chg := h.chg.then k (fun x hx => by have := hL x hx; have := h.size; simp; omega)
  hgv := h.hgv
  gv0 := h.gv0
  gvm := h.gvm
  gvf := h.gvf
  mbB := h.mbB
  fbB := h.fbB
  sS := h.sS
  hgs := Nat.lt_of_lt_of_le h.hgs k.size

/-- What stands while the places are gone through at one byte. -/
structure EachInv (B gv mb fb g n S : Nat) (s : ByteArray) (A : Option Addr) (c : Nat) (p : List S50) (t : Re) (w0 wb w1 : World) (l : List Nat) (w : World) : Prop where
  inv : RunInv B gv mb fb s A c p t w0 wb w
  hnow : Blk w (B + 2) 76 (pl S)
  hnv : Blk w g 3 [.int .i64 (n : Int)]
  hr : Blk w (g + 1) 76 (pl (stepR p (bt s n) l 0))
  hx : Blk w (g + 1 + 1) 76 (pl (stepN p (t.link (List.replicate p.length 0)) (bt s n) l 0))
  chg : Chg [g + 1, g + 1 + 1] w1 w

theorem EachInv.keep {B gv mb fb g n S : Nat} {s : ByteArray} {A : Option Addr} {c : Nat} {p : List S50} {t : Re} {w0 wb w1 w w' : World} {l : List Nat} (h : EachInv B gv mb fb g n S s A c p t w0 wb w1 l w) (k : Chg [] w w') : EachInv B gv mb fb g n S s A c p t w0 wb w1 l w' :=
  ⟨h.inv.next k (by simp), h.hnow.keep k (by simp), h.hnv.keep k (by simp), h.hr.keep k (by simp), h.hx.keep k (by simp), h.chg.then k (by simp)⟩

/-- One call of places.each on the current places. -/
theorem each_run (B gv mb fb g n S : Nat) (s : ByteArray) (A : Option Addr) (c : Nat) (p : List S50) (t : Re) (w0 wb w1 : World) (hn : n < s.size) (hg : B + 2 < g) (hS : ∀ j, S.testBit j = true → j < p.length)
    (h : EachInv B gv mb fb g n S s A c p t w0 wb w1 [] w1) :
    Calls Tryd.prog 66 #[.pointer (some ⟨B + 2, 0, none⟩), .func (.func 71) #[] #[.pointer (some ⟨B + 1, 0, none⟩), .pointer (some ⟨g, 0, none⟩), .pointer (some ⟨B, 0, none⟩), .pointer (some ⟨g + 1, 0, none⟩), .pointer (some ⟨g + 1 + 1, 0, none⟩)]] w1
      fun e w' => e = .returned (.tuple #[]) ∧ EachInv B gv mb fb g n S s A c p t w0 wb w1 (below S 512) w' := by
  refine each_any (B + 2) 76 0 S 71 _ (EachInv B gv mb fb g n S s A c p t w0 wb w1) w1 enters71 h (fun l w n h => h.keep ((Chg.refl _ _).drewN n)) (fun l w h => ⟨h.inv.tab, _, h.hnow, pl_at8 S⟩) ?_
  intro l i r hl w hw
  have hi : i < p.length := hS i (mem_below.1 (by rw [hl]; simp)).2
  refine (run1_any (B + 1) g B mb fb (g + 1) (g + 1 + 1) _ _ n i s A c p t w0 w ⟨hw.inv.tab, hw.inv.below, hw.inv.hC, hw.inv.hs, hw.hnv, hw.inv.hm, hw.inv.hmb, hw.inv.hfb, hn, hw.inv.hn5, fun i => small_of fun j hj => by have := hw.inv.hlink i j hj; have := hw.inv.hn5; omega, hw.inv.new⟩ hi hw.hr hw.hx (by omega) (by have := hw.inv.fbB; omega)).mono ?_
  rintro e w' ⟨rfl, h1, h2, h3⟩
  refine ⟨rfl, hw.inv.next h3 (by simp; omega), hw.hnow.keep h3 (by simp; omega), hw.hnv.keep h3 (by simp; omega), ?_, ?_, hw.chg.trans h3⟩
  · rw [stepR_snoc]; exact h1
  · rw [stepN_snoc]; exact h2

/-- What stands behind the places. -/
structure TestInv (B gv mb fb g n S R X : Nat) (s : ByteArray) (A : Option Addr) (c : Nat) (p : List S50) (t : Re) (w0 wb w : World) : Prop where
  inv : RunInv B gv mb fb s A c p t w0 wb w
  hnow : Blk w (B + 2) 76 (pl S)
  hnv : Blk w g 3 [.int .i64 (n : Int)]
  hr : Blk w (g + 1) 76 (pl R)
  hx : Blk w (g + 1 + 1) 76 (pl X)
  hgB : B + 2 < g
theorem TestInv.next {B gv mb fb g n S R X : Nat} {s : ByteArray} {A : Option Addr} {c : Nat} {p : List S50} {t : Re} {w0 wb w w' : World} {L : List Nat} (h : TestInv B gv mb fb g n S R X s A c p t w0 wb w) (k : Chg L w w') (hL : ∀ x, x ∈ L → x = gv) : TestInv B gv mb fb g n S R X s A c p t w0 wb w' := by
  have h1 := h.inv.hgv
  have h2 := h.hgB
  exact ⟨h.inv.next k (fun x hx => .inl (hL x hx)), h.hnow.keep k (fun hm => by have := hL _ hm; omega), h.hnv.keep k (fun hm => by have := hL _ hm; omega), h.hr.keep k (fun hm => by have := hL _ hm; omega), h.hx.keep k (fun hm => by have := hL _ hm; omega), h.hgB⟩
/-- What the test behind the places reads. -/
theorem each_cells {B gv mb fb g n S R X : Nat} {s : ByteArray} {A : Option Addr} {c : Nat} {p : List S50} {t : Re} {w0 wb w' : World} (h : TestInv B gv mb fb g n S R X s A c p t w0 wb w') :
    w'.cell? ⟨g, 0, none⟩ = some (.int .i64 (n : Int)) ∧ w'.cell? ⟨B, 0, none⟩ = some (.pointer (some ⟨mb, 0, none⟩)) ∧ w'.cell? ⟨g + 1, 0, none⟩ = some (.int .u64 (limb R 0)) ∧ w'.cell? ⟨g + 1, 1, none⟩ = some (.int .u64 (limb R 1)) ∧ w'.cell? ⟨g + 1, 2, none⟩ = some (.int .u64 (limb R 2)) ∧ w'.cell? ⟨g + 1, 3, none⟩ = some (.int .u64 (limb R 3)) ∧ w'.cell? ⟨g + 1, 4, none⟩ = some (.int .u64 (limb R 4)) ∧ w'.cell? ⟨g + 1, 5, none⟩ = some (.int .u64 (limb R 5)) ∧ w'.cell? ⟨g + 1, 6, none⟩ = some (.int .u64 (limb R 6)) ∧ w'.cell? ⟨g + 1, 7, none⟩ = some (.int .u64 (limb R 7)) ∧ w'.cell? ⟨mb, 9, none⟩ = some (.int .u64 (limb t.last 0)) ∧ w'.cell? ⟨mb, 10, none⟩ = some (.int .u64 (limb t.last 1)) ∧ w'.cell? ⟨mb, 11, none⟩ = some (.int .u64 (limb t.last 2)) ∧ w'.cell? ⟨mb, 12, none⟩ = some (.int .u64 (limb t.last 3)) ∧ w'.cell? ⟨mb, 13, none⟩ = some (.int .u64 (limb t.last 4)) ∧ w'.cell? ⟨mb, 14, none⟩ = some (.int .u64 (limb t.last 5)) ∧ w'.cell? ⟨mb, 15, none⟩ = some (.int .u64 (limb t.last 6)) ∧ w'.cell? ⟨mb, 16, none⟩ = some (.int .u64 (limb t.last 7)) := by
  obtain ⟨u0, u1, u2, u3, u4, u5, u6, u7⟩ := cells8 (o := 0) h.hr (fun k hk => by rw [Nat.zero_add]; exact pl_get _ k hk)
  obtain ⟨v0, v1, v2, v3, v4, v5, v6, v7⟩ := cells8 (o := 9) (S := t.last) h.inv.hmb mc_last
  exact ⟨h.hnv.cell 0, h.inv.hm.cell 0, u0, u1, u2, u3, u4, u5, u6, u7, v0, v1, v2, v3, v4, v5, v6, v7⟩
/-- meets, the argument written out. -/
theorem meets_ex (g t o : Nat) (cs : List Value) (S T : Nat) (w : World) (hS : Small S) (hb : Blk w g t cs) (ha : At8 cs o S) :
    Calls Tryd.prog 72 #[.pointer (some ⟨g, o, none⟩), .agg #[.int .u64 (limb T 0), .int .u64 (limb T 1), .int .u64 (limb T 2), .int .u64 (limb T 3), .int .u64 (limb T 4), .int .u64 (limb T 5), .int .u64 (limb T 6), .int .u64 (limb T 7)]] w fun e w' => e = .returned (.bool (meetsB S T)) ∧ Chg [] w w' := meets_any g t o cs S T w hS hb ha

set_option maxHeartbeats 4000000 in
theorem run_any (G gv mb fb : Nat) (caps : Array Value) (J : List Bool → World → Prop) (s : ByteArray) (A : Option Addr) (c : Nat) (p : List S50) (t : Re) (w0 w : World)
    (hs : s.size ≤ 140737488351232) (hG : ∀ args w, (callFunc G args).run Tryd.prog w = .ok (.enter G args) w)
    (hC : Kd.C k50 w0 A p.length p) (hM : IsMach w0 w mb fb A c p t) (hB : Below w0.heap.size w0 w) (hlt0 : 0 < w0.heap.size) (htab : Tab w) (hp5 : p.length ≤ 512) {root : Nat} (ht : IsRe p root t)
    (hgv : gv < w.heap.size) (hgv0 : w0.heap.size ≤ gv) (hgm : gv ≠ mb) (hgf : gv ≠ fb)
    (hJ0 : J [] w) (hJs : ∀ l w1 w2, J l w1 → Below w.heap.size w1 w2 → J l w2)
    (hJc : ∀ l m r, runs p (t.link (List.replicate p.length 0)) t.last (bytesOf s) t.first = l ++ m :: r → ∀ w1, J l w1 → Calls Tryd.prog G (#[.int .i64 ((l.length : Int) + 1), .bool m] ++ caps) w1 fun e w' => e = .returned (.bool true) ∧ J (l ++ [m]) w' ∧ Chg [gv] w1 w') :
    Calls Tryd.prog 43 #[.pointer (some ⟨mb, 0, none⟩), .string s, .func (.func G) #[] caps] w fun e w' => e = .returned (.tuple #[]) ∧ J (runs p (t.link (List.replicate p.length 0)) t.last (bytesOf s) t.first) w' ∧ Chg [gv] w w' := by
  have HM := Lib.hid hM
  obtain ⟨MS, hMS⟩ : ∃ MS, MS = runs p (t.link (List.replicate p.length 0)) t.last (bytesOf s) t.first := ⟨_, rfl⟩
  rw [← hMS] at hJc ⊢
  have HMS := Lib.hid hMS
  have HJ0 := Lib.hid hJ0
  have HJS := Lib.hid hJs
  have HJC := Lib.hid hJc
  have HB := Lib.hid hB
  have l1 := hM.hmb.lt
  have c1 := cells8 (o := 1) (S := t.first) hM.hmb mc_first
  obtain ⟨u0, u1, u2, u3, u4, u5, u6, u7⟩ := c1
  simp only [Nat.reduceAdd] at u0 u1 u2 u3 u4 u5 u6 u7
  have l2 : mb < w.heap.size + 1 := by omega
  clear hM hJ0 hJs hJc hB hMS
  go_enter Tryd.func43, Tryd.ntmps43
  go_wp2
  generalize hBq : w.heap.size = B at *
  generalize hW : World.alloc _ _ = W
  have f1 : Blk W B 61 [.pointer (some ⟨mb, 0, none⟩)] := by subst hW; subst hBq; exact ((Blk.new w _ 61).alloc _).alloc _
  have f2 : Blk W (B + 1) 9 [.string s] := by subst hW; subst hBq; refine Blk.alloc ?_ _; exact Blk.new2 w _ _ 61 9
  have f3 : Blk W (B + 1 + 1) 76 (pl t.first) := by subst hW; subst hBq; exact Blk.new3 w _ _ _ 61 9 76
  have c0 := Lib.hid (show Chg [] w W by subst hW; exact (((Chg.refl _ _).alloc _).alloc _).alloc _)
  clear hW
  have hB0 : w0.heap.size ≤ B := by rw [← hBq]; exact HB.out.size
  have SM := Lib.hid (ht.small hp5)
  have PLC := Lib.hid ht.places
  have I0 : Hid (RunInv B gv mb fb s A c p t w0 w W) := Lib.hid
    { tab := htab.chg c0.out (by simp), below := HB.out.trans ⟨c0.out.os, c0.out.tape, c0.out.output, c0.out.size, fun i hi => c0.out.block i (by omega) (by simp)⟩, hC := hC, hm := f1, hs := f2, hmb := HM.out.hmb.keep c0.out (by simp), hfb := HM.out.hfb.keep c0.out (by simp),
      hn5 := hp5, hlink := link_within ht _ (within_zero _ _), new := hlt0, size0 := hB0, size := hBq, chg := c0.out.mono (by simp), hgv := hgv, gv0 := hgv0, gvm := hgm, gvf := hgf, mbB := l1, fbB := by rw [← hBq]; exact HM.out.hfb.lt, sS := SM.out, hgs := by have := f2.lt; omega }
  have J0 : Hid (J [] W) := Lib.hid (HJS.out [] w W HJ0.out (hBq ▸ c0.out.below))
  have F3 := Lib.hid f3
  clear f1 f2 f3 c0 u0 u1 u2 u3 u4 u5 u6 u7 hC htab l2
  go_loopw [16] (fun cn wr => ∃ (n S : Nat) (l : List Bool), cn = .int .i64 n ∧ n ≤ s.size ∧ Hid (l.length = n) ∧ Hid (l ++ runs p (t.link (List.replicate p.length 0)) t.last ((bytesOf s).drop n) S = MS) ∧ Hid (∀ j, S.testBit j = true → j < p.length) ∧ Hid (RunInv B gv mb fb s A c p t w0 w wr) ∧ Hid (Blk wr (B + 1 + 1) 76 (pl S)) ∧ Hid (J l wr)) (fun cn _ => s.size - (intOf cn).toNat)
  case atStart => exact ⟨0, t.first, [], rfl, by omega, Lib.hid rfl, Lib.hid HMS.out.symm, Lib.hid PLC.out.1, I0, F3, J0⟩
  case round =>
    obtain ⟨n, S, l, rfl, hn, hl, hr, hS, hI, hNow, hJ⟩ := hrel
    by_cases hlt : n < s.size
    · have hnI : (n : Int) < (s.size : Int) := by omega
      have hnb : decide ((n : Int) < (s.size : Int)) = true := by simp; omega
      have hdrop : Hid ((bytesOf s).drop n = bt s n :: (bytesOf s).drop (n + 1)) := Lib.hid (drop_bytes s n hlt)
      go_wp2_with fail
      generalize hg : wr.heap.size = g at *
      generalize hW : World.alloc _ _ = W1
      have f1 : Blk W1 g 3 [.int .i64 (n : Int)] := by subst hW; subst hg; exact ((Blk.new wr _ 3).alloc _).alloc _
      have f2 : Blk W1 (g + 1) 76 (pl 0) := by subst hW; subst hg; refine Blk.alloc ?_ _; exact pl_zero8 ▸ Blk.new2 wr _ _ 3 76
      have f3 : Blk W1 (g + 1 + 1) 76 (pl 0) := by subst hW; subst hg; exact pl_zero8 ▸ Blk.new3 wr _ _ _ 3 76 76
      have c1 := Lib.hid (show Chg [] wr W1 by subst hW; exact (((Chg.refl _ _).alloc _).alloc _).alloc _)
      clear hW
      have hgB : B + 2 < g := by rw [← hg]; exact hNow.out.lt
      have E0 : Hid (EachInv B gv mb fb g n S s A c p t w0 w W1 [] W1) := Lib.hid ⟨hI.out.next c1.out (by simp), hNow.out.keep c1.out (by simp), f1, f2, f3, Chg.refl _ _⟩
      clear f1 f2 f3
      refine (each_run B gv mb fb g n S s A c p t w0 w W1 hlt hgB hS.out E0.out).mono ?_
      intro e w2 hp
      obtain ⟨rfl, hE⟩ := hp
      obtain ⟨R, hR⟩ : ∃ R, R = stepR p (bt s n) (below S 512) 0 := ⟨_, rfl⟩
      have JW : Hid (J l w2) := Lib.hid (HJS.out l W1 w2 (HJS.out l wr W1 hJ.out ⟨c1.out.os, c1.out.tape, c1.out.output, c1.out.size, fun i hi => c1.out.block i (by omega) (by simp)⟩) ⟨hE.chg.os, hE.chg.tape, hE.chg.output, hE.chg.size, fun i hi => hE.chg.block i (by have := c1.out.size; omega) (by simp; omega)⟩)
      have hr1 := hE.hr
      rw [← hR] at hr1
      have HR := Lib.hid hR
      have HE := Lib.hid hE
      have d1 : w2.cell? ⟨g, 0, none⟩ = some (.int .i64 (n : Int)) := hE.hnv.cell 0
      have d2 : w2.cell? ⟨B, 0, none⟩ = some (.pointer (some ⟨mb, 0, none⟩)) := hE.inv.hm.cell 0
      clear hR hE
      have sR : Small R := small_of fun j hj => by
        rw [HR.out, stepR_bit] at hj
        simp only [Nat.zero_testBit, Bool.false_or, decide_eq_true_eq] at hj
        exact (mem_below.1 hj.1).1
      have heq := run_eql_set R sR
      have nW : B ≤ W1.heap.size := by have := c1.out.size; omega
      have gsz : g + 1 + 1 < w2.heap.size := HE.out.hx.lt
      obtain ⟨X, hXq⟩ : ∃ X, X = stepN p (t.link (List.replicate p.length 0)) (bt s n) (below S 512) 0 := ⟨_, rfl⟩
      have HXQ := Lib.hid hXq
      have T2 : Hid (TestInv B gv mb fb g n S R X s A c p t w0 w w2) := Lib.hid ⟨HE.out.inv, HE.out.hnow, HE.out.hnv, by rw [HR.out]; exact HE.out.hr, by rw [hXq]; exact HE.out.hx, hgB⟩
      clear hXq
      obtain ⟨q0, q1, u0, u1, u2, u3, u4, u5, u6, u7, v0, v1, v2, v3, v4, v5, v6, v7⟩ := each_cells T2.out
      clear d1 d2 hr1
      by_cases hR0 : R = 0
      · have hRb : (R == 0) = true := by simpa using hR0
        have HZ := Lib.hid hR0
        clear hR0
        have hfin : Hid (l = MS) := Lib.hid (by have := hr.out; rw [hdrop.out] at this; simpa [runs, ← HR.out, HZ.out] using this)
        go_wp2
        go_quiet (fail)
        go_wp2
        refine bodyPost_ret (results_none rfl _ _ _) rfl ?_
        have h := HJS.out l w2 (w2.drewN nq) JW.out ⟨rfl, rfl, rfl, Nat.le_refl _, fun _ _ => rfl⟩
        rw [hfin.out] at h
        exact ⟨rfl, h, HE.out.inv.chg.drewN _⟩
      · have hRb : (R == 0) = false := by simpa using hR0
        have HZ := Lib.hid hR0
        clear hR0
        have hstep : Hid (∀ w1, J l w1 → Calls Tryd.prog G (#[.int .i64 ((n : Int) + 1), .bool (meetsB R t.last)] ++ caps) w1 fun e w' => e = .returned (.bool true) ∧ J (l ++ [meetsB R t.last]) w' ∧ Chg [gv] w1 w') := Lib.hid (by
          have := hr.out; rw [hdrop.out] at this; simp only [runs, ← HR.out, if_neg HZ.out] at this
          have h2 := HJC.out l (meetsB R t.last) _ this.symm
          rw [hl.out] at h2
          exact h2)
        have hnext : Hid ((l ++ [meetsB R t.last]) ++ runs p (t.link (List.replicate p.length 0)) t.last ((bytesOf s).drop (n + 1)) X = MS) := Lib.hid (by have := hr.out; rw [hdrop.out] at this; simp only [runs, ← HR.out, if_neg HZ.out, ← HXQ.out] at this; simpa using this)
        have hX : Hid (∀ j, X.testBit j = true → j < p.length) := Lib.hid (fun j hj => by
          rw [HXQ.out, stepN_bit] at hj
          rcases hj with hj | ⟨i, _, _, hj⟩
          · simp at hj
          · exact HE.out.inv.hlink i j hj)
        have hw1 : IntKind.i64.wrap ((n : Int) + 1) = (n : Int) + 1 := IntWalk.i64_in _ (by omega)
        go_wp2
        go_region_held3 (fun w' => w'.cell? ⟨g, 0, none⟩ = some (.int .i64 (n : Int)) ∧ w'.cell? ⟨B, 0, none⟩ = some (.pointer (some ⟨mb, 0, none⟩)) ∧ w'.cell? ⟨g + 1, 0, none⟩ = some (.int .u64 (limb R 0)) ∧ w'.cell? ⟨g + 1, 1, none⟩ = some (.int .u64 (limb R 1)) ∧ w'.cell? ⟨g + 1, 2, none⟩ = some (.int .u64 (limb R 2)) ∧ w'.cell? ⟨g + 1, 3, none⟩ = some (.int .u64 (limb R 3)) ∧ w'.cell? ⟨g + 1, 4, none⟩ = some (.int .u64 (limb R 4)) ∧ w'.cell? ⟨g + 1, 5, none⟩ = some (.int .u64 (limb R 5)) ∧ w'.cell? ⟨g + 1, 6, none⟩ = some (.int .u64 (limb R 6)) ∧ w'.cell? ⟨g + 1, 7, none⟩ = some (.int .u64 (limb R 7)) ∧ w'.cell? ⟨mb, 9, none⟩ = some (.int .u64 (limb t.last 0)) ∧ w'.cell? ⟨mb, 10, none⟩ = some (.int .u64 (limb t.last 1)) ∧ w'.cell? ⟨mb, 11, none⟩ = some (.int .u64 (limb t.last 2)) ∧ w'.cell? ⟨mb, 12, none⟩ = some (.int .u64 (limb t.last 3)) ∧ w'.cell? ⟨mb, 13, none⟩ = some (.int .u64 (limb t.last 4)) ∧ w'.cell? ⟨mb, 14, none⟩ = some (.int .u64 (limb t.last 5)) ∧ w'.cell? ⟨mb, 15, none⟩ = some (.int .u64 (limb t.last 6)) ∧ w'.cell? ⟨mb, 16, none⟩ = some (.int .u64 (limb t.last 7))) (first | go_keep | assumption)
          (first
            | (go_at_call 72; refine (meets_ex (g + 1) 76 0 _ R t.last _ sR T2.out.hr.drew (pl_at8 R)).mono ?_; intro e w3 hp; obtain ⟨rfl, k⟩ := hp; have T3 := Lib.hid (T2.out.next (((Chg.refl [] w2).drew).trans k) (by simp)); obtain ⟨q0, q1, u0, u1, u2, u3, u4, u5, u6, u7, v0, v1, v2, v3, v4, v5, v6, v7⟩ := each_cells T3.out; have J3 : Hid (J l w3) := Lib.hid (HJS.out l w2 w3 JW.out ⟨k.os, k.tape, k.output, k.size, fun i hi => k.block i (by have h9 := T2.out.inv.hgs; have := T2.out.hnow.lt; show i < w2.heap.size; omega) (by simp)⟩); clear k)
            | (go_at_fn G; refine (hstep.out _ J3.out).mono ?_; intro e w4 hp; obtain ⟨rfl, k1, k2⟩ := hp; have T4 := Lib.hid (T3.out.next k2 (by simp)); have J4 := Lib.hid k1; obtain ⟨q0, q1, u0, u1, u2, u3, u4, u5, u6, u7, v0, v1, v2, v3, v4, v5, v6, v7⟩ := each_cells T4.out; clear k1 k2))
        obtain ⟨y0, y1, y2, y3, y4, y5, y6, y7⟩ := cells8 (o := 0) T4.out.hx (fun k hk => by rw [Nat.zero_add]; exact pl_get _ k hk)
        obtain ⟨z0, z1, z2, z3, z4, z5, z6, z7⟩ := cells8 (o := 0) (g := B + 1 + 1) T4.out.hnow (fun k hk => by rw [Nat.zero_add]; exact pl_get _ k hk)
        simp only [Nat.zero_add] at y0 y1 y2 y3 y4 y5 y6 y7 z0 z1 z2 z3 z4 z5 z6 z7
        have fr : ∀ k, w4.frozen? ⟨B + 1 + 1, k, none⟩ = false := fun k => T4.out.hnow.frozen k
        have bn := T4.out.hnow.store8 0 X (by simp [pl_length])
        rw [pl_put8] at bn
        have BN : Hid (Blk (store8 w4 (B + 1 + 1) 0 X) (B + 1 + 1) 76 (pl X)) := Lib.hid bn
        have IN : Hid (RunInv B gv mb fb s A c p t w0 w (store8 w4 (B + 1 + 1) 0 X)) := Lib.hid (T4.out.inv.next (store8_self w4 (B + 1 + 1) 0 X) (by simp))
        have JN : Hid (J (l ++ [meetsB R t.last]) (store8 w4 (B + 1 + 1) 0 X)) := Lib.hid (HJS.out _ w4 _ J4.out (by
          have k := store8_self w4 (B + 1 + 1) 0 X
          exact ⟨k.os, k.tape, k.output, k.size, fun i hi => k.block i (by have := T4.out.hnow.lt; omega) (by simp; omega)⟩))
        have HL : Hid ((l ++ [meetsB R t.last]).length = n + 1) := Lib.hid (by rw [List.length_append, hl.out]; rfl)
        clear bn q0 q1 u0 u1 u2 u3 u4 u5 u6 u7 v0 v1 v2 v3 v4 v5 v6 v7
        go_wp2
        go_roundw
        case rel => exact ⟨n + 1, X, _, by go_num, by omega, HL, hnext, hX, IN, BN, JN⟩
        case measure => simp [intOf]; omega
    · have : n = s.size := by omega
      subst this
      have hfin : Hid (l = MS) := Lib.hid (by have := hr.out; rw [List.drop_of_length_le (by rw [bytesOf_length]; omega)] at this; simpa [runs] using this)
      go_wp2
      go_end0
      have h := hJ.out
      rw [hfin.out] at h
      exact ⟨rfl, h, hI.out.chg⟩
end Go.Proofs.YtaphblnelmncaaaDoor.PA
end

section
/- The walks over Longest and Matches. -/
set_option linter.unusedVariables false
namespace Go.Proofs.YtaphblnelmncaaaDoor.PA
open Go.RowKit Go.Proofs.YtaphblnelmncaaaDoorW.PrintWords Go.Proofs.YtaphblnelmncaaaDoorW.PrintLast Go.Proofs.YtaphblnelmncaaaDoorW.PrintMore

theorem ret_two_ib {k : IntKind} {a b : Int} {x y : Bool} (h : a = b) (g : x = y) : Ending.returned (.tuple #[.int k a, .bool x]) = .returned (.tuple #[.int k b, .bool y]) := by rw [h, g]
theorem enters44 : ∀ args w, (callFunc 44 args).run Tryd.prog w = .ok (.enter 44 args) w := enters_of Tryd.func44 (by kernel_rfl) rfl
theorem enters53 : ∀ args w, (callFunc 53 args).run Tryd.prog w = .ok (.enter 53 args) w := enters_of Tryd.func53 (by kernel_rfl) rfl

/-- The number of the last true flag, counted from i + 1 on. -/
def lastTrue : List Bool → Nat → Nat → Nat
  | [], _, b => b
  | m :: ms, i, b => lastTrue ms (i + 1) (if m then i + 1 else b)
theorem lastTrue_snoc (l : List Bool) (m : Bool) (i b : Nat) : lastTrue (l ++ [m]) i b = if m then i + l.length + 1 else lastTrue l i b := by
  induction l generalizing i b with
  | nil => simp [lastTrue]
  | cons a l ih => simp only [List.cons_append, lastTrue, ih, List.length_cons]; split <;> omega
theorem lastTrue_le (l : List Bool) (i b : Nat) (h : b ≤ i) : lastTrue l i b ≤ i + l.length := by
  induction l generalizing i b with
  | nil => simpa [lastTrue] using h
  | cons a l ih => simp only [lastTrue, List.length_cons]; have := ih (i + 1) (if a then i + 1 else b) (by split <;> omega); omega
theorem runs_length (p : List S50) (F : List Nat) (last : Nat) (bs : List Int) (S : Nat) : (runs p F last bs S).length ≤ bs.length := by
  induction bs generalizing S with
  | nil => simp [runs]
  | cons b bs ih => simp only [runs]; split; simp; rw [List.length_cons, List.length_cons]; have := ih (stepN p F b (below S 512) 0); omega

/-- Longest's closure. -/
theorem longest1_any (bv : Nat) (n old : Int) (m : Bool) (w : World) (hb : Blk w bv 3 [.int .i64 old]) :
    Calls Tryd.prog 44 #[.int .i64 n, .bool m, .pointer (some ⟨bv, 0, none⟩)] w fun e w' => e = .returned (.bool true) ∧ Blk w' bv 3 [.int .i64 (if m then n else old)] ∧ Chg [bv] w w' := by
  have c1 : w.cell? ⟨bv, 0, none⟩ = some (.int .i64 old) := hb.cell 0
  have f1 := hb.frozen 0
  have HB := Lib.hid hb
  clear hb
  cases m
  · go_enter Tryd.func44, Tryd.ntmps44
    go_wp2
    go_ret
    exact ⟨rfl, HB.out, Chg.refl _ _⟩
  · have h2 : Hid (Blk (w.setCell ⟨bv, 0, none⟩ (.int .i64 n)) bv 3 [.int .i64 n]) := Lib.hid (HB.out.set 0 (.int .i64 n))
    go_enter Tryd.func44, Tryd.ntmps44
    go_wp2
    go_ret
    exact ⟨rfl, h2.out, (Chg.refl _ _).setCell (by simp) _⟩

theorem IsMach.weaken {w0 w1 w : World} {mb fb : Nat} {A : Option Addr} {c : Nat} {p : List S50} {t : Re} (h : IsMach w1 w mb fb A c p t) (hs : w0.heap.size ≤ w1.heap.size) : IsMach w0 w mb fb A c p t :=
  ⟨h.hmb, h.hfb, Nat.le_trans hs h.new1, Nat.le_trans hs h.new2, h.ne⟩
theorem Blk.keepB {w w' : World} {g t B : Nat} {cs : List Value} (h : Blk w g t cs) (k : Below B w w') (hg : g < B) : Blk w' g t cs := (k.block g hg).trans h
theorem below_trans {w w1 w2 : World} (h : Below w.heap.size w w1) (k : Below w1.heap.size w1 w2) : Below w.heap.size w w2 := h.trans (k.mono h.size)

/-- The flags of a pattern's tree on a string. -/
def flags (p : List S50) (t : Re) (bs : List Int) : List Bool := runs p (t.link (List.replicate p.length 0)) t.last bs t.first

theorem extract_bytes (s : ByteArray) (a : Nat) (h : a ≤ s.size) : bytesOf (s.extract a s.size) = (bytesOf s).drop a := by
  unfold bytesOf
  rw [← List.map_drop]
  congr 1
  simp only [ByteArray.extract, ByteArray.copySlice]
  simp
  exact List.take_of_length_le (by simp)

set_option maxHeartbeats 1000000 in
theorem longest_bad (A : Option Addr) (c : Nat) (p : List S50) (s : ByteArray) (i : Int) (w : World) (hC : Kd.C k50 w A p.length p) (hc : p.length ≤ c) (hb : p.length * 40 ≤ 140737488351232) (hs : s.size ≤ 140737488351232)
    (hbad : chk p ≠ 0 ∨ i < 0 ∨ (s.size : Int) < i) :
    Calls Tryd.prog 17 #[.slice A p.length c, .string s, .int .i64 i] w fun e w' => e = .returned (.tuple #[.int .i64 0, .bool false]) ∧ Below w.heap.size w w' := by
  have K := Lib.hid (check_any A c p w hC hc hb)
  clear hC
  by_cases h1 : chk p = 0
  · have hb1 : (chk p != 0) = false := by simpa using h1
    have H1 := Lib.hid h1
    by_cases h2 : i < 0
    · clear h1 hbad
      go_enter Tryd.func17, Tryd.ntmps17
      go_wp2_with (go_at_call 21; refine K.out.mono ?_; rintro e w1 ⟨rfl, hk⟩; have HK := Lib.hid hk; clear hk)
      go_ret2
      exact ⟨rfl, HK.out⟩
    · have h3 : (s.size : Int) < i := by rcases hbad with h | h | h; exact absurd h1 h; exact absurd h h2; exact h
      clear h1 hbad
      go_enter Tryd.func17, Tryd.ntmps17
      go_wp2_with (go_at_call 21; refine K.out.mono ?_; rintro e w1 ⟨rfl, hk⟩; have HK := Lib.hid hk; clear hk)
      go_ret2
      exact ⟨rfl, HK.out⟩
  · have hb1 : (chk p != 0) = true := by simpa using h1
    clear h1 hbad
    go_enter Tryd.func17, Tryd.ntmps17
    go_wp2_with (go_at_call 21; refine K.out.mono ?_; rintro e w1 ⟨rfl, hk⟩; have HK := Lib.hid hk; clear hk)
    go_ret2
    exact ⟨rfl, HK.out⟩

theorem longest_run (A : Option Addr) (c : Nat) (p : List S50) (t : Re) (s : ByteArray) (bv mb fb : Nat) (w W w2 : World) (hC : Kd.C k50 w A p.length p) (hn : p.length ≤ 512) (hs : s.size ≤ 140737488351232) (ht : IsRe p (p.length - 1) t) (htab : Tab w)
    (hb : Blk W bv 3 [.int .i64 0]) (hbw : w.heap.size ≤ bv) (bW : Below w.heap.size w W) (hm : IsMach W w2 mb fb A c p t) (b2 : Below W.heap.size W w2) :
    Calls Tryd.prog 43 #[.pointer (some ⟨mb, 0, none⟩), .string s, .func (.func 44) #[] #[.pointer (some ⟨bv, 0, none⟩)]] w2 fun e w' => e = .returned (.tuple #[]) ∧ Blk w' bv 3 [.int .i64 (lastTrue (flags p t (bytesOf s)) 0 0 : Nat)] ∧ Below w.heap.size w w' := by
  have hb2 : Blk w2 bv 3 [.int .i64 0] := hb.below b2
  have bW2 : Below w.heap.size w w2 := below_trans bW b2
  refine (run_any 44 bv mb fb #[.pointer (some ⟨bv, 0, none⟩)] (fun l w' => Blk w' bv 3 [.int .i64 (lastTrue l 0 0 : Nat)]) s A c p t w w2 hs enters44 hC (hm.weaken bW.size) bW2 htab.1 (htab.chg (Chg.of_below (L := []) bW2) (by simp)) hn ht
    hb2.lt hbw (by have := hm.new1; have := hb.lt; omega) (by have := hm.new2; have := hb.lt; omega) hb2 (fun l w1 w3 h k => h.keepB k hb2.lt) ?_).mono ?_
  · intro l m r hl w1 hw1
    refine (longest1_any bv ((l.length : Int) + 1) _ m w1 hw1).mono ?_
    rintro e w' ⟨rfl, h1, h2⟩
    refine ⟨rfl, ?_, h2⟩
    rw [lastTrue_snoc]
    cases m
    · exact h1
    · simpa using h1
  · rintro e w' ⟨rfl, h1, h2⟩
    exact ⟨rfl, h1, (Chg.of_below (L := []) bW2 |>.then h2 (by simpa using hbw)).below⟩

set_option maxHeartbeats 2000000 in
theorem longest_good (A : Option Addr) (c : Nat) (p : List S50) (t : Re) (s : ByteArray) (i : Nat) (w : World) (hC : Kd.C k50 w A p.length p) (hc : p.length ≤ c) (hn : p.length ≤ 512) (hs : s.size ≤ 140737488351232)
    (h0 : chk p = 0) (ht : IsRe p (p.length - 1) t) (hi : i ≤ s.size) (htab : Tab w) :
    Calls Tryd.prog 17 #[.slice A p.length c, .string s, .int .i64 i] w fun e w' => e = .returned (.tuple #[.int .i64 (lastTrue (flags p t ((bytesOf s).drop i)) 0 0 : Nat), .bool (decide (0 < lastTrue (flags p t ((bytesOf s).drop i)) 0 0))]) ∧ Below w.heap.size w w' := by
  have K := Lib.hid (check_any A c p w hC hc (by omega))
  have HC := Lib.hid hC
  have h1 : (chk p != 0) = false := by rw [h0]; rfl
  have hiI : (i : Int) ≤ (s.size : Int) := by omega
  have H0 := Lib.hid h0
  obtain ⟨M, hM⟩ : ∃ M, M = flags p t ((bytesOf s).drop i) := ⟨_, rfl⟩
  rw [← hM]
  have HM := Lib.hid hM
  have hMl : Hid (M.length ≤ s.size) := Lib.hid (by
    rw [hM]
    refine Nat.le_trans (runs_length p (t.link (List.replicate p.length 0)) t.last ((bytesOf s).drop i) t.first) ?_
    rw [List.length_drop, bytesOf_length]
    omega)
  clear hC h0 hM
  go_enter Tryd.func17, Tryd.ntmps17
  go_wp2_with (go_at_call 21; refine K.out.mono ?_; rintro e w1 ⟨rfl, hk⟩; have HK := Lib.hid hk; have hw1 : w.heap.size ≤ w1.heap.size := hk.size; clear hk)
  generalize hg : w1.heap.size = bv at *
  generalize hW : World.alloc _ _ = W
  have f1 : Blk W bv 3 [.int .i64 0] := by subst hW; subst hg; exact Blk.new w1 _ 3
  have kW : Below w1.heap.size w1 W.drew := by subst hW; exact (((Chg.refl [] w1).alloc _).drew).below
  have bW : Below w.heap.size w W.drew := below_trans HK.out kW
  have F1 := Lib.hid f1
  have BW := Lib.hid bW
  have COM := Lib.hid (compile_any A c p t W.drew (Kd.C_below HC.out bW) hc hn ht (htab.chg (Chg.of_below (L := []) bW) (by simp)))
  have lbv := f1.lt
  clear hW f1 bW kW
  have hs2 : (s.extract i s.size).size ≤ 140737488351232 := by simp [ByteArray.size_extract]; omega
  go_region_with (first
    | (go_at_call 42; refine COM.out.mono ?_; intro e w2 hp; obtain ⟨mb, fb, rfl, hm, hb2⟩ := hp; have HMM := Lib.hid hm; have HB2 := Lib.hid hb2; clear hm hb2)
    | (go_at_call 43; refine (longest_run A c p t _ bv mb fb w W.drew w2 HC.out hn hs2 ht htab F1.out.drew (by omega) BW.out HMM.out HB2.out).mono ?_; intro e w3 hp; obtain ⟨rfl, j1, j2⟩ := hp; have J1 := Lib.hid j1; have J2 := Lib.hid j2; clear j1 j2))
  all_goals (
    have j := J1.out
    rw [extract_bytes s i hi, ← HM.out] at j
    have cj : w3.cell? ⟨bv, 0, none⟩ = some (.int .i64 (lastTrue M 0 0 : Nat)) := j.cell 0
    clear j
    go_wp2
    go_quiet (fail)
    go_wp2
    go_ret2
    exact ⟨ret_two_ib rfl (by simp), below_trans J2.out ⟨rfl, rfl, rfl, Nat.le_refl _, fun _ _ => rfl⟩⟩)
end Go.Proofs.YtaphblnelmncaaaDoor.PA
end

section
/- The walk over Matches. -/
set_option linter.unusedVariables false
namespace Go.Proofs.YtaphblnelmncaaaDoor.PA
open Go.RowKit Go.Proofs.YtaphblnelmncaaaDoorW.PrintWords Go.Proofs.YtaphblnelmncaaaDoorW.PrintLast Go.Proofs.YtaphblnelmncaaaDoorW.PrintMore

/-- What the flags say of the whole string of n bytes. -/
def mtAll (n : Nat) : List Bool → Nat → Bool → Bool
  | [], _, b => b
  | m :: ms, i, b => mtAll n ms (i + 1) (decide (i + 1 = n) && m)
theorem mtAll_snoc (n : Nat) (l : List Bool) (m : Bool) (i : Nat) (b : Bool) : mtAll n (l ++ [m]) i b = (decide (i + l.length + 1 = n) && m) := by
  induction l generalizing i b with
  | nil => simp [mtAll]
  | cons a l ih => simp only [List.cons_append, mtAll, ih, List.length_cons]; congr 2; simp; omega

/-- Matches' closure. -/
theorem matches1_any (sv mv : Nat) (n : Nat) (old m : Bool) (s : ByteArray) (w : World) (hs : Blk w sv 9 [.string s]) (hb : Blk w mv 4 [.bool old]) (hn : n < 140737488351233) :
    Calls Tryd.prog 53 #[.int .i64 (n : Int), .bool m, .pointer (some ⟨sv, 0, none⟩), .pointer (some ⟨mv, 0, none⟩)] w fun e w' => e = .returned (.bool true) ∧ Blk w' mv 4 [.bool (decide (n = s.size) && m)] ∧ Chg [mv] w w' := by
  have c0 : w.cell? ⟨sv, 0, none⟩ = some (.string s) := hs.cell 0
  have c1 : w.cell? ⟨mv, 0, none⟩ = some (.bool old) := hb.cell 0
  have f1 := hb.frozen 0
  have HB := Lib.hid hb
  clear hb hs
  by_cases hns : n = s.size
  · have hd : ((n : Int) == (s.size : Int)) = true := beq_iff_eq.2 (by omega)
    have h2 : Hid (Blk (w.setCell ⟨mv, 0, none⟩ (.bool m)) mv 4 [.bool (decide (n = s.size) && m)]) := Lib.hid (by have := HB.out.set 0 (.bool m); simpa [hns] using this)
    have HN := Lib.hid hns
    clear hns
    go_enter Tryd.func53, Tryd.ntmps53
    go_wp2
    go_ret
    exact ⟨rfl, h2.out, (Chg.refl _ _).setCell (by simp) _⟩
  · have hd : ((n : Int) == (s.size : Int)) = false := beq_eq_false_iff_ne.2 (by omega)
    have h2 : Hid (Blk (w.setCell ⟨mv, 0, none⟩ (.bool false)) mv 4 [.bool (decide (n = s.size) && m)]) := Lib.hid (by have := HB.out.set 0 (.bool false); simpa [hns] using this)
    have HN := Lib.hid hns
    clear hns
    go_enter Tryd.func53, Tryd.ntmps53
    go_wp2
    go_ret
    exact ⟨rfl, h2.out, (Chg.refl _ _).setCell (by simp) _⟩

/-- What Matches answers for a pattern in order. -/
def matchB (p : List S50) (t : Re) (bs : List Int) : Bool := mtAll bs.length (flags p t bs) 0 (decide (bs.length = 0) && t.null)

theorem matches_run (A : Option Addr) (c : Nat) (p : List S50) (t : Re) (s : ByteArray) (sv bv mb fb : Nat) (w W w2 : World) (hC : Kd.C k50 w A p.length p) (hn : p.length ≤ 512) (hs : s.size ≤ 140737488351232) (ht : IsRe p (p.length - 1) t) (htab : Tab w)
    (hsv : Blk w2 sv 9 [.string s]) (hb : Blk w2 bv 4 [.bool (decide (s.size = 0) && t.null)]) (hbw : w.heap.size ≤ bv) (hm : IsMach w w2 mb fb A c p t) (hbm : bv ≠ mb) (hbf : bv ≠ fb) (b2 : Below w.heap.size w w2) :
    Calls Tryd.prog 43 #[.pointer (some ⟨mb, 0, none⟩), .string s, .func (.func 53) #[] #[.pointer (some ⟨sv, 0, none⟩), .pointer (some ⟨bv, 0, none⟩)]] w2 fun e w' => e = .returned (.tuple #[]) ∧ Blk w' bv 4 [.bool (matchB p t (bytesOf s))] ∧ Below w.heap.size w w' := by
  refine (run_any 53 bv mb fb #[.pointer (some ⟨sv, 0, none⟩), .pointer (some ⟨bv, 0, none⟩)] (fun l w' => Blk w' sv 9 [.string s] ∧ Blk w' bv 4 [.bool (mtAll s.size l 0 (decide (s.size = 0) && t.null))]) s A c p t w w2 hs enters53 hC hm b2 htab.1 (htab.chg (Chg.of_below (L := []) b2) (by simp)) hn ht
    hb.lt hbw hbm hbf ⟨hsv, hb⟩ (fun l w1 w3 h k => ⟨h.1.keepB k hsv.lt, h.2.keepB k hb.lt⟩) ?_).mono ?_
  · intro l m r hl w1 hw1
    have hlen : l.length < s.size := by
      have h1 := runs_length p (t.link (List.replicate p.length 0)) t.last (bytesOf s) t.first
      rw [hl, List.length_append, List.length_cons, bytesOf_length] at h1
      omega
    have := matches1_any sv bv (l.length + 1) _ m s w1 hw1.1 hw1.2 (by omega)
    rw [show (((l.length + 1 : Nat) : Int)) = (l.length : Int) + 1 by omega] at this
    refine this.mono ?_
    rintro e w' ⟨rfl, h1, h2⟩
    refine ⟨rfl, ⟨hw1.1.keep h2 (by simpa using hw1.1.ne hw1.2 (by decide)), ?_⟩, h2⟩
    rw [mtAll_snoc, Nat.zero_add]
    exact h1
  · rintro e w' ⟨rfl, h1, h2⟩
    refine ⟨rfl, ?_, (Chg.of_below (L := []) b2 |>.then h2 (by simpa using hbw)).below⟩
    have := h1.2
    unfold matchB
    rw [bytesOf_length]
    exact this

set_option maxHeartbeats 1000000 in
theorem matches_bad (A : Option Addr) (c : Nat) (p : List S50) (s : ByteArray) (w : World) (hC : Kd.C k50 w A p.length p) (hc : p.length ≤ c) (hb : p.length * 40 ≤ 140737488351232) (hbad : chk p ≠ 0) :
    Calls Tryd.prog 23 #[.slice A p.length c, .string s] w fun e w' => e = .returned (.bool false) ∧ Below w.heap.size w w' := by
  have bW : Below w.heap.size w (w.alloc (.cells #[.string s] 9)) := ((Chg.refl [] w).alloc _).below
  have K := Lib.hid (check_any A c p (w.alloc (.cells #[.string s] 9)) (Kd.C_below hC bW) hc hb)
  have BW := Lib.hid bW
  have hb1 : (chk p != 0) = true := by simpa using hbad
  clear hC hbad bW
  go_enter Tryd.func23, Tryd.ntmps23
  go_wp2_with (go_at_call 21; refine K.out.mono ?_; rintro e w1 ⟨rfl, hk⟩; have HK := Lib.hid hk; clear hk)
  go_ret
  exact ⟨rfl, below_trans BW.out HK.out⟩

set_option maxHeartbeats 2000000 in
theorem matches_good (A : Option Addr) (c : Nat) (p : List S50) (t : Re) (s : ByteArray) (w : World) (hC : Kd.C k50 w A p.length p) (hc : p.length ≤ c) (hn : p.length ≤ 512) (hs : s.size ≤ 140737488351232)
    (h0 : chk p = 0) (ht : IsRe p (p.length - 1) t) (htab : Tab w) :
    Calls Tryd.prog 23 #[.slice A p.length c, .string s] w fun e w' => e = .returned (.bool (matchB p t (bytesOf s))) ∧ Below w.heap.size w w' := by
  obtain ⟨W, hW⟩ : ∃ W, W = w.alloc (.cells #[.string s] 9) := ⟨_, rfl⟩
  have bW : Below w.heap.size w W := by rw [hW]; exact ((Chg.refl [] w).alloc _).below
  have K := Lib.hid (check_any A c p W (Kd.C_below hC bW) hc (by omega))
  have fs : Blk W w.heap.size 9 [.string s] := by rw [hW]; exact Blk.new w _ 9
  have HS := Lib.hid fs
  have HC := Lib.hid hC
  have BW := Lib.hid bW
  have h1 : (chk p != 0) = false := by rw [h0]; rfl
  have H0 := Lib.hid h0
  have HW := Lib.hid hW
  rw [hW] at K
  clear hC h0 hW fs bW
  go_enter Tryd.func23, Tryd.ntmps23
  go_wp2_with (go_at_call 21; refine K.out.mono ?_; rintro e w1 ⟨rfl, hk⟩; have HK := Lib.hid hk; clear hk)
  have bk : Below W.heap.size W w1 := by rw [HW.out]; exact HK.out
  have bw1 := below_trans BW.out bk
  have fs1 := HS.out.below bk
  refine (compile_any A c p t w1 (Kd.C_below HC.out bw1) hc hn ht (htab.chg (Chg.of_below (L := []) bw1) (by simp))).mono ?_
  intro e w2 hp
  obtain ⟨mb, fb, rfl, hm, hb2⟩ := hp
  have FS2 := Lib.hid (fs1.below hb2)
  have BW2 := Lib.hid (below_trans bw1 hb2)
  have HM := Lib.hid (hm.weaken bw1.size)
  have d1 : w2.cell? ⟨w.heap.size, 0, none⟩ = some (.string s) := FS2.out.cell 0
  have d2 : w2.cell? ⟨mb, 18, none⟩ = some (.bool t.null) := (hm.hmb.cell 18).trans (by simp [mcells, pl_eq])
  have l1 := FS2.out.lt
  have l2 := hm.hmb.lt
  clear bk bw1 fs1 hm hb2 K HK HW
  by_cases hz : s.size = 0
  · have z1 : s.toList = [] := by
      rw [ByteArray.toList_eq]
      apply List.eq_nil_of_length_eq_zero
      rw [data_length, hz]
    have HZ := Lib.hid hz
    clear hz
    go_wp2_with fail
    generalize hW3 : World.alloc _ _ = W3
    have f3 : Blk W3 w2.heap.size 4 [.bool (decide (s.size = 0) && t.null)] := by subst hW3; exact Blk.newE _ _ _ _ _ rfl (by simp [HZ.out])
    have c3 : Chg [] w2 W3 := by subst hW3; exact (Chg.refl _ _).alloc _
    clear hW3
    have lt2 : w.heap.size ≤ w2.heap.size := BW2.out.size
    refine (matches_run A c p t s w.heap.size w2.heap.size mb fb w W3 W3 HC.out hn hs ht htab (FS2.out.keep c3 (by simp)) f3 lt2 ⟨HM.out.hmb.keep c3 (by simp), HM.out.hfb.keep c3 (by simp), HM.out.new1, HM.out.new2, HM.out.ne⟩ (by have := HM.out.hmb.lt; omega) (by have := HM.out.hfb.lt; omega) (below_trans BW2.out c3.below)).mono ?_
    intro e w4 hp
    obtain ⟨rfl, j1, j2⟩ := hp
    have cj : w4.cell? ⟨w2.heap.size, 0, none⟩ = some (.bool (matchB p t (bytesOf s))) := j1.cell 0
    have J2 := Lib.hid j2
    clear j1 j2 f3 c3
    go_wp2
    go_ret
    exact ⟨rfl, J2.out⟩
  · have z1 : s.toList.isEmpty = false := by
      rw [List.isEmpty_eq_false_iff]
      intro h
      apply hz
      rw [ByteArray.toList_eq] at h
      have := congrArg List.length h
      rwa [data_length] at this
    have HZ := Lib.hid hz
    clear hz
    go_wp2_with fail
    generalize hW3 : World.alloc _ _ = W3
    have f3 : Blk W3 w2.heap.size 4 [.bool (decide (s.size = 0) && t.null)] := by subst hW3; exact Blk.newE _ _ _ _ _ rfl (by simp [HZ.out])
    have c3 : Chg [] w2 W3 := by subst hW3; exact (Chg.refl _ _).alloc _
    clear hW3
    have lt2 : w.heap.size ≤ w2.heap.size := BW2.out.size
    refine (matches_run A c p t s w.heap.size w2.heap.size mb fb w W3 W3 HC.out hn hs ht htab (FS2.out.keep c3 (by simp)) f3 lt2 ⟨HM.out.hmb.keep c3 (by simp), HM.out.hfb.keep c3 (by simp), HM.out.new1, HM.out.new2, HM.out.ne⟩ (by have := HM.out.hmb.lt; omega) (by have := HM.out.hfb.lt; omega) (below_trans BW2.out c3.below)).mono ?_
    intro e w4 hp
    obtain ⟨rfl, j1, j2⟩ := hp
    have cj : w4.cell? ⟨w2.heap.size, 0, none⟩ = some (.bool (matchB p t (bytesOf s))) := j1.cell 0
    have J2 := Lib.hid j2
    clear j1 j2 f3 c3
    go_wp2
    go_ret
    exact ⟨rfl, J2.out⟩
end Go.Proofs.YtaphblnelmncaaaDoor.PA
end

section
/- The chapter's examples, reckoned. -/
set_option linter.unusedVariables false
namespace Go.Proofs.YtaphblnelmncaaaDoor.PA
open Go.RowKit Go.Proofs.YtaphblnelmncaaaDoorW.PrintWords Go.Proofs.YtaphblnelmncaaaDoorW.PrintLast Go.Proofs.YtaphblnelmncaaaDoorW.PrintMore

def sP1 : ByteArray := ⟨#[97, 40, 98, 124, 99, 41, 42]⟩
def sP2 : ByteArray := ⟨#[91, 97, 45, 122, 93, 40, 91, 97, 45, 122, 93, 41, 42]⟩
def sP3 : ByteArray := ⟨#[105, 40, 102, 124, 110, 41]⟩
def sP5 : ByteArray := ⟨#[91, 98, 45, 97, 93]⟩
def P1 : List S50 := [⟨1, 97, 97, 0, 0⟩, ⟨1, 98, 98, 0, 0⟩, ⟨1, 99, 99, 0, 0⟩, ⟨3, 0, 0, 1, 2⟩, ⟨4, 0, 0, 3, 0⟩, ⟨2, 0, 0, 0, 4⟩]
def P2 : List S50 := [⟨1, 97, 122, 0, 0⟩, ⟨1, 97, 122, 0, 0⟩, ⟨4, 0, 0, 1, 0⟩, ⟨2, 0, 0, 0, 2⟩]
def P3 : List S50 := [⟨1, 105, 105, 0, 0⟩, ⟨1, 102, 102, 0, 0⟩, ⟨1, 110, 110, 0, 0⟩, ⟨3, 0, 0, 1, 2⟩, ⟨2, 0, 0, 0, 3⟩]
def P4 : List S50 := [⟨1, 97, 97, 0, 0⟩, ⟨1, 98, 98, 0, 0⟩, ⟨1, 99, 99, 0, 0⟩, ⟨2, 0, 0, 1, 2⟩, ⟨2, 0, 0, 0, 3⟩]
def t1 : Re := .seq (.rng 97 97 0) (.rep (.alt (.rng 98 98 1) (.rng 99 99 2)))
def t2 : Re := .seq (.rng 97 122 0) (.rep (.rng 97 122 1))
def t3 : Re := .seq (.rng 105 105 0) (.alt (.rng 102 102 1) (.rng 110 110 2))
def t4 : Re := .seq (.rng 97 97 0) (.seq (.rng 98 98 1) (.rng 99 99 2))
theorem is_rng {p : List S50} {i : Nat} {lo hi a b : Int} (h : p[i]? = some ⟨1, lo, hi, a, b⟩) : IsRe p i (.rng lo hi i) := IsRe.rng i _ h rfl
theorem g1 : Good P1 t1 := ⟨by kernel_rfl, by decide, .seq 5 _ 0 4 _ _ rfl rfl rfl rfl (is_rng rfl) (.rep 4 _ 3 _ rfl rfl rfl (.alt 3 _ 1 2 _ _ rfl rfl rfl rfl (is_rng rfl) (is_rng rfl))), by simp [t1, Re.ok], rfl⟩
theorem g2 : Good P2 t2 := ⟨by kernel_rfl, by decide, .seq 3 _ 0 2 _ _ rfl rfl rfl rfl (is_rng rfl) (.rep 2 _ 1 _ rfl rfl rfl (is_rng rfl)), by simp [t2, Re.ok], rfl⟩
theorem g3 : Good P3 t3 := ⟨by kernel_rfl, by decide, .seq 4 _ 0 3 _ _ rfl rfl rfl rfl (is_rng rfl) (.alt 3 _ 1 2 _ _ rfl rfl rfl rfl (is_rng rfl) (is_rng rfl)), by simp [t3, Re.ok], rfl⟩
theorem g4 : Good P4 t4 := ⟨by kernel_rfl, by decide, .seq 4 _ 0 3 _ _ rfl rfl rfl rfl (is_rng rfl) (.seq 3 _ 1 2 _ _ rfl rfl rfl rfl (is_rng rfl) (is_rng rfl)), by simp [t4, Re.ok], rfl⟩
theorem com_eval {p q : List S50} {t u : Re} (hp : Good p t) (hq : Good q u) {r : ByteArray × Int} (h : (distF p q (t.link (List.replicate p.length 0)) (u.link (List.replicate q.length 0)) t.last u.last).map (comF p q t u) = some r) : IsCom p q r := by
  obtain ⟨f, hf, rfl⟩ := Option.map_eq_some_iff.1 h
  exact .inr (.inr ⟨t, u, f, hp, hq, hf, rfl⟩)
set_option maxRecDepth 100000 in
theorem a1 : altF sP1 40 st0 = some (5, ⟨7, P1, false⟩) := by kernel_rfl
set_option maxRecDepth 100000 in
theorem a2 : altF sP2 40 st0 = some (3, ⟨13, P2, false⟩) := by kernel_rfl
set_option maxRecDepth 100000 in
theorem a3 : altF sP3 40 st0 = some (4, ⟨6, P3, false⟩) := by kernel_rfl
set_option maxRecDepth 100000 in
theorem a5 : (altF sP5 40 st0).map (fun r => r.2.wrong) = some true := by kernel_rfl
theorem c1 : IsCom P1 P1 (⟨#[97]⟩, 0) := com_eval g1 g1 (by kernel_rfl)
theorem c23 : IsCom P2 P3 (⟨#[105, 102]⟩, 0) := com_eval g2 g3 (by kernel_rfl)
theorem l1 : lastTrue (flags P1 t1 ((bytesOf ⟨#[120, 97, 98, 99, 100]⟩).drop 1)) 0 0 = 3 := by kernel_rfl
theorem m1 : matchB P1 t1 (bytesOf ⟨#[97, 98, 99, 98]⟩) = true := by kernel_rfl
theorem m2 : matchB P1 t1 (bytesOf ⟨#[98, 97]⟩) = false := by kernel_rfl
theorem s4 : strOfNums (t4.shown 1) = ⟨#[97, 40, 98, 99, 41]⟩ := by kernel_rfl

/-- Longest for patterns in order. -/
theorem longest_of {p : List S50} {t : Re} (g : Good p t) (A : Option Addr) (c : Nat) (s : ByteArray) (i : Nat) (w : World) (hC : Kd.C k50 w A p.length p) (hc : p.length ≤ c) (hs : s.size ≤ 140737488351232) (hi : i ≤ s.size) (htab : Tab w) (n : Nat) (hn : lastTrue (flags p t ((bytesOf s).drop i)) 0 0 = n) :
    Calls Tryd.prog 17 #[.slice A p.length c, .string s, .int .i64 (i : Int)] w fun e w' => e = .returned (.tuple #[.int .i64 (n : Int), .bool (decide (0 < n))]) ∧ Below w.heap.size w w' := by
  subst hn; exact longest_good A c p t s i w hC hc g.len hs g.chk g.is hi htab
theorem matches_of {p : List S50} {t : Re} (g : Good p t) (A : Option Addr) (c : Nat) (s : ByteArray) (w : World) (hC : Kd.C k50 w A p.length p) (hc : p.length ≤ c) (hs : s.size ≤ 140737488351232) (htab : Tab w) (b : Bool) (hb : matchB p t (bytesOf s) = b) :
    Calls Tryd.prog 23 #[.slice A p.length c, .string s] w fun e w' => e = .returned (.bool b) ∧ Below w.heap.size w w' := by
  subst hb; exact matches_good A c p t s w hC hc g.len hs g.chk g.is htab
theorem print_of {p : List S50} {t : Re} (g : Good p t) (A : Option Addr) (c : Nat) (w : World) (hC : Kd.C k50 w A p.length p) (hc : p.length ≤ c) (s : ByteArray) (hs : strOfNums (t.shown 1) = s) :
    Calls Tryd.prog 19 #[.slice A p.length c] w fun e w' => e = .returned (.tuple #[.string s, .int .i64 0]) ∧ Below w.heap.size w w' := by
  have h1 := g.len
  have h2 := g.size
  subst hs; exact print_good A c p t w hC hc (by omega) g.chk g.is g.ok (by omega)

theorem pp1 (w : World) : Calls Tryd.prog 25 #[.string sP1] w (PPost w (P1, 0)) := by
  have := parse_any sP1 w (by decide) 40 _ a1
  have e : (if okTo sP1 sP1.size then parseF sP1 (5, ⟨7, P1, false⟩) else ([], 40)) = (P1, 0) := by kernel_rfl
  rwa [e] at this
theorem pp2 (w : World) : Calls Tryd.prog 25 #[.string sP2] w (PPost w (P2, 0)) := by
  have := parse_any sP2 w (by decide) 40 _ a2
  have e : (if okTo sP2 sP2.size then parseF sP2 (3, ⟨13, P2, false⟩) else ([], 40)) = (P2, 0) := by kernel_rfl
  rwa [e] at this
theorem pp3 (w : World) : Calls Tryd.prog 25 #[.string sP3] w (PPost w (P3, 0)) := by
  have := parse_any sP3 w (by decide) 40 _ a3
  have e : (if okTo sP3 sP3.size then parseF sP3 (4, ⟨6, P3, false⟩) else ([], 40)) = (P3, 0) := by kernel_rfl
  rwa [e] at this
theorem pp5 (w : World) : Calls Tryd.prog 25 #[.string sP5] w (PPost w ([], 40)) := by
  obtain ⟨r, h1, h2⟩ := Option.map_eq_some_iff.1 a5
  have := parse_any sP5 w (by decide) 40 _ h1
  have e : (if okTo sP5 sP5.size then parseF sP5 r else ([], 40)) = ([], 40) := by
    have h3 : okTo sP5 sP5.size = true := by kernel_rfl
    rw [h3]; simp [parseF, h2]
  rwa [e] at this

set_option maxHeartbeats 4000000 in
set_option maxRecDepth 100000 in
/-- The chapter's examples. -/
theorem sanity_any (w : World) (htab : Tab w) : Calls Tryd.prog 15 #[] w fun e w' => e = .returned (.bool true) ∧ Below w.heap.size w w' := by
  have HT := Lib.hid htab
  clear htab
  go_enter Tryd.func15, Tryd.ntmps15
  go_wp2_with fail
  refine (pp1 w).mono ?_
  rintro e w1 ⟨v, rfl, k1, k2⟩
  obtain ⟨Q1, q1, rfl⟩ := Kd.R_slice k1
  have R1 := Lib.hid (Kd.R_reads' k1)
  have L1 := Lib.hid k2
  clear k1 k2
  go_wp2_with fail
  refine (longest_of g1 Q1 q1 ⟨#[120, 97, 98, 99, 100]⟩ 1 w1 R1.out.2.2 R1.out.2.1 (by decide) (by decide) (HT.out.chg (Chg.of_below (L := []) L1.out) (by simp)) 3 l1).mono ?_
  rintro e w2 ⟨rfl, k2⟩
  have C2 := Lib.hid (Kd.C_below R1.out.2.2 k2)
  have L2 := Lib.hid (below_trans L1.out k2)
  clear k2
  go_wp2_with fail
  refine (short_any Q1 q1 P1 _ w2 C2.out R1.out.2.1 (by decide) (HT.out.chg (Chg.of_below (L := []) L2.out) (by simp)) c1).mono ?_
  rintro e w3 ⟨rfl, k3⟩
  have C3 := Lib.hid (Kd.C_below C2.out k3)
  have L3 := Lib.hid (below_trans L2.out k3)
  clear k3
  go_wp2_with fail
  refine (pp2 w3).mono ?_
  rintro e w4 ⟨v, rfl, k1, k2⟩
  obtain ⟨Q2, q2, rfl⟩ := Kd.R_slice k1
  have R2 := Lib.hid (Kd.R_reads' k1)
  have C4 := Lib.hid (Kd.C_below C3.out k2)
  have L4 := Lib.hid (below_trans L3.out k2)
  clear k1 k2
  go_wp2_with fail
  refine (pp3 w4).mono ?_
  rintro e w5 ⟨v, rfl, k1, k2⟩
  obtain ⟨Q3, q3, rfl⟩ := Kd.R_slice k1
  have R3 := Lib.hid (Kd.R_reads' k1)
  have C5 := Lib.hid (Kd.C_below C4.out k2)
  have D5 := Lib.hid (Kd.C_below R2.out.2.2 k2)
  have L5 := Lib.hid (below_trans L4.out k2)
  clear k1 k2
  go_wp2_with fail
  refine (com_any Q2 Q3 q2 q3 P2 P3 _ w5 D5.out R3.out.2.2 R2.out.2.1 R3.out.2.1 (by decide) (by decide) (HT.out.chg (Chg.of_below (L := []) L5.out) (by simp)) c23).mono ?_
  rintro e w6 ⟨rfl, k2⟩
  have C6 := Lib.hid (Kd.C_below C5.out k2)
  have L6 := Lib.hid (below_trans L5.out k2)
  clear k2
  go_wp2_with (first | ((with_reducible refine gate_dst (N := 52) rfl ?_); refine Kd.R_lit k50 (w0 := w6) w6.heap.size 50 ?hg (N := 52) ?hd (xs := P4) (inner := [.int .i64 1, .int .i64 97, .int .i64 97, .int .i64 0, .int .i64 0, .int .i64 1, .int .i64 98, .int .i64 98, .int .i64 0, .int .i64 0, .int .i64 1, .int .i64 99, .int .i64 99, .int .i64 0, .int .i64 0, .int .i64 2, .int .i64 0, .int .i64 0, .int .i64 1, .int .i64 2, .int .i64 2, .int .i64 0, .int .i64 0, .int .i64 0, .int .i64 3]) (ok := fun _ => True) (okp := fun _ => True) ?hr ?hp (fun _ hk => hk) trivial (Below.refl _ _) (Nat.le_refl _) (by decide) ?_; (case hd => rfl); (case hg => rfl); (case hr => first | (go_simp; done) | (go_simp; rfl)); (case hp => exact (Reps.c5 (k50_mkM _ _ _ ⟨1, 97, 97, 0, 0⟩) (Reps.c5 (k50_mkM _ _ _ ⟨1, 98, 98, 0, 0⟩) (Reps.c5 (k50_mkM _ _ _ ⟨1, 99, 99, 0, 0⟩) (Reps.c5 (k50_mkM _ _ _ ⟨2, 0, 0, 1, 2⟩) (Reps.c5 (k50_mkM _ _ _ ⟨2, 0, 0, 0, 3⟩) (Reps.none _ _))))))); intro v210 w7 ho5 hb5 hg5 hnew5; clear hg5 hnew5; obtain ⟨Q4, q4, rfl⟩ := Kd.R_slice ho5; have HO5 := Lib.hid (Kd.R_reads' ho5); have HB5 := Lib.hid hb5; clear ho5 hb5) | fail)
  refine (print_of g4 Q4 q4 w7 HO5.out.2.2 HO5.out.2.1 _ s4).mono ?_
  rintro e w8 ⟨rfl, k2⟩
  have L7 := Lib.hid (below_trans L6.out HB5.out)
  have C8 := Lib.hid (Kd.C_below (Kd.C_below C6.out HB5.out) k2)
  have L8 := Lib.hid (below_trans L7.out k2)
  clear k2
  go_wp2_with fail
  refine (pp5 w8).mono ?_
  rintro e w9 ⟨v, rfl, k1, k2⟩
  obtain ⟨Q5, q5, rfl⟩ := Kd.R_slice k1
  have C9 := Lib.hid (Kd.C_below C8.out k2)
  have L9 := Lib.hid (below_trans L8.out k2)
  clear k1 k2
  have hb6 : ((P1.length : Int) == 6) = true := by decide
  go_wp2_with fail
  refine (matches_of g1 Q1 q1 ⟨#[97, 98, 99, 98]⟩ w9 C9.out R1.out.2.1 (by decide) (HT.out.chg (Chg.of_below (L := []) L9.out) (by simp)) true m1).mono ?_
  rintro e w10 ⟨rfl, k2⟩
  have C10 := Lib.hid (Kd.C_below C9.out k2)
  have L10 := Lib.hid (below_trans L9.out k2)
  clear k2
  go_wp2_with fail
  refine (matches_of g1 Q1 q1 ⟨#[98, 97]⟩ w10 C10.out R1.out.2.1 (by decide) (HT.out.chg (Chg.of_below (L := []) L10.out) (by simp)) false m2).mono ?_
  rintro e w11 ⟨rfl, k2⟩
  have L11 := Lib.hid (below_trans L10.out k2)
  clear k2
  go_wp2
  go_ret
  exact ⟨rfl, L11.out⟩
end Go.Proofs.YtaphblnelmncaaaDoor.PA
end

section
/- The reference's join. -/
set_option linter.unusedVariables false
namespace Go.Proofs.YtaphblnelmncaaaDoor.PA
open Go.RowKit Go.Proofs.YtaphblnelmncaaaDoorW.PrintWords Go.Proofs.YtaphblnelmncaaaDoorW.PrintLast Go.Proofs.YtaphblnelmncaaaDoorW.PrintMore

/-- The number of operands as the reference says it. -/
def opn (k : Int) : Int := if k = 0 ∨ k = 1 then 0 else if k = 4 then 1 else if k = 2 ∨ k = 3 then 2 else 0
theorem opn_range (k : Int) : 0 ≤ opn k ∧ opn k ≤ 2 := by unfold opn; split; omega; split; omega; split <;> omega
theorem ops_f (k : Int) : ∃ b, koineref04_operands.f 1 k = some (opn k, b) := by
  unfold koineref04_operands.f koineref04_operands.j0 opn
  by_cases h0 : k = 0
  · subst h0; exact ⟨true, rfl⟩
  by_cases h1 : k = 1
  · subst h1; exact ⟨true, rfl⟩
  by_cases h4 : k = 4
  · subst h4; exact ⟨true, rfl⟩
  by_cases h2 : k = 2
  · subst h2; exact ⟨true, rfl⟩
  by_cases h3 : k = 3
  · subst h3; exact ⟨true, rfl⟩
  exact ⟨false, by simp [h0, h1, h2, h3, h4]⟩
/-- A node moved by n. -/
def shN (n : Int) (x : S50) : S50 := ⟨x.f0, x.f1, x.f2, if 1 ≤ opn x.f0 then wrap64 (x.f3 + n) else x.f3, if 2 ≤ opn x.f0 then wrap64 (x.f4 + n) else x.f4⟩
/-- Two patterns joined. -/
def joinF (K : Int) (p q : List S50) : List S50 := (p ++ q.map (shN p.length)) ++ [⟨K, 0, 0, (p.length : Int) - 1, (p.length : Int) + q.length - 1⟩]
theorem joinF_length (K : Int) (p q : List S50) : (joinF K p q).length = p.length + q.length + 1 := by simp [joinF]; omega

theorem take_rd {q : List S50} {k : Nat} (h : k < q.length) : q.take (k + 1) = q.take k ++ [rd_T50 q k] := by
  rw [List.take_succ_eq_append_getElem h]
  congr 1
  simp [rd_T50, List.getD_eq_getElem?_getD, h]
theorem Blk.newD (w : World) (cs : Array Value) (t n : Nat) : Blk ((w.alloc (.cells cs t)).drewN n) w.heap.size t cs.toList := Blk.new w cs t
structure RJoin (w0 : World) (v : Value) (xs : List S50) (w : World) : Prop where
  low : Below w0.heap.size w0 w
  hq : Kd.R k50 50 w w0.heap.size (fun _ => True) v xs

set_option maxHeartbeats 4000000 in
set_option maxRecDepth 100000 in
theorem rjoin_any (K : Int) (A B : Option Addr) (ca cb : Nat) (p q : List S50) (w : World) (hC : Kd.C k50 w A p.length p) (hD : Kd.C k50 w B q.length q) (hc : p.length ≤ ca) (hd : q.length ≤ cb) (hpb : p.length ≤ 1000) (hqb : q.length ≤ 1000) :
    Calls Tryd.prog 41 #[.int .i64 K, .slice A p.length ca, .slice B q.length cb] w fun e w' => ∃ v, e = .returned v ∧ Kd.R k50 50 w' w.heap.size (fun _ => True) v (joinF K p q) ∧ Below w.heap.size w w' := by
  have HC := Lib.hid hC
  have HD := Lib.hid hD
  clear hC hD
  go_enter Tryd.func41, Tryd.ntmps41
  go_wp2_with (first | ((with_reducible refine gate_dst (N := 12) rfl ?_); refine Kd.R_lit k50 _ 50 ?hg (N := 12) ?hd (xs := ([] : List (S50))) (inner := []) (ok := fun _ => True) (okp := fun _ => True) ?hr ?hp (fun _ hk => hk) trivial (Below.refl _ _) (Nat.le_refl _) (by simp) ?_; (case hd => rfl); (case hg => rfl); (case hr => first | (go_simp; done) | (go_simp; rfl)); (case hp => exact (Reps.none _ _)); intro v225 w4 ho5 hb hg_ hnew_; have HB1 := Lib.hid hb; have HO1 := Lib.hid ho5; clear hg_ hnew_ hb ho5) | ((with_reducible refine gate_builtin (b := .append) (xs := #[.tmp 12, .tmp 13]) rfl ?_); at_builtin; refine Kd.R_append_rows k50 (w0 := w) w.heap.size rfl (.tmp 12) (.tmp 13) 25 50 (.agg #[(.int .i64 0), (.int .i64 0), (.int .i64 0), (.int .i64 0), (.int .i64 0)]) 40 rfl Tryd.underlying25 info50 rfl (by decide) (by omega) v225 [] p A p.length ca (fun _ => True) (fun _ => False) rfl rfl ?aO ?aR (fun _ _ h => h) (fun _ h => h.elim) ?aF ?aB ?aS ?aL ?_; (case aR => exact Kd.C_below HC.out HB1.out); (case aB => exact HB1.out); (case aF => exact (fun _ _ => trivial)); (case aO => exact HO1.out); (case aS => exact HB1.out.size); (case aL => simp; omega); intro v228 w6 ho hb hg hat; have HO2 := Lib.hid ho; have HB2 := Lib.hid hb; clear ho hb hg hat))
  have hI : Hid (RJoin w v228 p w6) := Lib.hid ⟨HB2.out, by simpa using HO2.out⟩
  clear HO1 HO2 HB1 HB2
  go_loopw [7, 8] (fun c7 c8 wr => ∃ (k : Nat), k ≤ q.length ∧ c8 = .int .i64 (k : Int) ∧ Hid (RJoin w c7 (p ++ (q.take k).map (shN p.length)) wr)) (fun _ c8 _ => q.length - (intOf c8).toNat)
  case atStart => exact ⟨0, Nat.zero_le _, rfl, by simpa using hI⟩
  case round =>
    obtain ⟨k, hk, rfl, hJ⟩ := hrel
    by_cases hlt : k < q.length
    · have hkI : (k : Int) < (q.length : Int) := by omega
      have hkb : decide ((k : Int) < (q.length : Int)) = true := by simp; omega
      obtain ⟨ad, rfl, x0, x1, x2, x3, x4⟩ := at_T50 (Kd.C_below HD.out hJ.out.low) k (by omega) hkI
      have HX : Hid (q.take (k + 1) = q.take k ++ [rd_T50 q k]) := Lib.hid (take_rd hlt)
      simp only [Int.toNat_natCast] at x0 x1 x2 x3 x4
      generalize rd_T50 q k = x at *
      obtain ⟨K1, lo, hi, a, b⟩ := x
      obtain ⟨ob, hob⟩ := ops_f K1
      have hr := opn_range K1
      have HS : Hid (∀ n, opn K1 = n → shN (p.length : Int) ⟨K1, lo, hi, a, b⟩ = ⟨K1, lo, hi, if 1 ≤ n then wrap64 (a + p.length) else a, if 2 ≤ n then wrap64 (b + p.length) else b⟩) := Lib.hid (fun n h => by subst h; rfl)
      generalize hn : opn K1 = n at *
      have hob' := Lib.hid hob
      have HS2 := Lib.hid (HS.out n rfl)
      have hll : (p ++ List.map (shN ↑p.length) (List.take k q)).length ≤ 2000 := by simp; omega
      clear hob hn HS
      have h3 : n = 0 ∨ n = 1 ∨ n = 2 := by omega
      clear hr
      obtain ⟨L, hL⟩ : ∃ L, L = p ++ List.map (shN ↑p.length) (List.take k q) := ⟨_, rfl⟩
      rw [← hL] at hJ hll
      have HL := Lib.hid hL
      obtain ⟨O, co, rfl⟩ := Kd.R_slice hJ.out.hq
      clear hL
      rcases h3 with rfl | rfl | rfl
      · go_upto_region 11 with (first | (go_at_call 52; refine (koineref04_operands.calls 1 K1 _ _ _ hob'.out).mono ?_; rintro e w' ⟨rfl, ⟨nd, rfl⟩⟩) | (fail))
        generalize hW : World.drewN _ _ = W1
        have HBL : Hid (Below wr.heap.size wr W1) := Lib.hid (by subst hW; (repeat (first | exact Below.refl _ _ | apply below_alloc | apply pw_below_drewN | (refine below_set ?_ (Nat.le_refl _)))))
        have HBK : Hid (Blk W1 wr.heap.size 50 [.int .i64 K1, .int .i64 lo, .int .i64 hi, .int .i64 (a), .int .i64 (b)]) := Lib.hid (by subst hW; exact Blk.new wr _ 50)
        have f0 := HBK.out.cell 0
        have f1 := HBK.out.cell 1
        have f2 := HBK.out.cell 2
        have f3 := HBK.out.cell 3
        have f4 := HBK.out.cell 4
        simp only [List.getElem?_cons_zero, List.getElem?_cons_succ] at f0 f1 f2 f3 f4
        clear hW x0 x1 x2 x3 x4
        go_wp2_with (first | ((with_reducible refine gate_builtin (b := .append) (xs := #[.tmp 47, .tmp 49]) rfl ?_); at_builtin; refine Kd.R_append k50 (w0 := wr) w.heap.size rfl (.tmp 47) (.tmp 49) 25 50 (.agg #[(.int .i64 0), (.int .i64 0), (.int .i64 0), (.int .i64 0), (.int .i64 0)]) 40 rfl Tryd.underlying25 info50 rfl (by decide) (by omega) (.slice O L.length co) L (⟨K1, lo, hi, a, b⟩ : S50) [.int .i64 K1, .int .i64 lo, .int .i64 hi, .int .i64 (a), .int .i64 (b)] (fun _ => True) (fun _ => False) rfl rfl ?aP (fun _ hk => hk.elim) ?aF ?aO ?aB ?aS ?aL ?_; (case aP => exact k50_mkM _ _ _ (⟨K1, lo, hi, a, b⟩ : S50)); (case aF => exact (fun _ _ => trivial)); (case aO => exact Kd.R_below hJ.out.hq HBL.out); (case aB => exact HBL.out.mono hJ.out.low.size); (case aS => exact Nat.le_trans hJ.out.low.size HBL.out.size); (case aL => omega); intro v1 w6 ho1 hb1 hg1 hat1; have HO1 := Lib.hid ho1; have HB1 := Lib.hid hb1; clear ho1 hb1 hg1 hat1) | (fail))
        go_roundw
        case rel => exact ⟨k + 1, by omega, by go_num, Lib.hid ⟨hJ.out.low.trans HB1.out, by have h := HO1.out; rw [HX.out, List.map_append, ← List.append_assoc, ← HL.out]; simpa [HS2.out] using h⟩⟩
        case measure => simp [intOf]; omega
      · go_upto_region 11 with (first | (go_at_call 52; refine (koineref04_operands.calls 1 K1 _ _ _ hob'.out).mono ?_; rintro e w' ⟨rfl, ⟨nd, rfl⟩⟩) | (fail))
        generalize hW : World.setCell _ _ _ = W1
        have HBL : Hid (Below wr.heap.size wr W1) := Lib.hid (by subst hW; (repeat (first | exact Below.refl _ _ | apply below_alloc | apply pw_below_drewN | (refine below_set ?_ (Nat.le_refl _)))))
        have HBK : Hid (Blk W1 wr.heap.size 50 [.int .i64 K1, .int .i64 lo, .int .i64 hi, .int .i64 (wrap64 (a + (p.length : Int))), .int .i64 (b)]) := Lib.hid (by subst hW; exact (Blk.newD wr _ 50 nd).set 3 _)
        have f0 := HBK.out.cell 0
        have f1 := HBK.out.cell 1
        have f2 := HBK.out.cell 2
        have f3 := HBK.out.cell 3
        have f4 := HBK.out.cell 4
        simp only [List.getElem?_cons_zero, List.getElem?_cons_succ] at f0 f1 f2 f3 f4
        clear hW x0 x1 x2 x3 x4
        go_wp2_with (first | ((with_reducible refine gate_builtin (b := .append) (xs := #[.tmp 47, .tmp 49]) rfl ?_); at_builtin; refine Kd.R_append k50 (w0 := wr) w.heap.size rfl (.tmp 47) (.tmp 49) 25 50 (.agg #[(.int .i64 0), (.int .i64 0), (.int .i64 0), (.int .i64 0), (.int .i64 0)]) 40 rfl Tryd.underlying25 info50 rfl (by decide) (by omega) (.slice O L.length co) L (⟨K1, lo, hi, wrap64 (a + (p.length : Int)), b⟩ : S50) [.int .i64 K1, .int .i64 lo, .int .i64 hi, .int .i64 (wrap64 (a + (p.length : Int))), .int .i64 (b)] (fun _ => True) (fun _ => False) rfl rfl ?aP (fun _ hk => hk.elim) ?aF ?aO ?aB ?aS ?aL ?_; (case aP => exact k50_mkM _ _ _ (⟨K1, lo, hi, wrap64 (a + (p.length : Int)), b⟩ : S50)); (case aF => exact (fun _ _ => trivial)); (case aO => exact Kd.R_below hJ.out.hq HBL.out); (case aB => exact HBL.out.mono hJ.out.low.size); (case aS => exact Nat.le_trans hJ.out.low.size HBL.out.size); (case aL => omega); intro v1 w6 ho1 hb1 hg1 hat1; have HO1 := Lib.hid ho1; have HB1 := Lib.hid hb1; clear ho1 hb1 hg1 hat1) | (fail))
        go_roundw
        case rel => exact ⟨k + 1, by omega, by go_num, Lib.hid ⟨hJ.out.low.trans HB1.out, by have h := HO1.out; rw [HX.out, List.map_append, ← List.append_assoc, ← HL.out]; simpa [HS2.out] using h⟩⟩
        case measure => simp [intOf]; omega
      · go_upto_region 11 with (first | (go_at_call 52; refine (koineref04_operands.calls 1 K1 _ _ _ hob'.out).mono ?_; rintro e w' ⟨rfl, ⟨nd, rfl⟩⟩) | (fail))
        generalize hW : World.setCell _ _ _ = W1
        have HBL : Hid (Below wr.heap.size wr W1) := Lib.hid (by subst hW; (repeat (first | exact Below.refl _ _ | apply below_alloc | apply pw_below_drewN | (refine below_set ?_ (Nat.le_refl _)))))
        have HBK : Hid (Blk W1 wr.heap.size 50 [.int .i64 K1, .int .i64 lo, .int .i64 hi, .int .i64 (wrap64 (a + (p.length : Int))), .int .i64 (wrap64 (b + (p.length : Int)))]) := Lib.hid (by subst hW; exact ((Blk.newD wr _ 50 nd).set 3 _).set 4 _)
        have f0 := HBK.out.cell 0
        have f1 := HBK.out.cell 1
        have f2 := HBK.out.cell 2
        have f3 := HBK.out.cell 3
        have f4 := HBK.out.cell 4
        simp only [List.getElem?_cons_zero, List.getElem?_cons_succ] at f0 f1 f2 f3 f4
        clear hW x0 x1 x2 x3 x4
        go_wp2_with (first | ((with_reducible refine gate_builtin (b := .append) (xs := #[.tmp 47, .tmp 49]) rfl ?_); at_builtin; refine Kd.R_append k50 (w0 := wr) w.heap.size rfl (.tmp 47) (.tmp 49) 25 50 (.agg #[(.int .i64 0), (.int .i64 0), (.int .i64 0), (.int .i64 0), (.int .i64 0)]) 40 rfl Tryd.underlying25 info50 rfl (by decide) (by omega) (.slice O L.length co) L (⟨K1, lo, hi, wrap64 (a + (p.length : Int)), wrap64 (b + (p.length : Int))⟩ : S50) [.int .i64 K1, .int .i64 lo, .int .i64 hi, .int .i64 (wrap64 (a + (p.length : Int))), .int .i64 (wrap64 (b + (p.length : Int)))] (fun _ => True) (fun _ => False) rfl rfl ?aP (fun _ hk => hk.elim) ?aF ?aO ?aB ?aS ?aL ?_; (case aP => exact k50_mkM _ _ _ (⟨K1, lo, hi, wrap64 (a + (p.length : Int)), wrap64 (b + (p.length : Int))⟩ : S50)); (case aF => exact (fun _ _ => trivial)); (case aO => exact Kd.R_below hJ.out.hq HBL.out); (case aB => exact HBL.out.mono hJ.out.low.size); (case aS => exact Nat.le_trans hJ.out.low.size HBL.out.size); (case aL => omega); intro v1 w6 ho1 hb1 hg1 hat1; have HO1 := Lib.hid ho1; have HB1 := Lib.hid hb1; clear ho1 hb1 hg1 hat1) | (fail))
        go_roundw
        case rel => exact ⟨k + 1, by omega, by go_num, Lib.hid ⟨hJ.out.low.trans HB1.out, by have h := HO1.out; rw [HX.out, List.map_append, ← List.append_assoc, ← HL.out]; simpa [HS2.out] using h⟩⟩
        case measure => simp [intOf]; omega
    · have hkb : decide ((k : Int) < (q.length : Int)) = false := by simp; omega
      have hke : k = q.length := by omega
      have HJ : Hid (RJoin w u7 (p ++ q.map (shN ↑p.length)) wr) := by have h := hJ; rw [hke, List.take_length] at h; exact h
      obtain ⟨L, hL⟩ : ∃ L, L = p ++ q.map (shN ↑p.length) := ⟨_, rfl⟩
      rw [← hL] at HJ
      have HL := Lib.hid hL
      have hll : L.length ≤ 2000 := by rw [hL]; simp; omega
      obtain ⟨O, co, rfl⟩ := Kd.R_slice HJ.out.hq
      have s1 : wrap64 ((p.length : Int) - 1) = (p.length : Int) - 1 := by unfold wrap64; omega
      have s2 : wrap64 ((p.length : Int) + q.length) = (p.length : Int) + q.length := by unfold wrap64; omega
      have s3 : wrap64 ((p.length : Int) + q.length - 1) = (p.length : Int) + q.length - 1 := by unfold wrap64; omega
      clear hL hke hJ
      go_wp2_with (first | ((with_reducible refine gate_builtin (b := .append) (xs := #[.tmp 51, .tmp 63]) rfl ?_); at_builtin; refine Kd.R_append k50 (w0 := wr) w.heap.size rfl (.tmp 51) (.tmp 63) 25 50 (.agg #[(.int .i64 0), (.int .i64 0), (.int .i64 0), (.int .i64 0), (.int .i64 0)]) 40 rfl Tryd.underlying25 info50 rfl (by decide) (by omega) (.slice O L.length co) L (⟨K, 0, 0, (p.length : Int) - 1, (p.length : Int) + q.length - 1⟩ : S50) [.int .i64 K, .int .i64 0, .int .i64 0, .int .i64 ((p.length : Int) - 1), .int .i64 ((p.length : Int) + q.length - 1)] (fun _ => True) (fun _ => False) rfl rfl ?aP (fun _ hk => hk.elim) ?aF ?aO ?aB ?aS ?aL ?_; (case aP => exact k50_mkM _ _ _ (⟨K, 0, 0, (p.length : Int) - 1, (p.length : Int) + q.length - 1⟩ : S50)); (case aF => exact (fun _ _ => trivial)); (case aO => exact HJ.out.hq); (case aB => exact Below.refl _ _); (case aS => exact HJ.out.low.size); (case aL => omega); intro v1 w6 ho1 hb1 hg1 hat1; have HO1 := Lib.hid ho1; have HB1 := Lib.hid hb1; clear ho1 hb1 hg1 hat1) | (fail))
      go_ret
      exact ⟨v1, rfl, by have h := HO1.out; rw [HL.out] at h; exact h, HJ.out.low.trans HB1.out⟩
end Go.Proofs.YtaphblnelmncaaaDoor.PA
end

section
/- The reference's Made: the stack in memory, and what it holds. -/
set_option linter.unusedVariables false
namespace Go.Proofs.YtaphblnelmncaaaDoor.PA
open Go.RowKit Go.Proofs.YtaphblnelmncaaaDoorW.PrintWords Go.Proofs.YtaphblnelmncaaaDoorW.PrintLast Go.Proofs.YtaphblnelmncaaaDoorW.PrintMore

/-- The repetition of a pattern. -/
def repF (p : List S50) : List S50 := p ++ [⟨4, 0, 0, (p.length : Int) - 1, 0⟩]
def emptyF : List S50 := [⟨0, 0, 0, 0, 0⟩]
def oneF (lo hi : Int) : List S50 := [⟨1, lo, hi, 0, 0⟩]
/-- What one number does: the stack, the size. -/
def madeStep (b : Int) (s : List (List S50) × Int) : List (List S50) × Int :=
  if b % 9 < 5 ∨ s.1.length = 0 ∨ (s.1.length = 1 ∧ b % 9 < 8) then
    (s.1 ++ [if b % 9 = 4 then emptyF else oneF (97 + b / 9 % 3) (min 99 (97 + b / 9 % 3 + b / 27 % 2))], s.2 + 2)
  else if b % 9 = 8 then (s.1.set (s.1.length - 1) (repF (s.1.getD (s.1.length - 1) [])), s.2 + 1)
  else (s.1.take (s.1.length - 2) ++ [joinF (2 + b % 9 % 2) (s.1.getD (s.1.length - 2) []) (s.1.getD (s.1.length - 1) [])], s.2)
/-- All numbers, while there is room. -/
def madeLoop (most : Int) : List Int → List (List S50) × Int → List (List S50) × Int
  | [], s => s
  | b :: l, s => if s.2 + 2 < most then madeLoop most l (madeStep b s) else s
/-- The stack put together. -/
def madeEnd (st : List (List S50)) : List S50 :=
  match st with
  | [] => emptyF
  | p :: r => r.foldl (joinF 2) p
def madeF (l : List Int) (most : Int) : List S50 := madeEnd (madeLoop most l ([], 0)).1

/-- The stack: slices of its own, each a pattern of its own. -/
structure StInv (w0 : World) (v : Value) (us : List Value) (ps : List (List S50)) (w : World) : Prop where
  low : Below w0.heap.size w0 w
  hs : Kd.R (Kd.raw 1) 25 w w0.heap.size (fun _ => True) v (us.map (fun u => [u]))
  len : us.length = ps.length
  el : ∀ (i : Nat) (u : Value) (p : List S50), us[i]? = some u → ps[i]? = some p → Kd.R k50 50 w w0.heap.size (fun _ => True) u p
theorem StInv.below {w0 w w' : World} {v : Value} {us : List Value} {ps : List (List S50)} (h : StInv w0 v us ps w) (k : Below w.heap.size w w') : StInv w0 v us ps w' :=
  ⟨h.low.trans (k.mono h.low.size), Kd.R_below h.hs k, h.len, fun i u p hu hp => Kd.R_below (h.el i u p hu hp) k⟩
theorem k50_one {w : World} {base : Nat} {ok : Nat → Prop} {u : Value} {p : List S50} (h : Kd.R k50 50 w base ok u p) : u.oneCell' = true ∧ u.cells = #[u] := by
  obtain ⟨A, c, rfl⟩ := Kd.R_slice h
  exact ⟨rfl, rfl⟩
theorem raw_mk {w : World} {base : Nat} {ok : Nat → Prop} {u : Value} (h : u.oneCell' = true) : (Kd.raw 1).M w base ok [u] [u] := ⟨rfl, rfl, fun x hx => by simp at hx; subst hx; exact h⟩
/-- The stack has grown or was written: its elements stand. -/
theorem StInv.els {w0 w w1 : World} {v : Value} {us : List Value} {ps : List (List S50)} (h : StInv w0 v us ps w) (hG : w.grownBy w1 v.ownBlock) {u : Value} {p : List S50} (hu : Kd.R k50 50 w w0.heap.size (fun _ => True) u p) : Kd.R k50 50 w1 w0.heap.size (fun _ => True) u p :=
  Kd.R_mono (Kd.R_grown (Kd.R_apartR hu h.hs (by decide)) hG (fun k hk => hk.2)) (fun _ _ => trivial)
theorem StInv.low' {w0 w w1 : World} {v : Value} {us : List Value} {ps : List (List S50)} (h : StInv w0 v us ps w) (hG : w.grownBy w1 v.ownBlock) : Below w0.heap.size w0 w1 := by
  have kp : Kp (fun g => g < w0.heap.size) w w1 := Kp.grown hG (fun g hg e => by have := Kd.R_base h.hs g e.symm; omega)
  exact h.low.trans (kp.below (fun g hg => hg) h.low.size)
theorem StInv.push {w0 w w1 : World} {v v1 u : Value} {us : List Value} {ps : List (List S50)} {p : List S50} (h : StInv w0 v us ps w) (hu : Kd.R k50 50 w w0.heap.size (fun _ => True) u p) (hR : Kd.R (Kd.raw 1) 25 w1 w0.heap.size (fun _ => True) v1 (us.map (fun u => [u]) ++ [[u]])) (hG : w.grownBy w1 v.ownBlock) : StInv w0 v1 (us ++ [u]) (ps ++ [p]) w1 := by
  refine ⟨h.low' hG, by simpa using hR, by simp [h.len], fun i a b ha hb => ?_⟩
  rw [List.getElem?_append] at ha hb
  by_cases hi : i < us.length
  · rw [if_pos hi] at ha; rw [if_pos (by have := h.len; omega)] at hb
    exact h.els hG (h.el i a b ha hb)
  · rw [if_neg hi] at ha; rw [if_neg (by have := h.len; omega)] at hb
    rw [h.len] at ha
    by_cases hz : i - ps.length = 0
    · rw [hz] at ha hb
      simp at ha hb; subst ha; subst hb
      exact h.els hG hu
    · obtain ⟨j, hj⟩ : ∃ j, i - ps.length = j + 1 := ⟨i - ps.length - 1, by omega⟩
      rw [hj] at ha; simp at ha
theorem StInv.take {w0 w : World} {A : Option Addr} {n c m : Nat} {us : List Value} {ps : List (List S50)} (h : StInv w0 (.slice A n c) us ps w) (hm : m ≤ ps.length) : StInv w0 (.slice A m c) (us.take m) (ps.take m) w := by
  refine ⟨h.low, by have := Kd.R_take h.hs (m := m) (by simp [h.len]; omega); simpa [List.map_take] using this, by simp [h.len], fun i u p hu hp => ?_⟩
  rw [List.getElem?_take] at hu hp
  by_cases hi : i < m
  · rw [if_pos hi] at hu hp; exact h.el i u p hu hp
  · rw [if_neg hi] at hu; cases hu
theorem StInv.setLast {w0 w w1 : World} {v v1 u : Value} {us : List Value} {ps : List (List S50)} {p : List S50} {j : Nat} (h : StInv w0 v us ps w) (hj : j < ps.length) (hu : Kd.R k50 50 w w0.heap.size (fun _ => True) u p) (hR : Kd.R (Kd.raw 1) 25 w1 w0.heap.size (fun _ => True) v1 ((us.map (fun u => [u])).set j [u])) (hG : w.grownBy w1 v.ownBlock) : StInv w0 v1 (us.set j u) (ps.set j p) w1 := by
  refine ⟨h.low' hG, by simpa [List.map_set] using hR, by simp [h.len], fun i a b ha hb => ?_⟩
  rw [List.getElem?_set] at ha hb
  by_cases hi : j = i
  · subst hi
    rw [if_pos rfl, if_pos (by rw [h.len]; exact hj)] at ha
    rw [if_pos rfl, if_pos hj] at hb
    cases ha; cases hb
    exact h.els hG hu
  · rw [if_neg hi] at ha hb
    exact h.els hG (h.el i a b ha hb)
/-- The i-th element's cell. -/
theorem StInv.cell {w0 w : World} {v : Value} {us : List Value} {ps : List (List S50)} (h : StInv w0 v us ps w) {i : Nat} (hi : i < ps.length) :
    ∃ (g c : Nat) (A : Option Addr) (ca : Nat), v = .slice (some ⟨g, 0, none⟩) ps.length c ∧ us[i]? = some (.slice A (ps.getD i []).length ca) ∧ w.cell? ⟨g, i, none⟩ = some (.slice A (ps.getD i []).length ca) ∧ w.frozen? ⟨g, i, none⟩ = false ∧ (ps.getD i []).length ≤ ca ∧ Kd.R k50 50 w w0.heap.size (fun _ => True) (.slice A (ps.getD i []).length ca) (ps.getD i []) := by
  have hs := h.hs
  have hl : (us.map (fun u => [u])).length = ps.length := by simp [h.len]
  obtain ⟨A0, c0, rfl⟩ := Kd.R_slice hs
  rw [hl] at hs
  obtain ⟨g, cap, he, hg⟩ : ∃ g cap, Value.slice A0 ps.length c0 = .slice (some ⟨g, 0, none⟩) ps.length cap ∧ True := by
    obtain ⟨h0, inner, ho, hr⟩ := hs
    rcases ho.2 with ⟨e, hz⟩ | ⟨g, cap, cur, e, _⟩
    · exfalso; have := hl; injection e; omega
    · injection e with e1 e2 e3
      exact ⟨g, cap, by rw [e1, e3], trivial⟩
  injection he with e1 _ e3
  subst e1; subst e3
  have hiu : i < us.length := by rw [h.len]; exact hi
  obtain ⟨u, hu⟩ : ∃ u, us[i]? = some u := ⟨us[i], List.getElem?_eq_getElem hiu⟩
  have hp : ps[i]? = some (ps.getD i []) := by simp [List.getD_eq_getElem?_getD, hi]
  have hR := h.el i u _ hu hp
  obtain ⟨A, ca, rfl⟩ := Kd.R_slice hR
  obtain ⟨cc, hcl, hM, hcc, hfr⟩ := Kd.R_elem hs [] (i : Int) (by omega) (by omega)
  have e2 : cc = [.slice A (ps.getD i []).length ca] := by
    have := hM.1
    simpa [List.getD_eq_getElem?_getD, hu] using this
  have f1 := hcc 0 _ (by rw [e2]; rfl)
  have f2 := hfr 0
  have e4 : (i : Int).toNat * (Kd.raw 1).sz + 0 = i := by simp [Kd.raw]
  rw [e4] at f1 f2
  exact ⟨g, c0, A, ca, by rw [hl], hu, f1, f2, (Kd.R_reads' hR).2.1, hR⟩
end Go.Proofs.YtaphblnelmncaaaDoor.PA
end

section
/- The walk over Made. -/
set_option linter.unusedVariables false
namespace Go.Proofs.YtaphblnelmncaaaDoor.PA
open Go.RowKit Go.Proofs.YtaphblnelmncaaaDoorW.PrintWords Go.Proofs.YtaphblnelmncaaaDoorW.PrintLast Go.Proofs.YtaphblnelmncaaaDoorW.PrintMore
attribute [local go_sem] max_mx min_mn

theorem info25 : (Tryd.prog.info? 25).map (fun i => (i.zero, i.size, i.bytes)) = some (some (.slice none 0 0), 1, 24) := by kernel_rfl
def tot (ps : List (List S50)) : Nat := (ps.map List.length).sum
theorem tot_le {ps : List (List S50)} (i : Nat) : (ps.getD i []).length ≤ tot ps := by
  unfold tot
  induction ps generalizing i with
  | nil => simp
  | cons p ps ih =>
    cases i with
    | zero => simp
    | succ i => have := ih i; simp at this ⊢; omega
theorem tot_append (a b : List (List S50)) : tot (a ++ b) = tot a + tot b := by simp [tot]
theorem tot_set {ps : List (List S50)} (p : List S50) (j : Nat) (hj : j < ps.length) : tot (ps.set j p) + (ps.getD j []).length = tot ps + p.length := by
  unfold tot
  induction ps generalizing j with
  | nil => simp at hj
  | cons q ps ih =>
    cases j with
    | zero => simp; omega
    | succ j => have := ih j (by simpa using hj); simp at this ⊢; omega
theorem tot_take2 {ps : List (List S50)} (h : 2 ≤ ps.length) : tot (ps.take (ps.length - 2)) + (ps.getD (ps.length - 2) []).length + (ps.getD (ps.length - 1) []).length = tot ps := by
  obtain ⟨k, hk⟩ : ∃ k, ps.length = k + 2 := ⟨ps.length - 2, by omega⟩
  have e : ps = ps.take k ++ [ps.getD k [], ps.getD (k + 1) []] := by
    conv => lhs; rw [← List.take_append_drop k ps]
    congr 1
    apply List.ext_getElem?
    intro i
    rw [List.getElem?_drop]
    rcases i with _ | _ | i
    · simp [List.getD_eq_getElem?_getD, show k < ps.length by omega]
    · simp [List.getD_eq_getElem?_getD, show k + 1 < ps.length by omega]
    · simp; omega
  have h2 : ps.length - 2 = k := by omega
  have h1 : ps.length - 1 = k + 1 := by omega
  rw [h2, h1]
  have := congrArg tot e
  rw [tot_append] at this
  simp [tot] at this ⊢
  omega
/-- What stands between the numbers. -/
def SizeOk (s : List (List S50) × Int) : Prop := (tot s.1 : Int) + s.1.length ≤ s.2 ∧ s.2 ≤ 400
theorem step_size {b most : Int} {s : List (List S50) × Int} (h : SizeOk s) (hm : most ≤ 400) (hs : s.2 + 2 < most) : SizeOk (madeStep b s) := by
  obtain ⟨h1, h2⟩ := h
  unfold SizeOk madeStep
  split
  · refine ⟨?_, by simp; omega⟩
    rw [tot_append]
    have : tot [if b % 9 = 4 then emptyF else oneF (97 + b / 9 % 3) (min 99 (97 + b / 9 % 3 + b / 27 % 2))] = 1 := by split <;> simp [tot, emptyF, oneF]
    rw [this]; simp; omega
  · split
    · refine ⟨?_, by simp; omega⟩
      by_cases hz : s.1.length = 0
      · simp_all
      · have := tot_set (repF (s.1.getD (s.1.length - 1) [])) (s.1.length - 1) (ps := s.1) (by omega)
        have h3 : (repF (s.1.getD (s.1.length - 1) [])).length = (s.1.getD (s.1.length - 1) []).length + 1 := by simp [repF]
        simp only [List.length_set]
        omega
    · rename_i hx hy
      have hl : 2 ≤ s.1.length := by omega
      have := tot_take2 hl
      refine ⟨?_, by simp; omega⟩
      rw [tot_append]
      have e2 : tot [joinF (2 + b % 9 % 2) (s.1.getD (s.1.length - 2) []) (s.1.getD (s.1.length - 1) [])] = (s.1.getD (s.1.length - 2) []).length + (s.1.getD (s.1.length - 1) []).length + 1 := by simp [tot, joinF_length]
      rw [e2]
      simp only [List.length_append, List.length_take, List.length_cons, List.length_nil]
      omega
theorem rep_f {p : List S50} (h : p.length ≤ 1000) : koineref04_repeat.f p = some (repF p) := by
  have e : wrap64 ((p.length : Int) - 1) = (p.length : Int) - 1 := by unfold wrap64; omega
  unfold koineref04_repeat.f repF
  simp only [Option.bind_some, List.length_nil, Nat.zero_add, List.nil_append]
  rw [if_pos (by omega), if_pos (by omega), e]
end Go.Proofs.YtaphblnelmncaaaDoor.PA
end

section
/- The walk over Made. -/
set_option linter.unusedVariables false
namespace Go.Proofs.YtaphblnelmncaaaDoor.PA
open Go.RowKit Go.Proofs.YtaphblnelmncaaaDoorW.PrintWords Go.Proofs.YtaphblnelmncaaaDoorW.PrintLast Go.Proofs.YtaphblnelmncaaaDoorW.PrintMore
attribute [local go_sem] max_mx min_mn

theorem madeLoop_cons {most : Int} {l : List Int} {k : Nat} {s : List (List S50) × Int} (h : k < l.length) : madeLoop most (l.drop k) s = if s.2 + 2 < most then madeLoop most (l.drop (k + 1)) (madeStep (rd l k) s) else s := by
  rw [List.drop_eq_getElem_cons h]
  simp [madeLoop, rd, List.getD_eq_getElem?_getD, h]
theorem StInv.store {w0 w : World} {g c j : Nat} {u : Value} {us : List Value} {ps : List (List S50)} {p : List S50} (h : StInv w0 (.slice (some ⟨g, 0, none⟩) ps.length c) us ps w) (hj : j < ps.length) (hu : Kd.R k50 50 w w0.heap.size (fun _ => True) u p) :
    StInv w0 (.slice (some ⟨g, 0, none⟩) ps.length c) (us.set j u) (ps.set j p) (w.setCell ⟨g, j, none⟩ u) := by
  obtain ⟨cc, hcl, hM, hcc, hfr⟩ := Kd.R_elem h.hs [] (j : Int) (by omega) (by omega)
  have hcl' : cc.length = 1 := hcl
  have e : cc.take 0 ++ [u] ++ cc.drop (0 + [u].length) = [u] := by obtain ⟨x, rfl⟩ := List.length_eq_one_iff.1 hcl'; rfl
  have hs := Kd.R_seg h.hs (j : Int) (by omega) (by omega) hcl hcc (seg := [u]) (j := 0) (by simp [Kd.raw]) (x' := [u]) (okp := fun _ => False) (by rw [e]; exact raw_mk (k50_one hu).1) (fun _ hk => hk.elim)
  have e2 : w.setCells g ((j : Int).toNat * (Kd.raw 1).sz + 0) [u] = w.setCell ⟨g, j, none⟩ u := by simp [Kd.raw, World.setCells]
  rw [e2] at hs
  exact h.setLast hj hu hs.1 (by simpa [Value.ownBlock] using hs.2)
theorem made_next {ps : List (List S50)} {j : Nat} (h : j < ps.length) : tot (ps.drop j) = (ps.getD j []).length + tot (ps.drop (j + 1)) ∧ ps.drop j = ps.getD j [] :: ps.drop (j + 1) := by
  have e : ps.drop j = ps.getD j [] :: ps.drop (j + 1) := by rw [List.drop_eq_getElem_cons h]; simp [List.getD_eq_getElem?_getD, h]
  exact ⟨by rw [e]; simp [tot], e⟩
theorem made_open {ps : List (List S50)} (h : 0 < ps.length) : tot ps = (ps.getD 0 []).length + tot (ps.drop 1) ∧ madeEnd ps = (ps.drop 1).foldl (joinF 2) (ps.getD 0 []) := by
  cases ps with
  | nil => simp at h
  | cons p r => simp [tot, madeEnd]
set_option maxHeartbeats 8000000 in
set_option maxRecDepth 100000 in
theorem made_any (A : Option Addr) (c : Nat) (l : List Int) (most : Int) (w : World) (hC : Kd.C (Kd.int .u8) w A l.length l) (hc : l.length ≤ c) (hb : ∀ b ∈ l, 0 ≤ b ∧ b ≤ 255) (hm0 : 0 ≤ most) (hm : most ≤ 400) (hl : l.length ≤ 1000000000000000) :
    Calls Tryd.prog 16 #[.slice A l.length c, .int .i64 most] w fun e w' => ∃ v, e = .returned v ∧ Kd.R k50 50 w' w.heap.size (fun _ => True) v (madeF l most) ∧ Below w.heap.size w w' := by
  have HC := Lib.hid hC
  have HL := Lib.hid hb
  clear hC hb
  obtain ⟨res, hres⟩ : ∃ res, res = madeLoop most l ([], 0) := ⟨_, rfl⟩
  have HR := Lib.hid hres
  have HF : Hid (madeF l most = madeEnd res.1) := Lib.hid (by rw [hres]; rfl)
  clear hres
  go_enter Tryd.func16, Tryd.ntmps16
  go_wp2_with (first | ((with_reducible refine gate_dst (N := 16) rfl ?_); refine Kd.R_lit (Kd.raw 1) _ 25 ?hg (N := 16) ?hd (xs := ([] : List (List Value))) (inner := []) (ok := fun _ => True) (okp := fun _ => True) ?hr ?hp (fun _ hk => hk) trivial (Below.refl _ _) (Nat.le_refl _) (by simp) ?_; (case hd => rfl); (case hg => rfl); (case hr => first | (go_simp; done) | (go_simp; rfl)); (case hp => exact (Reps.none _ _)); intro v225 w4 ho5 hb hg_ hnew_; have HB1 := Lib.hid hb; have HO1 := Lib.hid ho5; clear hg_ hnew_ hb ho5))
  have hI : Hid (StInv w v225 [] [] w4) := Lib.hid ⟨HB1.out, HO1.out, rfl, fun i u p h => by simp at h⟩
  clear HO1 HB1
  go_loopw [5, 6, 7] (fun c5 c6 c7 wr => ∃ (k : Nat) (us : List Value) (ps : List (List S50)) (size : Int), k ≤ l.length ∧ c7 = .int .i64 (k : Int) ∧ c6 = .int .i64 size ∧ Hid (res = madeLoop most (l.drop k) (ps, size)) ∧ Hid (SizeOk (ps, size)) ∧ Hid (StInv w c5 us ps wr)) (fun _ _ c7 _ => l.length - (intOf c7).toNat)
  case atStart => exact ⟨0, [], [], 0, Nat.zero_le _, rfl, rfl, HR, Lib.hid ⟨by simp [tot], by simp⟩, hI⟩
  case round =>
    obtain ⟨k, us, ps, size, hk, rfl, rfl, hres, hsz, hJ⟩ := hrel
    have z1 := hsz.out.1
    have z2 := hsz.out.2
    simp only at z1 z2
    by_cases hlt : k < l.length
    · have hkI : (k : Int) < (l.length : Int) := by omega
      have hkb : decide ((k : Int) < (l.length : Int)) = true := by simp; omega
      have hs2 : wrap64 (size + 2) = size + 2 := by unfold wrap64; omega
      by_cases hmo : size + 2 < most
      · have hmb : decide (size + 2 < most) = true := by simp; omega
        obtain ⟨ad, rfl, x0⟩ := Kd.at_int HC.out (k : Int) (by omega) hkI
        replace x0 := (hJ.out.low.cell (World.block_lt_of_cell? w _ x0)).trans x0
        have HX : Hid (madeLoop most (l.drop k) (ps, size) = madeLoop most (l.drop (k + 1)) (madeStep (rd l k) (ps, size))) := Lib.hid (by rw [madeLoop_cons hlt, if_pos hmo])
        have hb : 0 ≤ rd l k ∧ rd l k ≤ 255 := HL.out _ (by simp [rd, List.getD_eq_getElem?_getD, hlt])
        generalize rd l k = b at *
        simp only [Int.toNat_natCast] at x0
        have t1 : Int.tmod b 9 = b % 9 := Int.tmod_eq_emod_of_nonneg hb.1
        have t2 : Int.tdiv b 9 = b / 9 := Int.tdiv_eq_ediv_of_nonneg hb.1
        have t3 : Int.tdiv b 27 = b / 27 := Int.tdiv_eq_ediv_of_nonneg hb.1
        have t4 : Int.tmod (b / 9) 3 = b / 9 % 3 := Int.tmod_eq_emod_of_nonneg (by omega)
        have t5 : Int.tmod (b / 27) 2 = b / 27 % 2 := Int.tmod_eq_emod_of_nonneg (by omega)
        have t6 : Int.tmod (b % 9) 2 = b % 9 % 2 := Int.tmod_eq_emod_of_nonneg (by omega)
        have hw1 : wrap64 (97 + b / 9 % 3) = 97 + b / 9 % 3 := by unfold wrap64; omega
        have hw2 : wrap64 (97 + b / 9 % 3 + b / 27 % 2) = 97 + b / 9 % 3 + b / 27 % 2 := by unfold wrap64; omega
        have hlen := hJ.out.len
        obtain ⟨V, cv, hv⟩ := Kd.R_slice hJ.out.hs
        rw [List.length_map, hJ.out.len] at hv
        subst hv
        have HLEN := Lib.hid hlen
        clear hlen
        by_cases hq : b % 9 < 5 ∨ ps.length = 0 ∨ (ps.length = 1 ∧ b % 9 < 8)
        · have HQ := Lib.hid hq
          go_upto_region 9 with fail
          go_cut [51] (fun c51 wd => c51 = .bool true ∧ wd = wr)
          case first =>
            by_cases k5 : b % 9 < 5
            · have b5 : decide (b % 9 < 5) = true := decide_eq_true k5
              go_wp2
              go_meet
              exact ⟨rfl, rfl⟩
            · have b5 : decide (b % 9 < 5) = false := decide_eq_false k5
              by_cases k0 : ps.length = 0
              · have b0 : ((ps.length : Int) == 0) = true := beq_iff_eq.2 (by omega)
                have K0 := Lib.hid k0
                clear k0 hq
                go_wp2
                go_meet
                exact ⟨rfl, rfl⟩
              · have b0 : ((ps.length : Int) == 0) = false := beq_eq_false_iff_ne.2 (by omega)
                have b1 : ((ps.length : Int) == 1) = true := beq_iff_eq.2 (by omega)
                have b8 : decide (b % 9 < 8) = true := decide_eq_true (by omega)
                go_wp2
                go_meet
                exact ⟨rfl, rfl⟩
          case rest =>
          obtain ⟨rfl, rfl⟩ := hcut
          by_cases h4 : b % 9 = 4
          · have b4 : (b % 9 == 4) = true := beq_iff_eq.2 h4
            go_wp2_with (first | (go_at_call 38; refine (koineref04_empty.calls _ _ rfl).mono ?_; rintro e w1 ⟨v, rfl, h1, h2⟩; obtain ⟨E, ec, rfl⟩ := Kd.R_slice h1; have HJ1 := Lib.hid (hJ.out.below h2); have HU := Lib.hid (Kd.R_lower h1 hJ.out.low.size); clear h1 h2) | ((with_reducible refine gate_builtin (b := .append) (xs := #[.tmp 64, .tmp 66]) rfl ?_); at_builtin; refine Kd.R_append (Kd.raw 1) (w0 := w1) w.heap.size rfl (.tmp 64) (.tmp 66) 56 25 (.slice none 0 0) 24 rfl Tryd.underlying56 info25 rfl (by decide) (by omega) (.slice V ps.length cv) (us.map (fun u => [u])) [.slice E 1 ec] [.slice E 1 ec] (fun _ => True) (fun _ => False) rfl rfl ?aP (fun _ hk => hk.elim) ?aF ?aO ?aB ?aS ?aL ?_; (case aP => exact raw_mk rfl); (case aF => exact (fun _ _ => trivial)); (case aO => exact HJ1.out.hs); (case aB => exact Below.refl _ _); (case aS => exact HJ1.out.low.size); (case aL => have hLL := HLEN.out; simp only [List.length_map]; omega); intro v1 w6 ho1 hb1 hg1 hat1; have HP := Lib.hid (HJ1.out.push HU.out ho1 hg1); clear ho1 hb1 hg1 hat1) | fail)
            go_roundw
            case rel => exact ⟨k + 1, _, _, size + 2, by omega, by go_num, rfl, Lib.hid (hres.out.trans (HX.out.trans (by rw [madeStep, if_pos HQ.out, if_pos h4]; rfl))), Lib.hid (by have := step_size (b := b) hsz.out hm hmo; rw [madeStep, if_pos HQ.out, if_pos h4] at this; exact this), HP⟩
            case measure => simp [intOf]; omega
          · have b4 : (b % 9 == 4) = false := beq_eq_false_iff_ne.2 h4
            have hmn : min 99 (97 + b / 9 % 3 + b / 27 % 2) = mn2 99 (97 + b / 9 % 3 + b / 27 % 2) := by unfold mn2; omega
            go_wp2_with (first | (go_at_call 39; refine (koineref04_one.calls _ _ _ _ rfl).mono ?_; rintro e w1 ⟨v, rfl, h1, h2⟩; obtain ⟨E, ec, rfl⟩ := Kd.R_slice h1; have HJ1 := Lib.hid (hJ.out.below h2); have HU := Lib.hid (Kd.R_lower h1 hJ.out.low.size); clear h1 h2) | ((with_reducible refine gate_builtin (b := .append) (xs := #[.tmp 68, .tmp 72]) rfl ?_); at_builtin; refine Kd.R_append (Kd.raw 1) (w0 := w1) w.heap.size rfl (.tmp 68) (.tmp 72) 56 25 (.slice none 0 0) 24 rfl Tryd.underlying56 info25 rfl (by decide) (by omega) (.slice V ps.length cv) (us.map (fun u => [u])) [.slice E 1 ec] [.slice E 1 ec] (fun _ => True) (fun _ => False) rfl rfl ?aP (fun _ hk => hk.elim) ?aF ?aO ?aB ?aS ?aL ?_; (case aP => exact raw_mk rfl); (case aF => exact (fun _ _ => trivial)); (case aO => exact HJ1.out.hs); (case aB => exact Below.refl _ _); (case aS => exact HJ1.out.low.size); (case aL => have hLL := HLEN.out; simp only [List.length_map]; omega); intro v1 w6 ho1 hb1 hg1 hat1; have HP := Lib.hid (HJ1.out.push HU.out ho1 hg1); clear ho1 hb1 hg1 hat1) | fail)
            go_roundw
            case rel => exact ⟨k + 1, _, _, size + 2, by omega, by go_num, rfl, Lib.hid (hres.out.trans (HX.out.trans (by rw [madeStep, if_pos HQ.out, if_neg h4, hmn]; rfl))), Lib.hid (by have := step_size (b := b) hsz.out hm hmo; rw [madeStep, if_pos HQ.out, if_neg h4, hmn] at this; exact this), HP⟩
            case measure => simp [intOf]; omega
        · have HQ := Lib.hid hq
          have hn0 : ps.length ≠ 0 := by omega
          have k5 : ¬ b % 9 < 5 := by omega
          have b5 : decide (b % 9 < 5) = false := decide_eq_false k5
          have b0 : ((ps.length : Int) == 0) = false := beq_eq_false_iff_ne.2 (by omega)
          obtain ⟨j, hj⟩ : ∃ j, j = ps.length - 1 := ⟨_, rfl⟩
          have hjl : j < ps.length := by omega
          have hwj : wrap64 ((ps.length : Int) - 1) = (ps.length : Int) - 1 := by unfold wrap64; omega
          have hjI : (j : Int) < (ps.length : Int) := by omega
          have hsz1 : wrap64 (size + 1) = size + 1 := by unfold wrap64; omega
          have hsz2 : wrap64 (size + 1 - 1) = size := by unfold wrap64; omega
          obtain ⟨g, cx, PA, pc, hvx, hux, fc, ff, hpc, hRp⟩ := hJ.out.cell hjl
          injection hvx with e1 _ e3
          subst e1; subst e3
          subst hj
          have hj : True := trivial
          go_upto_region 9 with fail
          go_cut [51] (fun c51 wd => c51 = .bool false ∧ wd = wr)
          case first =>
            by_cases k1 : ps.length = 1
            · have b1 : ((ps.length : Int) == 1) = true := beq_iff_eq.2 (by omega)
              have b8 : decide (b % 9 < 8) = false := decide_eq_false (by omega)
              have K1 := Lib.hid k1
              clear k1 hq hn0 hjl hjI
              go_wp2
              go_meet
              exact ⟨rfl, rfl⟩
            · have b1 : ((ps.length : Int) == 1) = false := beq_eq_false_iff_ne.2 (by omega)
              go_wp2
              go_meet
              exact ⟨rfl, rfl⟩
          case rest =>
          obtain ⟨rfl, rfl⟩ := hcut
          have tl : (ps.getD (ps.length - 1) []).length ≤ 400 := by have := tot_le (ps := ps) (ps.length - 1); omega
          generalize hpj : ps.getD (ps.length - 1) [] = pj at *
          have HPJ := Lib.hid hpj
          clear hpj hj
          by_cases h8 : b % 9 = 8
          · have b8 : (b % 9 == 8) = true := beq_iff_eq.2 h8
            go_wp2_with (first | (go_at_call 40; refine (koineref04_repeat.calls PA pc pj _ _ (Kd.R_reads' hRp).2.2 hpc (rep_f (by omega))).mono ?_; rintro e w1 ⟨v, rfl, h1, h2⟩; obtain ⟨E, ec, rfl⟩ := Kd.R_slice h1; have HJ1 := Lib.hid (hJ.out.below h2); have HU := Lib.hid (Kd.R_lower h1 hJ.out.low.size); have fc1 := (h2.cell (World.block_lt_of_cell? _ _ fc)).trans fc; have ff1 : w1.frozen? ⟨g, ps.length - 1, none⟩ = false := (by obtain ⟨g2, _, _, _, hv2, _, _, ff2, _, _⟩ := HJ1.out.cell (i := ps.length - 1) (by omega); injection hv2 with a1 _ _; injection a1 with a1; injection a1 with a1; subst a1; exact ff2); clear h1 h2) | fail)
            go_roundw
            case rel => exact ⟨k + 1, us.set (ps.length - 1) _, ps.set (ps.length - 1) (repF pj), size + 1, by omega, by go_num, rfl, Lib.hid (hres.out.trans (HX.out.trans (by rw [madeStep, if_neg HQ.out, if_pos h8]; simp only [HPJ.out]))), Lib.hid (by have := step_size (b := b) hsz.out hm hmo; rw [madeStep, if_neg HQ.out, if_pos h8] at this; simp only [HPJ.out] at this; exact this), Lib.hid (HJ1.out.store (by omega) HU.out)⟩
            case measure => simp [intOf]; omega
          · have b8 : (b % 9 == 8) = false := beq_eq_false_iff_ne.2 h8
            have hn2 : 2 ≤ ps.length := by have := HQ.out; omega
            have hw22 : wrap64 ((ps.length : Int) - 2) = (ps.length : Int) - 2 := by unfold wrap64; omega
            have hwK : wrap64 (2 + b % 9 % 2) = 2 + b % 9 % 2 := by unfold wrap64; omega
            obtain ⟨g2, cx2, PB, pd, hvx2, hux2, fc2, ff2, hpd, hRq⟩ := hJ.out.cell (i := ps.length - 2) (by omega)
            injection hvx2 with e1 _ e3
            injection e1 with e1
            injection e1 with e1
            subst e1
            clear e3
            have tl2 : (ps.getD (ps.length - 2) []).length ≤ 400 := by have := tot_le (ps := ps) (ps.length - 2); omega
            generalize hpk : ps.getD (ps.length - 2) [] = pk at *
            have HPK := Lib.hid hpk
            clear hpk
            have i1 : ((ps.length : Int) - 2).toNat = ps.length - 2 := by omega
            have i2 : ((ps.length : Int) - 1).toNat = ps.length - 1 := by omega
            generalize ha : ps.length - 2 = a at *
            generalize hj1 : ps.length - 1 = j at *
            clear hwj hw22 i1 i2
            have hwa : wrap64 ((ps.length : Int) - 2) = (a : Int) := by unfold wrap64; omega
            have hwj : wrap64 ((ps.length : Int) - 1) = (j : Int) := by unfold wrap64; omega
            have r1 : (a : Int) < (ps.length : Int) := by omega
            have r2 : (j : Int) < (ps.length : Int) := by omega
            have r3 : a < ps.length := by omega
            have r4 : j < ps.length := by omega
            have r5 : decide ((a : Int) < (ps.length : Int)) = true := decide_eq_true r1
            have hwa' : IntKind.i64.wrap ((ps.length : Int) - 2) = (a : Int) := (IntWalk.i64_in _ (by omega)).trans (by omega)
            have hwj' : IntKind.i64.wrap ((ps.length : Int) - 1) = (j : Int) := (IntWalk.i64_in _ (by omega)).trans (by omega)
            have hwK' : IntKind.i64.wrap (2 + b % 9 % 2) = 2 + b % 9 % 2 := IntWalk.i64_in _ (by omega)
            have r7 : (0 : Int) ≤ (a : Int) := by omega
            have r8 : (0 : Int) ≤ (j : Int) := by omega
            have r9 : (a : Int) ≤ (ps.length : Int) := by omega
            have r6 : decide ((j : Int) < (ps.length : Int)) = true := decide_eq_true r2
            have HA := Lib.hid ha
            have HJ1' := Lib.hid hj1
            clear ha hj1 hjl hjI
            go_upto_region 20 with fail
            go_cut [13] (fun c13 wd => ∃ E ec, c13 = .slice E (joinF (2 + b % 9 % 2) pk pj).length ec ∧ Hid (StInv w (Value.slice (some { block := g, off := 0 }) ps.length cv) us ps wd) ∧ Hid (Kd.R k50 50 wd w.heap.size (fun _ => True) c13 (joinF (2 + b % 9 % 2) pk pj)))
            case first =>
              go_region_with (go_at_call 41; refine (rjoin_any _ PB PA pd pc pk pj _ (Kd.C_below (Kd.R_reads' hRq).2.2 (Below.refl _ _).drew) (Kd.C_below (Kd.R_reads' hRp).2.2 (Below.refl _ _).drew) hpd hpc (by omega) (by omega)).mono ?_; rintro e w1 ⟨v, rfl, h1, h2⟩; obtain ⟨E, ec, rfl⟩ := Kd.R_slice h1; have HJ1 := Lib.hid ((hJ.out.below (Below.refl _ _).drew).below h2); have HU := Lib.hid (Kd.R_lower h1 hJ.out.low.size); clear h1 h2)
              all_goals
                go_wp2
                go_meet
                exact ⟨E, ec, rfl, HJ1, HU⟩
            case rest =>
              obtain ⟨E, ec, rfl, HJ1, HU⟩ := hcut
              have HT := Lib.hid (HJ1.out.take (m := a) (by omega))
              have hLT : (us.take a).length = a := by have := HT.out.len; simp at this ⊢; have := HLEN.out; omega
              have HLT := Lib.hid hLT
              have hcap := (Kd.R_reads' HJ1.out.hs).2.1
              have r10 : (a : Int) ≤ (cv : Int) := by omega
              have r11 : a ≤ cv := by omega
              have r12 : decide ((a : Int) ≤ (cv : Int)) = true := decide_eq_true r10
              clear hLT
              generalize hjn : (joinF (2 + b % 9 % 2) pk pj).length = en at *
              go_wp2_with (first | ((with_reducible refine gate_builtin (b := .append) (xs := #[.tmp 109, .tmp 111]) rfl ?_); at_builtin; refine Kd.R_append (Kd.raw 1) (w0 := wc) w.heap.size rfl (.tmp 109) (.tmp 111) 56 25 (.slice none 0 0) 24 rfl Tryd.underlying56 info25 rfl (by decide) (by omega) (.slice (some ⟨g, 0, none⟩) a cv) ((us.take a).map (fun u => [u])) [.slice E en ec] [.slice E en ec] (fun _ => True) (fun _ => False) rfl rfl ?aP (fun _ hk => hk.elim) ?aF ?aO ?aB ?aS ?aL ?_; (case aP => exact raw_mk rfl); (case aF => exact (fun _ _ => trivial)); (case aO => exact HT.out.hs); (case aB => exact Below.refl _ _); (case aS => exact HT.out.low.size); (case aL => have hLL := HLT.out; simp only [List.length_map, hLL]; omega); intro v1 w6 ho1 hb1 hg1 hat1; have HP := Lib.hid (HT.out.push HU.out ho1 hg1); clear ho1 hb1 hg1 hat1) | fail)
              go_roundw
              case rel => exact ⟨k + 1, _, _, size, by omega, by go_num, rfl, Lib.hid (hres.out.trans (HX.out.trans (by rw [madeStep, if_neg HQ.out, if_neg h8]; simp only [HA.out, HJ1'.out, HPJ.out, HPK.out]))), Lib.hid (by have := step_size (b := b) hsz.out hm hmo; rw [madeStep, if_neg HQ.out, if_neg h8] at this; simp only [HA.out, HJ1'.out, HPJ.out, HPK.out] at this; exact this), HP⟩
              case measure => simp [intOf]; omega
      · have hmb : decide (size + 2 < most) = false := by simp; omega
        have hE : res = (ps, size) := hres.out.trans (by rw [madeLoop_cons hlt, if_neg hmo])
        have HE := Lib.hid hE
        clear hE
        obtain ⟨V, cv, hv⟩ := Kd.R_slice hJ.out.hs
        rw [List.length_map, hJ.out.len] at hv
        subst hv
        by_cases h0 : ps.length = 0
        · have b0 : ((ps.length : Int) == 0) = true := beq_iff_eq.2 (by omega)
          have H0 := Lib.hid h0
          clear h0
          go_wp2_with (first | (go_at_call 38; refine (koineref04_empty.calls _ _ rfl).mono ?_; rintro e w1 ⟨v, rfl, h1, h2⟩; obtain ⟨E, ec, rfl⟩ := Kd.R_slice h1; have HJ1 := Lib.hid (hJ.out.below h2); have HU := Lib.hid (Kd.R_lower h1 hJ.out.low.size); clear h1 h2) | fail)
          go_ret
          exact ⟨_, rfl, by have h := HU.out; rw [HF.out, HE.out, List.eq_nil_of_length_eq_zero H0.out]; exact h, HJ1.out.low⟩
        · have b0 : ((ps.length : Int) == 0) = false := beq_eq_false_iff_ne.2 (by omega)
          have hp0 : 0 < ps.length := by omega
          obtain ⟨g, cx, PA, pc, hvx, hux, fc, ff, hpc, hRp⟩ := hJ.out.cell hp0
          injection hvx with e1 _ e3
          subst e1; subst e3
          have hd0 := made_open hp0
          have hb0 : (ps.getD 0 []).length + tot (ps.drop 1) + (ps.length - 1) ≤ 400 := by have := hd0.1; omega
          have HB0 := Lib.hid hb0
          have HD0 := Lib.hid hd0.2
          have HR0 := Lib.hid hRp
          clear hd0 hb0 hRp
          generalize ps.getD 0 [] = a0 at *
          have hpI : (0 : Int) < (ps.length : Int) := by omega
          have hpI' : decide ((0 : Int) < (ps.length : Int)) = true := decide_eq_true hpI
          go_wp2
          go_loopw [14, 15] (fun c14 c15 wd => ∃ (j : Nat) (acc : List S50) (E : Option Addr) (ec : Nat), 1 ≤ j ∧ j ≤ ps.length ∧ c15 = .int .i64 (j : Int) ∧ c14 = .slice E acc.length ec ∧ acc.length ≤ ec ∧ Hid (acc.length + tot (ps.drop j) + (ps.length - j) ≤ 400) ∧ Hid (madeEnd ps = (ps.drop j).foldl (joinF 2) acc) ∧ Hid (Kd.R k50 50 wd w.heap.size (fun _ => True) c14 acc) ∧ Hid (StInv w (Value.slice (some { block := g, off := 0 }) ps.length cv) us ps wd)) (fun _ c15 _ => ps.length - (intOf c15).toNat)
          case atStart => exact ⟨1, a0, PA, pc, Nat.le_refl _, hp0, rfl, rfl, hpc, HB0, HD0, HR0, hJ⟩
          case round =>
            obtain ⟨j, acc, E, ec, hj1, hj, rfl, rfl, hec, hac, hmd, hRa, hK⟩ := hrel
            by_cases hjl : j < ps.length
            · have hjI : (j : Int) < (ps.length : Int) := by omega
              have hjb : decide ((j : Int) < (ps.length : Int)) = true := decide_eq_true hjI
              obtain ⟨g2, cx2, PB, pd, hvx2, hux2, fc2, ff2, hpd, hRq⟩ := hK.out.cell hjl
              injection hvx2 with e1 _ e3
              injection e1 with e1
              injection e1 with e1
              subst e1
              clear e3
              have hst := made_next hjl
              have hs2 := hac.out
              have hq1 : acc.length ≤ 400 := by omega
              have hq2 : (ps.getD j []).length ≤ 400 := by have := hst.1; omega
              have hs3 : (joinF 2 acc (ps.getD j [])).length + tot (ps.drop (j + 1)) + (ps.length - (j + 1)) ≤ 400 := by rw [joinF_length]; have := hst.1; omega
              have hs4 : madeEnd ps = (ps.drop (j + 1)).foldl (joinF 2) (joinF 2 acc (ps.getD j [])) := by rw [hmd.out, hst.2, List.foldl_cons]
              have HS3 := Lib.hid hs3
              have HS4 := Lib.hid hs4
              have HRQ := Lib.hid hRq
              clear hst hs2 hs3 hs4 hRq
              generalize ps.getD j [] = aj at *
              go_wp2_with (first | (go_at_call 41; refine (rjoin_any _ E PB ec pd acc aj _ (Kd.R_reads' hRa.out).2.2 (Kd.R_reads' HRQ.out).2.2 hec hpd (by omega) (by omega)).mono ?_; rintro e w1 ⟨v, rfl, h1, h2⟩; obtain ⟨E2, ec2, rfl⟩ := Kd.R_slice h1; have HJ1 := Lib.hid (hK.out.below h2); have HU := Lib.hid (Kd.R_lower h1 hK.out.low.size); clear h1 h2) | fail)
              go_roundw
              case rel => exact ⟨j + 1, _, _, _, by omega, by omega, by go_num, rfl, (Kd.R_reads' HU.out).2.1, HS3, HS4, HU, HJ1⟩
              case measure => simp [intOf]; omega
            · have hjb : decide ((j : Int) < (ps.length : Int)) = false := decide_eq_false (by omega)
              have HJE := Lib.hid (show j = ps.length by omega)
              go_wp2
              go_ret
              exact ⟨_, rfl, by have h := hRa.out; rw [HF.out, HE.out, hmd.out, HJE.out, List.drop_length]; exact h, hK.out.low⟩
    · have hkb : decide ((k : Int) < (l.length : Int)) = false := by simp; omega
      have hE : res = (ps, size) := hres.out.trans (by rw [show k = l.length by omega, List.drop_length]; rfl)
      have HE := Lib.hid hE
      clear hE
      obtain ⟨V, cv, hv⟩ := Kd.R_slice hJ.out.hs
      rw [List.length_map, hJ.out.len] at hv
      subst hv
      by_cases h0 : ps.length = 0
      · have b0 : ((ps.length : Int) == 0) = true := beq_iff_eq.2 (by omega)
        have H0 := Lib.hid h0
        clear h0
        go_wp2_with (first | (go_at_call 38; refine (koineref04_empty.calls _ _ rfl).mono ?_; rintro e w1 ⟨v, rfl, h1, h2⟩; obtain ⟨E, ec, rfl⟩ := Kd.R_slice h1; have HJ1 := Lib.hid (hJ.out.below h2); have HU := Lib.hid (Kd.R_lower h1 hJ.out.low.size); clear h1 h2) | fail)
        go_ret
        exact ⟨_, rfl, by have h := HU.out; rw [HF.out, HE.out, List.eq_nil_of_length_eq_zero H0.out]; exact h, HJ1.out.low⟩
      · have b0 : ((ps.length : Int) == 0) = false := beq_eq_false_iff_ne.2 (by omega)
        have hp0 : 0 < ps.length := by omega
        obtain ⟨g, cx, PA, pc, hvx, hux, fc, ff, hpc, hRp⟩ := hJ.out.cell hp0
        injection hvx with e1 _ e3
        subst e1; subst e3
        have hd0 := made_open hp0
        have hb0 : (ps.getD 0 []).length + tot (ps.drop 1) + (ps.length - 1) ≤ 400 := by have := hd0.1; omega
        have HB0 := Lib.hid hb0
        have HD0 := Lib.hid hd0.2
        have HR0 := Lib.hid hRp
        clear hd0 hb0 hRp
        generalize ps.getD 0 [] = a0 at *
        have hpI : (0 : Int) < (ps.length : Int) := by omega
        have hpI' : decide ((0 : Int) < (ps.length : Int)) = true := decide_eq_true hpI
        go_wp2
        go_loopw [14, 15] (fun c14 c15 wd => ∃ (j : Nat) (acc : List S50) (E : Option Addr) (ec : Nat), 1 ≤ j ∧ j ≤ ps.length ∧ c15 = .int .i64 (j : Int) ∧ c14 = .slice E acc.length ec ∧ acc.length ≤ ec ∧ Hid (acc.length + tot (ps.drop j) + (ps.length - j) ≤ 400) ∧ Hid (madeEnd ps = (ps.drop j).foldl (joinF 2) acc) ∧ Hid (Kd.R k50 50 wd w.heap.size (fun _ => True) c14 acc) ∧ Hid (StInv w (Value.slice (some { block := g, off := 0 }) ps.length cv) us ps wd)) (fun _ c15 _ => ps.length - (intOf c15).toNat)
        case atStart => exact ⟨1, a0, PA, pc, Nat.le_refl _, hp0, rfl, rfl, hpc, HB0, HD0, HR0, hJ⟩
        case round =>
          obtain ⟨j, acc, E, ec, hj1, hj, rfl, rfl, hec, hac, hmd, hRa, hK⟩ := hrel
          by_cases hjl : j < ps.length
          · have hjI : (j : Int) < (ps.length : Int) := by omega
            have hjb : decide ((j : Int) < (ps.length : Int)) = true := decide_eq_true hjI
            obtain ⟨g2, cx2, PB, pd, hvx2, hux2, fc2, ff2, hpd, hRq⟩ := hK.out.cell hjl
            injection hvx2 with e1 _ e3
            injection e1 with e1
            injection e1 with e1
            subst e1
            clear e3
            have hst := made_next hjl
            have hs2 := hac.out
            have hq1 : acc.length ≤ 400 := by omega
            have hq2 : (ps.getD j []).length ≤ 400 := by have := hst.1; omega
            have hs3 : (joinF 2 acc (ps.getD j [])).length + tot (ps.drop (j + 1)) + (ps.length - (j + 1)) ≤ 400 := by rw [joinF_length]; have := hst.1; omega
            have hs4 : madeEnd ps = (ps.drop (j + 1)).foldl (joinF 2) (joinF 2 acc (ps.getD j [])) := by rw [hmd.out, hst.2, List.foldl_cons]
            have HS3 := Lib.hid hs3
            have HS4 := Lib.hid hs4
            have HRQ := Lib.hid hRq
            clear hst hs2 hs3 hs4 hRq
            generalize ps.getD j [] = aj at *
            go_wp2_with (first | (go_at_call 41; refine (rjoin_any _ E PB ec pd acc aj _ (Kd.R_reads' hRa.out).2.2 (Kd.R_reads' HRQ.out).2.2 hec hpd (by omega) (by omega)).mono ?_; rintro e w1 ⟨v, rfl, h1, h2⟩; obtain ⟨E2, ec2, rfl⟩ := Kd.R_slice h1; have HJ1 := Lib.hid (hK.out.below h2); have HU := Lib.hid (Kd.R_lower h1 hK.out.low.size); clear h1 h2) | fail)
            go_roundw
            case rel => exact ⟨j + 1, _, _, _, by omega, by omega, by go_num, rfl, (Kd.R_reads' HU.out).2.1, HS3, HS4, HU, HJ1⟩
            case measure => simp [intOf]; omega
          · have hjb : decide ((j : Int) < (ps.length : Int)) = false := decide_eq_false (by omega)
            have HJE := Lib.hid (show j = ps.length by omega)
            go_wp2
            go_ret
            exact ⟨_, rfl, by have h := hRa.out; rw [HF.out, HE.out, hmd.out, HJE.out, List.drop_length]; exact h, hK.out.low⟩
end Go.Proofs.YtaphblnelmncaaaDoor.PA
end

section
/- The machine's answers are the language's. -/
set_option linter.unusedVariables false
namespace Go.Proofs.YtaphblnelmncaaaDoor.PA
open Go.Proofs.YtaphblnelmncaaaDoorW.PrintWords

/-- Place i takes the byte b. -/
def Hit (p : List S50) (i : Nat) (b : Int) : Prop := (rd_T50 p i).f1 ≤ b ∧ b ≤ (rd_T50 p i).f2
theorem hit_iff {p : List S50} {i : Nat} {b : Int} : hit p i b = true ↔ Hit p i b := by unfold hit Hit; simp
/-- Place by place. -/
inductive Hits (p : List S50) : List Nat → List Int → Prop where
  | nil : Hits p [] []
  | cons (i : Nat) (b : Int) (is : List Nat) (bs : List Int) (h : Hit p i b) (hs : Hits p is bs) : Hits p (i :: is) (b :: bs)
theorem Hits.append {p : List S50} {a b : List Nat} {u v : List Int} (h : Hits p a u) (k : Hits p b v) : Hits p (a ++ b) (u ++ v) := by
  induction h with
  | nil => exact k
  | cons i c is bs hh hs ih => exact .cons i c _ _ hh ih
theorem Hits.split {p : List S50} : ∀ {a b : List Nat} {w : List Int}, Hits p (a ++ b) w → ∃ u v, w = u ++ v ∧ Hits p a u ∧ Hits p b v
  | [], b, w, h => ⟨[], w, rfl, .nil, h⟩
  | i :: a, b, w, h => by
    cases h with
    | cons _ c _ bs hh hs =>
      obtain ⟨u, v, rfl, h1, h2⟩ := Hits.split hs
      exact ⟨c :: u, v, rfl, .cons i c _ _ hh h1, h2⟩
theorem Hits.length {p : List S50} {a : List Nat} {w : List Int} (h : Hits p a w) : a.length = w.length := by
  induction h with
  | nil => rfl
  | cons i c is bs hh hs ih => simp [ih]

/-- A string is matched by a tree if a word of its places takes it. -/
theorem lang_words {p : List S50} {i : Nat} {t : Re} (h : IsRe p i t) : ∀ {w}, t.Lang w ↔ ∃ is, t.Words is ∧ Hits p is w := by
  induction h with
  | emp => intro w; exact ⟨fun h => ⟨[], rfl, by rw [show w = [] from h]; exact .nil⟩, fun ⟨is, h1, h2⟩ => by rw [show is = [] from h1] at h2; cases h2; rfl⟩
  | rng i x hx hk =>
    intro w
    have hr : rd_T50 p (i : Int) = x := by simp [rd_T50, List.getD_eq_getElem?_getD, hx]
    constructor
    · rintro ⟨b, rfl, h1, h2⟩
      exact ⟨[i], rfl, .cons i b [] [] (by unfold Hit; rw [hr]; exact ⟨h1, h2⟩) .nil⟩
    · rintro ⟨is, h1, h2⟩
      rw [show is = [i] from h1] at h2
      cases h2 with
      | cons _ b _ bs hh hs =>
        cases hs
        unfold Hit at hh
        rw [hr] at hh
        exact ⟨b, rfl, hh.1, hh.2⟩
  | seq i x a b s t hx hk ha hb hs ht ihs iht =>
    intro w
    constructor
    · rintro ⟨u, v, rfl, h1, h2⟩
      obtain ⟨is, h3, h4⟩ := ihs.1 h1
      obtain ⟨js, h5, h6⟩ := iht.1 h2
      exact ⟨is ++ js, ⟨is, js, rfl, h3, h5⟩, h4.append h6⟩
    · rintro ⟨w', ⟨is, js, rfl, h3, h5⟩, h⟩
      obtain ⟨u, v, rfl, h4, h6⟩ := h.split
      exact ⟨u, v, rfl, ihs.2 ⟨is, h3, h4⟩, iht.2 ⟨js, h5, h6⟩⟩
  | alt i x a b s t hx hk ha hb hs ht ihs iht =>
    intro w
    constructor
    · rintro (h | h)
      · obtain ⟨is, h1, h2⟩ := ihs.1 h; exact ⟨is, .inl h1, h2⟩
      · obtain ⟨is, h1, h2⟩ := iht.1 h; exact ⟨is, .inr h1, h2⟩
    · rintro ⟨is, h1 | h1, h2⟩
      · exact .inl (ihs.2 ⟨is, h1, h2⟩)
      · exact .inr (iht.2 ⟨is, h1, h2⟩)
  | rep i x a s hx hk ha hs ih =>
    intro w
    constructor
    · intro h
      have h : Star s.Lang w := h
      induction h with
      | nil => exact ⟨[], .nil, .nil⟩
      | app u v hu hv ihv =>
        obtain ⟨is, h1, h2⟩ := ih.1 hu
        obtain ⟨js, h3, h4⟩ := ihv hv
        exact ⟨is ++ js, .app is js h1 h3, h2.append h4⟩
    · rintro ⟨is, h1, h2⟩
      have h1 : Star s.Words is := h1
      show Star s.Lang w
      induction h1 generalizing w with
      | nil => cases h2; exact .nil
      | app u v hu hv ihv =>
        obtain ⟨x, y, rfl, h3, h4⟩ := h2.split
        exact .app x y (ih.2 ⟨u, hu, h3⟩) (ihv hv h4)
theorem lang_null {p : List S50} {i : Nat} {t : Re} (h : IsRe p i t) : t.null = true ↔ t.Lang [] := by
  rw [null_iff, lang_words h]
  constructor
  · intro h1; exact ⟨[], h1, .nil⟩
  · rintro ⟨is, h1, h2⟩; cases h2; exact h1

/-! ### the sets that compile makes -/
theorem linkAll_bit (T : Nat) : ∀ (l F : List Nat) (i j : Nat), i < F.length → (((linkAll T l F).getD i 0).testBit j = true ↔ (F.getD i 0).testBit j = true ∨ (i ∈ l ∧ T.testBit j = true))
  | [], F, i, j, hi => by simp [linkAll]
  | a :: l, F, i, j, hi => by
    have e : linkAll T (a :: l) F = linkAll T l (F.set a (F.getD a 0 ||| T)) := rfl
    rw [e, linkAll_bit T l _ i j (by simpa using hi)]
    by_cases h : a = i
    · subst h
      simp only [List.getD_eq_getElem?_getD, List.getElem?_set_self hi, Option.getD_some, Nat.testBit_or, Bool.or_eq_true, List.mem_cons, true_or, true_and]
      constructor
      · rintro ((h | h) | h)
        · exact .inl h
        · exact .inr h
        · exact .inr h.2
      · rintro (h | h)
        · exact .inl (.inl h)
        · exact .inl (.inr h)
    · have : ¬ i = a := fun e => h e.symm
      simp only [List.getD_eq_getElem?_getD, List.getElem?_set_ne h, List.mem_cons, this, false_or]
theorem link_bit {p : List S50} {k : Nat} {t : Re} (h : IsRe p k t) (hp : p.length ≤ 512) : ∀ (F : List Nat), F.length = p.length → ∀ i j, i < p.length → (((t.link F).getD i 0).testBit j = true ↔ (F.getD i 0).testBit j = true ∨ t.Fol i j) := by
  induction h with
  | emp => intro F hF i j hi; simp [Re.link, Re.Fol]
  | rng => intro F hF i j hi; simp [Re.link, Re.Fol]
  | seq k x a b s t hx hk ha hb hs ht ihs iht =>
    intro F hF i j hi
    simp only [Re.link, Re.Fol]
    rw [linkAll_bit _ _ _ _ _ (by rw [Re.link_length, Re.link_length]; omega), iht _ (by rw [Re.link_length]; exact hF) i j hi, ihs _ hF i j hi]
    have : i ∈ below s.last 512 ↔ s.last.testBit i = true := by rw [mem_below]; exact ⟨fun h => h.2, fun h => ⟨by omega, h⟩⟩
    rw [this]
    constructor
    · rintro (((h | h) | h) | h)
      · exact .inl h
      · exact .inr (.inl h)
      · exact .inr (.inr (.inl h))
      · exact .inr (.inr (.inr h))
    · rintro (h | h | h | h)
      · exact .inl (.inl (.inl h))
      · exact .inl (.inl (.inr h))
      · exact .inl (.inr h)
      · exact .inr h
  | alt k x a b s t hx hk ha hb hs ht ihs iht =>
    intro F hF i j hi
    simp only [Re.link, Re.Fol]
    rw [iht _ (by rw [Re.link_length]; exact hF) i j hi, ihs _ hF i j hi]
    exact or_assoc
  | rep k x a s hx hk ha hs ih =>
    intro F hF i j hi
    simp only [Re.link, Re.Fol]
    rw [linkAll_bit _ _ _ _ _ (by rw [Re.link_length]; omega), ih _ hF i j hi]
    have : i ∈ below s.last 512 ↔ s.last.testBit i = true := by rw [mem_below]; exact ⟨fun h => h.2, fun h => ⟨by omega, h⟩⟩
    rw [this]
    exact or_assoc
/-- What follows place i. -/
theorem fol_iff {p : List S50} {k : Nat} {t : Re} (h : IsRe p k t) (hp : p.length ≤ 512) {i j : Nat} (hi : i < p.length) : ((t.link (List.replicate p.length 0)).getD i 0).testBit j = true ↔ t.Fol i j := by
  rw [link_bit h hp _ (by simp) i j hi]
  simp [List.getD_eq_getElem?_getD, hi]

/-! ### the run -/
/-- A way from one of S on that takes bs and ends in 'last'. -/
def RunAcc (p : List S50) (R : Nat → Nat → Prop) (last : Nat) (S : Nat) (bs : List Int) : Prop := ∃ i r, S.testBit i = true ∧ i < 512 ∧ Way R (fun k => last.testBit k = true) i r ∧ Hits p (i :: r) bs
theorem below_iff {S i : Nat} : i ∈ below S 512 ↔ i < 512 ∧ S.testBit i = true := mem_below
theorem runs_get {p : List S50} {F : List Nat} {last : Nat} {R : Nat → Nat → Prop} (hR : ∀ i j, i < 512 → ((F.getD i 0).testBit j = true ↔ R i j)) (hR5 : ∀ i j, R i j → j < 512) :
    ∀ (bs : List Int) (S n : Nat), (runs p F last bs S).getD n false = true ↔ n < bs.length ∧ RunAcc p R last S (bs.take (n + 1))
  | [], S, n => by simp [runs]
  | b :: bs, S, n => by
    have hreach : ∀ i, (stepR p b (below S 512) 0).testBit i = true ↔ i < 512 ∧ S.testBit i = true ∧ Hit p i b := by
      intro i; rw [stepR_bit]; simp [below_iff, hit_iff, and_assoc]
    by_cases h0 : stepR p b (below S 512) 0 = 0
    · have hno : ∀ i, ¬ (i < 512 ∧ S.testBit i = true ∧ Hit p i b) := fun i h => by
        have := (hreach i).2 h; rw [h0] at this; simp at this
      simp only [runs]; rw [if_pos h0]
      constructor
      · intro h; simp at h
      · rintro ⟨_, i, r, h1, h2, h3, h4⟩
        exfalso
        rw [List.take_succ_cons] at h4
        cases h4 with
        | cons _ _ _ _ hh hs => exact hno i ⟨h2, h1, hh⟩
    · simp only [runs]; rw [if_neg h0]
      cases n with
      | zero =>
        simp only [List.getD_cons_zero, List.length_cons, Nat.zero_add, List.take_succ_cons, List.take_zero]
        have hm : meetsB (stepR p b (below S 512) 0) last = true ↔ ∃ i, (stepR p b (below S 512) 0).testBit i = true ∧ last.testBit i = true := by
          unfold meetsB
          rw [Bool.not_eq_true', beq_eq_false_iff_ne]
          constructor
          · intro h
            apply Classical.byContradiction
            intro hno
            apply h
            apply Nat.eq_of_testBit_eq
            intro i
            rw [Nat.testBit_and, Nat.zero_testBit]
            cases h1 : (stepR p b (below S 512) 0).testBit i
            · rfl
            · cases h2 : last.testBit i
              · rfl
              · exact absurd ⟨i, h1, h2⟩ hno
          · rintro ⟨i, h1, h2⟩ h
            have := congrArg (·.testBit i) h
            simp [Nat.testBit_and, h1, h2] at this
        rw [hm]
        constructor
        · rintro ⟨i, h1, h2⟩
          obtain ⟨h3, h4, h5⟩ := (hreach i).1 h1
          exact ⟨by omega, i, [], h4, h3, h2, .cons i b [] [] h5 .nil⟩
        · rintro ⟨_, i, r, h1, h2, h3, h4⟩
          cases h4 with
          | cons _ _ _ _ hh hs =>
            cases hs
            exact ⟨i, (hreach i).2 ⟨h2, h1, hh⟩, h3⟩
      | succ n =>
        simp only [List.getD_cons_succ, List.length_cons, List.take_succ_cons]
        rw [runs_get hR hR5 bs _ n]
        constructor
        · rintro ⟨h1, j, r, h2, h3, h4, h5⟩
          obtain ⟨i, hi, hh, hf⟩ := ((stepN_bit p F b (below S 512) 0 j).1 h2).resolve_left (by simp)
          obtain ⟨hi1, hi2⟩ := below_iff.1 hi
          exact ⟨by omega, i, j :: r, hi2, hi1, ⟨(hR i j hi1).1 hf, h4⟩, .cons i b _ _ (hit_iff.1 hh) h5⟩
        · rintro ⟨h1, i, r, h2, h3, h4, h5⟩
          cases h5 with
          | cons _ _ _ _ hh hs =>
            cases r with
            | nil => have := hs.length; simp at this; omega
            | cons j r =>
              refine ⟨by omega, j, r, (stepN_bit p F b (below S 512) 0 j).2 (.inr ⟨i, below_iff.2 ⟨h3, h2⟩, hit_iff.2 hh, (hR i j h3).2 h4.1⟩), hR5 i j h4.1, h4.2, hs⟩

theorem fol_small {p : List S50} {k : Nat} {t : Re} (h : IsRe p k t) (hp : p.length ≤ 512) : ∀ i ∈ t.leaves, i < p.length := by
  induction h with
  | emp => intro i h; simp [Re.leaves] at h
  | rng i x h => intro j hj; simp [Re.leaves] at hj; subst hj; exact (List.getElem?_eq_some_iff.1 h).1
  | seq k x a b s t hx hk ha hb hs ht ihs iht => intro i hi; rcases List.mem_append.1 hi with h | h; exact ihs i h; exact iht i h
  | alt k x a b s t hx hk ha hb hs ht ihs iht => intro i hi; rcases List.mem_append.1 hi with h | h; exact ihs i h; exact iht i h
  | rep k x a s hx hk ha hs ih => exact ih
theorem link_far {p : List S50} {t : Re} {i j : Nat} (hi : ¬ i < p.length) : ((t.link (List.replicate p.length 0)).getD i 0).testBit j = false := by
  rw [List.getD_eq_getElem?_getD, List.getElem?_eq_none (by rw [Re.link_length]; simp; omega)]; simp
/-- A flag says whether the prefix is matched. -/
theorem flag_iff {p : List S50} {t : Re} (g : Fine p t) (bs : List Int) (n : Nat) : (flags p t bs).getD n false = true ↔ n < bs.length ∧ t.Lang (bs.take (n + 1)) := by
  have hp := g.good.len
  have hs := fol_small g.good.is hp
  unfold flags
  rw [runs_get (R := t.Fol) (fun i j hi => by
    by_cases h : i < p.length
    · exact fol_iff g.good.is hp h
    · rw [link_far h]
      constructor
      · intro h; cases h
      · intro h1; exact absurd (hs i (fol_leaf t h1).1) h) (fun i j h => by have := hs j (fol_leaf t h).2; omega)]
  refine and_congr_right fun hn => ?_
  rw [lang_words g.good.is]
  constructor
  · rintro ⟨i, r, h1, h2, h3, h4⟩
    exact ⟨i :: r, acc_words t g.once ⟨i, r, rfl, h1, h3⟩, h4⟩
  · rintro ⟨is, h1, h2⟩
    have hne : is ≠ [] := by
      rintro rfl
      have := h2.length
      simp at this
      omega
    obtain ⟨i, r, rfl, h3, h4⟩ := words_acc t h1 hne
    exact ⟨i, r, h3, by have := hs i (first_leaf t h3); omega, h4, h2⟩
theorem mtAll_eq (n : Nat) : ∀ (l : List Bool) (i : Nat) (b : Bool), l ≠ [] → mtAll n l i b = (decide (i + l.length = n) && l.getD (l.length - 1) false)
  | [], i, b, h => absurd rfl h
  | [m], i, b, h => by simp [mtAll]
  | m :: m' :: l, i, b, h => by
    rw [mtAll, mtAll_eq n (m' :: l) (i + 1) _ (by simp)]
    simp only [List.length_cons]
    have e1 : decide (i + 1 + (l.length + 1) = n) = decide (i + (l.length + 1 + 1) = n) := by
      apply decide_eq_decide.2; omega
    show (decide (i + 1 + (l.length + 1) = n) && _) = _
    simp only [e1]
    rfl
/-- Matches answers as the language. -/
theorem match_iff {p : List S50} {t : Re} (g : Fine p t) (bs : List Int) : matchB p t bs = true ↔ t.Lang bs := by
  have hlen := runs_length p (t.link (List.replicate p.length 0)) t.last bs t.first
  have hf := flag_iff g bs
  unfold matchB
  change (flags p t bs).length ≤ bs.length at hlen
  by_cases hb : bs = []
  · subst hb
    have : flags p t [] = [] := rfl
    rw [this]
    simp only [mtAll]
    rw [← lang_null g.good.is]
    simp
  · have hbl : 0 < bs.length := List.length_pos_iff.2 hb
    have hl := hf (bs.length - 1)
    rw [show bs.length - 1 + 1 = bs.length by omega, List.take_length] at hl
    have hl2 : (flags p t bs).getD (bs.length - 1) false = true ↔ t.Lang bs := by
      rw [hl]; exact ⟨fun h => h.2, fun h => ⟨by omega, h⟩⟩
    rw [← hl2]
    by_cases hfe : flags p t bs = []
    · rw [hfe]
      have : (decide (bs.length = 0) && t.null) = false := by simp [hb]
      rw [this]; simp [mtAll]
    · rw [mtAll_eq _ _ _ _ hfe]
      have h0 : 0 < (flags p t bs).length := List.length_pos_iff.2 hfe
      by_cases he : (flags p t bs).length = bs.length
      · rw [he]; simp
      · have h1 : ¬ 0 + (flags p t bs).length = bs.length := by omega
        rw [List.getD_eq_getElem?_getD (i := bs.length - 1), List.getElem?_eq_none (by omega)]
        simp [he]
theorem lastTrue_spec : ∀ (l : List Bool) (i b : Nat), b ≤ i → (lastTrue l i b = b ∧ (∀ n, l.getD n false = false)) ∨ ∃ n, lastTrue l i b = i + n + 1 ∧ l.getD n false = true ∧ ∀ m, n < m → l.getD m false = false
  | [], i, b, h => .inl ⟨rfl, fun n => by simp⟩
  | m :: l, i, b, h => by
    rw [lastTrue]
    rcases lastTrue_spec l (i + 1) (if m then i + 1 else b) (by split <;> omega) with ⟨h1, h2⟩ | ⟨n, h1, h2, h3⟩
    · cases m with
      | true => exact .inr ⟨0, by rw [h1]; simp, rfl, fun k hk => by obtain ⟨k, rfl⟩ : ∃ j, k = j + 1 := ⟨k - 1, by omega⟩; simpa using h2 k⟩
      | false => exact .inl ⟨by rw [h1]; simp, fun n => by cases n with | zero => rfl | succ n => simpa using h2 n⟩
    · exact .inr ⟨n + 1, by rw [h1]; omega, by simpa using h2, fun k hk => by obtain ⟨k, rfl⟩ : ∃ j, k = j + 1 := ⟨k - 1, by omega⟩; simpa using h3 k (by omega)⟩
/-- Longest answers as the language. -/
theorem longest_iff {p : List S50} {t : Re} (g : Fine p t) (bs : List Int) : lastTrue (flags p t bs) 0 0 ≤ bs.length ∧ (0 < lastTrue (flags p t bs) 0 0 → t.Lang (bs.take (lastTrue (flags p t bs) 0 0))) ∧ ∀ m, lastTrue (flags p t bs) 0 0 < m → m ≤ bs.length → ¬ t.Lang (bs.take m) := by
  have hf := flag_iff g bs
  rcases lastTrue_spec (flags p t bs) 0 0 (Nat.le_refl _) with ⟨h1, h2⟩ | ⟨n, h1, h2, h3⟩
  · rw [h1]
    refine ⟨Nat.zero_le _, fun h => absurd h (Nat.lt_irrefl _), fun m hm hml hL => ?_⟩
    have := (hf (m - 1)).2 ⟨by omega, by rwa [show m - 1 + 1 = m by omega]⟩
    rw [h2] at this; cases this
  · rw [h1]
    have h4 := (hf n).1 h2
    refine ⟨by omega, fun _ => by rw [show 0 + n + 1 = n + 1 by omega]; exact h4.2, fun m hm hml hL => ?_⟩
    have := (hf (m - 1)).2 ⟨by omega, by rwa [show m - 1 + 1 = m by omega]⟩
    rw [h3 (m - 1) (by omega)] at this; cases this
end Go.Proofs.YtaphblnelmncaaaDoor.PA
end

section
/- A pattern in postorder is a tree: Check takes it, Made makes such ones. -/
set_option linter.unusedVariables false
namespace Go.Proofs.YtaphblnelmncaaaDoor.PA
open Go.RowKit Go.Proofs.YtaphblnelmncaaaDoorW.PrintWords Go.Proofs.YtaphblnelmncaaaDoorW.PrintLast Go.Proofs.YtaphblnelmncaaaDoorW.PrintMore

/-- A pattern without numbers. -/
inductive Tr where
  | emp
  | rng (lo hi : Int)
  | seq (a b : Tr)
  | alt (a b : Tr)
  | rep (a : Tr)

namespace Tr
def size : Tr → Nat
  | emp => 1
  | rng _ _ => 1
  | seq a b => a.size + b.size + 1
  | alt a b => a.size + b.size + 1
  | rep a => a.size + 1
/-- The nodes in postorder from offset o on. -/
def post : Tr → Nat → List S50
  | emp, _ => [⟨0, 0, 0, 0, 0⟩]
  | rng lo hi, _ => [⟨1, lo, hi, 0, 0⟩]
  | seq a b, o => a.post o ++ (b.post (o + a.size) ++ [⟨2, 0, 0, ((o + a.size - 1 : Nat) : Int), ((o + a.size + b.size - 1 : Nat) : Int)⟩])
  | alt a b, o => a.post o ++ (b.post (o + a.size) ++ [⟨3, 0, 0, ((o + a.size - 1 : Nat) : Int), ((o + a.size + b.size - 1 : Nat) : Int)⟩])
  | rep a, o => a.post o ++ [⟨4, 0, 0, ((o + a.size - 1 : Nat) : Int), 0⟩]
def re : Tr → Nat → Re
  | emp, _ => .emp
  | rng lo hi, o => .rng lo hi o
  | seq a b, o => .seq (a.re o) (b.re (o + a.size))
  | alt a b, o => .alt (a.re o) (b.re (o + a.size))
  | rep a, o => .rep (a.re o)
def ok : Tr → Prop
  | emp => True
  | rng lo hi => 0 ≤ lo ∧ lo ≤ hi ∧ hi ≤ 255
  | seq a b => a.ok ∧ b.ok
  | alt a b => a.ok ∧ b.ok
  | rep a => a.ok
theorem size_pos (t : Tr) : 1 ≤ t.size := by cases t <;> simp [size]
theorem post_length (t : Tr) : ∀ o, (t.post o).length = t.size := by
  induction t with
  | emp => intro o; rfl
  | rng => intro o; rfl
  | seq a b iha ihb => intro o; simp [post, size, iha, ihb]; omega
  | alt a b iha ihb => intro o; simp [post, size, iha, ihb]; omega
  | rep a iha => intro o; simp [post, size, iha]
end Tr
/-- The nodes of t lie in p from offset o on. -/
def Lies (p : List S50) (t : Tr) (o : Nat) : Prop := ∀ i, i < t.size → p[o + i]? = (t.post o)[i]?
theorem Lies.left {p : List S50} {a : Tr} {r : List S50} {t : Tr} {o : Nat} (h : Lies p t o) (e : t.post o = a.post o ++ r) (hs : a.size ≤ t.size) : Lies p a o := by
  intro i hi
  rw [h i (by omega), e, List.getElem?_append_left (by rw [a.post_length]; exact hi)]
theorem Lies.right {p : List S50} {a b : Tr} {r : List S50} {t : Tr} {o : Nat} (h : Lies p t o) (e : t.post o = a.post o ++ (b.post (o + a.size) ++ r)) (hs : a.size + b.size ≤ t.size) : Lies p b (o + a.size) := by
  intro i hi
  have := h (a.size + i) (by omega)
  rw [Nat.add_assoc, this, e, List.getElem?_append_right (by rw [a.post_length]; omega), a.post_length, List.getElem?_append_left (by rw [b.post_length]; omega)]
  congr 1; omega
theorem Lies.top2 {p : List S50} {a b : Tr} {x : S50} {t : Tr} {o : Nat} (h : Lies p t o) (e : t.post o = a.post o ++ (b.post (o + a.size) ++ [x])) (hs : a.size + b.size + 1 = t.size) : p[o + a.size + b.size]? = some x := by
  have := h (a.size + b.size) (by omega)
  rw [← Nat.add_assoc] at this
  rw [this, e, List.getElem?_append_right (by rw [a.post_length]; omega), a.post_length, List.getElem?_append_right (by rw [b.post_length]; omega), b.post_length]
  simp [show a.size + b.size - a.size - b.size = 0 by omega]
theorem Lies.top1 {p : List S50} {a : Tr} {x : S50} {t : Tr} {o : Nat} (h : Lies p t o) (e : t.post o = a.post o ++ [x]) (hs : a.size + 1 = t.size) : p[o + a.size]? = some x := by
  have := h a.size (by omega)
  rw [this, e, List.getElem?_append_right (by rw [a.post_length]; omega), a.post_length]
  simp
theorem lies_self (t : Tr) : Lies (t.post 0) t 0 := fun i _ => by rw [Nat.zero_add]

theorem Tr.isRe {p : List S50} (t : Tr) : ∀ o, Lies p t o → IsRe p (o + t.size - 1) (t.re o) := by
  induction t with
  | emp => intro o h; have := h 0 (by simp [Tr.size]); exact IsRe.emp o ⟨0, 0, 0, 0, 0⟩ (by simpa [Tr.post] using this) rfl
  | rng lo hi => intro o h; have := h 0 (by simp [Tr.size]); exact IsRe.rng o ⟨1, lo, hi, 0, 0⟩ (by simpa [Tr.post] using this) rfl
  | seq a b iha ihb =>
    intro o h
    have hx := h.top2 (e := rfl) (hs := rfl)
    have h1 := iha o (h.left rfl (by simp [Tr.size]; omega))
    have h2 := ihb (o + a.size) (h.right rfl (by simp [Tr.size]))
    have e : o + (Tr.seq a b).size - 1 = o + a.size + b.size := by simp [Tr.size]; omega
    rw [e]
    exact .seq _ _ _ _ _ _ hx rfl rfl rfl h1 h2
  | alt a b iha ihb =>
    intro o h
    have hx := h.top2 (e := rfl) (hs := rfl)
    have h1 := iha o (h.left rfl (by simp [Tr.size]; omega))
    have h2 := ihb (o + a.size) (h.right rfl (by simp [Tr.size]))
    have e : o + (Tr.alt a b).size - 1 = o + a.size + b.size := by simp [Tr.size]; omega
    rw [e]
    exact .alt _ _ _ _ _ _ hx rfl rfl rfl h1 h2
  | rep a iha =>
    intro o h
    have hx := h.top1 (e := rfl) (hs := rfl)
    have h1 := iha o (h.left rfl (by simp [Tr.size]))
    have e : o + (Tr.rep a).size - 1 = o + a.size := by simp [Tr.size]
    rw [e]
    exact .rep _ _ _ _ hx rfl rfl h1

/-- All nodes of a tree but the last one are taken. -/
def taken (U V : List Bool) (o n : Nat) : Prop := V.length = U.length ∧ ∀ j, V.getD j false = if o ≤ j ∧ j + 1 < o + n then true else U.getD j false
theorem rd_of {p : List S50} {k : Nat} {x : S50} (h : p[k]? = some x) : rd_T50 p (k : Int) = x := by simp [rd_T50, List.getD_eq_getElem?_getD, h]
theorem getD_set (U : List Bool) (i j : Nat) (hi : i < U.length) : (U.set i true).getD j false = if j = i then true else U.getD j false := by
  simp only [List.getD_eq_getElem?_getD, List.getElem?_set]
  by_cases h : i = j
  · subst h; simp [hi]
  · have : ¬ j = i := fun e => h e.symm
    simp [h, this]
theorem useOk_of {i k : Nat} {U : List Bool} (h : i < k) (hu : U.getD i false = false) : useOk (i : Int) (k : Int) U = true := by
  unfold useOk; simp only [Int.toNat_natCast, hu, Bool.not_false, Bool.and_true, Bool.and_eq_true, decide_eq_true_eq]; omega
theorem useNew_of {i k : Nat} {U : List Bool} (h : i < k) (hu : U.getD i false = false) : useNew (i : Int) (k : Int) U = U.set i true := by
  unfold useNew; rw [if_pos (useOk_of h hu)]; simp
theorem take_two {p : List S50} {K : Int} {o sa sb : Nat} {U V1 V2 : List Bool} (hsa : 1 ≤ sa) (hsb : 1 ≤ sb) (hK : K = 2 ∨ K = 3)
    (hx : p[o + sa + sb]? = some ⟨K, 0, 0, ((o + sa - 1 : Nat) : Int), ((o + sa + sb - 1 : Nat) : Int)⟩) (hl : U.length = p.length) (far : ∀ j, o ≤ j → U.getD j false = false)
    (h1 : taken U V1 o sa) (h2 : taken V1 V2 (o + sa) sb) (hc : chkTo p (o + sa + sb) = some V2) : ∃ V, chkTo p (o + (sa + sb + 1)) = some V ∧ taken U V o (sa + sb + 1) := by
  have hlt : o + sa + sb < p.length := (List.getElem?_eq_some_iff.1 hx).1
  have hl2 : V2.length = p.length := by rw [h2.1, h1.1, hl]
  have g : ∀ j, V2.getD j false = if o ≤ j ∧ j + 1 < o + sa then true else if o + sa ≤ j ∧ j + 1 < o + sa + sb then true else U.getD j false := by
    intro j; rw [h2.2, h1.2]; split <;> split <;> first | rfl | omega
  have u1 : V2.getD (o + sa - 1) false = false := by rw [g, if_neg (by omega), if_neg (by omega), far _ (by omega)]
  have u2 : (V2.set (o + sa - 1) true).getD (o + sa + sb - 1) false = false := by
    rw [getD_set _ _ _ (by omega), if_neg (by omega), g, if_neg (by omega), if_neg (by omega), far _ (by omega)]
  have hari : ari K = 2 := by rcases hK with rfl | rfl <;> rfl
  refine ⟨(V2.set (o + sa - 1) true).set (o + sa + sb - 1) true, ?_, by simp [hl2, hl], ?_⟩
  · rw [show o + (sa + sb + 1) = o + sa + sb + 1 by omega, chkTo, hc, Option.bind_some, rd_of hx]
    rw [node_two (by unfold baseOk; rw [hari]; rcases hK with rfl | rfl <;> simp) (by omega) (useOk_of (by omega) u1) (by rw [useNew_of (by omega) u1]; exact useOk_of (by omega) u2)]
    rw [useNew_of (by omega) u1, useNew_of (by omega) u2]
  · intro j
    rw [getD_set _ _ _ (by simp; omega), getD_set _ _ _ (by omega), g]
    by_cases c : o ≤ j ∧ j + 1 < o + (sa + sb + 1)
    · rw [if_pos c]
      split
      · rfl
      · split
        · rfl
        · split
          · rfl
          · rw [if_pos (by omega)]
    · rw [if_neg c, if_neg (by omega), if_neg (by omega), if_neg (by omega), if_neg (by omega)]
theorem take_one {p : List S50} {o sa : Nat} {U V1 : List Bool} (hsa : 1 ≤ sa)
    (hx : p[o + sa]? = some ⟨4, 0, 0, ((o + sa - 1 : Nat) : Int), 0⟩) (hl : U.length = p.length) (far : ∀ j, o ≤ j → U.getD j false = false)
    (h1 : taken U V1 o sa) (hc : chkTo p (o + sa) = some V1) : ∃ V, chkTo p (o + (sa + 1)) = some V ∧ taken U V o (sa + 1) := by
  have hlt : o + sa < p.length := (List.getElem?_eq_some_iff.1 hx).1
  have hl2 : V1.length = p.length := by rw [h1.1, hl]
  have u1 : V1.getD (o + sa - 1) false = false := by rw [h1.2, if_neg (by omega), far _ (by omega)]
  refine ⟨V1.set (o + sa - 1) true, ?_, by simp [hl2, hl], ?_⟩
  · rw [show o + (sa + 1) = o + sa + 1 by omega, chkTo, hc, Option.bind_some, rd_of hx]
    rw [node_one (by unfold baseOk; simp [ari]) (by simp [ari]) (by simp [ari]) (useOk_of (by omega) u1)]
    rw [useNew_of (by omega) u1]
  · intro j
    rw [getD_set _ _ _ (by omega), h1.2]
    by_cases c : o ≤ j ∧ j + 1 < o + (sa + 1)
    · rw [if_pos c]
      split
      · rfl
      · rw [if_pos (by omega)]
    · rw [if_neg c, if_neg (by omega), if_neg (by omega)]
theorem Tr.chkTo {p : List S50} (t : Tr) : t.ok → ∀ o U, Lies p t o → PA.chkTo p o = some U → U.length = p.length → (∀ j, o ≤ j → U.getD j false = false) → ∃ V, PA.chkTo p (o + t.size) = some V ∧ taken U V o t.size := by
  induction t with
  | emp =>
    intro _ o U h hc hl far
    have hx : p[o]? = some ⟨0, 0, 0, 0, 0⟩ := by simpa [Tr.post] using h 0 (by simp [Tr.size])
    refine ⟨U, ?_, rfl, fun j => by simp [Tr.size]; omega⟩
    show PA.chkTo p (o + 1) = _
    rw [PA.chkTo, hc, Option.bind_some, rd_of hx, node_leaf (by decide) (by decide)]
  | rng lo hi =>
    intro hok o U h hc hl far
    have hx : p[o]? = some ⟨1, lo, hi, 0, 0⟩ := by simpa [Tr.post] using h 0 (by simp [Tr.size])
    obtain ⟨a1, a2, a3⟩ := hok
    refine ⟨U, ?_, rfl, fun j => by simp [Tr.size]; omega⟩
    show PA.chkTo p (o + 1) = _
    rw [PA.chkTo, hc, Option.bind_some, rd_of hx, node_leaf (by rw [baseOk_iff]; exact ⟨.inl ⟨rfl, a1, a2, a3⟩, .inr rfl, .inr rfl⟩) (by decide)]
  | seq a b iha ihb =>
    intro hok o U h hc hl far
    obtain ⟨V1, c1, t1⟩ := iha hok.1 o U (h.left rfl (by simp [Tr.size]; omega)) hc hl far
    obtain ⟨V2, c2, t2⟩ := ihb hok.2 (o + a.size) V1 (h.right rfl (by simp [Tr.size])) c1 (by rw [t1.1, hl]) (fun j hj => by rw [t1.2, if_neg (by omega), far j (by omega)])
    exact take_two a.size_pos b.size_pos (.inl rfl) (h.top2 rfl rfl) hl far t1 t2 c2
  | alt a b iha ihb =>
    intro hok o U h hc hl far
    obtain ⟨V1, c1, t1⟩ := iha hok.1 o U (h.left rfl (by simp [Tr.size]; omega)) hc hl far
    obtain ⟨V2, c2, t2⟩ := ihb hok.2 (o + a.size) V1 (h.right rfl (by simp [Tr.size])) c1 (by rw [t1.1, hl]) (fun j hj => by rw [t1.2, if_neg (by omega), far j (by omega)])
    exact take_two a.size_pos b.size_pos (.inr rfl) (h.top2 rfl rfl) hl far t1 t2 c2
  | rep a iha =>
    intro hok o U h hc hl far
    obtain ⟨V1, c1, t1⟩ := iha hok o U (h.left rfl (by simp [Tr.size])) hc hl far
    exact take_one a.size_pos (h.top1 rfl rfl) hl far t1 c1
/-- Check takes a pattern in postorder. -/
theorem Tr.chk0 (t : Tr) (h : t.ok) (hs : t.size ≤ 512) : chk (t.post 0) = 0 := by
  obtain ⟨V, c, hv⟩ := t.chkTo (p := t.post 0) h 0 (List.replicate (t.post 0).length false) (lies_self t) rfl (by simp) (fun j _ => by simp [List.getD_eq_getElem?_getD, List.getElem?_replicate]; split <;> rfl)
  have hl := t.post_length 0
  have hp := t.size_pos
  have ha : (List.range ((t.post 0).length - 1)).all (fun i => V.getD i false) = true := by
    rw [List.all_eq_true]
    intro i hi
    rw [List.mem_range] at hi
    rw [hv.2, if_pos (by omega)]
  unfold chk
  rw [if_neg (by omega), show PA.chkTo (t.post 0) (t.post 0).length = some V by rw [hl]; simpa using c]
  simp only
  exact if_pos ⟨ha, by omega⟩

/-! ### what Made makes -/
theorem opn_kinds : opn 0 = 0 ∧ opn 1 = 0 ∧ opn 2 = 2 ∧ opn 3 = 2 ∧ opn 4 = 1 := by decide
theorem shN_post (n : Nat) (hn : n ≤ 1000000000) (t : Tr) : ∀ o, o + t.size ≤ 1000000000 → (t.post o).map (shN (n : Int)) = t.post (o + n) := by
  have w1 : ∀ (a : Nat), a ≤ 1000000000 → wrap64 ((a : Int) + (n : Int)) = (a : Int) + n := by intro a ha; unfold wrap64; omega
  obtain ⟨k0, k1, k2, k3, k4⟩ := opn_kinds
  induction t with
  | emp => intro o ho; simp [Tr.post, shN, k0]
  | rng lo hi => intro o ho; simp [Tr.post, shN, k1]
  | seq a b iha ihb =>
    intro o ho
    have ha := a.size_pos
    simp only [Tr.size] at ho
    simp only [Tr.post, List.map_append, List.map_cons, List.map_nil, shN, k2]
    rw [iha o (by omega), ihb _ (by omega), if_pos (by omega), if_pos (by omega), w1 _ (by omega), w1 _ (by omega)]
    rw [show o + a.size + n = o + n + a.size by omega]
    congr 4
    · omega
    · omega
  | alt a b iha ihb =>
    intro o ho
    have ha := a.size_pos
    simp only [Tr.size] at ho
    simp only [Tr.post, List.map_append, List.map_cons, List.map_nil, shN, k3]
    rw [iha o (by omega), ihb _ (by omega), if_pos (by omega), if_pos (by omega), w1 _ (by omega), w1 _ (by omega)]
    rw [show o + a.size + n = o + n + a.size by omega]
    congr 4
    · omega
    · omega
  | rep a iha =>
    intro o ho
    have ha := a.size_pos
    simp only [Tr.size] at ho
    simp only [Tr.post, List.map_append, List.map_cons, List.map_nil, shN, k4]
    rw [iha o (by omega), if_pos (by omega), if_neg (by omega), w1 _ (by omega)]
    congr 3
    omega
theorem join_seq (a b : Tr) (h : a.size + b.size ≤ 1000000000) : joinF 2 (a.post 0) (b.post 0) = (Tr.seq a b).post 0 := by
  have ha := a.size_pos
  have hb := b.size_pos
  unfold joinF
  rw [a.post_length, b.post_length, shN_post _ (by omega) b 0 (by omega)]
  simp only [Tr.post, List.append_assoc, Nat.zero_add]
  congr 4
  · omega
  · omega
theorem join_alt (a b : Tr) (h : a.size + b.size ≤ 1000000000) : joinF 3 (a.post 0) (b.post 0) = (Tr.alt a b).post 0 := by
  have ha := a.size_pos
  have hb := b.size_pos
  unfold joinF
  rw [a.post_length, b.post_length, shN_post _ (by omega) b 0 (by omega)]
  simp only [Tr.post, List.append_assoc, Nat.zero_add]
  congr 4
  · omega
  · omega
theorem rep_post (a : Tr) : repF (a.post 0) = (Tr.rep a).post 0 := by
  have ha := a.size_pos
  unfold repF
  rw [a.post_length]
  simp only [Tr.post, Nat.zero_add]
  congr 3
  omega
theorem isRe_unique {p : List S50} {i : Nat} {t u : Re} (h : IsRe p i t) : IsRe p i u → t = u := by
  induction h generalizing u with
  | emp i x hx hk => intro k; cases k <;> simp_all
  | rng i x hx hk => intro k; cases k <;> simp_all
  | seq i x a b s t hx hk ha hb hs ht ihs iht =>
    intro k
    cases k with
    | seq _ x' a' b' s' t' hx' hk' ha' hb' hs' ht' =>
      rw [hx] at hx'; cases hx'
      have e1 : a = a' := by omega
      have e2 : b = b' := by omega
      subst e1; subst e2
      rw [ihs hs', iht ht']
    | _ => simp_all
  | alt i x a b s t hx hk ha hb hs ht ihs iht =>
    intro k
    cases k with
    | alt _ x' a' b' s' t' hx' hk' ha' hb' hs' ht' =>
      rw [hx] at hx'; cases hx'
      have e1 : a = a' := by omega
      have e2 : b = b' := by omega
      subst e1; subst e2
      rw [ihs hs', iht ht']
    | _ => simp_all
  | rep i x a s hx hk ha hs ih =>
    intro k
    cases k with
    | rep _ x' a' s' hx' hk' ha' hs' =>
      rw [hx] at hx'; cases hx'
      have e1 : a = a' := by omega
      subst e1
      rw [ih hs']
    | _ => simp_all
/-- A pattern in postorder, in order. -/
def Pst (p : List S50) : Prop := ∃ t : Tr, p = t.post 0 ∧ t.ok
theorem Pst.length_pos {p : List S50} (h : Pst p) : 1 ≤ p.length := by
  obtain ⟨t, rfl, _⟩ := h; rw [t.post_length]; exact t.size_pos
theorem pst_empty : Pst emptyF := ⟨.emp, rfl, trivial⟩
theorem pst_one {lo hi : Int} (h0 : 0 ≤ lo) (h1 : lo ≤ hi) (h2 : hi ≤ 255) : Pst (oneF lo hi) := ⟨.rng lo hi, rfl, h0, h1, h2⟩
theorem pst_rep {p : List S50} (h : Pst p) : Pst (repF p) := by
  obtain ⟨t, rfl, ht⟩ := h; exact ⟨.rep t, rep_post t, ht⟩
theorem pst_join {K : Int} {p q : List S50} (hK : K = 2 ∨ K = 3) (hp : Pst p) (hq : Pst q) (hs : p.length + q.length ≤ 1000000000) : Pst (joinF K p q) := by
  obtain ⟨a, rfl, ha⟩ := hp
  obtain ⟨b, rfl, hb⟩ := hq
  rw [a.post_length, b.post_length] at hs
  rcases hK with rfl | rfl
  · exact ⟨.seq a b, join_seq a b hs, ha, hb⟩
  · exact ⟨.alt a b, join_alt a b hs, ha, hb⟩
/-- What stands between the numbers of Made. -/
def MadeOk (most : Int) (s : List (List S50) × Int) : Prop := (∀ p ∈ s.1, Pst p) ∧ (tot s.1 : Int) + s.1.length ≤ s.2 ∧ s.2 ≤ most
theorem getD_pst {ps : List (List S50)} {i : Nat} (h : ∀ p ∈ ps, Pst p) (hi : i < ps.length) : Pst (ps.getD i []) := by
  rw [List.getD_eq_getElem?_getD, List.getElem?_eq_getElem hi]; exact h _ (List.getElem_mem hi)
theorem made_step {b most : Int} {s : List (List S50) × Int} (hb : 0 ≤ b ∧ b ≤ 255) (h : MadeOk most s) (hm : most ≤ 400) (hs : s.2 + 2 < most) : MadeOk most (madeStep b s) := by
  obtain ⟨h1, h2, h3⟩ := h
  have hz := step_size (b := b) (s := s) ⟨h2, by omega⟩ hm hs
  refine ⟨?_, hz.1, ?_⟩
  · unfold madeStep
    split
    · intro p hp
      rcases List.mem_append.1 hp with hp | hp
      · exact h1 p hp
      · rw [List.mem_singleton] at hp
        subst hp
        split
        · exact pst_empty
        · exact pst_one (by omega) (by omega) (by omega)
    · rename_i hq
      split
      · intro p hp
        rcases List.mem_or_eq_of_mem_set hp with hp | rfl
        · exact h1 p hp
        · exact pst_rep (getD_pst h1 (by omega))
      · intro p hp
        rcases List.mem_append.1 hp with hp | hp
        · exact h1 p (List.mem_of_mem_take hp)
        · rw [List.mem_singleton] at hp
          subst hp
          have t1 := tot_le (ps := s.1) (s.1.length - 2)
          have t2 := tot_le (ps := s.1) (s.1.length - 1)
          exact pst_join (by omega) (getD_pst h1 (by omega)) (getD_pst h1 (by omega)) (by omega)
  · unfold madeStep
    split
    · simp; omega
    · split
      · simp; omega
      · simp; omega
theorem made_loop {most : Int} (hm : most ≤ 400) : ∀ (l : List Int) (s : List (List S50) × Int), (∀ b ∈ l, 0 ≤ b ∧ b ≤ 255) → MadeOk most s → MadeOk most (madeLoop most l s)
  | [], s, _, h => h
  | b :: l, s, hb, h => by
    unfold madeLoop
    split
    · rename_i hs
      exact made_loop hm l _ (fun c hc => hb c (List.mem_cons_of_mem _ hc)) (made_step (hb b (List.mem_cons_self ..)) h hm hs)
    · exact h
theorem end_fold : ∀ (r : List (List S50)) (p : List S50), (∀ q ∈ r, Pst q) → Pst p → p.length + tot r + r.length ≤ 1000000 → Pst (r.foldl (joinF 2) p) ∧ (r.foldl (joinF 2) p).length = p.length + tot r + r.length
  | [], p, _, hp, _ => ⟨hp, by simp [tot]⟩
  | q :: r, p, hr, hp, hs => by
    have hq := hr q (List.mem_cons_self ..)
    simp only [tot, List.map_cons, List.sum_cons, List.length_cons] at hs
    have e : tot (q :: r) = q.length + tot r := by simp [tot]
    have ih := end_fold r (joinF 2 p q) (fun c hc => hr c (List.mem_cons_of_mem _ hc)) (pst_join (.inl rfl) hp hq (by omega)) (by rw [joinF_length]; unfold tot; omega)
    refine ⟨ih.1, ?_⟩
    rw [List.foldl_cons, ih.2, joinF_length, e, List.length_cons]
    omega
/-- What Made makes is in postorder. -/
theorem made_pst {l : List Int} {most : Int} (hb : ∀ b ∈ l, 0 ≤ b ∧ b ≤ 255) (h1 : 1 ≤ most) (hm : most ≤ 400) : Pst (madeF l most) ∧ ((madeF l most).length : Int) ≤ most := by
  obtain ⟨h2, h3, h4⟩ := made_loop hm l ([], 0) hb ⟨by simp, by simp [tot], by simp; omega⟩
  unfold madeF madeEnd
  generalize (madeLoop most l ([], 0)).1 = st at *
  cases st with
  | nil => exact ⟨pst_empty, by simp [emptyF]; omega⟩
  | cons p r =>
    have e : tot (p :: r) = p.length + tot r := by simp [tot]
    simp only [List.length_cons] at h3
    rw [e] at h3
    have := end_fold r p (fun c hc => h2 c (List.mem_cons_of_mem _ hc)) (h2 p (List.mem_cons_self ..)) (by omega)
    refine ⟨this.1, ?_⟩
    simp only
    rw [this.2]
    omega
theorem Pst.fine {p : List S50} (h : Pst p) (hl : p.length ≤ 512) : ∃ t : Tr, p = t.post 0 ∧ t.ok ∧ Fine p (t.re 0) := by
  obtain ⟨t, rfl, ht⟩ := h
  rw [t.post_length] at hl
  obtain ⟨u, hu⟩ := fine_of (t.chk0 ht hl)
  have hr := t.isRe 0 (lies_self t)
  have e : u = t.re 0 := isRe_unique hu.good.is (by rw [t.post_length]; simpa using hr)
  exact ⟨t, rfl, ht, e ▸ hu⟩
end Go.Proofs.YtaphblnelmncaaaDoor.PA
end

section
/- What the statements' walks share: the inputs' pattern, the inputs' word. -/
set_option linter.unusedVariables false
namespace Go.Proofs.YtaphblnelmncaaaDoor.PA
open Go.RowKit Go.Proofs.YtaphblnelmncaaaDoorW.PrintWords Go.Proofs.YtaphblnelmncaaaDoorW.PrintLast Go.Proofs.YtaphblnelmncaaaDoorW.PrintMore

/-- From w0 on: nothing old has changed, the table stands. -/
structure LS (w0 w : World) : Prop where
  low : Below w0.heap.size w0 w
  tab0 : Tab w0
theorem LS.init {w : World} (h : Tab w) : LS w w := ⟨Below.refl _ _, h⟩
theorem LS.tab {w0 w : World} (h : LS w0 w) : Tab w := h.tab0.chg (Chg.of_below (L := []) h.low) (by simp)
theorem LS.next {w0 w w' : World} (h : LS w0 w) (k : Below w.heap.size w w') : LS w0 w' := ⟨below_trans h.low k, h.tab0⟩
/-- A pattern in memory. -/
structure Pt (w : World) (A : Option Addr) (c : Nat) (p : List S50) : Prop where
  C : Kd.C k50 w A p.length p
  hc : p.length ≤ c
theorem Pt.next {w w' : World} {A : Option Addr} {c : Nat} {p : List S50} (h : Pt w A c p) (k : Below w.heap.size w w') : Pt w' A c p := ⟨Kd.C_below h.C k, h.hc⟩
theorem Pt.of {w : World} {base : Nat} {ok : Nat → Prop} {A : Option Addr} {n c : Nat} {p : List S50} (h : Kd.R k50 50 w base ok (.slice A n c) p) : n = p.length ∧ Pt w A c p := ⟨(Kd.R_reads' h).1, (Kd.R_reads' h).2.2, by have := Kd.R_reads' h; omega⟩
/-- Whole numbers of one byte in memory. -/
structure Bt (w : World) (A : Option Addr) (c : Nat) (l : List Int) : Prop where
  C : Kd.C (Kd.int .u8) w A l.length l
  hc : l.length ≤ c
  rng : ∀ b ∈ l, 0 ≤ b ∧ b ≤ 255
  len : l.length ≤ 1000000000000000
theorem Bt.next {w w' : World} {A : Option Addr} {c : Nat} {l : List Int} (h : Bt w A c l) (k : Below w.heap.size w w') : Bt w' A c l := ⟨Kd.C_below h.C k, h.hc, h.rng, h.len⟩
/-- Made's pattern. -/
theorem made_law {A : Option Addr} {c : Nat} {l : List Int} {w : World} (h : Bt w A c l) (most : Int) (h0 : 0 ≤ most) (hm : most ≤ 400) :
    Calls Tryd.prog 16 #[.slice A l.length c, .int .i64 most] w fun e w' => ∃ E ec, e = .returned (.slice E (madeF l most).length ec) ∧ Pt w' E ec (madeF l most) ∧ Below w.heap.size w w' :=
  (made_any A c l most w h.C h.hc h.rng h0 hm h.len).mono fun e w' ⟨v, he, hR, hb⟩ => by
    obtain ⟨E, ec, rfl⟩ := Kd.R_slice hR
    exact ⟨E, ec, he, (Pt.of hR).2, hb⟩
/-- The inputs' word. -/
def wordL (l : List Int) (most : Nat) : List Int := (l.take most).map fun b => 97 + b % 3
theorem wordL_length (l : List Int) (most : Nat) : (wordL l most).length ≤ most := by simp [wordL]; omega
theorem word_l0 (l : List Int) (most : Nat) (hb : ∀ b ∈ l, 0 ≤ b ∧ b ≤ 255) (hm : most ≤ 100) : ∀ (n i : Nat), l.length + 1 - i ≤ n → i ≤ l.length → i ≤ most → koinelaw04_word.l0 n l most (wordL l i) i = some (strOfNums (wordL l most))
  | 0, i, h, hi, hm2 => by omega
  | n + 1, i, h, hi, hm2 => by
    have hw := wordL_length l i
    unfold koinelaw04_word.l0
    by_cases h1 : i < l.length
    · rw [if_pos (by omega)]
      by_cases h2 : i < most
      · rw [if_pos (by omega), if_pos (by omega), if_pos (by omega)]
        have hx := hb (l.getD i 0) (by simp [List.getD_eq_getElem?_getD, h1])
        have e : wordL l (i + 1) = wordL l i ++ [(97 + Int.tmod (rd l i) 3) % 256] := by
          unfold wordL
          rw [List.take_succ_eq_append_getElem h1, List.map_append]
          congr 1
          have hg : l.getD i 0 = l[i] := by simp [List.getD_eq_getElem?_getD, h1]
          have hr : rd l (i : Int) = l[i] := by simp [rd, List.getD_eq_getElem?_getD, h1]
          rw [hg] at hx
          rw [hr, Int.tmod_eq_emod_of_nonneg hx.1]
          simp only [List.map_cons, List.map_nil, List.cons.injEq, and_true]
          omega
        have e2 : wrap64 ((i : Int) + 1) = ((i + 1 : Nat) : Int) := by unfold wrap64; omega
        rw [← e, e2]
        exact word_l0 l most hb hm n (i + 1) (by omega) h1 h2
      · rw [if_neg (by omega), show i = most by omega]
    · rw [if_neg (by omega)]
      have : wordL l i = wordL l most := by unfold wordL; rw [List.take_of_length_le (by omega), List.take_of_length_le (by omega)]
      rw [this]
theorem word_law {A : Option Addr} {c : Nat} {l : List Int} {w : World} (h : Bt w A c l) (most : Nat) (hm : most ≤ 100) :
    Calls Tryd.prog 33 #[.slice A l.length c, .int .i64 most] w fun e w' => e = .returned (.string (strOfNums (wordL l most))) ∧ Below w.heap.size w w' :=
  koinelaw04_word.calls (l.length + 1) A c l most _ w h.C h.hc (by unfold koinelaw04_word.f; exact word_l0 l most h.rng hm _ 0 (by omega) (by omega) (by omega))
theorem word_bytes {l : List Int} {most : Nat} (hb : ∀ b ∈ l, 0 ≤ b ∧ b ≤ 255) : ∀ b ∈ wordL l most, 97 ≤ b ∧ b ≤ 99 := by
  intro b h
  unfold wordL at h
  rw [List.mem_map] at h
  obtain ⟨x, hx, rfl⟩ := h
  omega
theorem bytes_strOf {l : List Int} (h : ∀ b ∈ l, 0 ≤ b ∧ b ≤ 255) : bytesOf (strOfNums l) = l := by
  unfold bytesOf strOfNums
  simp only [List.map_map]
  conv => rhs; rw [← List.map_id l]
  apply List.map_congr_left
  intro b hb
  have := h b hb
  simp only [Function.comp, id]
  show (((UInt8.ofNat b.toNat).toNat : Nat) : Int) = b
  rw [UInt8.toNat_ofNat']
  omega
theorem extract2 (s : ByteArray) (a b : Nat) : bytesOf (s.extract a b) = ((bytesOf s).drop a).take (b - a) := by
  unfold bytesOf
  rw [← List.map_drop, ← List.map_take]
  congr 1
  simp only [ByteArray.extract, ByteArray.copySlice]
  simp
theorem bytes_app (s t : ByteArray) : bytesOf (s ++ t) = bytesOf s ++ bytesOf t := by
  unfold bytesOf; simp
/-- Matches answers as the language. -/
theorem matches_law {p : List S50} {t : Re} (g : Fine p t) {A : Option Addr} {c : Nat} {w : World} (h : Pt w A c p) (ht : Tab w) (s : ByteArray) (hs : s.size ≤ 140737488351232) (b : Bool) (hb : b = true ↔ t.Lang (bytesOf s)) :
    Calls Tryd.prog 23 #[.slice A p.length c, .string s] w fun e w' => e = .returned (.bool b) ∧ Below w.heap.size w w' :=
  matches_of g.good A c s w h.C h.hc hs ht b (by rw [Bool.eq_iff_iff, match_iff g, hb])
theorem matches_yes {p : List S50} {t : Re} (g : Fine p t) {A : Option Addr} {c : Nat} {w : World} (h : Pt w A c p) (ht : Tab w) (s : ByteArray) (hs : s.size ≤ 140737488351232) (hb : t.Lang (bytesOf s)) :
    Calls Tryd.prog 23 #[.slice A p.length c, .string s] w fun e w' => e = .returned (.bool true) ∧ Below w.heap.size w w' := matches_law g h ht s hs true ⟨fun _ => hb, fun _ => rfl⟩
theorem matches_no {p : List S50} {t : Re} (g : Fine p t) {A : Option Addr} {c : Nat} {w : World} (h : Pt w A c p) (ht : Tab w) (s : ByteArray) (hs : s.size ≤ 140737488351232) (hb : ¬ t.Lang (bytesOf s)) :
    Calls Tryd.prog 23 #[.slice A p.length c, .string s] w fun e w' => e = .returned (.bool false) ∧ Below w.heap.size w w' := matches_law g h ht s hs false ⟨fun h => by simp at h, fun h => absurd h hb⟩
/-- What Longest answers. -/
structure LongP (t : Re) (bs : List Int) (n : Nat) : Prop where
  le : n ≤ bs.length
  is : 0 < n → t.Lang (bs.take n)
  no : ∀ m, n < m → m ≤ bs.length → ¬ t.Lang (bs.take m)
theorem longest_law {p : List S50} {t : Re} (g : Fine p t) {A : Option Addr} {c : Nat} {w : World} (h : Pt w A c p) (ht : Tab w) (s : ByteArray) (hs : s.size ≤ 140737488351232) (i : Nat) (hi : i ≤ s.size) :
    ∃ n : Nat, LongP t ((bytesOf s).drop i) n ∧ Calls Tryd.prog 17 #[.slice A p.length c, .string s, .int .i64 (i : Int)] w fun e w' => e = .returned (.tuple #[.int .i64 (n : Int), .bool (decide (0 < n))]) ∧ Below w.heap.size w w' := by
  have k := longest_iff g ((bytesOf s).drop i)
  exact ⟨_, ⟨k.1, k.2.1, k.2.2⟩, longest_of g.good A c s i w h.C h.hc hs hi ht _ rfl⟩
end Go.Proofs.YtaphblnelmncaaaDoor.PA
end

section
/- What the rows share: the table out of the row's list, the arguments opened, a world for the witness. -/
set_option linter.unusedVariables false
namespace Go.Proofs.YtaphblnelmncaaaDoor.LaidRow
open Go.ChangeShapes Go.WideShapes Go.ChangeAt Go.RowKit Go.Proofs.YtaphblnelmncaaaDoorW.PrintWords
open Go.Proofs.YtaphblnelmncaaaDoor.PA

theorem own : ownKnob Tryd.prog.godebug = none := by kernel_rfl
theorem laidOut : laidOutB Tryd.prog = true := by kernel_rfl
theorem gTab : Tryd.prog.globalNamed "math/bits.deBruijn64tab" = some 0 := by kernel_rfl
theorem gTabType : (Tryd.prog.globals[0]?).map (·.type) = some 122 := by kernel_rfl
theorem cells122 : Tryd.prog.cellsOf 122 = 64 := by kernel_rfl
theorem cells5 : Tryd.prog.cellsOf 5 = 1 := by kernel_rfl
theorem tab_of {W : World} (h : laidMetH Tryd.prog [("math/bits.deBruijn64tab", Rows.laid_math_bits_deBruijn64tab)] W) : Tab W := by
  have t : Lib.TabIs Tryd.prog W "math/bits.deBruijn64tab" .u8 (Lib.deBruijn64tab.map fun (n : Nat) => (n : Int)) :=
    Lib.tabIs_of_head (rest := []) gTab gTabType Tryd.underlying122 Tryd.underlying5 cells5 cells122 h
  have hc : ∀ j, j < Lib.deBruijn64tab.length → W.cell? ⟨0, j, none⟩ = some (.int .u8 (Lib.deBruijn64tab.getD j 0)) := fun j hj => by
    have := t.cell gTab j (by simpa using hj)
    rw [this]
    simp [List.getD_eq_getElem?_getD, hj]
  exact ⟨Nat.lt_of_le_of_lt (Nat.zero_le _) (World.block_lt_of_cell? W _ (hc 0 (by decide))), hc⟩
def IsRow (k : IntKind) (w : World) (a : Option Addr) (len cap : Nat) (zs : List Int) : Prop :=
  (a = none ∧ len = 0 ∧ cap = 0 ∧ zs = []) ∨
  ∃ x, a = some x ∧ len ≤ cap ∧ cap ≤ maxLen ∧ zs.length = cap ∧ (∀ i, i < zs.length → w.cell? (x.add i) = some (.int k (zs.getD i 0))) ∧ ∀ n ∈ zs, (Lit.int k n).wf = true
theorem isRow_of {H : Type} {enc : TypeId × Value → H} {k : IntKind} {W : World} {t e : TypeId} {a : Option Addr} {len cap : Nat} {held : Bool} {d : DataW H} {ps : List MemPlace} (ht : Tryd.prog.underlying t = some (.slice e)) (he : Tryd.prog.underlying e = some (.int k)) (hc : Tryd.prog.cellsOf e = 1)
    (h : DataW.Trod enc Tryd.prog W 0 (fun _ => true) held t (.slice a len cap) d ps) : ∃ zs, IsRow k W a len cap zs := by
  obtain ⟨fuel, hf⟩ := h
  rcases open_ints ht he hc hf with ⟨hcs, _⟩ | ⟨x, l, c, zs, hcs, _, hl, hm, hz, _, hcell, hwz⟩
  · simp [Value.cells] at hcs
    obtain ⟨rfl, rfl, rfl⟩ := hcs
    exact ⟨[], .inl ⟨rfl, rfl, rfl, rfl⟩⟩
  · simp [Value.cells] at hcs
    obtain ⟨rfl, rfl, rfl⟩ := hcs
    exact ⟨zs, .inr ⟨_, rfl, hl, hm, by simpa using hz, hcell, hwz⟩⟩
theorem u8_of {a : Int} (h : (Lit.int .u8 a).wf = true) : 0 ≤ a ∧ a ≤ 255 := by
  unfold Lit.wf at h
  simp only [Bool.and_eq_true, decide_eq_true_eq] at h
  exact h
theorem i64_of {a : Int} (h : (Lit.int .i64 a).wf = true) : -9223372036854775808 ≤ a ∧ a ≤ 9223372036854775807 := by
  unfold Lit.wf at h
  simp only [Bool.and_eq_true, decide_eq_true_eq] at h
  exact h
theorem str_of {s : ByteArray} (h : s.data.toList.length ≤ reachBytes) : s.size ≤ 140737488351232 := by
  have e : reachBytes ≤ 140737488351232 := Nat.le_of_ble_eq_true rfl
  have e2 : s.data.toList.length = s.size := Array.length_toList
  omega
theorem bt_of {W : World} {a : Option Addr} {len cap : Nat} {zs : List Int} (h : IsRow .u8 W a len cap zs) (y : len * 1 ≤ 140737488351232) : ∃ l : List Int, len = l.length ∧ Bt W a cap l := by
  obtain ⟨l0, hl, hr0, hm0, hw0, hc0⟩ := ReadsInt.ofRowC h
  exact ⟨l0, hl, Kd.C_of_reads (d := (0 : Int)) (h1 := fun _ => rfl) hr0, hc0, fun b hb => u8_of (hw0 b hb), by omega⟩
/-- A world for the witness: the settled one, the table (block 0) holding what its initialiser lays. -/
noncomputable def laidWorld (os : Os) : World :=
  { World.holding Tryd.prog os ⟨#[], #[], []⟩ with heap := (World.holding Tryd.prog os ⟨#[], #[], []⟩).heap.modify 0 fun
      | .cells _ t frozen => .cells (Lib.deBruijn64tab.map fun (n : Nat) => Value.int .u8 (n : Int)).toArray t frozen
      | o => o }
end Go.Proofs.YtaphblnelmncaaaDoor.LaidRow
end

section
/- The walk over PatternLongest. -/
set_option linter.unusedVariables false
namespace Go.Proofs.YtaphblnelmncaaaDoor.PA
open Go.RowKit Go.Proofs.YtaphblnelmncaaaDoorW.PrintWords Go.Proofs.YtaphblnelmncaaaDoorW.PrintLast Go.Proofs.YtaphblnelmncaaaDoorW.PrintMore

/-- More bytes, no smaller result. -/
theorem long_more {t : Re} {bs cs : List Int} {n n2 : Nat} (h : LongP t bs n) (k : LongP t (bs ++ cs) n2) : n ≤ n2 := by
  apply Classical.byContradiction
  intro hn
  have h1 := h.le
  exact k.no n (by omega) (by rw [List.length_append]; omega) (by rw [List.take_append_of_le_length h1]; exact h.is (by omega))

set_option maxHeartbeats 4000000 in
set_option maxRecDepth 100000 in
theorem longest_stmt {A B : Option Addr} {ca cb : Nat} {l m : List Int} {at_ : Int} {W : World} (hl : Bt W A ca l) (hm : Bt W B cb m) (ha0 : 0 ≤ at_) (ha1 : at_ ≤ 255) (ht : Tab W) :
    Calls Tryd.prog 8 #[.slice A l.length ca, .slice B m.length cb, .int .u8 at_] W fun e w' => e = .returned (.bool true) ∧ Below W.heap.size W w' := by
  obtain ⟨hp, hpl⟩ := made_pst hl.rng (most := 30) (by decide) (by decide)
  obtain ⟨t0, e0, o0, g⟩ := hp.fine (by omega)
  clear e0 o0
  generalize t0.re 0 = t at g
  have HG := Lib.hid g
  have HL := Lib.hid hl
  have HM := Lib.hid hm
  have S0 := Lib.hid (LS.init ht)
  clear g hl hm ht hp hpl
  go_enter Tryd.func8, Tryd.ntmps8
  go_wp2_with fail
  refine (sanity_any W S0.out.tab).mono ?_
  rintro e w1 ⟨rfl, k1⟩
  have S1 := Lib.hid (S0.out.next k1)
  have L1 := Lib.hid (HL.out.next k1)
  have M1 := Lib.hid (HM.out.next k1)
  clear k1
  go_wp2_with fail
  refine (made_law L1.out 30 (by decide) (by decide)).mono ?_
  rintro e w2 ⟨E, ec, rfl, P2, k2⟩
  have P2 := Lib.hid P2
  have S2 := Lib.hid (S1.out.next k2)
  have M2 := Lib.hid (M1.out.next k2)
  clear k2
  go_wp2_with fail
  refine (word_law M2.out 16 (by decide)).mono ?_
  rintro e w3 ⟨rfl, k3⟩
  have P3 := Lib.hid (P2.out.next k3)
  have S3 := Lib.hid (S2.out.next k3)
  clear k3
  have hs : (strOfNums (wordL m 16)).size ≤ 16 := by rw [strOfNums_size]; exact wordL_length _ _
  generalize strOfNums (wordL m 16) = s at *
  have hs2 : s.size ≤ 140737488351232 := by omega
  obtain ⟨k, hk, hk1, hk2⟩ : ∃ k : Nat, k ≤ s.size ∧ at_ % ((s.size : Int) + 1) = (k : Int) ∧ Int.tmod at_ ((s.size : Int) + 1) = (k : Int) := by
    have e := Int.emod_nonneg at_ (show ((s.size : Int) + 1) ≠ 0 by omega)
    have e2 := Int.emod_lt_of_pos at_ (show 0 < ((s.size : Int) + 1) by omega)
    exact ⟨(at_ % ((s.size : Int) + 1)).toNat, by omega, by omega, by rw [Int.tmod_eq_emod_of_nonneg ha0]; omega⟩
  have hz : ((s.size : Int) + 1 == 0) = false := beq_eq_false_iff_ne.2 (by omega)
  obtain ⟨n, hn, hc⟩ := longest_law HG.out P3.out S3.out.tab s hs2 k hk
  generalize hok : decide (0 < n) = ok at hc
  have HOK := Lib.hid hok
  clear hok
  go_wp2_with fail
  refine hc.mono ?_
  rintro e w4 ⟨rfl, k4⟩
  have P4 := Lib.hid (P3.out.next k4)
  have S4 := Lib.hid (S3.out.next k4)
  have hle : n ≤ s.size - k := by have := hn.le; rw [List.length_drop, bytesOf_length] at this; exact this
  have HN := Lib.hid hn
  clear k4 hn hc P2 P3 S0 S1 S2 S3 L1 M1 M2
  have hkn : k + n ≤ s.size := by omega
  have hk3 : (k : Int) ≤ (k : Int) + (n : Int) := by omega
  have hk4 : (k : Int) + (n : Int) ≤ (s.size : Int) := by omega
  have hsz : ∀ a b, (s.extract a b).size ≤ 140737488351232 := by intro a b; rw [← bytesOf_length, extract2, List.length_take, List.length_drop, bytesOf_length]; omega
  have HSZ := Lib.hid hsz
  clear hsz
  have hk8 : decide ((n : Int) < 0) = false := decide_eq_false (by omega)
  have hk9 : decide ((s.size : Int) < (k : Int) + (n : Int)) = false := decide_eq_false (by omega)
  go_upto_region 6 with fail
  go_cut [63] (fun c63 wd => c63 = .bool false ∧ Hid (LS W wd) ∧ Hid (Pt wd E ec (madeF l 30)))
  case first =>
    by_cases hn0 : 0 < n
    · obtain rfl : ok = true := HOK.out.symm.trans (decide_eq_true hn0)
      have HB : Hid (t.Lang (bytesOf (s.extract k (k + n)))) := Lib.hid (by rw [extract2, Nat.add_sub_cancel_left]; exact HN.out.is hn0)
      go_wp2_with fail
      refine (matches_yes HG.out P4.out S4.out.tab _ (HSZ.out _ _) HB.out).mono ?_
      rintro e w5 ⟨rfl, k5⟩
      have P5 := Lib.hid (P4.out.next k5)
      have S5 := Lib.hid (S4.out.next k5)
      clear k5
      go_wp2
      go_meet
      exact ⟨rfl, S5, P5⟩
    · obtain rfl : ok = false := HOK.out.symm.trans (decide_eq_false hn0)
      go_wp2
      go_meet
      exact ⟨rfl, S4, P4⟩
  case rest =>
  obtain ⟨rfl, S5, P5⟩ := hcut
  clear S4 P4
  go_wp2
  go_loopw [13] (fun c13 wd => ∃ m : Nat, n < m ∧ k + m ≤ s.size + 1 ∧ c13 = .int .i64 (m : Int) ∧ Hid (LS W wd) ∧ Hid (Pt wd E ec (madeF l 30))) (fun c13 _ => s.size + 1 - (intOf c13).toNat)
  case atStart => exact ⟨n + 1, by omega, by omega, by go_num, S5, P5⟩
  case round =>
    obtain ⟨m, hm1, hm2, rfl, S6, P6⟩ := hrel
    by_cases hlt : k + m ≤ s.size
    · have hk5 : (k : Int) ≤ (k : Int) + (m : Int) := by omega
      have hk6 : (k : Int) + (m : Int) ≤ (s.size : Int) := by omega
      have hk7 : decide ((k : Int) + (m : Int) ≤ (s.size : Int)) = true := decide_eq_true hk6
      have HB : Hid (¬ t.Lang (bytesOf (s.extract k (k + m)))) := Lib.hid (by rw [extract2, Nat.add_sub_cancel_left]; exact HN.out.no m hm1 (by rw [List.length_drop, bytesOf_length]; omega))
      go_wp2_with fail
      refine (matches_no HG.out P6.out S6.out.tab _ (HSZ.out _ _) HB.out).mono ?_
      rintro e w7 ⟨rfl, k7⟩
      have P7 := Lib.hid (P6.out.next k7)
      have S7 := Lib.hid (S6.out.next k7)
      clear k7
      go_wp2
      go_roundw
      case rel => exact ⟨m + 1, by omega, by omega, by go_num, S7, P7⟩
      case measure => simp [intOf]; omega
    · have hk7 : decide ((k : Int) + (m : Int) ≤ (s.size : Int)) = false := decide_eq_false (by omega)
      have ea : (s ++ ⟨#[97]⟩ : ByteArray).size = s.size + 1 := by rw [ByteArray.size_append]; rfl
      obtain ⟨n2, hn2, hc2⟩ := longest_law HG.out P6.out S6.out.tab (s ++ ⟨#[97]⟩) (by omega) k (by omega)
      have hge : n ≤ n2 := long_more HN.out (by rw [bytes_app, List.drop_append_of_le_length (by rw [bytesOf_length]; omega)] at hn2; exact hn2)
      have HC2 := Lib.hid hc2
      clear hn2 hc2 ea
      go_wp2_with fail
      refine HC2.out.mono ?_
      rintro e w8 ⟨rfl, k8⟩
      have S8 := Lib.hid (S6.out.next k8)
      clear k8
      have hge2 : decide (n ≤ n2) = true := decide_eq_true hge
      go_wp2
      go_ret
      exact ⟨rfl, S8.out.low⟩
theorem longest_row {A B : Option Addr} {ca cb : Nat} {l m : List Int} {a : Int} {W : World} (hl : Bt W A ca l) (hm : Bt W B cb m) (ha : 0 ≤ a ∧ a ≤ 255) (ht : Tab W) :
    Calls Tryd.prog 8 #[.slice A l.length ca, .slice B m.length cb, .int .u8 a] W fun e w' => e = .returned (.bool true) ∧ Below W.heap.size W w' := longest_stmt hl hm ha.1 ha.2 ht
end Go.Proofs.YtaphblnelmncaaaDoor.PA
end
