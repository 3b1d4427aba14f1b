/- What the statement's proof stands on, part 2: the walks over the program's functions and the plain laws. -/
import Derived.Test.YtaphblnelmncaaaDoorV8a
import Derived.Deep.RegionWith
import Derived.Deep.RegionHeld3
import Derived.Deep.RegionLaw
import Derived.Deep.LoopGhost
set_option linter.unusedSimpArgs false
set_option linter.unusedVariables false
section
/- The walk over distances. -/
set_option linter.unusedVariables false
namespace Go.Proofs.YtaphblnelmncaaaDoor.PA
open Go.RowKit Go.Proofs.YtaphblnelmncaaaDoorW.PrintWords Go.Proofs.YtaphblnelmncaaaDoorW.PrintLast Go.Proofs.YtaphblnelmncaaaDoorW.PrintMore

theorem backAdd_within {O : List Nat} {m i : Nat} (h : Within O m) (hi : i < m) : ∀ (l : List Nat), Within (backAdd i l O) m := by
  intro l
  induction l generalizing O with
  | nil => exact h
  | cons k l ih =>
    show Within (backAdd i l (O.set k (O.getD k 0 ||| 1 <<< i))) m
    refine ih (fun a j hj => ?_)
    by_cases e : k = a
    · subst e
      by_cases hk : k < O.length
      · rw [List.getD_eq_getElem?_getD, List.getElem?_set_self hk] at hj
        simp only [Option.getD_some, Nat.testBit_or, Bool.or_eq_true, Nat.shiftLeft_eq, Nat.one_mul, Nat.testBit_two_pow] at hj
        rcases hj with hj | hj
        · exact h k j hj
        · simp at hj; omega
      · rw [List.set_eq_of_length_le (by omega)] at hj
        exact h k j hj
    · rw [List.getD_eq_getElem?_getD, List.getElem?_set_ne e] at hj
      exact h a j (by rw [List.getD_eq_getElem?_getD]; exact hj)
theorem backTo_within (F : List Nat) (m : Nat) : ∀ n, n ≤ m → Within (backTo F m n) m
  | 0, _ => within_zero m m
  | n + 1, h => by
    simp only [backTo]
    exact backAdd_within (backTo_within F m n (by omega)) (by omega) _
theorem backF_within (F : List Nat) : Within (backF F) F.length := backTo_within F _ _ (Nat.le_refl _)

/-- A map of distances in memory. -/
def DM (f : DMap) : Int × Int → Option Value := fun k => (f k).map (.int .i64)
/-- meeting, the arguments written out. -/
theorem meet_ex (w : World) (ma fa mb fb : Nat) (A B : Option Addr) (ca cb : Nat) (p q : List S50) (t u : Re) (S T : Nat)
    (hA : MachAt w ma fa A ca p t) (hB : MachAt w mb fb B cb q u) (htab : Tab w) (hS : ∀ j, S.testBit j = true → j < p.length) (hT : ∀ j, T.testBit j = true → j < q.length) :
    Calls Tryd.prog 58 #[.pointer (some ⟨ma, 0, none⟩), .pointer (some ⟨mb, 0, none⟩), .agg #[.int .u64 (limb S 0), .int .u64 (limb S 1), .int .u64 (limb S 2), .int .u64 (limb S 3), .int .u64 (limb S 4), .int .u64 (limb S 5), .int .u64 (limb S 6), .int .u64 (limb S 7)],
      .agg #[.int .u64 (limb T 0), .int .u64 (limb T 1), .int .u64 (limb T 2), .int .u64 (limb T 3), .int .u64 (limb T 4), .int .u64 (limb T 5), .int .u64 (limb T 6), .int .u64 (limb T 7)]] w
      fun e w' => ∃ v, e = .returned v ∧ Kd.R k92 92 w' w.heap.size (fun _ => True) v (meetL p q S T) ∧ Below w.heap.size w w' := meet_any w ma fa mb fb A B ca cb p q t u S T hA hB htab hS hT

/-- What stands while distances goes on. -/
structure DistInv (w0 : World) (ab bb r base : Nat) (A B : List Nat) (v : Value) (queue : List (Int × Int)) (f : DMap) (w : World) : Prop where
  low : Below w0.heap.size w0 w
  ha : Blk w ab 76 (fcells A)
  hb : Blk w bb 76 (fcells B)
  hm : PMap w r (DM f)
  hq : Kd.R k92 92 w base (fun _ => True) v queue
  na : ab < r
  nb : bb < r
  nr : r < base
  n0 : w0.heap.size ≤ r
  sz : base ≤ w.heap.size
theorem DistInv.below {w0 w w' : World} {ab bb r base : Nat} {A B : List Nat} {v : Value} {queue : List (Int × Int)} {f : DMap} (h : DistInv w0 ab bb r base A B v queue f w) (k : Below w.heap.size w w') : DistInv w0 ab bb r base A B v queue f w' :=
  ⟨h.low.trans (k.mono h.low.size), h.ha.below k, h.hb.below k, h.hm.below k, Kd.R_below h.hq k, h.na, h.nb, h.nr, h.n0, Nat.le_trans h.sz k.size⟩
theorem DistInv.put {w0 w w' : World} {ab bb r base : Nat} {A B : List Nat} {v : Value} {queue : List (Int × Int)} {f f' : DMap} (h : DistInv w0 ab bb r base A B v queue f w) (k : Chg [r] w w') (hm : PMap w' r (DM f')) : DistInv w0 ab bb r base A B v queue f' w' := by
  have h1 := h.na
  have h2 := h.nb
  have h3 := h.nr
  have h4 := h.n0
  refine ⟨h.low.trans ⟨k.os, k.tape, k.output, k.size, fun g hg => k.block g (Nat.lt_of_lt_of_le hg h.low.size) (by simp; omega)⟩, h.ha.keep k (by simp; omega), h.hb.keep k (by simp; omega), hm, ?_, h1, h2, h3, h4, Nat.le_trans h.sz k.size⟩
  exact Kd.R_mono (Kd.R_move (Kd.R_bound h.hq) (fun g hg => k.block g hg.2.2.1 (by have := hg.2.1; simp; omega))) (fun _ _ => trivial)
theorem DM_put (f : DMap) (y : Int × Int) (d : Int) : (fun k' => if k' = y then some (Value.int .i64 d) else DM f k') = DM (putD f y d) := by
  funext k; unfold DM putD; split <;> rfl
theorem zero3 (w : World) : (zeroValue 3).run Tryd.prog w = .ok (.int .i64 0) w := by
  have := info3
  go_simp

theorem mk_map (W : World) : (Instr.makeMap 87 none).run Tryd.prog W = .ok (.map (some W.heap.size)) (W.alloc (.map #[] 0)) := by
  unfold Instr.makeMap
  go_simp

/-- A store, the world named. -/
theorem run_put' {w : World} {r : Nat} {f : DMap} (h : PMap w r (DM f)) (k : Int × Int) (d : Int) :
    ∃ w', (Instr.mapUpdate 87 (.map (some r)) (pairV k) (.int .i64 d)).run Tryd.prog w = .ok () w' ∧ PMap w' r (DM (putD f k d)) ∧ Chg [r] w w' := by
  obtain ⟨o, h1, h2⟩ := run_put h Tryd.underlying87 k (.int .i64 d)
  exact ⟨_, h1, by rw [← DM_put]; exact h2, chg_block w r o⟩
theorem run_look' {w : World} {r : Nat} {f : DMap} (h : PMap w r (DM f)) (k : Int × Int) (c : Bool) :
    (Instr.lookup 87 (.map (some r)) (pairV k) c).run Tryd.prog w = .ok (if c then .tuple #[.int .i64 ((f k).getD 0), .bool (f k).isSome] else .int .i64 ((f k).getD 0)) w := by
  have := run_look h Tryd.underlying87 (zero3 w) k c
  rw [this]
  unfold DM
  cases f k <;> rfl
theorem DistInv.push {w0 w w1 : World} {ab bb r base : Nat} {A B : List Nat} {v v1 : Value} {queue queue' : List (Int × Int)} {f : DMap} (h : DistInv w0 ab bb r base A B v queue f w) (hR : Kd.R k92 92 w1 base (fun _ => True) v1 queue') (hG : w.grownBy w1 v.ownBlock) : DistInv w0 ab bb r base A B v1 queue' f w1 := by
  have h1 := h.na
  have h2 := h.nb
  have h3 := h.nr
  have h4 := h.n0
  have kp : Kp (fun g => g < base) w w1 := Kp.grown hG (fun g hg e => by have := Kd.R_base h.hq g e.symm; omega)
  refine ⟨h.low.trans (kp.below (fun g hg => by omega) h.low.size), h.ha.kp kp (by omega), h.hb.kp kp (by omega), ?_, hR, h1, h2, h3, h4, Nat.le_trans h.sz kp.size⟩
  obtain ⟨es, c, g1, g2⟩ := h.hm
  exact ⟨es, c, (kp.block r h.hm.lt h3).trans g1, g2⟩
/-- A row that is read, none of the blocks of which is written. -/
def RowAt (base : Nat) (v ys : Value) (L : List (Int × Int)) (w : World) : Prop := Kd.R k92 92 w base (fun g => some g ≠ v.ownBlock) ys L
theorem RowAt.push {w w1 : World} {base : Nat} {v v1 ys : Value} {L : List (Int × Int)} (h : RowAt base v ys L w) (hG : w.grownBy w1 v.ownBlock) (hat : v1.ownBlock = v.ownBlock ∨ ∃ b, v1.ownBlock = some b ∧ w.heap.size ≤ b) : RowAt base v1 ys L w1 := by
  refine Kd.R_mono (Kd.R_grown (Kd.R_bound h) hG (fun k hk => hk.1)) (fun k hk => ?_)
  rcases hat with e | ⟨b, e, hb⟩
  · rw [e]; exact hk.1
  · rw [e]; intro e2; have := hk.2.2.1; cases e2; omega
theorem RowAt.below {w w1 : World} {base : Nat} {v ys : Value} {L : List (Int × Int)} (h : RowAt base v ys L w) (k : Below w.heap.size w w1) : RowAt base v ys L w1 := Kd.R_below h k
theorem RowAt.put {w w1 : World} {base r : Nat} {v ys : Value} {L : List (Int × Int)} (h : RowAt base v ys L w) (k : Chg [r] w w1) (hr : r < base) : RowAt base v ys L w1 :=
  Kd.R_mono (Kd.R_move (Kd.R_bound h) (fun g hg => k.block g hg.2.2.1 (by have := hg.2.1; simp; omega))) (fun k hk => hk.1)
/-- A block that is none of v's. -/
def ApB (v : Value) (g t : Nat) (cs : List Value) (w : World) : Prop := Blk w g t cs ∧ some g ≠ v.ownBlock
theorem ApB.push {w w1 : World} {v v1 : Value} {g t : Nat} {cs : List Value} (h : ApB v g t cs w) (hG : w.grownBy w1 v.ownBlock) (hat : v1.ownBlock = v.ownBlock ∨ ∃ b, v1.ownBlock = some b ∧ w.heap.size ≤ b) : ApB v1 g t cs w1 := by
  refine ⟨(hG.block g h.1.lt h.2).trans h.1, ?_⟩
  rcases hat with e | ⟨b, e, hb⟩
  · rw [e]; exact h.2
  · rw [e]; intro e2; have := h.1.lt; cases e2; omega
theorem ApB.below {w w1 : World} {v : Value} {g t : Nat} {cs : List Value} (h : ApB v g t cs w) (k : Below w.heap.size w w1) : ApB v g t cs w1 := ⟨h.1.below k, h.2⟩
theorem ApB.chg {w w1 : World} {v : Value} {g t r : Nat} {cs : List Value} (h : ApB v g t cs w) (k : Chg [r] w w1) (hr : g ≠ r) : ApB v g t cs w1 := ⟨h.1.keep k (by simpa using hr), h.2⟩
theorem DistInv.apart {w0 w : World} {ab bb r base g : Nat} {A B : List Nat} {v : Value} {queue : List (Int × Int)} {f : DMap} (h : DistInv w0 ab bb r base A B v queue f w) (hg : w.heap.size ≤ g) : some g ≠ v.ownBlock := fun e => by have := Kd.R_lt h.hq g e.symm; omega

theorem take_get {xs : List (Int × Int)} {k : Nat} (h : k < xs.length) : xs.take (k + 1) = xs.take k ++ [rd_T92 xs k] := by
  rw [List.take_succ_eq_append_getElem h]; simp [rd_T92, List.getD_eq_getElem?_getD, List.getElem?_eq_getElem h]
theorem rd_mem {xs : List (Int × Int)} {k : Nat} (h : k < xs.length) : rd_T92 xs k ∈ xs := by
  simp [rd_T92, List.getD_eq_getElem?_getD, List.getElem?_eq_getElem h]

set_option maxHeartbeats 4000000 in
set_option maxRecDepth 100000 in
theorem dist_any (w : World) (ma fa mb fb : Nat) (A B : Option Addr) (ca cb : Nat) (p q : List S50) (t u : Re) (rp rq : Nat) (f : DMap)
    (hA : MachAt w ma fa A ca p t) (hB : MachAt w mb fb B cb q u) (ht : IsRe p rp t) (hu : IsRe q rq u) (htab : Tab w) (hf : distF p q (t.link (List.replicate p.length 0)) (u.link (List.replicate q.length 0)) t.last u.last = some f) :
    Calls Tryd.prog 57 #[.pointer (some ⟨ma, 0, none⟩), .pointer (some ⟨mb, 0, none⟩)] w
      fun e w' => ∃ r, e = .returned (.map (some r)) ∧ PMap w' r (DM f) ∧ w.heap.size ≤ r ∧ Below w.heap.size w w' := by
  obtain ⟨FA, hFA⟩ : ∃ F, F = backF (t.link (List.replicate p.length 0)) := ⟨_, rfl⟩
  obtain ⟨FB, hFB⟩ : ∃ F, F = backF (u.link (List.replicate q.length 0)) := ⟨_, rfl⟩
  have KA := back_any w ma fa A ca p t rp hA ht htab
  rw [← hFA] at KA
  have KB : ∀ w', Below w.heap.size w w' → Calls Tryd.prog 82 #[.pointer (some ⟨mb, 0, none⟩)] w' fun e w'' => ∃ ob, e = .returned (.slice (some ⟨ob, 0, none⟩) q.length q.length) ∧ Blk w'' ob 76 (fcells FB) ∧ w'.heap.size ≤ ob ∧ Below w'.heap.size w' w'' := fun w' hb => by
    have := back_any w' mb fb B cb q u rq (hB.below hb) hu (htab.chg (Chg.of_below (L := []) hb) (by simp))
    rw [← hFB] at this
    exact this
  have HKA := Lib.hid KA
  have HKB := Lib.hid KB
  have HA := Lib.hid hA
  have HB := Lib.hid hB
  have HT := Lib.hid htab
  have HF := Lib.hid hf
  have HFA := Lib.hid hFA
  have HFB := Lib.hid hFB
  have Ht := Lib.hid ht
  have Hu := Lib.hid hu
  clear KA KB hA hB htab hf hFA hFB ht hu
  go_enter Tryd.func57, Tryd.ntmps57
  go_wp2_with fail
  refine HKA.out.mono ?_
  rintro e w1 ⟨ab, rfl, k1, k2, k3⟩
  have A1 := Lib.hid k1
  have A2 := k2
  have L1 := Lib.hid k3
  clear k1 k2 k3
  go_wp2_with fail
  refine (HKB.out w1 L1.out).mono ?_
  rintro e w2 ⟨bb, rfl, k1, k2, k3⟩
  have A1' := Lib.hid (A1.out.below k3)
  have B1 := Lib.hid k1
  have B2 := k2
  have L2 := Lib.hid (L1.out.trans (k3.mono L1.out.size))
  have m1 := A1'.out.lt
  have m2 := B1.out.lt
  have m3 := L2.out.size
  have hmk := mk_map
  have e1 : ∀ k, k < 8 → (mcells (.slice A p.length ca) t.first t.last (.slice (some ⟨fa, 0, none⟩) p.length p.length) t.null)[9 + k]? = some (.int .u64 (limb t.last k)) := mc_last
  have e2 : ∀ k, k < 8 → (mcells (.slice B q.length cb) u.first u.last (.slice (some ⟨fb, 0, none⟩) q.length q.length) u.null)[9 + k]? = some (.int .u64 (limb u.last k)) := mc_last
  have hA2 := HA.out.below L2.out
  have hB2 := HB.out.below L2.out
  obtain ⟨u0, u1, u2, u3, u4, u5, u6, u7⟩ := cells8 (o := 9) hA2.hmb e1
  obtain ⟨v0, v1, v2, v3, v4, v5, v6, v7⟩ := cells8 (o := 9) hB2.hmb e2
  have l1 := hA2.hmb.lt
  have l2 := hB2.hmb.lt
  have HT2 := Lib.hid (HT.out.chg (Chg.of_below (L := []) L2.out) (by simp))
  have HA2 := Lib.hid hA2
  have HB2 := Lib.hid hB2
  have hpl := Ht.out.places
  have hql := Hu.out.places
  have PT := Lib.hid hpl.2
  have PU := Lib.hid hql.2
  clear k1 k2 k3 e1 e2 hA2 hB2 hpl hql
  go_wp2_with fail
  obtain ⟨Q0, hQ0⟩ : ∃ Q, Q = meetL p q t.last u.last := ⟨_, rfl⟩
  have HQ0 := Lib.hid hQ0
  have hQ0l : Q0.length ≤ 262144 := by rw [hQ0]; exact meetL_length _ _ _ _
  have HQin : Hid (∀ y ∈ Q0, InP p.length q.length y) := Lib.hid (by rw [hQ0]; exact meetL_in PT.out PU.out)
  clear hQ0
  go_cut [9] (fun c9 wd => ∃ Q1 cq, c9 = .slice Q1 Q0.length cq ∧ Hid (DistInv w ab bb w2.heap.size (w2.heap.size + 1) FA FB c9 Q0 (fun _ => none) wd))
  case first =>
    go_region_with (go_at_call 58; refine (meet_ex _ ma fa mb fb A B ca cb p q t u t.last u.last (HA2.out.below ((Below.refl _ _).alloc (Nat.le_refl _) _).drew) (HB2.out.below ((Below.refl _ _).alloc (Nat.le_refl _) _).drew) (HT2.out.chg (((Chg.refl [] _).alloc _).drew) (by simp)) PT.out PU.out).mono ?_; rw [← HQ0.out]; rintro e w4 ⟨v, rfl, h1, h2⟩; obtain ⟨Q1, cq, rfl⟩ := Kd.R_slice h1; have HQ := Lib.hid h1; have HL := Lib.hid h2; clear h1 h2)
    all_goals
      go_wp2
      go_meet
      refine ⟨_, _, rfl, Lib.hid (DistInv.below (w := (w2.alloc (.map #[] 0)).drew) ⟨(L2.out.alloc m3 _).drew, (A1'.out.alloc _).drew, (B1.out.alloc _).drew, ?_, Kd.R_nil _ _ _ _ _, m1, m2, Nat.lt_succ_self _, m3, by simp [World.drew]⟩ HL.out |> fun h => ⟨h.low, h.ha, h.hb, h.hm, ?_, h.na, h.nb, h.nr, h.n0, h.sz⟩)⟩
      · exact PMap.new w2
      · have := HQ.out; simpa [World.drew] using this
  case rest =>
    obtain ⟨Q1, cq, rfl, hD⟩ := hcut
    clear u0 u1 u2 u3 u4 u5 u6 u7 v0 v1 v2 v3 v4 v5 v6 v7 hmk
    go_wp2_with fail
    go_loopw [38] (fun c wr => ∃ k : Nat, k ≤ Q0.length ∧ c = .int .i64 (k : Int) ∧ Hid (DistInv w ab bb w2.heap.size (w2.heap.size + 1) FA FB (.slice Q1 Q0.length cq) Q0 (zeroD (Q0.take k)) wr)) (fun c _ => Q0.length - (intOf c).toNat)
    case atStart => exact ⟨0, Nat.zero_le _, rfl, by simpa [zeroD] using hD⟩
    case round =>
      obtain ⟨k, hk, rfl, hI⟩ := hrel
      by_cases hlt : k < Q0.length
      · have hkI : (k : Int) < (Q0.length : Int) := by omega
        obtain ⟨_, hcl, hC⟩ := Kd.R_reads' hI.out.hq
        obtain ⟨ad, rfl, x1, x2⟩ := at_T92 hC k hlt
        obtain ⟨x, hx⟩ : ∃ x, x = rd_T92 Q0 k := ⟨_, rfl⟩
        rw [← hx] at x1 x2
        have y1 := World.block_lt_of_cell? wr _ x1
        obtain ⟨W2, hrun, hPM, hCh⟩ := run_put' (hI.out.hm.below ((Below.refl _ _).alloc (Nat.le_refl _) (.cells #[.int .i64 x.1, .int .i64 x.2] 92))) x 0
        have hrun' : (Instr.mapUpdate 87 (.map (some w2.heap.size)) (.agg #[.int .i64 x.1, .int .i64 x.2]) (.int .i64 0)).run Tryd.prog (wr.alloc (.cells #[.int .i64 x.1, .int .i64 x.2] 92)) = .ok () W2 := hrun
        have HN : Hid (DistInv w ab bb w2.heap.size (w2.heap.size + 1) FA FB (.slice (some ad) Q0.length cq) Q0 (zeroD (Q0.take (k + 1))) W2) := Lib.hid (by
          rw [take_get hlt, zeroD_snoc, ← hx]
          exact (hI.out.below ((Below.refl _ _).alloc (Nat.le_refl _) _)).put hCh hPM)
        clear hx hrun hPM hCh hC
        go_wp2
        go_roundw
        case rel => exact ⟨k + 1, by omega, by go_num, HN⟩
        case measure => simp [intOf]; omega
      · have : k = Q0.length := by omega
        subst this
        have HI0 : Hid (DistInv w ab bb w2.heap.size (w2.heap.size + 1) FA FB (.slice Q1 Q0.length cq) Q0 (zeroD Q0) wr) := Lib.hid (by have := hI.out; rwa [List.take_length] at this)
        have HFX : Hid (bfsF p q FA FB 600000 0 (Q0, zeroD Q0) = some f) := Lib.hid (by have := HF.out; unfold distF at this; rw [← HFA.out, ← HFB.out, ← HQ0.out] at this; exact this)
        have HBI : Hid (BInv p.length q.length Q0 (Q0, zeroD Q0)) := Lib.hid (binv_start HQin.out)
        clear hI
        go_wp2_with fail
        go_loopg [9, 12] 600000 (fun n c9 c12 wr => ∃ (i : Nat) (s : List (Int × Int) × DMap) (Q : Option Addr) (c : Nat), c9 = .slice Q s.1.length c ∧ c12 = .int .i64 (i : Int) ∧ i ≤ s.1.length ∧ Hid (DistInv w ab bb w2.heap.size (w2.heap.size + 1) FA FB c9 s.1 s.2 wr) ∧ Hid (bfsF p q FA FB n i s = some f) ∧ Hid (BInv p.length q.length Q0 s))
        case atStart => exact ⟨0, (Q0, zeroD Q0), Q1, cq, rfl, rfl, Nat.zero_le _, HI0, HFX, HBI⟩
        case round =>
          obtain ⟨i, s, Q, c, rfl, rfl, hil, hI, hF, hB⟩ := hrel
          cases gk with
          | zero => exact absurd hF.out (by simp [bfsF])
          | succ n =>
            by_cases hlt : i < s.1.length
            · have hiI : (i : Int) < (s.1.length : Int) := by omega
              have hd : decide ((i : Int) < (s.1.length : Int)) = true := by simp; omega
              obtain ⟨_, hcl, hC⟩ := Kd.R_reads' hI.out.hq
              obtain ⟨ad, rfl, x1, x2⟩ := at_T92 hC i hlt
              obtain ⟨a, b, hx, ha, hb⟩ := hB.out.inP _ (rd_mem hlt)
              rw [hx] at x1 x2
              simp only at x1 x2
              have y1 := World.block_lt_of_cell? wr _ x1
              have haI : (a : Int) < (p.length : Int) := by omega
              have hbI : (b : Int) < (q.length : Int) := by omega
              have hFAl : FA.length = p.length := by rw [HFA.out]; unfold backF; rw [backTo_length, Re.link_length]; simp
              have hFBl : FB.length = q.length := by rw [HFB.out]; unfold backF; rw [backTo_length, Re.link_length]; simp
              have z1 := hI.out.ha.lt
              have z2 := hI.out.hb.lt
              obtain ⟨SA, hSA⟩ : ∃ S, S = FA.getD a 0 := ⟨_, rfl⟩
              obtain ⟨SB, hSB⟩ : ∃ S, S = FB.getD b 0 := ⟨_, rfl⟩
              obtain ⟨u0, u1, u2, u3, u4, u5, u6, u7⟩ := cells8 (o := a * 8) hI.out.ha (fun k hk => by rw [Nat.mul_comm]; exact fcells_get FA a k (by omega) hk)
              obtain ⟨v0, v1, v2, v3, v4, v5, v6, v7⟩ := cells8 (o := b * 8) hI.out.hb (fun k hk => by rw [Nat.mul_comm]; exact fcells_get FB b k (by omega) hk)
              rw [← hSA] at u0 u1 u2 u3 u4 u5 u6 u7
              rw [← hSB] at v0 v1 v2 v3 v4 v5 v6 v7
              have HX := Lib.hid hx
              obtain ⟨L, hL⟩ : ∃ L, L = prevL p q FA FB ((a : Int), (b : Int)) := ⟨_, rfl⟩
              have HL := Lib.hid hL
              have HLm : Hid (L = meetL p q SA SB) := Lib.hid (by rw [hL, hSA, hSB]; simp [prevL])
              have hLl : L.length ≤ 262144 := by rw [HLm.out]; exact meetL_length _ _ _ _
              have HFn : Hid (bfsF p q FA FB n (i + 1) (bfsRow ((a : Int), (b : Int)) L s) = some f) := Lib.hid (by have := hF.out; unfold bfsF at this; rw [if_pos hlt, hx, ← hL] at this; exact this)
              have HWA : Hid (∀ j, SA.testBit j = true → j < p.length) := Lib.hid (fun j hj => by
                rw [hSA, HFA.out] at hj; have := backF_within _ a j hj; rwa [Re.link_length, List.length_replicate] at this)
              have HWB : Hid (∀ j, SB.testBit j = true → j < q.length) := Lib.hid (fun j hj => by
                rw [hSB, HFB.out] at hj; have := backF_within _ b j hj; rwa [Re.link_length, List.length_replicate] at this)
              have HLin : Hid (∀ y ∈ L, InP p.length q.length y) := Lib.hid (by rw [HLm.out]; exact meetL_in HWA.out HWB.out)
              have HAw := Lib.hid (HA.out.below hI.out.low)
              have HBw := Lib.hid (HB.out.below hI.out.low)
              have HTw := Lib.hid (HT.out.chg (Chg.of_below (L := []) hI.out.low) (by simp))
              have HSA := Lib.hid hSA
              have HSB := Lib.hid hSB
              clear hx hC hL hF hSA hSB
              go_wp2_with fail
              go_cut [67, 68, 69] (fun c67 c68 c69 wd => ∃ (Y : Option Addr) (cy : Nat), c67 = .slice Y L.length cy ∧ c68 = .int .i64 (L.length : Int) ∧ c69 = .int .i64 0 ∧ Hid (DistInv w ab bb w2.heap.size (w2.heap.size + 1) FA FB (.slice (some ad) s.1.length c) s.1 s.2 wd) ∧ Hid (RowAt (w2.heap.size + 1) (.slice (some ad) s.1.length c) c67 L wd) ∧ Hid (ApB (.slice (some ad) s.1.length c) wr.heap.size 92 [.int .i64 (a : Int), .int .i64 (b : Int)] wd))
              case first =>
                -- REGION 14
                obtain ⟨QV, hQV⟩ : ∃ v, v = Value.slice (some ad) s.1.length c := ⟨_, rfl⟩
                rw [← hQV] at hI
                refine region_rule (ε := Option Addr × Nat) 15 [0, 0, 0, 0, 8, 28, 60, 0, 0, 256, 896, 1920, 4095, 8191, 0] [12] [some 55, some 56, some 57, some 58, some 59, some 60, some 61, some 62, some 63, some 64, some 65, some 66, some 67, some 68, some 69] (fun env => [(.pointer (some ⟨ma, 0, none⟩)), (.pointer (some ⟨mb, 0, none⟩)), (.slice (some ⟨ab, 0, none⟩) p.length p.length), (.pointer (some ⟨wr.heap.size, 0, none⟩)), (.int .i64 (a : Int)), (.pointer (some ⟨ab, a * 8, none⟩)), (.agg #[.int .u64 (limb SA 0), .int .u64 (limb SA 1), .int .u64 (limb SA 2), .int .u64 (limb SA 3), .int .u64 (limb SA 4), .int .u64 (limb SA 5), .int .u64 (limb SA 6), .int .u64 (limb SA 7)]), (.slice (some ⟨bb, 0, none⟩) q.length q.length), (.pointer (some ⟨wr.heap.size, 1, none⟩)), (.int .i64 (b : Int)), (.pointer (some ⟨bb, b * 8, none⟩)), (.agg #[.int .u64 (limb SB 0), .int .u64 (limb SB 1), .int .u64 (limb SB 2), .int .u64 (limb SB 3), .int .u64 (limb SB 4), .int .u64 (limb SB 5), .int .u64 (limb SB 6), .int .u64 (limb SB 7)]), (.slice env.1 L.length env.2), (.int .i64 (L.length : Int)), (.int .i64 0)]) (fun k env w1 => match k with | 0 => Hid (DistInv w ab bb w2.heap.size (w2.heap.size + 1) FA FB QV s.1 s.2 w1 ∧ Blk w1 wr.heap.size 92 [.int .i64 (a : Int), .int .i64 (b : Int)] ∧ Below wr.heap.size wr w1) | _ => Hid (DistInv w ab bb w2.heap.size (w2.heap.size + 1) FA FB QV s.1 s.2 w1 ∧ RowAt (w2.heap.size + 1) QV (.slice env.1 L.length env.2) L w1 ∧ ApB QV wr.heap.size 92 [.int .i64 (a : Int), .int .i64 (b : Int)] w1)) 93 (none, 0) (by kernel_rfl) rfl rfl (by kernel_rfl) rfl (by decide) (by kernel_rfl) ?h0 (AllOb.lt ?hob) ?hend
                case hob =>
                  refine ⟨⟨⟨⟨⟨⟨⟨⟨⟨⟨⟨⟨⟨⟨⟨trivial, ?_⟩, ?_⟩, ?_⟩, ?_⟩, ?_⟩, ?_⟩, ?_⟩, ?_⟩, ?_⟩, ?_⟩, ?_⟩, ?_⟩, ?_⟩, ?_⟩, ?_⟩
                  · exact ob_move _ _ _ rfl rfl (fun _ => rfl) (fun _ => by kernel_rfl)
                  · exact ob_move _ _ _ rfl rfl (fun _ => rfl) (fun _ => by kernel_rfl)
                  · exact ob_move _ _ _ rfl rfl (fun _ => rfl) (fun _ => by kernel_rfl)
                  · exact ob_val _ _ _ rfl rfl (fun _ => rfl) (fun _ => x_f0t92 (by kernel_rfl))
                  · exact ob_read _ _ _ rfl rfl (fun _ => rfl) (fun k env w1 h1 h2 h3 => by
                      obtain rfl : k = 0 := by have h2 : k ≤ 0 := h2; omega
                      have h3 : Hid (DistInv w ab bb w2.heap.size (w2.heap.size + 1) FA FB QV s.1 s.2 w1 ∧ Blk w1 wr.heap.size 92 [.int .i64 (a : Int), .int .i64 (b : Int)] ∧ Below wr.heap.size wr w1) := h3
                      exact x_load3 (by kernel_rfl) w1 (h3.out.2.1.cell 0))
                  · exact ob_val _ _ _ rfl rfl (fun _ => rfl) (fun _ => x_idx77 (i := a) (c := p.length) (by kernel_rfl) (by kernel_rfl) ha)
                  · exact ob_read _ _ _ rfl rfl (fun _ => rfl) (fun k env w1 h1 h2 h3 => by
                      obtain rfl : k = 0 := by have h2 : k ≤ 0 := h2; omega
                      have h3 : Hid (DistInv w ab bb w2.heap.size (w2.heap.size + 1) FA FB QV s.1 s.2 w1 ∧ Blk w1 wr.heap.size 92 [.int .i64 (a : Int), .int .i64 (b : Int)] ∧ Below wr.heap.size wr w1) := h3
                      exact x_load76 (by kernel_rfl) w1 (by rw [HSA.out]; exact fc8 h3.out.1.ha (by omega)))
                  · exact ob_move _ _ _ rfl rfl (fun _ => rfl) (fun _ => by kernel_rfl)
                  · exact ob_val _ _ _ rfl rfl (fun _ => rfl) (fun _ => x_f1t92 (by kernel_rfl))
                  · exact ob_read _ _ _ rfl rfl (fun _ => rfl) (fun k env w1 h1 h2 h3 => by
                      obtain rfl : k = 0 := by have h2 : k ≤ 0 := h2; omega
                      have h3 : Hid (DistInv w ab bb w2.heap.size (w2.heap.size + 1) FA FB QV s.1 s.2 w1 ∧ Blk w1 wr.heap.size 92 [.int .i64 (a : Int), .int .i64 (b : Int)] ∧ Below wr.heap.size wr w1) := h3
                      exact x_load3 (by kernel_rfl) w1 (h3.out.2.1.cell 1))
                  · exact ob_val _ _ _ rfl rfl (fun _ => rfl) (fun _ => x_idx77 (i := b) (c := q.length) (by kernel_rfl) (by kernel_rfl) hb)
                  · exact ob_read _ _ _ rfl rfl (fun _ => rfl) (fun k env w1 h1 h2 h3 => by
                      obtain rfl : k = 0 := by have h2 : k ≤ 0 := h2; omega
                      have h3 : Hid (DistInv w ab bb w2.heap.size (w2.heap.size + 1) FA FB QV s.1 s.2 w1 ∧ Blk w1 wr.heap.size 92 [.int .i64 (a : Int), .int .i64 (b : Int)] ∧ Below wr.heap.size wr w1) := h3
                      exact x_load76 (by kernel_rfl) w1 (by rw [HSB.out]; exact fc8 h3.out.1.hb (by omega)))
                  · exact ob_call _ _ (f := 58) Tryd.func58 rfl rfl (fun _ => #[.pointer (some ⟨ma, 0, none⟩), .pointer (some ⟨mb, 0, none⟩), (.agg #[.int .u64 (limb SA 0), .int .u64 (limb SA 1), .int .u64 (limb SA 2), .int .u64 (limb SA 3), .int .u64 (limb SA 4), .int .u64 (limb SA 5), .int .u64 (limb SA 6), .int .u64 (limb SA 7)]), (.agg #[.int .u64 (limb SB 0), .int .u64 (limb SB 1), .int .u64 (limb SB 2), .int .u64 (limb SB 3), .int .u64 (limb SB 4), .int .u64 (limb SB 5), .int .u64 (limb SB 6), .int .u64 (limb SB 7)])]) rfl rfl (fun _ => rfl) (fun _ => by kernel_rfl) (fun k env w1 h1 h2 h3 => by
                      obtain rfl : k = 0 := by have h2 : k ≤ 0 := h2; omega
                      have h3 : Hid (DistInv w ab bb w2.heap.size (w2.heap.size + 1) FA FB QV s.1 s.2 w1 ∧ Blk w1 wr.heap.size 92 [.int .i64 (a : Int), .int .i64 (b : Int)] ∧ Below wr.heap.size wr w1) := h3
                      refine (meet_ex w1 ma fa mb fb A B ca cb p q t u SA SB (HA.out.below h3.out.1.low) (HB.out.below h3.out.1.low) (HT.out.chg (Chg.of_below (L := []) h3.out.1.low) (by simp)) HWA.out HWB.out).mono ?_
                      rw [← HLm.out]
                      rintro e w4 ⟨v, rfl, g1, g2⟩
                      obtain ⟨Y, cy, rfl⟩ := Kd.R_slice g1
                      refine ⟨(Y, cy), rfl, Lib.hid ⟨h3.out.1.below g2, ?_, ⟨h3.out.2.1.below g2, hI.out.apart (Nat.le_refl _)⟩⟩, fun j h1 h2 => by
                        match j, h1, h2 with
                        | 0, _, _ => rfl
                        | 1, _, _ => rfl
                        | 2, _, _ => rfl
                        | 3, _, _ => rfl
                        | 4, _, _ => rfl
                        | 5, _, _ => rfl
                        | 6, _, _ => rfl
                        | 7, _, _ => rfl
                        | 8, _, _ => rfl
                        | 9, _, _ => rfl
                        | 10, _, _ => rfl
                        | 11, _, _ => rfl
                        | 12, _, h => exact absurd rfl h
                        | 13, h, _ => exact absurd h (by decide)
                        | 14, _, _ => rfl
                        | _ + 15, _, _ => rfl⟩
                      have hsz := hI.out.sz
                      have hs2 := h3.out.2.2.size
                      refine Kd.R_mono (Kd.R_lower (Kd.R_bound g1) (by omega)) (fun g hg e => ?_)
                      have := Kd.R_lt hI.out.hq g e.symm
                      have h3 := hg.2.1
                      omega)
                  · exact ob_val _ _ _ rfl rfl (fun _ => rfl) (fun env => x_len89 (A := env.1) (c := env.2) (by kernel_rfl))
                  · exact ob_move _ _ _ rfl rfl (fun _ => rfl) (fun _ => by kernel_rfl)
                case h0 => exact Lib.hid ⟨(hI.out.below ((Below.refl _ _).alloc (Nat.le_refl _) _)).below (Below.refl _ _).drew, (Blk.new wr _ 92).drew, ((Below.refl _ _).alloc (Nat.le_refl _) _).drew⟩
                case hend =>
                  intro env w1 hW
                  have hW : Hid (DistInv w ab bb w2.heap.size (w2.heap.size + 1) FA FB QV s.1 s.2 w1 ∧ RowAt (w2.heap.size + 1) QV (.slice env.1 L.length env.2) L w1 ∧ ApB QV wr.heap.size 92 [.int .i64 (a : Int), .int .i64 (b : Int)] w1) := hW
                  simp only [putsL, List.tail_cons, List.headD_cons, Act.put, List.setIfInBounds_toArray, List.set_cons_zero, List.set_cons_succ]
                  go_wp2
                  go_meet
                  subst hQV
                  exact ⟨env.1, env.2, rfl, rfl, rfl, Lib.hid hW.out.1, Lib.hid hW.out.2.1, Lib.hid hW.out.2.2⟩
              case rest =>
                obtain ⟨Y, cy, rfl, rfl, rfl, hI2, hR2, hX2⟩ := hcut
                have HBi := hB
                clear u0 u1 u2 u3 u4 u5 u6 u7 v0 v1 v2 v3 v4 v5 v6 v7 x1 x2 y1 hd hiI
                generalize hxv : wr.heap.size = xv at *
                have HXV := Lib.hid hxv
                clear hxv
                go_wp2_with fail
                go_loopw [9, 69] (fun c9 c69 wr => ∃ (k : Nat) (s' : List (Int × Int) × DMap) (Q : Option Addr) (c : Nat), k ≤ L.length ∧ c69 = .int .i64 (k : Int) ∧ c9 = .slice Q s'.1.length c ∧ Hid (s' = bfsRow ((a : Int), (b : Int)) (L.take k) s) ∧ Hid (DistInv w ab bb w2.heap.size (w2.heap.size + 1) FA FB c9 s'.1 s'.2 wr) ∧ Hid (RowAt (w2.heap.size + 1) c9 (.slice Y L.length cy) L wr) ∧ Hid (ApB c9 xv 92 [.int .i64 (a : Int), .int .i64 (b : Int)] wr)) (fun _ c69 _ => L.length - (intOf c69).toNat)
                case atStart => exact ⟨0, s, some ad, c, Nat.zero_le _, rfl, rfl, Lib.hid (by simp [bfsRow]), hI2, hR2, hX2⟩
                case round =>
                  obtain ⟨k, s', Q, c', hk, rfl, rfl, hs, hI3, hR3, hX3⟩ := hrel
                  by_cases hlk : k < L.length
                  · have hkI : (k : Int) < (L.length : Int) := by omega
                    obtain ⟨_, hcl, hC⟩ := Kd.R_reads' hR3.out
                    obtain ⟨yd, rfl, y1, y2⟩ := at_T92 hC k hlk
                    obtain ⟨y, hy⟩ : ∃ y, y = rd_T92 L k := ⟨_, rfl⟩
                    rw [← hy] at y1 y2
                    have y3 := World.block_lt_of_cell? wr _ y1
                    have hBs : BInv p.length q.length Q0 s' := by rw [hs.out]; exact hB.out.row _ _ (fun z hz => HLin.out z (List.mem_of_mem_take hz))
                    have hroom := hBs.room HAw.out.hn HBw.out.hn hQ0l
                    have hyin : InP p.length q.length y := by rw [hy]; exact HLin.out _ (rd_mem hlk)
                    have hstep : Hid (bfsRow ((a : Int), (b : Int)) (L.take (k + 1)) s = bfsAdd ((a : Int), (b : Int)) s' y) := Lib.hid (by rw [take_get hlk, bfsRow_snoc, ← hs.out, ← hy])
                    have hIy := hI3.out.below ((Below.refl wr.heap.size wr).alloc (Nat.le_refl _) (.cells #[.int .i64 y.1, .int .i64 y.2] 92))
                    have hXy := hX3.out.below ((Below.refl wr.heap.size wr).alloc (Nat.le_refl _) (.cells #[.int .i64 y.1, .int .i64 y.2] 92))
                    have hRy := hR3.out.below ((Below.refl wr.heap.size wr).alloc (Nat.le_refl _) (.cells #[.int .i64 y.1, .int .i64 y.2] 92))
                    have hYy : ApB (.slice Q s'.1.length c') wr.heap.size 92 [.int .i64 y.1, .int .i64 y.2] (wr.alloc (.cells #[.int .i64 y.1, .int .i64 y.2] 92)) := ⟨Blk.new wr _ 92, hI3.out.apart (Nat.le_refl _)⟩
                    cases hfy : s'.2 y with
                    | some d =>
                      have hlook := run_look' hIy.hm y true
                      rw [hfy] at hlook
                      have hlook2 : (Instr.lookup 87 (.map (some w2.heap.size)) (.agg #[.int .i64 y.1, .int .i64 y.2]) true).run Tryd.prog (wr.alloc (.cells #[.int .i64 y.1, .int .i64 y.2] 92)) = .ok (.tuple #[.int .i64 d, .bool true]) (wr.alloc (.cells #[.int .i64 y.1, .int .i64 y.2] 92)) := hlook
                      have hadd : Hid (bfsAdd ((a : Int), (b : Int)) s' y = s') := Lib.hid (by unfold bfsAdd; rw [hfy]; rfl)
                      have HIy := Lib.hid hIy
                      have HXy := Lib.hid hXy
                      have HRy := Lib.hid hRy
                      clear hlook hfy hy hC hBs hyin hIy hXy hRy hYy
                      go_wp2
                      go_roundw
                      case rel => exact ⟨k + 1, s', _, _, by omega, by go_num, rfl, Lib.hid (by rw [hstep.out, hadd.out]), HIy, HRy, HXy⟩
                      case measure => simp [intOf]; omega
                    | none =>
                      have hlook := run_look' hIy.hm y true
                      rw [hfy] at hlook
                      have hlook2 : (Instr.lookup 87 (.map (some w2.heap.size)) (.agg #[.int .i64 y.1, .int .i64 y.2]) true).run Tryd.prog (wr.alloc (.cells #[.int .i64 y.1, .int .i64 y.2] 92)) = .ok (.tuple #[.int .i64 0, .bool false]) (wr.alloc (.cells #[.int .i64 y.1, .int .i64 y.2] 92)) := hlook
                      obtain ⟨dx, hdx⟩ : ∃ d, d = (s'.2 ((a : Int), (b : Int))).getD 0 := ⟨_, rfl⟩
                      have hdr : 0 ≤ dx ∧ dx ≤ 524288 := by
                        rw [hdx]
                        cases hz : s'.2 ((a : Int), (b : Int)) with
                        | none => simp
                        | some d => have := hBs.rng _ d hz; simp; omega
                      obtain ⟨hdr0, hdr1⟩ := hdr
                      have hwd : IntKind.i64.wrap (dx + 1) = dx + 1 := IntWalk.i64_in _ (by omega)
                      have hId := hIy.below (Below.refl _ _).drew
                      have hlx := run_look' hId.hm ((a : Int), (b : Int)) false
                      rw [← hdx] at hlx
                      have hlx2 : (Instr.lookup 87 (.map (some w2.heap.size)) (.agg #[.int .i64 (a : Int), .int .i64 (b : Int)]) false).run Tryd.prog (wr.alloc (.cells #[.int .i64 y.1, .int .i64 y.2] 92)).drew = .ok (.int .i64 dx) (wr.alloc (.cells #[.int .i64 y.1, .int .i64 y.2] 92)).drew := hlx
                      obtain ⟨W2, hrun, hPM, hCh⟩ := run_put' hId.hm y (dx + 1)
                      have hrun2 : (Instr.mapUpdate 87 (.map (some w2.heap.size)) (.agg #[.int .i64 y.1, .int .i64 y.2]) (.int .i64 (dx + 1))).run Tryd.prog (wr.alloc (.cells #[.int .i64 y.1, .int .i64 y.2] 92)).drew = .ok () W2 := hrun
                      have xc0 : wr.cell? ⟨xv, 0, none⟩ = some (.int .i64 (a : Int)) := hX3.out.1.cell 0
                      have xc1 : wr.cell? ⟨xv, 1, none⟩ = some (.int .i64 (b : Int)) := hX3.out.1.cell 1
                      have xl := hX3.out.1.lt
                      have hne1 : w2.heap.size < xv := by rw [← HXV.out]; have := hI.out.sz; omega
                      have hne2 : w2.heap.size < wr.heap.size := by omega
                      have HI2 := Lib.hid (hId.put hCh hPM)
                      have HX2 := Lib.hid ((hXy.below (Below.refl _ _).drew).chg hCh (by omega))
                      have HY2 := Lib.hid ((hYy.below (Below.refl _ _).drew).chg hCh (by omega))
                      have HR2 := Lib.hid ((hRy.below (Below.refl _ _).drew).put hCh (Nat.lt_succ_self _))
                      have yc0 : W2.cell? ⟨wr.heap.size, 0, none⟩ = some (.int .i64 y.1) := HY2.out.1.cell 0
                      have yc1 : W2.cell? ⟨wr.heap.size, 1, none⟩ = some (.int .i64 y.2) := HY2.out.1.cell 1
                      have yl := HY2.out.1.lt
                      have hadd : Hid (bfsAdd ((a : Int), (b : Int)) s' y = (s'.1 ++ [y], putD s'.2 y (dx + 1))) := Lib.hid (by unfold bfsAdd; rw [hfy, hdx]; rfl)
                      have hsz := HI2.out.sz
                      clear hlook hlx hrun hPM hCh hfy hy hC hBs hyin hIy hXy hRy hYy hId hdx
                      go_wp2_with fail
                      go_region
                      all_goals
                        go_wp2_with (first | ((with_reducible refine gate_builtin (b := .append) (xs := #[.tmp 87, .tmp 89]) rfl ?_); at_builtin; refine Kd.R_append k92 (w0 := W2) (w2.heap.size + 1) rfl (.tmp 87) (.tmp 89) 89 92 (.agg #[(.int .i64 0), (.int .i64 0)]) 16 rfl Tryd.underlying89 info92 rfl (by decide) (by omega) (.slice Q s'.1.length c') s'.1 y [.int .i64 y.1, .int .i64 y.2] (fun _ => True) (fun _ => False) rfl rfl ?aP (fun _ hk => hk.elim) ?aF ?aO ?aB ?aS ?aL ?_; (case aP => exact k92_mkM _ _ _ y); (case aF => exact (fun _ _ => trivial)); (case aO => exact HI2.out.hq); (case aB => exact Below.refl _ _); (case aS => exact hsz); (case aL => omega); intro v1 w5 ho1 hb1 hg1 hat1; obtain ⟨A1, c1, rfl⟩ := Kd.R_slice ho1; simp only [List.length_append, List.length_cons, List.length_nil, Nat.zero_add] at ho1 hat1; have HO1 := Lib.hid ho1; have HG1 := Lib.hid hg1; have HT1 := Lib.hid hat1; clear ho1 hb1 hg1 hat1) | fail)
                        go_roundw
                        case rel => exact ⟨k + 1, (s'.1 ++ [y], putD s'.2 y (dx + 1)), A1, c1, by omega, by go_num, by simp only [List.length_append, List.length_cons, List.length_nil, Nat.zero_add], Lib.hid (by rw [hstep.out, hadd.out]), Lib.hid (HI2.out.push HO1.out HG1.out), Lib.hid (HR2.out.push HG1.out HT1.out), Lib.hid (HX2.out.push HG1.out HT1.out)⟩
                        case measure => simp [intOf]; omega
                  · have : k = L.length := by omega
                    subst this
                    have hs2 : Hid (s' = bfsRow ((a : Int), (b : Int)) L s) := Lib.hid (by have := hs.out; rwa [List.take_length] at this)
                    have hle := bfsRow_le ((a : Int), (b : Int)) L s
                    have hsl : i + 1 ≤ s'.1.length := by rw [hs2.out]; omega
                    have hwi : IntKind.i64.wrap ((i : Int) + 1) = (i : Int) + 1 := IntWalk.i64_in _ (by have := hB.out.room HAw.out.hn HBw.out.hn hQ0l; omega)
                    clear hs hle
                    go_wp2
                    go_roundg n
                    case measure => omega
                    case rel => exact ⟨i + 1, s', _, _, rfl, by go_num, hsl, hI3, by rw [hs2.out]; exact HFn, Lib.hid (by rw [hs2.out]; exact hB.out.row _ _ HLin.out)⟩
            · have hiI : ¬ (i : Int) < (s.1.length : Int) := by omega
              have hE : Hid (f = s.2) := Lib.hid (by have := hF.out; unfold bfsF at this; rw [if_neg hlt] at this; exact (Option.some.inj this).symm)
              go_wp2
              go_ret
              exact ⟨_, rfl, by rw [hE.out]; exact hI.out.hm, m3, hI.out.low⟩
end Go.Proofs.YtaphblnelmncaaaDoor.PA
end

section
/- The walk over Common's closure; what after does, as plain functions. -/
set_option linter.unusedVariables false
namespace Go.Proofs.YtaphblnelmncaaaDoor.PA
open Go.RowKit Go.Proofs.YtaphblnelmncaaaDoorW.PrintWords Go.Proofs.YtaphblnelmncaaaDoorW.PrintLast Go.Proofs.YtaphblnelmncaaaDoorW.PrintMore

set_option maxHeartbeats 1000000 in
theorem chosen_any (lv dv r : Nat) (d : Int) (f : DMap) (x : Int × Int) (w : World) (h1 : Blk w lv 87 [.map (some r)]) (h2 : Blk w dv 3 [.int .i64 d]) (h3 : PMap w r (DM f)) :
    Calls Tryd.prog 60 #[.agg #[.int .i64 x.1, .int .i64 x.2], .pointer (some ⟨lv, 0, none⟩), .pointer (some ⟨dv, 0, none⟩)] w fun e w' => e = .returned (.bool (decide (f x = some d))) ∧ Below w.heap.size w w' := by
  have c1 : w.cell? ⟨lv, 0, none⟩ = some (.map (some r)) := h1.cell 0
  have c2 : w.cell? ⟨dv, 0, none⟩ = some (.int .i64 d) := h2.cell 0
  have l1 := h1.lt
  have l2 := h2.lt
  have hlook := run_look' (h3.below ((Below.refl w.heap.size w).alloc (Nat.le_refl _) (.cells #[.int .i64 x.1, .int .i64 x.2] 92))) x true
  cases hfx : f x with
  | none =>
    rw [hfx] at hlook
    have hlook2 : (Instr.lookup 87 (.map (some r)) (.agg #[.int .i64 x.1, .int .i64 x.2]) true).run Tryd.prog (w.alloc (.cells #[.int .i64 x.1, .int .i64 x.2] 92)) = .ok (.tuple #[.int .i64 0, .bool false]) (w.alloc (.cells #[.int .i64 x.1, .int .i64 x.2] 92)) := hlook
    clear hlook hfx h1 h2 h3
    go_enter Tryd.func60, Tryd.ntmps60
    go_wp2
    go_ret
    exact ⟨by simp, (Below.refl _ _).alloc (Nat.le_refl _) _⟩
  | some z =>
    rw [hfx] at hlook
    have hlook2 : (Instr.lookup 87 (.map (some r)) (.agg #[.int .i64 x.1, .int .i64 x.2]) true).run Tryd.prog (w.alloc (.cells #[.int .i64 x.1, .int .i64 x.2] 92)) = .ok (.tuple #[.int .i64 z, .bool true]) (w.alloc (.cells #[.int .i64 x.1, .int .i64 x.2] 92)) := hlook
    clear hlook hfx h1 h2 h3
    by_cases hz : z = d
    · subst hz
      go_enter Tryd.func60, Tryd.ntmps60
      go_wp2
      go_ret
      exact ⟨by simp, (Below.refl _ _).alloc (Nat.le_refl _) _⟩
    · have hzb : (z == d) = false := by simpa using hz
      have HZ := Lib.hid hz
      clear hz
      go_enter Tryd.func60, Tryd.ntmps60
      go_wp2
      go_ret
      exact ⟨by simp [HZ.out], (Below.refl _ _).alloc (Nat.le_refl _) _⟩

/-- May the byte c belong to the pair x? -/
def inside (p q : List S50) (x : Int × Int) (c : Int) : Bool := hit p x.1.toNat c && hit q x.2.toNat c
def addNew (out : List (Int × Int)) (ys : List (Int × Int)) : List (Int × Int) := ys.foldl (fun o y => if y ∈ o then o else o ++ [y]) out
def afterStep (p q : List S50) (F G : List Nat) (c : Int) (ch : Int × Int → Bool) (out : List (Int × Int)) (x : Int × Int) : List (Int × Int) :=
  if inside p q x c && ch x then addNew out (prevL p q F G x) else out
/-- The pairs that follow. -/
def afterF (p q : List S50) (F G : List Nat) (now : List (Int × Int)) (c : Int) (ch : Int × Int → Bool) : List (Int × Int) := now.foldl (afterStep p q F G c ch) []
theorem addNew_snoc (out ys : List (Int × Int)) (y : Int × Int) : addNew out (ys ++ [y]) = if y ∈ addNew out ys then addNew out ys else addNew out ys ++ [y] := by unfold addNew; rw [List.foldl_append]; rfl

structure Ones (n m : Nat) (out : List (Int × Int)) : Prop where
  nd : out.Nodup
  inP : ∀ y ∈ out, InP n m y
theorem Ones.nil (n m : Nat) : Ones n m [] := ⟨by simp, by simp⟩
theorem Ones.add {n m : Nat} {out : List (Int × Int)} (h : Ones n m out) {y : Int × Int} (hy : InP n m y) : Ones n m (if y ∈ out then out else out ++ [y]) := by
  split
  · exact h
  · rename_i hn
    refine ⟨?_, fun z hz => ?_⟩
    · rw [List.nodup_append]
      refine ⟨h.nd, by simp, fun a ha b hb => ?_⟩
      rw [List.mem_singleton] at hb; subst hb
      rintro rfl; exact hn ha
    · rcases List.mem_append.1 hz with hz | hz
      · exact h.inP z hz
      · rw [List.mem_singleton] at hz; subst hz; exact hy
theorem Ones.addNew {n m : Nat} {out : List (Int × Int)} (h : Ones n m out) : ∀ {ys : List (Int × Int)}, (∀ y ∈ ys, InP n m y) → Ones n m (addNew out ys) := by
  intro ys
  induction ys generalizing out with
  | nil => exact fun _ => h
  | cons y ys ih =>
    intro hy
    exact ih (h.add (hy y List.mem_cons_self)) (fun z hz => hy z (List.mem_cons_of_mem _ hz))
theorem Ones.step {p q : List S50} {F G : List Nat} (hF : Within F p.length) (hG : Within G q.length) {c : Int} {ch : Int × Int → Bool} {out : List (Int × Int)} (h : Ones p.length q.length out) (x : Int × Int) : Ones p.length q.length (afterStep p q F G c ch out x) := by
  unfold afterStep
  split
  · exact h.addNew (prevL_in hF hG x)
  · exact h
theorem Ones.after {p q : List S50} {F G : List Nat} (hF : Within F p.length) (hG : Within G q.length) {c : Int} {ch : Int × Int → Bool} : ∀ (now : List (Int × Int)) {out : List (Int × Int)}, Ones p.length q.length out → Ones p.length q.length (now.foldl (afterStep p q F G c ch) out)
  | [], _, h => h
  | x :: now, _, h => Ones.after hF hG now (h.step hF hG x)
theorem Ones.room {n m : Nat} {out : List (Int × Int)} (h : Ones n m out) (hn : n ≤ 512) (hm : m ≤ 512) : out.length ≤ 262144 := by
  have h3 := nodup_length out (allP n m) h.nd (fun x hx => (h.inP x hx).mem)
  rw [allP_length] at h3
  have h4 : n * m ≤ 512 * 512 := Nat.mul_le_mul hn hm
  omega

/-- What stands while after goes on. -/
structure AftInv (w0 : World) (r base : Nat) (v : Value) (out : List (Int × Int)) (w : World) : Prop where
  low : Below w0.heap.size w0 w
  hm : PMap w r (fun k => if k ∈ out then some (.bool true) else none)
  hq : Kd.R k92 92 w base (fun _ => True) v out
  nr : r < base
  n0 : w0.heap.size ≤ r
  sz : base ≤ w.heap.size
theorem AftInv.below {w0 w w' : World} {r base : Nat} {v : Value} {out : List (Int × Int)} (h : AftInv w0 r base v out w) (k : Below w.heap.size w w') : AftInv w0 r base v out w' :=
  ⟨h.low.trans (k.mono h.low.size), h.hm.below k, Kd.R_below h.hq k, h.nr, h.n0, Nat.le_trans h.sz k.size⟩
theorem AftInv.apart {w0 w : World} {r base g : Nat} {v : Value} {out : List (Int × Int)} (h : AftInv w0 r base v out w) (hg : w.heap.size ≤ g) : some g ≠ v.ownBlock := fun e => by have := Kd.R_lt h.hq g e.symm; omega
/-- The map has been told of y; y is appended. -/
theorem AftInv.push {w0 w w1 w2 : World} {r base : Nat} {v v1 : Value} {out : List (Int × Int)} {y : Int × Int} (h : AftInv w0 r base v out w) (k : Chg [r] w w1) (hm : PMap w1 r (fun z => if z = y then some (.bool true) else if z ∈ out then some (.bool true) else none))
    (hR : Kd.R k92 92 w2 base (fun _ => True) v1 (out ++ [y])) (hG : w1.grownBy w2 v.ownBlock) : AftInv w0 r base v1 (out ++ [y]) w2 := by
  have h3 := h.nr
  have h4 := h.n0
  have kp : Kp (fun g => g < base) w1 w2 := Kp.grown hG (fun g hg e => by have := Kd.R_base h.hq g e.symm; omega)
  have low1 : Below w0.heap.size w0 w1 := h.low.trans ⟨k.os, k.tape, k.output, k.size, fun g hg => k.block g (Nat.lt_of_lt_of_le hg h.low.size) (by simp; omega)⟩
  refine ⟨low1.trans (kp.below (fun g hg => by omega) low1.size), ?_, hR, h3, h4, Nat.le_trans (Nat.le_trans h.sz k.size) kp.size⟩
  obtain ⟨es, c, g1, g2, g4⟩ := hm
  refine ⟨es, c, (kp.block r (Array.getElem?_eq_some_iff.1 g1).1 h3).trans g1, g2, fun z => ?_⟩
  rw [g4 z]
  by_cases e : z = y
  · simp [e]
  · by_cases e2 : z ∈ out
    · simp [e, e2]
    · simp [e, e2]
theorem AftInv.put {w0 w w1 : World} {r base : Nat} {v : Value} {out : List (Int × Int)} (h : AftInv w0 r base v out w) (k : Chg [r] w w1) : Kd.R k92 92 w1 base (fun _ => True) v out := by
  have h3 := h.nr
  exact Kd.R_mono (Kd.R_move (Kd.R_bound h.hq) (fun g hg => k.block g hg.2.2.1 (by have := hg.2.1; simp; omega))) (fun _ _ => trivial)
theorem zero4 (w : World) : (zeroValue 4).run Tryd.prog w = .ok (.bool false) w := by
  have := info4
  go_simp
theorem mk_map117 (W : World) : (Instr.makeMap 117 none).run Tryd.prog W = .ok (.map (some W.heap.size)) (W.alloc (.map #[] 0)) := by
  unfold Instr.makeMap
  go_simp
end Go.Proofs.YtaphblnelmncaaaDoor.PA
end

section
/- The walk over after. -/
set_option linter.unusedVariables false
namespace Go.Proofs.YtaphblnelmncaaaDoor.PA
open Go.RowKit Go.Proofs.YtaphblnelmncaaaDoorW.PrintWords Go.Proofs.YtaphblnelmncaaaDoorW.PrintLast Go.Proofs.YtaphblnelmncaaaDoorW.PrintMore

set_option maxHeartbeats 4000000 in
set_option maxRecDepth 100000 in
theorem after_any (w : World) (ma fa mb fb : Nat) (A B N : Option Addr) (ca cb cn : Nat) (p q : List S50) (t u : Re) (rp rq : Nat) (now : List (Int × Int)) (c : Int) (lv dv r0 : Nat) (d : Int) (f : DMap)
    (hA : MachAt w ma fa A ca p t) (hB : MachAt w mb fb B cb q u) (ht : IsRe p rp t) (hu : IsRe q rq u) (htab : Tab w) (hN : Kd.C k92 w N now.length now) (hin : ∀ x ∈ now, InP p.length q.length x) (hnl : now.length ≤ 1000000)
    (hl : Blk w lv 87 [.map (some r0)]) (hd : Blk w dv 3 [.int .i64 d]) (hf : PMap w r0 (DM f)) :
    Calls Tryd.prog 59 #[.pointer (some ⟨ma, 0, none⟩), .pointer (some ⟨mb, 0, none⟩), .slice N now.length cn, .int .i64 c, .func (.func 60) #[] #[.pointer (some ⟨lv, 0, none⟩), .pointer (some ⟨dv, 0, none⟩)]] w
      fun e w' => ∃ v, e = .returned v ∧ Kd.R k92 92 w' w.heap.size (fun _ => True) v (afterF p q (t.link (List.replicate p.length 0)) (u.link (List.replicate q.length 0)) now c (fun x => decide (f x = some d))) ∧ Below w.heap.size w w' := by
  obtain ⟨FA, hFA⟩ : ∃ F, F = t.link (List.replicate p.length 0) := ⟨_, rfl⟩
  obtain ⟨FB, hFB⟩ : ∃ F, F = u.link (List.replicate q.length 0) := ⟨_, rfl⟩
  have hWA : Within FA p.length := by rw [hFA]; exact link_within ht _ (within_zero _ _)
  have hWB : Within FB q.length := by rw [hFB]; exact link_within hu _ (within_zero _ _)
  have hpn := hA.hn
  have hqn := hB.hn
  rw [← hFA, ← hFB]
  obtain ⟨R, hR⟩ : ∃ R, R = afterF p q FA FB now c (fun x => decide (f x = some d)) := ⟨_, rfl⟩
  rw [← hR]
  have HR := Lib.hid hR
  have HA := Lib.hid hA
  have HB := Lib.hid hB
  have HT := Lib.hid htab
  have HFA := Lib.hid hFA
  have HFB := Lib.hid hFB
  have HWFA := Lib.hid hWA
  have HWFB := Lib.hid hWB
  have HN := Lib.hid hN
  have HIN := Lib.hid hin
  have HLV := Lib.hid hl
  have HDV := Lib.hid hd
  have HF := Lib.hid hf
  have hmk := mk_map117
  clear hR hA hB htab hFA hFB hWA hWB hN hin hl hd hf ht hu
  go_enter Tryd.func59, Tryd.ntmps59
  go_wp2_with fail
  obtain ⟨r, hr⟩ : ∃ r, r = w.heap.size := ⟨_, rfl⟩
  have hrl : w.heap.size ≤ r := by omega
  have H0 : Hid (AftInv w r (r + 1) (.slice none 0 0) [] (w.alloc (.map #[] 0))) := Lib.hid ⟨(Below.refl _ _).alloc (Nat.le_refl _) _, by rw [hr]; simpa using PMap.new w, Kd.R_nil _ _ _ _ _, Nat.lt_succ_self _, hrl, by rw [hr]; simp⟩
  rw [← hr]
  have HRR := Lib.hid hr
  clear hr hmk
  go_loopw [12, 21] (fun c12 c21 wr => ∃ (k : Nat) (out : List (Int × Int)) (Q : Option Addr) (c' : Nat), k ≤ now.length ∧ c21 = .int .i64 (k : Int) ∧ c12 = .slice Q out.length c' ∧ Hid (out = (now.take k).foldl (afterStep p q FA FB c (fun x => decide (f x = some d))) []) ∧ Hid (AftInv w r (r + 1) c12 out wr)) (fun _ c21 _ => now.length - (intOf c21).toNat)
  case atStart => exact ⟨0, [], none, 0, Nat.zero_le _, rfl, rfl, Lib.hid rfl, H0⟩
  case round =>
    obtain ⟨k, out, Q, c', hk, rfl, rfl, ho, hI⟩ := hrel
    by_cases hlt : k < now.length
    · have hkI : (k : Int) < (now.length : Int) := by omega
      obtain ⟨nd, rfl, x1, x2⟩ := at_T92 (Kd.C_below HN.out hI.out.low) k hlt
      obtain ⟨a, b, hx, ha, hb⟩ := HIN.out _ (rd_mem hlt)
      rw [hx] at x1 x2
      simp only at x1 x2
      have hones : Ones p.length q.length out := by rw [ho.out]; exact Ones.after HWFA.out HWFB.out _ (Ones.nil _ _)
      have hol := hones.room hpn hqn
      have hstep : Hid ((now.take (k + 1)).foldl (afterStep p q FA FB c (fun x => decide (f x = some d))) [] = afterStep p q FA FB c (fun x => decide (f x = some d)) out ((a : Int), (b : Int))) := Lib.hid (by rw [take_get hlt, List.foldl_append, ← ho.out, hx]; rfl)
      have y1 := World.block_lt_of_cell? wr _ x1
      have haI : (a : Int) < (p.length : Int) := by omega
      have hbI : (b : Int) < (q.length : Int) := by omega
      have hAw := HA.out.below hI.out.low
      have hBw := HB.out.below hI.out.low
      have d1 : wr.cell? ⟨ma, 0, none⟩ = some (.slice A p.length ca) := hAw.hmb.cell 0
      have d2 : wr.cell? ⟨mb, 0, none⟩ = some (.slice B q.length cb) := hBw.hmb.cell 0
      have l1 := hAw.hmb.lt
      have l2 := hBw.hmb.lt
      obtain ⟨pd, rfl, _, p1, p2, _, _⟩ := at_T50 hAw.hC a (by omega) haI
      obtain ⟨qd, rfl, _, q1, q2, _, _⟩ := at_T50 hBw.hC b (by omega) hbI
      simp only [Int.toNat_natCast] at p1 p2 q1 q2
      have l3 := World.block_lt_of_cell? wr _ p1
      have l4 := World.block_lt_of_cell? wr _ q1
      obtain ⟨lo1, e1⟩ : ∃ z, z = (rd_T50 p a).f1 := ⟨_, rfl⟩
      obtain ⟨hi1, e2⟩ : ∃ z, z = (rd_T50 p a).f2 := ⟨_, rfl⟩
      obtain ⟨lo2, e3⟩ : ∃ z, z = (rd_T50 q b).f1 := ⟨_, rfl⟩
      obtain ⟨hi2, e4⟩ : ∃ z, z = (rd_T50 q b).f2 := ⟨_, rfl⟩
      rw [← e1] at p1
      rw [← e2] at p2
      rw [← e3] at q1
      rw [← e4] at q2
      obtain ⟨ib, hib⟩ : ∃ ib, ib = inside p q ((a : Int), (b : Int)) c := ⟨_, rfl⟩
      have HIB := Lib.hid hib
      have hib2 : ib = ((decide (lo1 ≤ c) && decide (c ≤ hi1)) && (decide (lo2 ≤ c) && decide (c ≤ hi2))) := by rw [hib, e1, e2, e3, e4]; rfl
      have HAw := Lib.hid hAw
      have HBw := Lib.hid hBw
      have HO := Lib.hid hones
      have hlow := hI.out.low.size
      clear hx hones e1 e2 e3 e4 hib hAw hBw
      go_upto_region 6 with (fail)
      obtain ⟨QV, hQV⟩ : ∃ v, v = Value.slice Q out.length c' := ⟨_, rfl⟩
      have HIq : Hid (AftInv w r (r + 1) QV out wr) := Lib.hid (by rw [hQV]; exact hI.out)
      have HQV := Lib.hid hQV
      clear hQV hI
      go_cut [15] (fun c15 wd => c15 = .bool ib ∧ Hid (AftInv w r (r + 1) QV out wd) ∧ Hid (ApB QV wr.heap.size 92 [.int .i64 (a : Int), .int .i64 (b : Int)] wd))
      case first =>
        by_cases t1 : lo1 ≤ c
        · by_cases t2 : c ≤ hi1
          · by_cases t3 : lo2 ≤ c
            · by_cases t4 : c ≤ hi2
              all_goals
                have hv : ib = decide (c ≤ hi2) := by rw [hib2]; simp [t1, t2, t3]
                have HV := Lib.hid hv
                clear hv hib2
                go_quiet (fail)
                go_wp2_with fail
                go_meet
                refine ⟨by rw [HV.out]; simp [*], Lib.hid ((HIq.out.below ((Below.refl _ _).alloc (Nat.le_refl _) _)).below (pw_below_drewN (Below.refl _ _) _)), Lib.hid ⟨(Blk.new wr _ 92).drewN _, HIq.out.apart (Nat.le_refl _)⟩⟩
            · have hv : ib = false := by rw [hib2]; simp [t1, t2, t3]
              have HV := Lib.hid hv
              clear hv hib2
              go_quiet (fail)
              go_wp2_with fail
              go_meet
              refine ⟨by rw [HV.out], Lib.hid ((HIq.out.below ((Below.refl _ _).alloc (Nat.le_refl _) _)).below (pw_below_drewN (Below.refl _ _) _)), Lib.hid ⟨(Blk.new wr _ 92).drewN _, HIq.out.apart (Nat.le_refl _)⟩⟩
          · have hv : ib = false := by rw [hib2]; simp [t1, t2]
            have HV := Lib.hid hv
            clear hv hib2
            go_quiet (fail)
            go_wp2_with fail
            go_meet
            refine ⟨by rw [HV.out], Lib.hid ((HIq.out.below ((Below.refl _ _).alloc (Nat.le_refl _) _)).below (pw_below_drewN (Below.refl _ _) _)), Lib.hid ⟨(Blk.new wr _ 92).drewN _, HIq.out.apart (Nat.le_refl _)⟩⟩
        · have hv : ib = false := by rw [hib2]; simp [t1]
          have HV := Lib.hid hv
          clear hv hib2
          go_quiet (fail)
          go_wp2_with fail
          go_meet
          refine ⟨by rw [HV.out], Lib.hid ((HIq.out.below ((Below.refl _ _).alloc (Nat.le_refl _) _)).below (pw_below_drewN (Below.refl _ _) _)), Lib.hid ⟨(Blk.new wr _ 92).drewN _, HIq.out.apart (Nat.le_refl _)⟩⟩
      case rest =>
        obtain ⟨rfl, hI2, hX2⟩ := hcut
        generalize hxv : wr.heap.size = xv at *
        have HXV := Lib.hid hxv
        clear hib2 x1 x2 p1 p2 q1 q2 d1 d2 y1 hxv
        have xc0 : wc.cell? ⟨xv, 0, none⟩ = some (.int .i64 (a : Int)) := hX2.out.1.cell 0
        have xc1 : wc.cell? ⟨xv, 1, none⟩ = some (.int .i64 (b : Int)) := hX2.out.1.cell 1
        have xl := hX2.out.1.lt
        cases ib with
        | false =>
          have hnot : Hid (afterStep p q FA FB c (fun x => decide (f x = some d)) out ((a : Int), (b : Int)) = out) := Lib.hid (by unfold afterStep; rw [← HIB.out]; simp)
          go_wp2
          go_roundw
          case rel => exact ⟨k + 1, out, Q, c', by omega, by go_num, rfl, Lib.hid (by rw [hstep.out, hnot.out]), by rw [← HQV.out]; exact hI2⟩
          case measure => simp [intOf]; omega
        | true =>
          go_wp2_with fail
          refine (chosen_any lv dv r0 d f ((a : Int), (b : Int)) _ (HLV.out.below hI2.out.low) (HDV.out.below hI2.out.low) (HF.out.below hI2.out.low)).mono ?_
          obtain ⟨cb', hcb⟩ : ∃ z, z = decide (f ((a : Int), (b : Int)) = some d) := ⟨_, rfl⟩
          rw [← hcb]
          have HCB := Lib.hid hcb
          rintro e wd ⟨rfl, k1⟩
          have hI := Lib.hid (hI2.out.below k1)
          have hX := Lib.hid (hX2.out.below k1)
          have xd0 : wd.cell? ⟨xv, 0, none⟩ = some (.int .i64 (a : Int)) := hX.out.1.cell 0
          have xd1 : wd.cell? ⟨xv, 1, none⟩ = some (.int .i64 (b : Int)) := hX.out.1.cell 1
          have xdl := hX.out.1.lt
          clear xc0 xc1 xl k1 hcb hI2 hX2
          cases cb' with
          | false =>
            have hnot : Hid (afterStep p q FA FB c (fun x => decide (f x = some d)) out ((a : Int), (b : Int)) = out) := Lib.hid (by
              have e : (fun x => decide (f x = some d)) ((a : Int), (b : Int)) = false := HCB.out.symm
              unfold afterStep; rw [e]; simp)
            go_wp2
            go_roundw
            case rel => exact ⟨k + 1, out, Q, c', by omega, by go_num, rfl, Lib.hid (by rw [hstep.out, hnot.out]), by rw [← HQV.out]; exact hI⟩
            case measure => simp [intOf]; omega
          | true =>
            obtain ⟨SA, hSA⟩ : ∃ S, S = FA.getD a 0 := ⟨_, rfl⟩
            obtain ⟨SB, hSB⟩ : ∃ S, S = FB.getD b 0 := ⟨_, rfl⟩
            obtain ⟨L, hL⟩ : ∃ L, L = meetL p q SA SB := ⟨_, rfl⟩
            have HSA := Lib.hid hSA
            have HSB := Lib.hid hSB
            have HLm := Lib.hid hL
            have HWA : Hid (∀ j, SA.testBit j = true → j < p.length) := Lib.hid (fun j hj => by rw [hSA] at hj; exact HWFA.out a j hj)
            have HWB : Hid (∀ j, SB.testBit j = true → j < q.length) := Lib.hid (fun j hj => by rw [hSB] at hj; exact HWFB.out b j hj)
            have hLl : L.length ≤ 262144 := by rw [hL]; exact meetL_length _ _ _ _
            have HLin : Hid (∀ y ∈ L, InP p.length q.length y) := Lib.hid (by rw [hL]; exact meetL_in HWA.out HWB.out)
            have hyes : Hid (afterStep p q FA FB c (fun x => decide (f x = some d)) out ((a : Int), (b : Int)) = addNew out L) := Lib.hid (by
              have e : (fun x => decide (f x = some d)) ((a : Int), (b : Int)) = true := HCB.out.symm
              unfold afterStep; rw [e, ← HIB.out, hL, hSA, hSB]; simp [prevL])
            clear hSA hSB hL
            go_wp2_with fail
            go_cut [101, 102, 103] (fun c67 c68 c69 wd => ∃ (Y : Option Addr) (cy : Nat), c67 = .slice Y L.length cy ∧ c68 = .int .i64 (L.length : Int) ∧ c69 = .int .i64 0 ∧ Hid (AftInv w r (r + 1) QV out wd) ∧ Hid (RowAt (r + 1) QV c67 L wd) ∧ Hid (ApB QV xv 92 [.int .i64 (a : Int), .int .i64 (b : Int)] wd))
            case first =>
              refine region_rule (ε := Option Addr × Nat) 21 [0, 0, 0, 4, 12, 28, 0, 64, 252, 508, 0, 1024, 3072, 7168, 0, 16384, 64512, 130048, 262143, 524287, 0] [18] [some 83, some 84, some 85, some 86, some 87, some 88, some 89, some 90, some 91, some 92, some 93, some 94, some 95, some 96, some 97, some 98, some 99, some 100, some 101, some 102, some 103] (fun env => [(.pointer (some ⟨ma, 0, none⟩)), (.pointer (some ⟨mb, 0, none⟩)), (.pointer (some ⟨ma, 0, none⟩)), (.pointer (some ⟨ma, 0, none⟩)), (.pointer (some ⟨ma, 17, none⟩)), (.slice (some ⟨fa, 0, none⟩) p.length p.length), (.pointer (some ⟨xv, 0, none⟩)), (.int .i64 (a : Int)), (.pointer (some ⟨fa, a * 8, none⟩)), (.agg #[.int .u64 (limb SA 0), .int .u64 (limb SA 1), .int .u64 (limb SA 2), .int .u64 (limb SA 3), .int .u64 (limb SA 4), .int .u64 (limb SA 5), .int .u64 (limb SA 6), .int .u64 (limb SA 7)]), (.pointer (some ⟨mb, 0, none⟩)), (.pointer (some ⟨mb, 0, none⟩)), (.pointer (some ⟨mb, 17, none⟩)), (.slice (some ⟨fb, 0, none⟩) q.length q.length), (.pointer (some ⟨xv, 1, none⟩)), (.int .i64 (b : Int)), (.pointer (some ⟨fb, b * 8, none⟩)), (.agg #[.int .u64 (limb SB 0), .int .u64 (limb SB 1), .int .u64 (limb SB 2), .int .u64 (limb SB 3), .int .u64 (limb SB 4), .int .u64 (limb SB 5), .int .u64 (limb SB 6), .int .u64 (limb SB 7)]), (.slice env.1 L.length env.2), (.int .i64 (L.length : Int)), (.int .i64 0)]) (fun k env w1 => match k with | 0 => Hid (AftInv w r (r + 1) QV out w1 ∧ ApB QV xv 92 [.int .i64 (a : Int), .int .i64 (b : Int)] w1 ∧ Below wd.heap.size wd w1) | _ => Hid (AftInv w r (r + 1) QV out w1 ∧ RowAt (r + 1) QV (.slice env.1 L.length env.2) L w1 ∧ ApB QV xv 92 [.int .i64 (a : Int), .int .i64 (b : Int)] w1)) 120 (none, 0) (by kernel_rfl) rfl rfl (by kernel_rfl) rfl (by decide) (by kernel_rfl) ?h0 (AllOb.lt ?hob) ?hend
              case hob =>
                refine ⟨⟨⟨⟨⟨⟨⟨⟨⟨⟨⟨⟨⟨⟨⟨⟨⟨⟨⟨⟨⟨trivial, ?_⟩, ?_⟩, ?_⟩, ?_⟩, ?_⟩, ?_⟩, ?_⟩, ?_⟩, ?_⟩, ?_⟩, ?_⟩, ?_⟩, ?_⟩, ?_⟩, ?_⟩, ?_⟩, ?_⟩, ?_⟩, ?_⟩, ?_⟩, ?_⟩
                · exact ob_move _ _ _ rfl rfl (fun _ => rfl) (fun _ => by kernel_rfl)
                · exact ob_move _ _ _ rfl rfl (fun _ => rfl) (fun _ => by kernel_rfl)
                · exact ob_move _ _ _ rfl rfl (fun _ => rfl) (fun _ => by kernel_rfl)
                · exact ob_val _ _ _ rfl rfl (fun _ => rfl) (fun _ => x_nil (by kernel_rfl))
                · exact ob_val _ _ _ rfl rfl (fun _ => rfl) (fun _ => x_f3t79 (by kernel_rfl))
                · exact ob_read _ _ _ rfl rfl (fun _ => rfl) (fun k env w1 h1 h2 h3 => by
                    obtain rfl : k = 0 := by have h2 : k ≤ 0 := h2; omega
                    have h3 : Hid (AftInv w r (r + 1) QV out w1 ∧ ApB QV xv 92 [.int .i64 (a : Int), .int .i64 (b : Int)] w1 ∧ Below wd.heap.size wd w1) := h3
                    exact x_load77 (v := .nilFunc) (by kernel_rfl) w1 ((HA.out.below h3.out.1.low).hmb.cell 17))
                · exact ob_val _ _ _ rfl rfl (fun _ => rfl) (fun _ => x_f0t92 (by kernel_rfl))
                · exact ob_read _ _ _ rfl rfl (fun _ => rfl) (fun k env w1 h1 h2 h3 => by
                    obtain rfl : k = 0 := by have h2 : k ≤ 0 := h2; omega
                    have h3 : Hid (AftInv w r (r + 1) QV out w1 ∧ ApB QV xv 92 [.int .i64 (a : Int), .int .i64 (b : Int)] w1 ∧ Below wd.heap.size wd w1) := h3
                    exact x_load3 (by kernel_rfl) w1 (h3.out.2.1.1.cell 0))
                · exact ob_val _ _ _ rfl rfl (fun _ => rfl) (fun _ => x_idx77 (i := a) (c := p.length) (by kernel_rfl) (by kernel_rfl) ha)
                · exact ob_read _ _ _ rfl rfl (fun _ => rfl) (fun k env w1 h1 h2 h3 => by
                    obtain rfl : k = 0 := by have h2 : k ≤ 0 := h2; omega
                    have h3 : Hid (AftInv w r (r + 1) QV out w1 ∧ ApB QV xv 92 [.int .i64 (a : Int), .int .i64 (b : Int)] w1 ∧ Below wd.heap.size wd w1) := h3
                    exact x_load76 (by kernel_rfl) w1 (by rw [HSA.out, HFA.out]; exact fc8 (HA.out.below h3.out.1.low).hfb (by rw [Re.link_length, List.length_replicate]; exact ha)))
                · exact ob_move _ _ _ rfl rfl (fun _ => rfl) (fun _ => by kernel_rfl)
                · exact ob_val _ _ _ rfl rfl (fun _ => rfl) (fun _ => x_nil (by kernel_rfl))
                · exact ob_val _ _ _ rfl rfl (fun _ => rfl) (fun _ => x_f3t79 (by kernel_rfl))
                · exact ob_read _ _ _ rfl rfl (fun _ => rfl) (fun k env w1 h1 h2 h3 => by
                    obtain rfl : k = 0 := by have h2 : k ≤ 0 := h2; omega
                    have h3 : Hid (AftInv w r (r + 1) QV out w1 ∧ ApB QV xv 92 [.int .i64 (a : Int), .int .i64 (b : Int)] w1 ∧ Below wd.heap.size wd w1) := h3
                    exact x_load77 (v := .nilFunc) (by kernel_rfl) w1 ((HB.out.below h3.out.1.low).hmb.cell 17))
                · exact ob_val _ _ _ rfl rfl (fun _ => rfl) (fun _ => x_f1t92 (by kernel_rfl))
                · exact ob_read _ _ _ rfl rfl (fun _ => rfl) (fun k env w1 h1 h2 h3 => by
                    obtain rfl : k = 0 := by have h2 : k ≤ 0 := h2; omega
                    have h3 : Hid (AftInv w r (r + 1) QV out w1 ∧ ApB QV xv 92 [.int .i64 (a : Int), .int .i64 (b : Int)] w1 ∧ Below wd.heap.size wd w1) := h3
                    exact x_load3 (by kernel_rfl) w1 (h3.out.2.1.1.cell 1))
                · exact ob_val _ _ _ rfl rfl (fun _ => rfl) (fun _ => x_idx77 (i := b) (c := q.length) (by kernel_rfl) (by kernel_rfl) hb)
                · exact ob_read _ _ _ rfl rfl (fun _ => rfl) (fun k env w1 h1 h2 h3 => by
                    obtain rfl : k = 0 := by have h2 : k ≤ 0 := h2; omega
                    have h3 : Hid (AftInv w r (r + 1) QV out w1 ∧ ApB QV xv 92 [.int .i64 (a : Int), .int .i64 (b : Int)] w1 ∧ Below wd.heap.size wd w1) := h3
                    exact x_load76 (by kernel_rfl) w1 (by rw [HSB.out, HFB.out]; exact fc8 (HB.out.below h3.out.1.low).hfb (by rw [Re.link_length, List.length_replicate]; exact hb)))
                · exact ob_call _ _ (f := 58) Tryd.func58 rfl rfl (fun _ => #[.pointer (some ⟨ma, 0, none⟩), .pointer (some ⟨mb, 0, none⟩), (.agg #[.int .u64 (limb SA 0), .int .u64 (limb SA 1), .int .u64 (limb SA 2), .int .u64 (limb SA 3), .int .u64 (limb SA 4), .int .u64 (limb SA 5), .int .u64 (limb SA 6), .int .u64 (limb SA 7)]), (.agg #[.int .u64 (limb SB 0), .int .u64 (limb SB 1), .int .u64 (limb SB 2), .int .u64 (limb SB 3), .int .u64 (limb SB 4), .int .u64 (limb SB 5), .int .u64 (limb SB 6), .int .u64 (limb SB 7)])]) rfl rfl (fun _ => rfl) (fun _ => by kernel_rfl) (fun k env w1 h1 h2 h3 => by
                    obtain rfl : k = 0 := by have h2 : k ≤ 0 := h2; omega
                    have h3 : Hid (AftInv w r (r + 1) QV out w1 ∧ ApB QV xv 92 [.int .i64 (a : Int), .int .i64 (b : Int)] w1 ∧ Below wd.heap.size wd w1) := h3
                    refine (meet_ex w1 ma fa mb fb (some pd) (some qd) ca cb p q t u SA SB (HA.out.below h3.out.1.low) (HB.out.below h3.out.1.low) (HT.out.chg (Chg.of_below (L := []) h3.out.1.low) (by simp)) HWA.out HWB.out).mono ?_
                    rw [← HLm.out]
                    rintro e w4 ⟨v, rfl, g1, g2⟩
                    obtain ⟨Y, cy, rfl⟩ := Kd.R_slice g1
                    refine ⟨(Y, cy), rfl, Lib.hid ⟨h3.out.1.below g2, ?_, h3.out.2.1.below g2⟩, fun j h1 h2 => by
                      match j, h1, h2 with
                      | 0, _, _ => rfl
                      | 1, _, _ => rfl
                      | 2, _, _ => rfl
                      | 3, _, _ => rfl
                      | 4, _, _ => rfl
                      | 5, _, _ => rfl
                      | 6, _, _ => rfl
                      | 7, _, _ => rfl
                      | 8, _, _ => rfl
                      | 9, _, _ => rfl
                      | 10, _, _ => rfl
                      | 11, _, _ => rfl
                      | 12, _, _ => rfl
                      | 13, _, _ => rfl
                      | 14, _, _ => rfl
                      | 15, _, _ => rfl
                      | 16, _, _ => rfl
                      | 17, _, _ => rfl
                      | 18, _, h => exact absurd rfl h
                      | 19, h, _ => exact absurd h (by decide)
                      | 20, _, _ => rfl
                      | _ + 21, _, _ => rfl⟩
                    have hsz := h3.out.1.sz
                    refine Kd.R_mono (Kd.R_lower (Kd.R_bound g1) (by omega)) (fun g hg e => ?_)
                    have := Kd.R_lt h3.out.1.hq g e.symm
                    have h5 := hg.2.1
                    omega)
                · exact ob_val _ _ _ rfl rfl (fun _ => rfl) (fun env => x_len89 (A := env.1) (c := env.2) (by kernel_rfl))
                · exact ob_move _ _ _ rfl rfl (fun _ => rfl) (fun _ => by kernel_rfl)
              case h0 => exact Lib.hid ⟨hI.out.below (Below.refl _ _).drew, hX.out.below (Below.refl _ _).drew, (Below.refl _ _).drew⟩
              case hend =>
                intro env w1 hW
                have hW : Hid (AftInv w r (r + 1) QV out w1 ∧ RowAt (r + 1) QV (.slice env.1 L.length env.2) L w1 ∧ ApB QV xv 92 [.int .i64 (a : Int), .int .i64 (b : Int)] w1) := hW
                simp only [putsL, List.tail_cons, List.headD_cons, Act.put, List.setIfInBounds_toArray, List.set_cons_zero, List.set_cons_succ]
                go_wp2
                go_meet
                exact ⟨env.1, env.2, rfl, rfl, rfl, Lib.hid hW.out.1, Lib.hid hW.out.2.1, Lib.hid hW.out.2.2⟩
            case rest =>
              obtain ⟨Y, cy, rfl, rfl, rfl, hI2, hR2, hX2⟩ := hcut
              clear xd0 xd1
              go_wp2_with fail
              go_loopw [12, 103] (fun c12 c103 wr => ∃ (j : Nat) (o : List (Int × Int)) (Q : Option Addr) (c' : Nat), j ≤ L.length ∧ c103 = .int .i64 (j : Int) ∧ c12 = .slice Q o.length c' ∧ Hid (o = addNew out (L.take j)) ∧ Hid (AftInv w r (r + 1) c12 o wr) ∧ Hid (RowAt (r + 1) c12 (.slice Y L.length cy) L wr)) (fun _ c103 _ => L.length - (intOf c103).toNat)
              case atStart => exact ⟨0, out, Q, c', Nat.zero_le _, rfl, rfl, Lib.hid (by simp [addNew]), by rw [← HQV.out]; exact hI2, by rw [← HQV.out]; exact hR2⟩
              case round =>
                obtain ⟨j, o, Q', c'', hj, rfl, rfl, hs, hI3, hR3⟩ := hrel
                by_cases hlk : j < L.length
                · have hjI : (j : Int) < (L.length : Int) := by omega
                  obtain ⟨_, hcl, hC⟩ := Kd.R_reads' hR3.out
                  obtain ⟨yd, rfl, y1, y2⟩ := at_T92 hC j hlk
                  obtain ⟨y, hy⟩ : ∃ y, y = rd_T92 L j := ⟨_, rfl⟩
                  rw [← hy] at y1 y2
                  have y3 := World.block_lt_of_cell? wr _ y1
                  have hOs : Ones p.length q.length o := by rw [hs.out]; exact HO.out.addNew (fun z hz => HLin.out z (List.mem_of_mem_take hz))
                  have hroom := hOs.room hpn hqn
                  have hst2 : Hid (addNew out (L.take (j + 1)) = if y ∈ o then o else o ++ [y]) := Lib.hid (by rw [take_get hlk, addNew_snoc, ← hs.out, ← hy])
                  have hIy := hI3.out.below ((Below.refl wr.heap.size wr).alloc (Nat.le_refl _) (.cells #[.int .i64 y.1, .int .i64 y.2] 92))
                  have hRy := hR3.out.below ((Below.refl wr.heap.size wr).alloc (Nat.le_refl _) (.cells #[.int .i64 y.1, .int .i64 y.2] 92))
                  have hYy : ApB (.slice Q' o.length c'') wr.heap.size 92 [.int .i64 y.1, .int .i64 y.2] (wr.alloc (.cells #[.int .i64 y.1, .int .i64 y.2] 92)) := ⟨Blk.new wr _ 92, hI3.out.apart (Nat.le_refl _)⟩
                  have hlook := run_look hIy.hm Tryd.underlying117 (zero4 _) y false
                  by_cases hm : y ∈ o
                  · rw [if_pos hm] at hlook
                    have hlook2 : (Instr.lookup 117 (.map (some r)) (.agg #[.int .i64 y.1, .int .i64 y.2]) false).run Tryd.prog (wr.alloc (.cells #[.int .i64 y.1, .int .i64 y.2] 92)) = .ok (.bool true) (wr.alloc (.cells #[.int .i64 y.1, .int .i64 y.2] 92)) := hlook
                    have HM : Hid (addNew out (L.take (j + 1)) = o) := Lib.hid (by rw [hst2.out, if_pos hm])
                    have HIy := Lib.hid hIy
                    have HRy := Lib.hid hRy
                    clear hlook hm hy hC hOs hIy hRy hYy
                    go_wp2
                    go_roundw
                    case rel => exact ⟨j + 1, o, _, _, by omega, by go_num, rfl, Lib.hid HM.out.symm, HIy, HRy⟩
                    case measure => simp [intOf]; omega
                  · rw [if_neg hm] at hlook
                    have hlook2 : (Instr.lookup 117 (.map (some r)) (.agg #[.int .i64 y.1, .int .i64 y.2]) false).run Tryd.prog (wr.alloc (.cells #[.int .i64 y.1, .int .i64 y.2] 92)) = .ok (.bool false) (wr.alloc (.cells #[.int .i64 y.1, .int .i64 y.2] 92)) := hlook
                    have HM : Hid (addNew out (L.take (j + 1)) = o ++ [y]) := Lib.hid (by rw [hst2.out, if_neg hm])
                    obtain ⟨ob, hrun, hPM⟩ := run_put hIy.hm Tryd.underlying117 y (.bool true)
                    obtain ⟨W2, hW2⟩ : ∃ W2, W2 = ChangeMaps.setBlock (wr.alloc (.cells #[.int .i64 y.1, .int .i64 y.2] 92)) r ob := ⟨_, rfl⟩
                    have hCh : Chg [r] (wr.alloc (.cells #[.int .i64 y.1, .int .i64 y.2] 92)) W2 := by rw [hW2]; exact chg_block _ _ _
                    rw [← hW2] at hrun hPM
                    have hrun2 : (Instr.mapUpdate 117 (.map (some r)) (.agg #[.int .i64 y.1, .int .i64 y.2]) (.bool true)).run Tryd.prog (wr.alloc (.cells #[.int .i64 y.1, .int .i64 y.2] 92)) = .ok () W2 := hrun
                    have hne2 : r < wr.heap.size := by have := hI3.out.sz; omega
                    have HY2 := Lib.hid (hYy.chg hCh (by omega))
                    have HR2 := Lib.hid (hRy.put hCh (Nat.lt_succ_self _))
                    have HQ2 := Lib.hid (hIy.put hCh)
                    have HIY := Lib.hid hIy
                    have HCH := Lib.hid hCh
                    have HPM := Lib.hid hPM
                    have yc0 : W2.cell? ⟨wr.heap.size, 0, none⟩ = some (.int .i64 y.1) := HY2.out.1.cell 0
                    have yc1 : W2.cell? ⟨wr.heap.size, 1, none⟩ = some (.int .i64 y.2) := HY2.out.1.cell 1
                    have yl := HY2.out.1.lt
                    clear hlook hrun hPM hCh hW2 hm hy hC hOs hIy hRy hYy
                    go_wp2_with (first | ((with_reducible refine gate_builtin (b := .append) (xs := #[.tmp 113, .tmp 115]) rfl ?_); at_builtin; refine Kd.R_append k92 (w0 := W2) (r + 1) rfl (.tmp 113) (.tmp 115) 89 92 (.agg #[(.int .i64 0), (.int .i64 0)]) 16 rfl Tryd.underlying89 info92 rfl (by decide) (by omega) (.slice Q' o.length c'') o y [.int .i64 y.1, .int .i64 y.2] (fun _ => True) (fun _ => False) rfl rfl ?aP (fun _ hk => hk.elim) ?aF ?aO ?aB ?aS ?aL ?_; (case aP => exact k92_mkM _ _ _ y); (case aF => exact (fun _ _ => trivial)); (case aO => exact HQ2.out); (case aB => exact Below.refl _ _); (case aS => omega); (case aL => omega); intro v1 w5 ho1 hb1 hg1 hat1; obtain ⟨A1, c1, rfl⟩ := Kd.R_slice ho1; simp only [List.length_append, List.length_cons, List.length_nil, Nat.zero_add] at ho1 hat1; have HO1 := Lib.hid ho1; have HG1 := Lib.hid hg1; have HT1 := Lib.hid hat1; clear ho1 hb1 hg1 hat1) | fail)
                    go_roundw
                    case rel => exact ⟨j + 1, o ++ [y], A1, c1, by omega, by go_num, by simp only [List.length_append, List.length_cons, List.length_nil, Nat.zero_add], Lib.hid HM.out.symm, Lib.hid (HIY.out.push HCH.out HPM.out HO1.out HG1.out), Lib.hid (HR2.out.push HG1.out HT1.out)⟩
                    case measure => simp [intOf]; omega
                · have : j = L.length := by omega
                  subst this
                  have hs2 : Hid (o = addNew out L) := Lib.hid (by have := hs.out; rwa [List.take_length] at this)
                  clear hs
                  go_wp2
                  go_roundw
                  case rel => exact ⟨k + 1, o, _, _, by omega, by go_num, rfl, Lib.hid (by rw [hstep.out, hyes.out, hs2.out]), hI3⟩
                  case measure => simp [intOf]; omega
    · have : k = now.length := by omega
      subst this
      have hE : Hid (R = out) := Lib.hid (by rw [HR.out, ho.out, List.take_length]; rfl)
      go_wp2
      go_ret
      refine ⟨_, rfl, ?_, hI.out.low⟩
      rw [hE.out]
      exact Kd.R_lower hI.out.hq (by omega)
end Go.Proofs.YtaphblnelmncaaaDoor.PA
end

section
/- The walks over arity, Check's closure and Check. -/
set_option linter.unusedVariables false
namespace Go.Proofs.YtaphblnelmncaaaDoor.PA
open Go.RowKit Go.Proofs.YtaphblnelmncaaaDoorW.PrintWords Go.Proofs.YtaphblnelmncaaaDoorW.PrintLast Go.Proofs.YtaphblnelmncaaaDoorW.PrintMore

/-- How many operands a kind has; -1 where there is no such kind. -/
def ari (k : Int) : Int := if k = 0 ∨ k = 1 then 0 else if k = 4 then 1 else if k = 2 ∨ k = 3 then 2 else -1
theorem ari_range (k : Int) : -1 ≤ ari k ∧ ari k ≤ 2 := by unfold ari; split; omega; split; omega; split <;> omega

theorem arity_any (k : Int) (w : World) : Calls Tryd.prog 50 #[.int .i64 k] w fun e w' => e = .returned (.int .i64 (ari k)) ∧ w = w' := by
  by_cases h0 : k = 0
  · subst h0
    go_enter Tryd.func50, Tryd.ntmps50
    go_wp2
    go_ret
    exact ⟨rfl, rfl⟩
  by_cases h1 : k = 1
  · subst h1
    go_enter Tryd.func50, Tryd.ntmps50
    go_wp2
    go_ret
    exact ⟨rfl, rfl⟩
  by_cases h2 : k = 2
  · subst h2
    go_enter Tryd.func50, Tryd.ntmps50
    go_wp2
    go_ret
    exact ⟨rfl, rfl⟩
  by_cases h3 : k = 3
  · subst h3
    go_enter Tryd.func50, Tryd.ntmps50
    go_wp2
    go_ret
    exact ⟨rfl, rfl⟩
  by_cases h4 : k = 4
  · subst h4
    go_enter Tryd.func50, Tryd.ntmps50
    go_wp2
    go_ret
    exact ⟨rfl, rfl⟩
  have e : ari k = -1 := by unfold ari; rw [if_neg (by omega), if_neg h4, if_neg (by omega)]
  rw [e]
  clear e
  have b0 : (k == 0) = false := by simpa using h0
  have b1 : (k == 1) = false := by simpa using h1
  have b2 : (k == 2) = false := by simpa using h2
  have b3 : (k == 3) = false := by simpa using h3
  have b4 : (k == 4) = false := by simpa using h4
  clear h0 h1 h2 h3 h4
  go_enter Tryd.func50, Tryd.ntmps50
  go_wp2
  go_ret
  exact ⟨rfl, rfl⟩

/-- May node 'at' take node i as an operand? -/
def useOk (i a : Int) (U : List Bool) : Bool := decide (0 ≤ i) && (decide (i < a) && !U.getD i.toNat false)
/-- What is taken then. -/
def useNew (i a : Int) (U : List Bool) : List Bool := if useOk i a U then U.set i.toNat true else U
theorem useNew_length (i a : Int) (U : List Bool) : (useNew i a U).length = U.length := by unfold useNew; split <;> simp

/-- What use answers and leaves. -/
def UsePost (ub : Nat) (r : Bool) (U : List Bool) (w : World) (e : Ending) (w' : World) : Prop := e = .returned (.bool r) ∧ Blk w' ub 4 (bools U) ∧ Chg [ub] w w'
theorem bools_get (U : List Bool) (i : Nat) (h : i < U.length) : (bools U)[i]? = some (.bool (U.getD i false)) := by
  simp [bools, List.getElem?_eq_getElem h, List.getD_eq_getElem?_getD]

set_option maxHeartbeats 1000000 in
theorem use_any (tv ub n : Nat) (U : List Bool) (i a : Int) (w : World) (ht : Blk w tv 69 [.slice (some ⟨ub, 0, none⟩) n n]) (hu : Blk w ub 4 (bools U)) (hn : U.length = n) (ha : a ≤ n) (hn5 : n ≤ 512) :
    Calls Tryd.prog 49 #[.int .i64 i, .int .i64 a, .pointer (some ⟨tv, 0, none⟩)] w (UsePost ub (useOk i a U) (useNew i a U) w) := by
  have c1 : w.cell? ⟨tv, 0, none⟩ = some (.slice (some ⟨ub, 0, none⟩) n n) := ht.cell 0
  have HU := Lib.hid hu
  have HN := Lib.hid hn
  clear ht hu hn
  by_cases h0 : i < 0
  · have e1 : useOk i a U = false := by unfold useOk; simp; omega
    have e2 : useNew i a U = U := by unfold useNew; rw [e1]; rfl
    rw [e1, e2]
    clear e1 e2
    go_enter Tryd.func49, Tryd.ntmps49
    go_wp2
    go_ret
    exact ⟨rfl, HU.out, Chg.refl _ _⟩
  by_cases h1 : i < a
  · obtain ⟨j, rfl⟩ := Int.eq_ofNat_of_zero_le (Int.not_lt.1 h0)
    have hj : j < U.length := by have := HN.out; omega
    have hjI : (j : Int) < (n : Int) := by omega
    have hjn : j < n := by omega
    cases hb : U.getD j false with
    | true =>
      have e1 : useOk j a U = false := by unfold useOk; simp [← List.getD_eq_getElem?_getD, hb]
      have e2 : useNew j a U = U := by unfold useNew; rw [e1]; rfl
      have c2 : w.cell? ⟨ub, j, none⟩ = some (.bool true) := by rw [HU.out.cell, bools_get U j hj, hb]
      rw [e1, e2]
      clear e1 e2 hb
      go_enter Tryd.func49, Tryd.ntmps49
      go_wp2
      go_ret
      exact ⟨rfl, HU.out, Chg.refl _ _⟩
    | false =>
      have e1 : useOk j a U = true := by unfold useOk; simp [← List.getD_eq_getElem?_getD, hb]; omega
      have e2 : useNew j a U = U.set j true := by unfold useNew; rw [e1]; rfl
      have c2 : w.cell? ⟨ub, j, none⟩ = some (.bool false) := by rw [HU.out.cell, bools_get U j hj, hb]
      have f2 : w.frozen? ⟨ub, j, none⟩ = false := HU.out.frozen j
      have g : Hid (Blk (w.setCell ⟨ub, j, none⟩ (.bool true)) ub 4 (bools (U.set j true))) := Lib.hid (by
        have := HU.out.set j (.bool true)
        simpa [bools, List.map_set] using this)
      rw [e1, e2]
      clear e1 e2 hb
      go_enter Tryd.func49, Tryd.ntmps49
      go_wp2
      go_ret
      exact ⟨rfl, g.out, (Chg.refl _ _).setCell (by simp) _⟩
  · have e1 : useOk i a U = false := by unfold useOk; simp; omega
    have e2 : useNew i a U = U := by unfold useNew; rw [e1]; rfl
    rw [e1, e2]
    clear e1 e2
    go_enter Tryd.func49, Tryd.ntmps49
    go_wp2
    go_ret
    exact ⟨rfl, HU.out, Chg.refl _ _⟩
end Go.Proofs.YtaphblnelmncaaaDoor.PA
end

section
/- The walk over Check. -/
set_option linter.unusedVariables false
namespace Go.Proofs.YtaphblnelmncaaaDoor.PA
open Go.RowKit Go.Proofs.YtaphblnelmncaaaDoorW.PrintWords Go.Proofs.YtaphblnelmncaaaDoorW.PrintLast Go.Proofs.YtaphblnelmncaaaDoorW.PrintMore

/-- Is the node in order, but for its operands' order and use? -/
def baseOk (x : S50) : Bool :=
  (if x.f0 = 1 then decide (0 ≤ x.f1) && (decide (x.f1 ≤ x.f2) && decide (x.f2 ≤ 255)) else decide (x.f1 = 0) && (decide (x.f2 = 0) && decide (0 ≤ ari x.f0))) &&
  ((decide (1 ≤ ari x.f0) || decide (x.f3 = 0)) && (decide (2 ≤ ari x.f0) || decide (x.f4 = 0)))
/-- One node: what is taken behind it; none where it is not in order. -/
def chkNode (x : S50) (a : Int) (U : List Bool) : Option (List Bool) :=
  if baseOk x = false then none
  else if ari x.f0 < 1 then some U
  else if useOk x.f3 a U = false then none
  else if ari x.f0 < 2 then some (useNew x.f3 a U)
  else if useOk x.f4 a (useNew x.f3 a U) = false then none
  else some (useNew x.f4 a (useNew x.f3 a U))
/-- The first k nodes. -/
def chkTo (p : List S50) : Nat → Option (List Bool)
  | 0 => some (List.replicate p.length false)
  | k + 1 => (chkTo p k).bind fun U => chkNode (rd_T50 p k) k U
/-- What Check answers. -/
def chk (p : List S50) : Int :=
  if 512 < p.length then 2
  else match chkTo p p.length with
    | none => 40
    | some U => if (List.range (p.length - 1)).all (fun i => U.getD i false) = true ∧ p.length ≠ 0 then 0 else 40
theorem chkTo_none {p : List S50} {k n : Nat} (h : chkTo p k = none) (hn : k ≤ n) : chkTo p n = none := by
  induction n with
  | zero => rw [show k = 0 by omega] at h; exact h
  | succ n ih =>
    by_cases e : k = n + 1
    · rw [e] at h; exact h
    · simp only [chkTo]; rw [ih (by omega)]; rfl
theorem chkNode_length {x : S50} {a : Int} {U V : List Bool} (h : chkNode x a U = some V) : V.length = U.length := by
  unfold chkNode at h
  split at h
  · cases h
  · split at h
    · cases h; rfl
    · split at h
      · cases h
      · split at h
        · cases h; exact useNew_length _ _ _
        · split at h
          · cases h
          · cases h; rw [useNew_length, useNew_length]
theorem madeBools (n : Nat) : madeCells #[.bool false] n = (bools (List.replicate n false)).toArray := by
  apply Array.ext
  · simp [madeCells, bools]
  · intro i h1 h2
    simp [madeCells, bools, Nat.mod_one]

theorem baseOk_iff (K lo hi a b : Int) : baseOk ⟨K, lo, hi, a, b⟩ = true ↔ ((K = 1 ∧ 0 ≤ lo ∧ lo ≤ hi ∧ hi ≤ 255) ∨ (K ≠ 1 ∧ lo = 0 ∧ hi = 0 ∧ 0 ≤ ari K)) ∧ (1 ≤ ari K ∨ a = 0) ∧ (2 ≤ ari K ∨ b = 0) := by
  unfold baseOk
  by_cases h : K = 1 <;> simp [h]
theorem chk_bad {p : List S50} {k : Nat} (h : ¬ 512 < p.length) (hk : k < p.length) (hb : chkTo p (k + 1) = none) : chk p = 40 := by
  unfold chk
  rw [if_neg h, chkTo_none hb (show k + 1 ≤ p.length by omega)]
theorem node_bad {K lo hi a b k : Int} {U : List Bool} (h : baseOk ⟨K, lo, hi, a, b⟩ = false) : chkNode ⟨K, lo, hi, a, b⟩ k U = none := by
  unfold chkNode; rw [if_pos h]
theorem node_leaf {K lo hi a b k : Int} {U : List Bool} (h : baseOk ⟨K, lo, hi, a, b⟩ = true) (hn : ari K < 1) : chkNode ⟨K, lo, hi, a, b⟩ k U = some U := by
  unfold chkNode; rw [if_neg (by simp [h]), if_pos hn]
theorem node_one_bad {K lo hi a b k : Int} {U : List Bool} (hn : 1 ≤ ari K) (hu : useOk a k U = false) : chkNode ⟨K, lo, hi, a, b⟩ k U = none := by
  unfold chkNode
  split
  · rfl
  · rw [if_neg (by simp; omega)]
theorem node_one {K lo hi a b k : Int} {U : List Bool} (h : baseOk ⟨K, lo, hi, a, b⟩ = true) (hn : 1 ≤ ari K) (hn2 : ari K < 2) (hu : useOk a k U = true) : chkNode ⟨K, lo, hi, a, b⟩ k U = some (useNew a k U) := by
  unfold chkNode; rw [if_neg (by simp [h]), if_neg (by simp; omega), if_neg (by simp [hu]), if_pos hn2]
theorem node_two_bad {K lo hi a b k : Int} {U : List Bool} (hn : 2 ≤ ari K) (hu : useOk b k (useNew a k U) = false) : chkNode ⟨K, lo, hi, a, b⟩ k U = none := by
  unfold chkNode
  split
  · rfl
  · rw [if_neg (by simp; omega)]
    split
    · rfl
    · rw [if_neg (by simp; omega)]
theorem node_two {K lo hi a b k : Int} {U : List Bool} (h : baseOk ⟨K, lo, hi, a, b⟩ = true) (hn : 2 ≤ ari K) (hu : useOk a k U = true) (hu2 : useOk b k (useNew a k U) = true) : chkNode ⟨K, lo, hi, a, b⟩ k U = some (useNew b k (useNew a k U)) := by
  unfold chkNode; rw [if_neg (by simp [h]), if_neg (by simp; omega), if_neg (by simp [hu]), if_neg (by simp; omega), if_neg (by simp [hu2])]

/-- What stands at each node. -/
structure ChkInv (tv ub : Nat) (p : List S50) (U : List Bool) (w0 w : World) : Prop where
  ht : Blk w tv 69 [.slice (some ⟨ub, 0, none⟩) p.length p.length]
  hu : Blk w ub 4 (bools U)
  hl : U.length = p.length
  below : Below w0.heap.size w0 w
  n1 : w0.heap.size ≤ tv
  n2 : w0.heap.size ≤ ub
theorem ChkInv.next {tv ub : Nat} {p : List S50} {U V : List Bool} {w0 w w' : World} (h : ChkInv tv ub p U w0 w) (hV : V.length = U.length) (k : Chg [ub] w w') (hu : Blk w' ub 4 (bools V)) : ChkInv tv ub p V w0 w' :=
  ⟨h.ht.keep k (by simpa using h.ht.ne h.hu (by decide)), hu, by rw [hV, h.hl], h.below.trans ⟨k.os, k.tape, k.output, k.size, fun i hi => k.block i (Nat.lt_of_lt_of_le hi h.below.size) (by have := h.n2; simp; omega)⟩, h.n1, h.n2⟩
theorem ChkInv.keep {tv ub : Nat} {p : List S50} {U : List Bool} {w0 w w' : World} (h : ChkInv tv ub p U w0 w) (k : Chg [] w w') : ChkInv tv ub p U w0 w' := h.next rfl (k.mono (by simp)) (h.hu.keep k (by simp))

set_option maxHeartbeats 4000000 in
set_option maxRecDepth 100000 in
theorem check_any (A : Option Addr) (c : Nat) (p : List S50) (w : World) (hC : Kd.C k50 w A p.length p) (hc : p.length ≤ c) (hb : p.length * 40 ≤ 140737488351232) :
    Calls Tryd.prog 21 #[.slice A p.length c] w fun e w' => e = .returned (.int .i64 (chk p)) ∧ Below w.heap.size w w' := by
  by_cases h512 : 512 < p.length
  · have e : chk p = 2 := by unfold chk; rw [if_pos h512]
    rw [e]
    clear e
    go_enter Tryd.func21, Tryd.ntmps21
    go_wp2
    go_ret
    exact ⟨rfl, Below.refl _ _⟩
  have hmk : ∀ W : World, (Instr.makeSlice 69 (.int .i64 (p.length : Int)) (.int .i64 (p.length : Int))).run Tryd.prog W = .ok (.slice (some ⟨W.heap.size, 0, none⟩) p.length p.length) (W.alloc (.cells (bools (List.replicate p.length false)).toArray 4)) := by
    intro W
    rw [← madeBools]
    exact run_make_row' 69 4 (.bool false) 1 Tryd.underlying69 info4 rfl .i64 .i64 p.length (by omega) (by omega) W
  have HC := Lib.hid hC
  obtain ⟨n, hn⟩ : ∃ n, n = p.length := ⟨_, rfl⟩
  have HNL := Lib.hid hn
  have hgt : decide (512 < (p.length : Int)) = false := by simp; omega
  have hn5 : p.length ≤ 512 := by omega
  clear hC hn
  go_enter Tryd.func21, Tryd.ntmps21
  go_wp2
  generalize hg : w.heap.size = ub at *
  generalize hW : World.alloc _ _ = W
  have I0 : Hid (ChkInv (ub + 1) ub p (List.replicate p.length false) w W) := Lib.hid (by
    subst hW; subst hg
    exact ⟨Blk.new2 w _ _ 4 69, (Blk.new w _ 4).alloc _, by simp, (((Chg.refl [] w).alloc _).alloc _).below, by omega, by omega⟩)
  have HG := Lib.hid hg
  clear hW hg
  go_loopw [19] (fun cn wr => ∃ (k : Nat) (U : List Bool), cn = .int .i64 k ∧ k ≤ p.length ∧ Hid (chkTo p k = some U) ∧ Hid (ChkInv (ub + 1) ub p U w wr)) (fun cn _ => p.length - (intOf cn).toNat)
  case atStart => exact ⟨0, _, rfl, by omega, Lib.hid rfl, I0⟩
  case round =>
    obtain ⟨k, U, rfl, hk, hU, hI⟩ := hrel
    by_cases hlt : k < p.length
    · have hkI : (k : Int) < (p.length : Int) := by omega
      have hkb : decide ((k : Int) < (p.length : Int)) = true := by simp; omega
      obtain ⟨ad, rfl, x0, x1, x2, x3, x4⟩ := at_T50 (Kd.C_below HC.out hI.out.below) k (by omega) hkI
      have HX : Hid (chkTo p (k + 1) = chkNode (rd_T50 p k) k U) := Lib.hid (by simp only [chkTo, hU.out]; rfl)
      have HT := hI.out.ht
      simp only [Int.toNat_natCast] at x0 x1 x2 x3 x4
      generalize rd_T50 p k = x at *
      obtain ⟨K, lo, hi, a, b⟩ := x
      have bw := World.block_lt_of_cell? wr _ x0
      have hna := ari_range K
      have HXC := Lib.hid HX.out
      have tok1 : True := trivial
      have I1 : ∀ (w1 : World), Chg [] wr w1 → ChkInv (ub + 1) ub p U w w1 := fun w1 k => hI.out.keep k
      have HI1 := Lib.hid I1
      clear HT I1 HX
      go_wp2_with (first | (go_at_call 50; refine (arity_any _ _).mono ?_; rintro e w' ⟨rfl, rfl⟩) | (fail))
      all_goals (try have q1 : K = 1 := by have := ‹(K == 1) = true›; simpa using this)
      all_goals (try have q1 : K ≠ 1 := by have := ‹(K == 1) = false›; simpa using this)
      all_goals (try have q2 : hi ≠ 0 := by have := ‹(hi != 0) = true›; simpa using this)
      all_goals (try have q2 : hi = 0 := by have := ‹(hi != 0) = false›; simpa using this)
      all_goals have hA1 : K = 1 → ari K = 0 := fun h => by rw [h]; rfl
      all_goals first
        | (have hb : baseOk ⟨K, lo, hi, a, b⟩ = false := by (rw [Bool.eq_false_iff, Ne, baseOk_iff]; omega)
           go_ret
           exact ⟨ret_int (chk_bad h512 hlt (HXC.out.trans (node_bad hb))).symm, (HI1.out _ ((Chg.refl _ _).alloc _)).below⟩)
        | (have hb : baseOk ⟨K, lo, hi, a, b⟩ = true := by (rw [baseOk_iff]; omega)
           go_roundw
           case rel => exact ⟨k + 1, U, by go_num, by omega, Lib.hid (HXC.out.trans (node_leaf hb (by omega))), Lib.hid (HI1.out _ ((Chg.refl _ _).alloc _))⟩
           case measure => simp [intOf]; omega)
        | (exfalso; omega)
        | skip
      all_goals (
        have hb : baseOk ⟨K, lo, hi, a, b⟩ = true := by (rw [baseOk_iff]; omega)
        have hn1 : 1 ≤ ari K := by omega
        generalize hW1 : World.alloc _ _ = W1
        have c1 : Chg [] wr W1 := by subst hW1; exact (Chg.refl _ _).alloc _
        have e0 : ∃ y0 y1 y2 y3 y4, Blk W1 wr.heap.size 50 [y0, y1, y2, y3, y4] ∧ y4 = .int .i64 b := ⟨_, _, _, _, _, by subst hW1; exact Blk.new wr _ 50, by simp [*]⟩
        obtain ⟨y0, y1, y2, y3, y4, e0, rfl⟩ := e0
        have I1 := HI1.out W1 c1
        have ubn : wr.heap.size ≠ ub := by have := hI.out.hu.lt; omega
        clear hW1 c1
        refine (use_any (ub + 1) ub p.length U a k W1 I1.ht I1.hu I1.hl (by omega) hn5).mono ?_
        intro e w1 hp
        obtain ⟨rfl, k1, k2⟩ := hp
        have I2 := Lib.hid (I1.next (useNew_length a k U) k2 k1)
        have e1 := Lib.hid (e0.keep k2 (by simpa using ubn))
        have d4 : w1.cell? ⟨wr.heap.size, 4, none⟩ = some (.int .i64 b) := e1.out.cell 4
        have HB := Lib.hid hb
        clear k1 k2 e0 I1 hb
        cases hq : useOk a k U)
      · go_wp2
        go_ret
        exact ⟨ret_int (chk_bad h512 hlt (HXC.out.trans (node_one_bad hn1 hq))).symm, I2.out.below⟩
      · go_wp2
        go_roundw
        case rel => exact ⟨k + 1, _, by go_num, by omega, Lib.hid (HXC.out.trans (node_one HB.out hn1 (by omega) hq)), I2⟩
        case measure => simp [intOf]; omega
      · go_wp2
        go_ret
        exact ⟨ret_int (chk_bad h512 hlt (HXC.out.trans (node_one_bad hn1 hq))).symm, I2.out.below⟩
      · go_wp2_with fail
        have HQ := Lib.hid hq
        refine (use_any (ub + 1) ub p.length (useNew a k U) b k w1 I2.out.ht I2.out.hu I2.out.hl (by omega) hn5).mono ?_
        intro e w2 hp
        obtain ⟨rfl, k1, k2⟩ := hp
        have I3 := Lib.hid (I2.out.next (useNew_length b k (useNew a k U)) k2 k1)
        clear k1 k2 hq d4
        have hn2 : 2 ≤ ari K := by omega
        cases hq2 : useOk b k (useNew a k U)
        · go_wp2
          go_ret
          exact ⟨ret_int (chk_bad h512 hlt (HXC.out.trans (node_two_bad hn2 hq2))).symm, I3.out.below⟩
        · go_wp2
          go_roundw
          case rel => exact ⟨k + 1, _, by go_num, by omega, Lib.hid (HXC.out.trans (node_two HB.out hn2 HQ.out hq2)), I3⟩
          case measure => simp [intOf]; omega
    · have hke : k = p.length := by omega
      have HKU : Hid (chkTo p p.length = some U) := Lib.hid (hke ▸ hU.out)
      have hkb : decide ((k : Int) < (p.length : Int)) = false := by simp; omega
      have hsub : IntKind.i64.wrap ((p.length : Int) - 1) = (p.length : Int) - 1 := IntWalk.i64_in _ (by omega)
      have cv : wr.cell? ⟨ub + 1, 0, none⟩ = some (.slice (some ⟨ub, 0, none⟩) p.length p.length) := hI.out.ht.cell 0
      clear hke
      go_wp2
      clear hkb
      go_loop [105] (fun cn => ∃ j : Nat, cn = .int .i64 j ∧ ((j : Int) ≤ (p.length : Int) - 1 ∨ j = 0) ∧ Hid (∀ i, i < j → U.getD i false = true)) (fun cn => p.length - (intOf cn).toNat)
      case atStart => exact ⟨0, rfl, .inr rfl, Lib.hid (fun i hi => by omega)⟩
      case round =>
        obtain ⟨j, rfl, hj, hall⟩ := hrel
        by_cases hlt2 : (j : Int) < (p.length : Int) - 1
        · have hjI : (j : Int) < (p.length : Int) := by omega
          have hjl : j < U.length := by have := hI.out.hl; omega
          have cj : wr.cell? ⟨ub, j, none⟩ = some (.bool (U.getD j false)) := by rw [hI.out.hu.cell, bools_get U j hjl]
          cases hbj : U.getD j false
          · rw [hbj] at cj
            have HBJ := Lib.hid hbj
            have hres : Hid (chk p = 40) := Lib.hid (by
              unfold chk; rw [if_neg h512, HKU.out]
              dsimp only
              rw [if_neg]
              rintro ⟨h, _⟩
              rw [List.all_eq_true] at h
              have := h j (by rw [List.mem_range]; omega)
              rw [HBJ.out] at this; cases this)
            clear hbj
            go_wp2
            go_ret
            exact ⟨ret_int hres.out.symm, hI.out.below⟩
          · rw [hbj] at cj
            have HBJ := Lib.hid hbj
            clear hbj
            go_wp2
            go_round
            case rel => exact ⟨j + 1, by go_num, by omega, Lib.hid (fun i hi => by rcases Nat.lt_or_ge i j with h | h; exact hall.out i h; rw [show i = j by omega]; exact HBJ.out)⟩
            case measure => simp [intOf]; omega
        · by_cases hz : p.length = 0
          · have hzb : ((p.length : Int) == 0) = true := beq_iff_eq.2 (by omega)
            have hres : Hid (chk p = 40) := Lib.hid (by
              unfold chk; rw [if_neg h512, HKU.out]
              dsimp only
              rw [if_neg (fun h => h.2 hz)])
            have HZ := Lib.hid hz
            clear hz
            go_wp2
            go_ret
            exact ⟨ret_int hres.out.symm, hI.out.below⟩
          · have hzb : ((p.length : Int) == 0) = false := beq_eq_false_iff_ne.2 (by omega)
            have hres : Hid (chk p = 0) := Lib.hid (by
              unfold chk; rw [if_neg h512, HKU.out]
              dsimp only
              rw [if_pos ⟨by
                rw [List.all_eq_true]
                intro i hi
                rw [List.mem_range] at hi
                exact hall.out i (by omega), hz⟩])
            have HZ := Lib.hid hz
            clear hz
            go_wp2
            go_ret
            exact ⟨ret_int hres.out.symm, hI.out.below⟩
end Go.Proofs.YtaphblnelmncaaaDoor.PA
end

section
/- The reader of patterns as plain functions. -/
namespace Go.Proofs.YtaphblnelmncaaaDoor.PA
open Go.Proofs.YtaphblnelmncaaaDoorW.PrintWords

/-- The reader's state: where it is, what it has made, whether something was wrong. -/
structure St where
  pos : Nat
  out : List S50
  wrong : Bool

/-- Special characters. -/
def specials : List Int := [40, 41, 42, 45, 91, 92, 93, 124]
/-- Does a byte stand for itself? -/
def plainB (b : Int) : Bool := !specials.contains b && (decide (32 < b) && decide (b < 127))
/-- A hexadecimal digit's value, or -1. -/
def hexV (b : Int) : Int := if 48 ≤ b ∧ b ≤ 57 then b - 48 else if 97 ≤ b ∧ b ≤ 102 then b - 97 + 10 else -1

/-- Does the byte b come next? -/
def isNext (s : ByteArray) (b : Int) (st : St) : Bool := decide (st.pos < s.size) && bt s st.pos == b
/-- Passed. -/
def pass (s : ByteArray) (b : Int) (st : St) : St := if isNext s b st then { st with pos := st.pos + 1 } else st
/-- A node more. -/
def St.add (st : St) (x : S50) : St := { st with out := st.out ++ [x] }
/-- Something is wrong. -/
def St.bad (st : St) (b : Bool) : St := { st with wrong := b }

/-- A character: its byte, and the state behind it. -/
def charF (s : ByteArray) (st : St) : Int × St :=
  if st.pos < s.size ∧ plainB (bt s st.pos) = true then (bt s st.pos, { st with pos := st.pos + 1 })
  else if isNext s 92 st = true then
    if isNext s 120 (pass s 92 st) = true then
      if (pass s 120 (pass s 92 st)).pos + 1 < s.size then
        if 0 ≤ hexV (bt s (pass s 120 (pass s 92 st)).pos) ∧ 0 ≤ hexV (bt s ((pass s 120 (pass s 92 st)).pos + 1)) then
          (16 * hexV (bt s (pass s 120 (pass s 92 st)).pos) + hexV (bt s ((pass s 120 (pass s 92 st)).pos + 1)), { pass s 120 (pass s 92 st) with pos := (pass s 120 (pass s 92 st)).pos + 2 })
        else (0, { pass s 120 (pass s 92 st) with pos := (pass s 120 (pass s 92 st)).pos + 2, wrong := true })
      else (0, (pass s 120 (pass s 92 st)).bad true)
    else (0, (pass s 92 st).bad true)
  else (0, st.bad true)

/-- Behind '[': the range's bytes; what is wrong then. -/
def rangeF (s : ByteArray) (st : St) : S50 × St :=
  let (lo, st1) := charF s st
  let dash := isNext s 45 st1
  let st2 := pass s 45 st1
  let (hi, st3) := charF s st2
  if st3.wrong || !dash then (⟨1, lo, hi, 0, 0⟩, st3.bad true)
  else (⟨1, lo, hi, 0, 0⟩, (pass s 93 st3).bad (!isNext s 93 st3 || decide (hi < lo)))

mutual
def atomF (s : ByteArray) : Nat → St → Option (Int × St)
  | 0, _ => none
  | n + 1, st =>
    if isNext s 91 st then
      starF s n (rangeF s (pass s 91 st)).2.out.length ((rangeF s (pass s 91 st)).2.add (rangeF s (pass s 91 st)).1)
    else if isNext s 40 st then
      if isNext s 41 (pass s 40 st) then starF s n (pass s 41 (pass s 40 st)).out.length ((pass s 41 (pass s 40 st)).add ⟨0, 0, 0, 0, 0⟩)
      else (altF s n (pass s 40 st)).bind fun r =>
        if r.2.wrong then starF s n r.1 (r.2.bad true) else starF s n r.1 ((pass s 41 r.2).bad (!isNext s 41 r.2))
    else starF s n (charF s st).2.out.length ((charF s st).2.add ⟨1, (charF s st).1, (charF s st).1, 0, 0⟩)
def starF (s : ByteArray) : Nat → Int → St → Option (Int × St)
  | 0, _, _ => none
  | n + 1, i, st =>
    if st.wrong then some (i, st)
    else if isNext s 42 st then starF s n st.out.length ((pass s 42 st).add ⟨4, 0, 0, i, 0⟩)
    else some (i, st)
def seqF (s : ByteArray) : Nat → St → Option (Int × St)
  | 0, _ => none
  | n + 1, st => (atomF s n st).bind fun r => seqLoop s n r.1 r.2
def seqLoop (s : ByteArray) : Nat → Int → St → Option (Int × St)
  | 0, _, _ => none
  | n + 1, i, st =>
    if !st.wrong && (decide (st.pos < s.size) && (bt s st.pos != 124 && bt s st.pos != 41)) then
      (atomF s n st).bind fun r => seqLoop s n r.2.out.length (r.2.add ⟨2, 0, 0, i, r.1⟩)
    else some (i, st)
def altF (s : ByteArray) : Nat → St → Option (Int × St)
  | 0, _ => none
  | n + 1, st => (seqF s n st).bind fun r => altLoop s n r.1 r.2
def altLoop (s : ByteArray) : Nat → Int → St → Option (Int × St)
  | 0, _, _ => none
  | n + 1, i, st =>
    if st.wrong then some (i, st)
    else if isNext s 124 st then (seqF s n (pass s 124 st)).bind fun r => altLoop s n r.2.out.length (r.2.add ⟨3, 0, 0, i, r.1⟩)
    else some (i, st)
end
end Go.Proofs.YtaphblnelmncaaaDoor.PA
end

section
/- The walks over plain, hex and the reader's small methods. -/
set_option linter.unusedVariables false
namespace Go.Proofs.YtaphblnelmncaaaDoor.PA
open Go.RowKit Go.Proofs.YtaphblnelmncaaaDoorW.PrintWords Go.Proofs.YtaphblnelmncaaaDoorW.PrintLast Go.Proofs.YtaphblnelmncaaaDoorW.PrintMore

theorem hex_any (b : Int) (w : World) (h0 : 0 ≤ b) (h1 : b ≤ 255) : Calls Tryd.prog 95 #[.int .u8 b] w fun e w' => e = .returned (.int .i64 (hexV b)) ∧ w = w' := by
  by_cases c1 : 48 ≤ b ∧ b ≤ 57
  · obtain ⟨a1, a2⟩ := c1
    have e : hexV b = b - 48 := by unfold hexV; rw [if_pos ⟨a1, a2⟩]
    rw [e]; clear e
    go_enter Tryd.func95, Tryd.ntmps95
    go_wp2
    go_ret
    exact ⟨ret_int (by simp [IntKind.wrap, IntKind.bits, IntKind.signed]; try omega), rfl⟩
  · by_cases c2 : 97 ≤ b ∧ b ≤ 102
    · obtain ⟨a1, a2⟩ := c2
      have e : hexV b = b - 97 + 10 := by unfold hexV; rw [if_neg c1, if_pos ⟨a1, a2⟩]
      have a3 : ¬ b ≤ 57 := by omega
      rw [e]; clear e c1
      go_enter Tryd.func95, Tryd.ntmps95
      go_wp2
      go_ret
      exact ⟨ret_int (by simp [IntKind.wrap, IntKind.bits, IntKind.signed]; try omega), rfl⟩
    · have e : hexV b = -1 := by unfold hexV; rw [if_neg c1, if_neg c2]
      rw [e]; clear e
      rcases (show b < 48 ∨ (57 < b ∧ b < 97) ∨ 102 < b by omega) with h | ⟨h, h'⟩ | h
      all_goals (
        clear c1 c2
        go_enter Tryd.func95, Tryd.ntmps95
        go_wp2
        go_ret
        exact ⟨rfl, rfl⟩)

set_option maxHeartbeats 1000000 in
theorem plain_any (b : Int) (w : World) (h0 : 0 ≤ b) (h1 : b ≤ 255) : Calls Tryd.prog 74 #[.int .u8 b] w fun e w' => e = .returned (.bool (plainB b)) ∧ w = w' := by
  go_enter Tryd.func74, Tryd.ntmps74
  go_wp2
  go_loop [4] (fun c => ∃ k : Nat, k ≤ 8 ∧ c = .int .i64 k ∧ Hid (∀ i, i < k → specials.getD i 0 ≠ b)) (fun c => 8 - (intOf c).toNat)
  case atStart => exact ⟨0, by omega, rfl, Lib.hid (fun i hi => by omega)⟩
  case round =>
    obtain ⟨k, hk, rfl, ha⟩ := hrel
    by_cases hlt : k < 8
    · have hsz : (k : Int) < 8 := by omega
      have hbs : k < (⟨#[40, 41, 42, 45, 91, 92, 93, 124]⟩ : ByteArray).size := hlt
      have hbn : (((⟨#[40, 41, 42, 45, 91, 92, 93, 124]⟩ : ByteArray)[k]'hbs).toNat : Int) = specials.getD k 0 := by
        rcases (show k = 0 ∨ k = 1 ∨ k = 2 ∨ k = 3 ∨ k = 4 ∨ k = 5 ∨ k = 6 ∨ k = 7 by omega) with rfl | rfl | rfl | rfl | rfl | rfl | rfl | rfl <;> rfl
      obtain ⟨q, hq⟩ : ∃ q, q = specials.getD k 0 := ⟨_, rfl⟩
      rw [← hq] at hbn
      have HQ := Lib.hid hq
      clear hq
      by_cases he : q = b
      · have hs : Hid (plainB b = false) := Lib.hid (by
          have he2 : specials.getD k 0 = b := by rw [← HQ.out]; exact he
          rcases (show k = 0 ∨ k = 1 ∨ k = 2 ∨ k = 3 ∨ k = 4 ∨ k = 5 ∨ k = 6 ∨ k = 7 by omega) with rfl | rfl | rfl | rfl | rfl | rfl | rfl | rfl <;> (simp [specials] at he2; subst he2; rfl))
        subst he
        go_wp2
        go_ret
        exact ⟨ret_bool hs.out.symm, rfl⟩
      · have hs : Hid (∀ i, i < k + 1 → specials.getD i 0 ≠ b) := Lib.hid (by
          intro i hi
          by_cases e : i = k
          · subst e; rw [← HQ.out]; exact he
          · exact ha.out i (by omega))
        go_wp2
        go_round
        case rel => exact ⟨k + 1, by omega, by go_num, hs⟩
        case measure => simp [intOf]; omega
    · have : k = 8 := by omega
      subst this
      have hs : Hid (specials.contains b = false) := Lib.hid (by
        have h0 := ha.out 0 (by omega); have h1 := ha.out 1 (by omega); have h2 := ha.out 2 (by omega); have h3 := ha.out 3 (by omega)
        have h4 := ha.out 4 (by omega); have h5 := ha.out 5 (by omega); have h6 := ha.out 6 (by omega); have h7 := ha.out 7 (by omega)
        simp [specials] at *
        omega)
      by_cases g1 : 32 < b
      · by_cases g2 : b < 127
        all_goals (
          go_wp2
          go_ret
          exact ⟨ret_bool (by unfold plainB; rw [hs.out]; simp; omega), rfl⟩)
      · go_wp2
        go_ret
        exact ⟨ret_bool (by unfold plainB; rw [hs.out]; simp; omega), rfl⟩
end Go.Proofs.YtaphblnelmncaaaDoor.PA
end

section
/- The reader's state in memory; the walks over next, add and character. -/
set_option linter.unusedVariables false
namespace Go.Proofs.YtaphblnelmncaaaDoor.PA
open Go.RowKit Go.Proofs.YtaphblnelmncaaaDoorW.PrintWords Go.Proofs.YtaphblnelmncaaaDoorW.PrintLast Go.Proofs.YtaphblnelmncaaaDoorW.PrintMore

/-- The reader that lies in block rb stands at st; what it has made lies in blocks from base on. -/
structure RS (base rb : Nat) (s : ByteArray) (st : St) (w : World) : Prop where
  ex : ∃ v : Value, Blk w rb 83 [.string s, .int .i64 st.pos, v, .bool st.wrong] ∧ Kd.R k50 50 w base (fun k => k ≠ rb) v st.out
  ge : base ≤ rb
  le : st.pos ≤ s.size
/-- The reader's bytes fit. -/
def Fit (s : ByteArray) : Prop := s.size ≤ 100000

theorem RS.pos {base rb : Nat} {s : ByteArray} {st : St} {w : World} (h : RS base rb s st w) (n : Nat) (hn : n ≤ s.size) : RS base rb s { st with pos := n } (w.setCell ⟨rb, 1, none⟩ (.int .i64 n)) := by
  obtain ⟨v, h1, h2⟩ := h.ex
  exact ⟨⟨v, h1.set 1 _, Kd.R_far h2 (fun k hk => hk) _⟩, h.ge, hn⟩
theorem RS.wrong {base rb : Nat} {s : ByteArray} {st : St} {w : World} (h : RS base rb s st w) (b : Bool) : RS base rb s (st.bad b) (w.setCell ⟨rb, 3, none⟩ (.bool b)) := by
  obtain ⟨v, h1, h2⟩ := h.ex
  exact ⟨⟨v, h1.set 3 _, Kd.R_far h2 (fun k hk => hk) _⟩, h.ge, h.le⟩
theorem RS.drewN {base rb : Nat} {s : ByteArray} {st : St} {w : World} (h : RS base rb s st w) (n : Nat) : RS base rb s st (w.drewN n) := by
  obtain ⟨v, h1, h2⟩ := h.ex
  exact ⟨⟨v, h1, Kd.R_drewN h2 n⟩, h.ge, h.le⟩
theorem RS.low {base rb : Nat} {s : ByteArray} {st : St} {w w0 : World} (h : RS base rb s st w) (u : Value) (i : Nat) (hb : Below base w0 w) : Below base w0 (w.setCell ⟨rb, i, none⟩ u) :=
  hb.trans ⟨rfl, rfl, rfl, by simp [World.setCell], fun k hk => Below.heap_setCell _ _ _ _ (by have := h.ge; simp; omega)⟩

set_option maxHeartbeats 1000000 in
theorem next_any (base rb : Nat) (s : ByteArray) (st : St) (b : Int) (w : World) (h : RS base rb s st w) (hf : Fit s) :
    Calls Tryd.prog 78 #[.pointer (some ⟨rb, 0, none⟩), .int .u8 b] w fun e w' => e = .returned (.bool (isNext s b st)) ∧ RS base rb s (pass s b st) w' ∧ Below base w w' := by
  obtain ⟨v, hB, hR⟩ := h.ex
  have hle := h.le
  have hge := h.ge
  have hlt := hB.lt
  unfold Fit at hf
  have c0 : w.cell? ⟨rb, 0, none⟩ = some (.string s) := hB.cell 0
  have c1 : w.cell? ⟨rb, 1, none⟩ = some (.int .i64 st.pos) := hB.cell 1
  have f1 : w.frozen? ⟨rb, 1, none⟩ = false := hB.frozen 1
  have H := Lib.hid h
  obtain ⟨q, hq⟩ : ∃ q, q = bt s st.pos := ⟨_, rfl⟩
  have hbt := bt_at s st.pos
  simp only [Int.toNat_natCast] at hbt
  rw [← hq] at hbt
  have HQ := Lib.hid hq
  by_cases hp : st.pos < s.size
  · have hbn := hbt hp
    have hpI : (st.pos : Int) < (s.size : Int) := by omega
    have hd : decide ((st.pos : Int) < (s.size : Int)) = true := by simp; omega
    by_cases he : q = b
    · subst he
      have HN : Hid (isNext s q st = true) := Lib.hid (by unfold isNext; rw [← HQ.out]; simp [hp])
      have HP : Hid (pass s q st = { st with pos := st.pos + 1 }) := Lib.hid (by unfold pass; rw [if_pos HN.out])
      clear hB hR h hbt hq
      go_enter Tryd.func78, Tryd.ntmps78
      go_wp2_with fail
      go_quiet (fail)
      go_wp2
      go_ret
      refine ⟨ret_bool HN.out.symm, ?_, (H.out.drewN nq).low _ _ (pw_below_drewN (Below.refl _ _) _)⟩
      rw [HP.out]
      have := (H.out.drewN nq).pos (st.pos + 1) (by omega)
      simpa using this
    · have HN : Hid (isNext s b st = false) := Lib.hid (by unfold isNext; rw [← HQ.out]; simp [he])
      have HP : Hid (pass s b st = st) := Lib.hid (by unfold pass; rw [if_neg (by simp [HN.out])])
      clear hB hR h hbt hq
      go_enter Tryd.func78, Tryd.ntmps78
      go_wp2_with fail
      go_quiet (fail)
      go_wp2
      go_ret
      refine ⟨ret_bool HN.out.symm, ?_, ?_⟩
      · rw [HP.out]; exact H.out.drewN _
      · exact pw_below_drewN (Below.refl _ _) _
  · have hd : decide ((st.pos : Int) < (s.size : Int)) = false := by simp; omega
    have HN : Hid (isNext s b st = false) := Lib.hid (by unfold isNext; simp [hp])
    have HP : Hid (pass s b st = st) := Lib.hid (by unfold pass; rw [if_neg (by simp [HN.out])])
    clear hB hR h hbt hq
    go_enter Tryd.func78, Tryd.ntmps78
    go_wp2_with fail
    go_quiet (fail)
    go_wp2
    go_ret
    refine ⟨ret_bool HN.out.symm, ?_, ?_⟩
    · rw [HP.out]; exact H.out.drewN _
    · exact pw_below_drewN (Below.refl _ _) _

/-- append of one node to the reader's nodes, as a step of a region. -/
theorem app_step {ops : Array Oper} {o : Oper} {a : Act} {Q : Exit → Act → World → Prop} {Kc : Act → World → Prop} (base rb : Nat) (w0 W Wg : World) (v : Value) (xs : List S50) (x : S50) (cs : List Value) (sl vl : Operand)
    (hW : Wg = W.alloc (.cells #[.int .i64 x.f0, .int .i64 x.f1, .int .i64 x.f2, .int .i64 x.f3, .int .i64 x.f4] 50)) (hg : o.guard = none) (ho : o.op = .call { callee := .builtin .append, args := #[sl, vl], argTypes := #[25, 25] })
    (hs : a.eval sl = v) (hx : a.eval vl = .slice (some ⟨W.heap.size, 0, none⟩) 1 1)
    (HR : Kd.R k50 50 W base (fun k => k ≠ rb) v xs) (HK : Blk W rb 83 cs) (hge : base ≤ rb) (HB : Below base w0 W) (hl : xs.length ≤ 1000000)
    (h : ∀ A c w1, Hid (Kd.R k50 50 w1 base (fun k => k ≠ rb) (.slice A (xs.length + 1) c) (xs ++ [x])) → Hid (Blk w1 rb 83 cs) → Hid (Below base w0 w1) → Kc (a.put o.dst (.slice A (xs.length + 1) c)) w1) :
    if Region.wanted o (yielded ops a.tmps) = true then Oper.wp Tryd.prog o a Wg Kc Q else Kc (a.put o.dst undef) Wg := by
  subst hW
  have hw : Region.wanted o (yielded ops a.tmps) = true := by simp [Region.wanted, hg]
  have hlt := HK.lt
  refine Kd.R_append_step (P := Tryd.prog) k50 (w0 := w0) base hw sl vl 25 50 (.agg #[(.int .i64 0), (.int .i64 0), (.int .i64 0), (.int .i64 0), (.int .i64 0)]) 40 ho Tryd.underlying25 info50 rfl (by decide) (by omega) v xs x [.int .i64 x.f0, .int .i64 x.f1, .int .i64 x.f2, .int .i64 x.f3, .int .i64 x.f4] (fun k => k ≠ rb) (fun _ => False) hs hx (k50_mkM _ _ _ x) (fun _ hk => hk.elim) (fun k hk => by omega) HR HB (by omega) (by omega) ?_
  intro v1 w1 hR1 hB1 hG1 hat
  obtain ⟨A, c, rfl⟩ := Kd.R_slice hR1
  simp only [List.length_append, List.length_cons, List.length_nil, Nat.zero_add] at hR1 ⊢
  refine h A c w1 (Lib.hid hR1) (Lib.hid ?_) (Lib.hid hB1)
  exact (hG1.block rb hlt (fun e => HR.1 rb e.symm rfl)).trans HK

theorem RS.push {base rb c : Nat} {A : Option Addr} {s : ByteArray} {st : St} {w w1 w0 : World} {v : Value} {x : S50} (h : RS base rb s st w) (hR : Kd.R k50 50 w1 base (fun k => k ≠ rb) (.slice A (st.out.length + 1) c) (st.out ++ [x])) (hB : Blk w1 rb 83 [.string s, .int .i64 st.pos, v, .bool st.wrong]) (hL : Below base w0 w1) :
    RS base rb s (st.add x) (w1.setCell ⟨rb, 2, none⟩ (.slice A (st.out.length + 1) c)) ∧ Below base w0 (w1.setCell ⟨rb, 2, none⟩ (.slice A (st.out.length + 1) c)) :=
  ⟨⟨⟨_, hB.set 2 _, Kd.R_far hR (fun k hk => hk) _⟩, h.ge, h.le⟩, hL.trans ⟨rfl, rfl, rfl, by simp [World.setCell], fun k hk => Below.heap_setCell _ _ _ _ (by have := h.ge; simp; omega)⟩⟩
set_option maxHeartbeats 1000000 in
theorem radd_any (base rb : Nat) (s : ByteArray) (st : St) (x : S50) (w : World) (h : RS base rb s st w) (hl : st.out.length ≤ 1000000) :
    Calls Tryd.prog 79 #[.pointer (some ⟨rb, 0, none⟩), .agg #[.int .i64 x.f0, .int .i64 x.f1, .int .i64 x.f2, .int .i64 x.f3, .int .i64 x.f4]] w fun e w' => e = .returned (.int .i64 st.out.length) ∧ RS base rb s (st.add x) w' ∧ Below base w w' := by
  obtain ⟨v, hB, hR⟩ := h.ex
  have hge := h.ge
  have hlt := hB.lt
  have c2 : w.cell? ⟨rb, 2, none⟩ = some v := hB.cell 2
  have f2 : w.frozen? ⟨rb, 2, none⟩ = false := hB.frozen 2
  have HB := Lib.hid hB
  have HR := Lib.hid hR
  have H := Lib.hid h
  have hlt1 : rb < w.heap.size + 1 := by omega
  have hlt2 : rb < w.heap.size + 1 + 1 := by omega
  clear hB hR h
  go_enter Tryd.func79, Tryd.ntmps79
  go_wp2
  go_region_law (refine app_step base rb w (w.alloc (.cells #[.int .i64 x.f0, .int .i64 x.f1, .int .i64 x.f2, .int .i64 x.f3, .int .i64 x.f4] 50)).drew _ v st.out x [.string s, .int .i64 st.pos, v, .bool st.wrong] (.tmp 9) (.tmp 11) (by rfl) (by rfl) (by rfl) (by rfl) (by simp [Act.eval, Act.put]) ?a1 ?a2 hge ?a3 hl ?_; (case a1 => exact Kd.R_drew (Kd.R_alloc HR.out _)); (case a2 => exact (HB.out.alloc _).drew); (case a3 => exact below_drew1 (Below.alloc (Below.refl _ _) (by omega) _)); intro A c w1 hR1 hB1 hL1; have k2 : w1.cell? ⟨rb, 2, none⟩ = some v := hB1.out.cell 2; have kf : w1.frozen? ⟨rb, 2, none⟩ = false := hB1.out.frozen 2)
  all_goals (
    have hlen : IntKind.i64.wrap ((st.out.length : Int) + 1 - 1) = (st.out.length : Int) := by
      rw [show ((st.out.length : Int) + 1 - 1) = (st.out.length : Int) by omega]; exact IntWalk.i64_in _ (by omega)
    go_wp2
    go_ret
    exact ⟨ret_int (by simp), H.out.push hR1.out hB1.out hL1.out⟩)
end Go.Proofs.YtaphblnelmncaaaDoor.PA
end

section
/- The walk over the reader's character. -/
set_option linter.unusedVariables false
namespace Go.Proofs.YtaphblnelmncaaaDoor.PA
open Go.RowKit Go.Proofs.YtaphblnelmncaaaDoorW.PrintWords Go.Proofs.YtaphblnelmncaaaDoorW.PrintLast Go.Proofs.YtaphblnelmncaaaDoorW.PrintMore

/-- What a call of the reader leaves: the state st', nothing below base touched. -/
def RPost (base rb : Nat) (s : ByteArray) (w : World) (r : Int × St) (e : Ending) (w' : World) : Prop := e = .returned (.int .i64 r.1) ∧ RS base rb s r.2 w' ∧ Below base w w'

/-- Behind '\\x', two bytes being left. -/
def charHex (s : ByteArray) (st : St) : Int × St :=
  if 0 ≤ hexV (bt s st.pos) ∧ 0 ≤ hexV (bt s (st.pos + 1)) then (16 * hexV (bt s st.pos) + hexV (bt s (st.pos + 1)), { st with pos := st.pos + 2 })
  else (0, { st with pos := st.pos + 2, wrong := true })
theorem pass_le (s : ByteArray) (b : Int) (st : St) (h : st.pos ≤ s.size) : (pass s b st).pos ≤ s.size := by
  unfold pass isNext
  split
  · rename_i h; simp at h; show st.pos + 1 ≤ s.size; omega
  · exact h

theorem charF_plain {s : ByteArray} {st : St} (h : st.pos < s.size) (hp : plainB (bt s st.pos) = true) : charF s st = (bt s st.pos, { st with pos := st.pos + 1 }) := by
  unfold charF; rw [if_pos ⟨h, hp⟩]

theorem plain_q (b : Int) (t : Bool) (w : World) (h0 : 0 ≤ b) (h1 : b ≤ 255) (ht : Hid (plainB b = t)) : Calls Tryd.prog 74 #[.int .u8 b] w fun e w' => e = .returned (.bool t) ∧ ∃ n, w' = w.drewN n := by
  refine (plain_any b w h0 h1).mono ?_
  rintro e w' ⟨rfl, rfl⟩
  exact ⟨ret_bool ht.out, 0, rfl⟩
theorem hex_q (b x : Int) (w : World) (h0 : 0 ≤ b) (h1 : b ≤ 255) (ht : Hid (hexV b = x)) : Calls Tryd.prog 95 #[.int .u8 b] w fun e w' => e = .returned (.int .i64 x) ∧ ∃ n, w' = w.drewN n := by
  refine (hex_any b w h0 h1).mono ?_
  rintro e w' ⟨rfl, rfl⟩
  exact ⟨ret_int ht.out, 0, rfl⟩

theorem RS.drew {base rb : Nat} {s : ByteArray} {st : St} {w : World} (h : RS base rb s st w) : RS base rb s st w.drew := h.drewN 1
theorem RS.moved {base rb : Nat} {s : ByteArray} {st : St} {w w0 : World} (h : RS base rb s st w) (n m k : Nat) (z : Int) (hz : z = k) (hk : k ≤ s.size) (hb : Below base w0 w) :
    RS base rb s { st with pos := k } (((w.drewN n).setCell ⟨rb, 1, none⟩ (.int .i64 z)).drewN m) ∧ Below base w0 (((w.drewN n).setCell ⟨rb, 1, none⟩ (.int .i64 z)).drewN m) := by
  subst hz
  exact ⟨((h.drewN n).pos k hk).drewN m, pw_below_drewN ((h.drewN n).low _ _ (pw_below_drewN hb n)) m⟩
theorem next_r (base rb : Nat) (s : ByteArray) (st : St) (b : Int) (t : Bool) (w : World) (h : RS base rb s st w) (hf : Fit s) (hN : Hid (isNext s b st = t)) :
    Calls Tryd.prog 78 #[.pointer (some ⟨rb, 0, none⟩), .int .u8 b] w fun e w' => e = .returned (.bool t) ∧ RS base rb s (pass s b st) w' ∧ Below base w w' := by
  refine (next_any base rb s st b w h hf).mono ?_
  rintro e w' ⟨rfl, g⟩
  exact ⟨ret_bool hN.out, g⟩

theorem pass_no {s : ByteArray} {b : Int} {st : St} (h : isNext s b st = false) : pass s b st = st := by unfold pass; rw [if_neg (by simp [h])]
theorem hexV_range (b : Int) : -1 ≤ hexV b ∧ hexV b ≤ 15 := by unfold hexV; split; omega; split <;> omega
set_option maxHeartbeats 2000000 in
set_option maxRecDepth 100000 in
theorem char_any (base rb : Nat) (s : ByteArray) (st : St) (w : World) (h : RS base rb s st w) (hf : Fit s) :
    Calls Tryd.prog 93 #[.pointer (some ⟨rb, 0, none⟩)] w (RPost base rb s w (charF s st)) := by
  obtain ⟨v, hB, hR⟩ := h.ex
  have hle := h.le
  have hge := h.ge
  have hlt := hB.lt
  have hf' := hf
  unfold Fit at hf'
  have c0 : w.cell? ⟨rb, 0, none⟩ = some (.string s) := hB.cell 0
  have c1 : w.cell? ⟨rb, 1, none⟩ = some (.int .i64 st.pos) := hB.cell 1
  have f1 : w.frozen? ⟨rb, 1, none⟩ = false := hB.frozen 1
  have H := Lib.hid h
  obtain ⟨q, hq⟩ : ∃ q, q = bt s st.pos := ⟨_, rfl⟩
  have hbt := bt_at s st.pos
  have hbr := bt_range s st.pos
  simp only [Int.toNat_natCast] at hbt
  rw [← hq] at hbt hbr
  obtain ⟨hb0, hb1⟩ := hbr
  by_cases hA : st.pos < s.size ∧ plainB q = true
  · obtain ⟨hp, hpl⟩ := hA
    have hbn := hbt hp
    have hpI : (st.pos : Int) < (s.size : Int) := by omega
    have hd : decide ((st.pos : Int) < (s.size : Int)) = true := by simp; omega
    have HE : Hid (charF s st = (q, { st with pos := st.pos + 1 })) := Lib.hid (by rw [hq]; exact charF_plain hp (by rw [← hq]; exact hpl))
    rw [HE.out]
    have HQ := Lib.hid hq
    have HP := Lib.hid hpl
    clear hB hR h hbt hq hpl
    go_enter Tryd.func93, Tryd.ntmps93
    go_wp2_with fail
    have hw1 : IntKind.i64.wrap ((st.pos : Int) + 1) = (st.pos : Int) + 1 := IntWalk.i64_in _ (by omega)
    have hw2 : IntKind.i64.wrap ((st.pos : Int) + 1 - 1) = (st.pos : Int) := by
      rw [show ((st.pos : Int) + 1 - 1) = (st.pos : Int) by omega]; exact IntWalk.i64_in _ (by omega)
    go_quiet (first | (go_at_call 74; refine Calls.quiet_of (plain_q q true _ hb0 hb1 HP)) | fail)
    go_wp2_with fail
    go_quiet (fail)
    go_wp2
    go_ret
    exact ⟨rfl, H.out.moved _ _ (st.pos + 1) _ (by omega) (by omega) (Below.refl _ _)⟩
  · have HA := Lib.hid hA
    have HQ := Lib.hid hq
    obtain ⟨r, hr⟩ : ∃ r, r = charF s st := ⟨_, rfl⟩
    rw [← hr]
    have HR := Lib.hid hr
    clear hB hR h hq hA hr
    go_enter Tryd.func93, Tryd.ntmps93
    go_wp2_with fail
    go_cut [26] (fun t wc => t = .bool false ∧ Hid (RS base rb s st wc) ∧ Hid (Below base w wc))
    case first =>
      by_cases hp : st.pos < s.size
      · have hbn := hbt hp
        have hpI : (st.pos : Int) < (s.size : Int) := by omega
        have hd : decide ((st.pos : Int) < (s.size : Int)) = true := by simp; omega
        have HP : Hid (plainB q = false) := Lib.hid (by
          have := HA.out
          cases hx : plainB q
          · rfl
          · exact absurd ⟨hp, hx⟩ this)
        clear hbt
        go_quiet (first | (go_at_call 74; refine Calls.quiet_of (plain_q q false _ hb0 hb1 HP)) | fail)
        go_wp2_with fail
        go_meet
        exact ⟨rfl, Lib.hid (H.out.drewN _), Lib.hid (pw_below_drewN (Below.refl _ _) _)⟩
      · have hd : decide ((st.pos : Int) < (s.size : Int)) = false := by simp; omega
        clear hbt
        go_quiet (fail)
        go_wp2_with fail
        go_meet
        exact ⟨rfl, Lib.hid (H.out.drewN _), Lib.hid (pw_below_drewN (Below.refl _ _) _)⟩
    case rest =>
      obtain ⟨rfl, hR0, hL0⟩ := hcut
      go_upto_region 4 with (fail)
      go_cut [63] (fun t wd => ∃ (tb : Bool) (st2 : St), t = .bool tb ∧ Hid (RS base rb s st2 wd) ∧ Hid (Below base w wd) ∧ Hid (tb = false → r = (0, st2.bad true)) ∧ Hid (tb = true → st2.pos + 1 < s.size ∧ r = charHex s st2))
      case first =>
        by_cases n1 : isNext s 92 st = true
        · have N1 : Hid (isNext s 92 st = true) := Lib.hid n1
          by_cases n2 : isNext s 120 (pass s 92 st) = true
          · have N2 : Hid (isNext s 120 (pass s 92 st) = true) := Lib.hid n2
            obtain ⟨z, hz0⟩ : ∃ z, z = (pass s 120 (pass s 92 st)).pos := ⟨_, rfl⟩
            have HZ : Hid ((pass s 120 (pass s 92 st)).pos = z) := Lib.hid hz0.symm
            have hzl : z ≤ s.size := by rw [hz0]; exact pass_le s 120 (pass s 92 st) (pass_le s 92 st hle)
            have hzw : IntKind.i64.wrap ((z : Int) + 1) = (z : Int) + 1 := IntWalk.i64_in _ (by omega)
            by_cases hz : z + 1 < s.size
            · have hzb : decide ((z : Int) + 1 < (s.size : Int)) = true := by simp; omega
              have HE : Hid (r = charHex s (pass s 120 (pass s 92 st))) := Lib.hid (by
                rw [HR.out]; unfold charF charHex
                rw [if_neg (by rw [← HQ.out]; exact HA.out), if_pos n1, if_pos n2, if_pos (by rw [← hz0]; exact hz)])
              clear n1 n2 hbt c0 c1 f1 hz0
              refine region_rule (ε := Unit) 19 [0, 1, 3, 7, 15, 31, 63, 127, 255, 511, 1023, 2047, 127, 4223, 12415, 28799, 61567, 131071, 262143] [1, 4] [some 45, some 46, some 47, some 48, some 49, some 50, some 51, some 52, some 53, some 54, some 55, some 56, some 57, some 58, some 59, some 60, some 61, some 62, some 63] (fun _ => [(.pointer (some ⟨rb, 0, none⟩)), (.bool true), (.bool true), (.pointer (some ⟨rb, 0, none⟩)), (.bool true), (.bool true), (.bool true), (.pointer (some ⟨rb, 0, none⟩)), (.pointer (some ⟨rb, 0, none⟩)), (.pointer (some ⟨rb, 1, none⟩)), (.int .i64 (z : Int)), (.int .i64 ((z : Int) + 1)), (.pointer (some ⟨rb, 0, none⟩)), (.pointer (some ⟨rb, 0, none⟩)), (.pointer (some ⟨rb, 0, none⟩)), (.string s), (.int .i64 (s.size : Int)), (.bool true), (.bool true)]) (fun k _ wd => match k with | 0 => Hid (RS base rb s st wd) ∧ Hid (Below base w wd) | 1 => Hid (RS base rb s (pass s 92 st) wd) ∧ Hid (Below base w wd) | _ => Hid (RS base rb s (pass s 120 (pass s 92 st)) wd) ∧ Hid (Below base w wd)) 105 () (by kernel_rfl) rfl rfl (by kernel_rfl) rfl (by decide) (by kernel_rfl) ?h0 (AllOb.lt ?hob) ?hend
              case hob =>
                refine ⟨⟨⟨⟨⟨⟨⟨⟨⟨⟨⟨⟨⟨⟨⟨⟨⟨⟨⟨trivial, ?_⟩, ?_⟩, ?_⟩, ?_⟩, ?_⟩, ?_⟩, ?_⟩, ?_⟩, ?_⟩, ?_⟩, ?_⟩, ?_⟩, ?_⟩, ?_⟩, ?_⟩, ?_⟩, ?_⟩, ?_⟩, ?_⟩
                · exact ob_move _ _ _ rfl rfl (fun _ => rfl) (fun _ => by kernel_rfl)
                · exact ob_call _ _ (f := 78) Tryd.func78 rfl rfl (fun _ => #[(.pointer (some ⟨rb, 0, none⟩)), .int .u8 92]) rfl rfl (fun _ => rfl) (fun _ => by kernel_rfl) (fun k _ w1 h1 h2 h3 => by
                    obtain rfl : k = 0 := by have h1 : 0 ≤ k := h1; have h2 : k ≤ 0 := h2; omega
                    have h3 : Hid (RS base rb s st w1) ∧ Hid (Below base w w1) := h3
                    refine (next_r base rb s st 92 true w1 h3.1.out hf N1).mono ?_
                    rintro e w2 ⟨rfl, g1, g2⟩
                    exact ⟨(), rfl, ⟨Lib.hid g1, Lib.hid (h3.2.out.trans g2)⟩, fun j _ _ => rfl⟩)
                · exact ob_move _ _ _ rfl rfl (fun _ => rfl) (fun _ => by kernel_rfl)
                · exact ob_move _ _ _ rfl rfl (fun _ => rfl) (fun _ => by kernel_rfl)
                · exact ob_call _ _ (f := 78) Tryd.func78 rfl rfl (fun _ => #[(.pointer (some ⟨rb, 0, none⟩)), .int .u8 120]) rfl rfl (fun _ => rfl) (fun _ => by kernel_rfl) (fun k _ w1 h1 h2 h3 => by
                    obtain rfl : k = 1 := by have h1 : 1 ≤ k := h1; have h2 : k ≤ 1 := h2; omega
                    have h3 : Hid (RS base rb s (pass s 92 st) w1) ∧ Hid (Below base w w1) := h3
                    refine (next_r base rb s (pass s 92 st) 120 true w1 h3.1.out hf N2).mono ?_
                    rintro e w2 ⟨rfl, g1, g2⟩
                    exact ⟨(), rfl, ⟨Lib.hid g1, Lib.hid (h3.2.out.trans g2)⟩, fun j _ _ => rfl⟩)
                · exact ob_pick _ _ _ _ true _ rfl rfl (fun _ => rfl) (fun _ => by kernel_rfl) (fun _ => by kernel_rfl)
                · exact ob_move _ _ _ rfl rfl (fun _ => rfl) (fun _ => by kernel_rfl)
                · exact ob_move _ _ _ rfl rfl (fun _ => rfl) (fun _ => by kernel_rfl)
                · exact ob_val _ _ _ rfl rfl (fun _ => rfl) (fun _ => x_nil (by kernel_rfl))
                · exact ob_val _ _ _ rfl rfl (fun _ => rfl) (fun _ => x_f1 (by kernel_rfl))
                · exact ob_read _ _ _ rfl rfl (fun _ => rfl) (fun k _ w1 h1 h2 h3 => by
                    obtain rfl : k = 2 := by have h1 : 2 ≤ k := h1; have h2 : k ≤ 2 := h2; omega
                    have h3 : Hid (RS base rb s (pass s 120 (pass s 92 st)) w1) ∧ Hid (Below base w w1) := h3
                    exact x_load3 (by kernel_rfl) w1 (by obtain ⟨v, hB, _⟩ := h3.1.out.ex; rw [← HZ.out]; exact hB.cell 1))
                · exact ob_val _ _ _ rfl rfl (fun _ => rfl) (fun _ => x_add1 (by kernel_rfl) rfl hzw)
                · exact ob_move _ _ _ rfl rfl (fun _ => rfl) (fun _ => by kernel_rfl)
                · exact ob_val _ _ _ rfl rfl (fun _ => rfl) (fun _ => x_nil (by kernel_rfl))
                · exact ob_val _ _ _ rfl rfl (fun _ => rfl) (fun _ => x_f0 (by kernel_rfl))
                · exact ob_read _ _ _ rfl rfl (fun _ => rfl) (fun k _ w1 h1 h2 h3 => by
                    obtain rfl : k = 2 := by have h1 : 2 ≤ k := h1; have h2 : k ≤ 2 := h2; omega
                    have h3 : Hid (RS base rb s (pass s 120 (pass s 92 st)) w1) ∧ Hid (Below base w w1) := h3
                    exact x_load9 (by kernel_rfl) w1 (by obtain ⟨v, hB, _⟩ := h3.1.out.ex; exact hB.cell 0))
                · exact ob_val _ _ _ rfl rfl (fun _ => rfl) (fun _ => x_len9 (by kernel_rfl))
                · exact ob_val _ _ _ rfl rfl (fun _ => rfl) (fun _ => x_lss (by kernel_rfl) (by kernel_rfl) hzb)
                · exact ob_pick _ _ _ _ true _ rfl rfl (fun _ => rfl) (fun _ => by kernel_rfl) (fun _ => by kernel_rfl)
              case h0 => exact ⟨Lib.hid hR0.out.drew, Lib.hid (below_drew1 hL0.out)⟩
              case hend =>
                intro _ wd hW
                have hW : Hid (RS base rb s (pass s 120 (pass s 92 st)) wd) ∧ Hid (Below base w wd) := hW
                simp only [putsL, List.tail_cons, List.headD_cons, Act.put, List.setIfInBounds_toArray, List.set_cons_zero, List.set_cons_succ]
                go_wp2_with fail
                go_meet
                refine ⟨true, _, rfl, hW.1, hW.2, ?_, ?_⟩
                · exact Lib.hid (fun h => by cases h)
                · exact Lib.hid (fun _ => ⟨by rw [HZ.out]; exact hz, HE.out⟩)
            · have hzb : decide ((z : Int) + 1 < (s.size : Int)) = false := by simp; omega
              have HE : Hid (r = (0, (pass s 120 (pass s 92 st)).bad true)) := Lib.hid (by
                rw [HR.out]; unfold charF
                rw [if_neg (by rw [← HQ.out]; exact HA.out), if_pos n1, if_pos n2, if_neg (by rw [← hz0]; exact hz)])
              clear n1 n2 hbt c0 c1 f1 hz0
              refine region_rule (ε := Unit) 19 [0, 1, 3, 7, 15, 31, 63, 127, 255, 511, 1023, 2047, 127, 4223, 12415, 28799, 61567, 131071, 262143] [1, 4] [some 45, some 46, some 47, some 48, some 49, some 50, some 51, some 52, some 53, some 54, some 55, some 56, some 57, some 58, some 59, some 60, some 61, some 62, some 63] (fun _ => [(.pointer (some ⟨rb, 0, none⟩)), (.bool true), (.bool true), (.pointer (some ⟨rb, 0, none⟩)), (.bool true), (.bool true), (.bool true), (.pointer (some ⟨rb, 0, none⟩)), (.pointer (some ⟨rb, 0, none⟩)), (.pointer (some ⟨rb, 1, none⟩)), (.int .i64 (z : Int)), (.int .i64 ((z : Int) + 1)), (.pointer (some ⟨rb, 0, none⟩)), (.pointer (some ⟨rb, 0, none⟩)), (.pointer (some ⟨rb, 0, none⟩)), (.string s), (.int .i64 (s.size : Int)), (.bool false), (.bool false)]) (fun k _ wd => match k with | 0 => Hid (RS base rb s st wd) ∧ Hid (Below base w wd) | 1 => Hid (RS base rb s (pass s 92 st) wd) ∧ Hid (Below base w wd) | _ => Hid (RS base rb s (pass s 120 (pass s 92 st)) wd) ∧ Hid (Below base w wd)) 105 () (by kernel_rfl) rfl rfl (by kernel_rfl) rfl (by decide) (by kernel_rfl) ?h0 (AllOb.lt ?hob) ?hend
              case hob =>
                refine ⟨⟨⟨⟨⟨⟨⟨⟨⟨⟨⟨⟨⟨⟨⟨⟨⟨⟨⟨trivial, ?_⟩, ?_⟩, ?_⟩, ?_⟩, ?_⟩, ?_⟩, ?_⟩, ?_⟩, ?_⟩, ?_⟩, ?_⟩, ?_⟩, ?_⟩, ?_⟩, ?_⟩, ?_⟩, ?_⟩, ?_⟩, ?_⟩
                · exact ob_move _ _ _ rfl rfl (fun _ => rfl) (fun _ => by kernel_rfl)
                · exact ob_call _ _ (f := 78) Tryd.func78 rfl rfl (fun _ => #[(.pointer (some ⟨rb, 0, none⟩)), .int .u8 92]) rfl rfl (fun _ => rfl) (fun _ => by kernel_rfl) (fun k _ w1 h1 h2 h3 => by
                    obtain rfl : k = 0 := by have h1 : 0 ≤ k := h1; have h2 : k ≤ 0 := h2; omega
                    have h3 : Hid (RS base rb s st w1) ∧ Hid (Below base w w1) := h3
                    refine (next_r base rb s st 92 true w1 h3.1.out hf N1).mono ?_
                    rintro e w2 ⟨rfl, g1, g2⟩
                    exact ⟨(), rfl, ⟨Lib.hid g1, Lib.hid (h3.2.out.trans g2)⟩, fun j _ _ => rfl⟩)
                · exact ob_move _ _ _ rfl rfl (fun _ => rfl) (fun _ => by kernel_rfl)
                · exact ob_move _ _ _ rfl rfl (fun _ => rfl) (fun _ => by kernel_rfl)
                · exact ob_call _ _ (f := 78) Tryd.func78 rfl rfl (fun _ => #[(.pointer (some ⟨rb, 0, none⟩)), .int .u8 120]) rfl rfl (fun _ => rfl) (fun _ => by kernel_rfl) (fun k _ w1 h1 h2 h3 => by
                    obtain rfl : k = 1 := by have h1 : 1 ≤ k := h1; have h2 : k ≤ 1 := h2; omega
                    have h3 : Hid (RS base rb s (pass s 92 st) w1) ∧ Hid (Below base w w1) := h3
                    refine (next_r base rb s (pass s 92 st) 120 true w1 h3.1.out hf N2).mono ?_
                    rintro e w2 ⟨rfl, g1, g2⟩
                    exact ⟨(), rfl, ⟨Lib.hid g1, Lib.hid (h3.2.out.trans g2)⟩, fun j _ _ => rfl⟩)
                · exact ob_pick _ _ _ _ true _ rfl rfl (fun _ => rfl) (fun _ => by kernel_rfl) (fun _ => by kernel_rfl)
                · exact ob_move _ _ _ rfl rfl (fun _ => rfl) (fun _ => by kernel_rfl)
                · exact ob_move _ _ _ rfl rfl (fun _ => rfl) (fun _ => by kernel_rfl)
                · exact ob_val _ _ _ rfl rfl (fun _ => rfl) (fun _ => x_nil (by kernel_rfl))
                · exact ob_val _ _ _ rfl rfl (fun _ => rfl) (fun _ => x_f1 (by kernel_rfl))
                · exact ob_read _ _ _ rfl rfl (fun _ => rfl) (fun k _ w1 h1 h2 h3 => by
                    obtain rfl : k = 2 := by have h1 : 2 ≤ k := h1; have h2 : k ≤ 2 := h2; omega
                    have h3 : Hid (RS base rb s (pass s 120 (pass s 92 st)) w1) ∧ Hid (Below base w w1) := h3
                    exact x_load3 (by kernel_rfl) w1 (by obtain ⟨v, hB, _⟩ := h3.1.out.ex; rw [← HZ.out]; exact hB.cell 1))
                · exact ob_val _ _ _ rfl rfl (fun _ => rfl) (fun _ => x_add1 (by kernel_rfl) rfl hzw)
                · exact ob_move _ _ _ rfl rfl (fun _ => rfl) (fun _ => by kernel_rfl)
                · exact ob_val _ _ _ rfl rfl (fun _ => rfl) (fun _ => x_nil (by kernel_rfl))
                · exact ob_val _ _ _ rfl rfl (fun _ => rfl) (fun _ => x_f0 (by kernel_rfl))
                · exact ob_read _ _ _ rfl rfl (fun _ => rfl) (fun k _ w1 h1 h2 h3 => by
                    obtain rfl : k = 2 := by have h1 : 2 ≤ k := h1; have h2 : k ≤ 2 := h2; omega
                    have h3 : Hid (RS base rb s (pass s 120 (pass s 92 st)) w1) ∧ Hid (Below base w w1) := h3
                    exact x_load9 (by kernel_rfl) w1 (by obtain ⟨v, hB, _⟩ := h3.1.out.ex; exact hB.cell 0))
                · exact ob_val _ _ _ rfl rfl (fun _ => rfl) (fun _ => x_len9 (by kernel_rfl))
                · exact ob_val _ _ _ rfl rfl (fun _ => rfl) (fun _ => x_lss (by kernel_rfl) (by kernel_rfl) hzb)
                · exact ob_pick _ _ _ _ true _ rfl rfl (fun _ => rfl) (fun _ => by kernel_rfl) (fun _ => by kernel_rfl)
              case h0 => exact ⟨Lib.hid hR0.out.drew, Lib.hid (below_drew1 hL0.out)⟩
              case hend =>
                intro _ wd hW
                have hW : Hid (RS base rb s (pass s 120 (pass s 92 st)) wd) ∧ Hid (Below base w wd) := hW
                simp only [putsL, List.tail_cons, List.headD_cons, Act.put, List.setIfInBounds_toArray, List.set_cons_zero, List.set_cons_succ]
                go_wp2_with fail
                go_meet
                refine ⟨false, _, rfl, hW.1, hW.2, ?_, ?_⟩
                · exact Lib.hid (fun _ => HE.out)
                · exact Lib.hid (fun h => by cases h)
          · have N2 : Hid (isNext s 120 (pass s 92 st) = false) := Lib.hid (by simpa using n2)
            have P2 : Hid (pass s 120 (pass s 92 st) = pass s 92 st) := Lib.hid (pass_no N2.out)
            have HE : Hid (r = (0, (pass s 120 (pass s 92 st)).bad true)) := Lib.hid (by
              rw [HR.out, P2.out]; unfold charF
              rw [if_neg (by rw [← HQ.out]; exact HA.out), if_pos n1, if_neg n2])
            clear n1 n2 hbt c0 c1 f1
            refine region_rule (ε := Unit) 19 [0, 1, 3, 7, 15, 31, 63, 127, 255, 511, 1023, 2047, 127, 4223, 12415, 28799, 61567, 131071, 262143] [1, 4] [some 45, some 46, some 47, some 48, some 49, some 50, some 51, some 52, some 53, some 54, some 55, some 56, some 57, some 58, some 59, some 60, some 61, some 62, some 63] (fun _ => [(.pointer (some ⟨rb, 0, none⟩)), (.bool true), (.bool true), (.pointer (some ⟨rb, 0, none⟩)), (.bool false), (.bool false), (.bool false), undef, undef, undef, undef, undef, undef, undef, undef, undef, undef, undef, (.bool false)]) (fun k _ wd => match k with | 0 => Hid (RS base rb s st wd) ∧ Hid (Below base w wd) | 1 => Hid (RS base rb s (pass s 92 st) wd) ∧ Hid (Below base w wd) | _ => Hid (RS base rb s (pass s 120 (pass s 92 st)) wd) ∧ Hid (Below base w wd)) 105 () (by kernel_rfl) rfl rfl (by kernel_rfl) rfl (by decide) (by kernel_rfl) ?h0 (AllOb.lt ?hob) ?hend
            case hob =>
              refine ⟨⟨⟨⟨⟨⟨⟨⟨⟨⟨⟨⟨⟨⟨⟨⟨⟨⟨⟨trivial, ?_⟩, ?_⟩, ?_⟩, ?_⟩, ?_⟩, ?_⟩, ?_⟩, ?_⟩, ?_⟩, ?_⟩, ?_⟩, ?_⟩, ?_⟩, ?_⟩, ?_⟩, ?_⟩, ?_⟩, ?_⟩, ?_⟩
              · exact ob_move _ _ _ rfl rfl (fun _ => rfl) (fun _ => by kernel_rfl)
              · exact ob_call _ _ (f := 78) Tryd.func78 rfl rfl (fun _ => #[(.pointer (some ⟨rb, 0, none⟩)), .int .u8 92]) rfl rfl (fun _ => rfl) (fun _ => by kernel_rfl) (fun k _ w1 h1 h2 h3 => by
                  obtain rfl : k = 0 := by have h1 : 0 ≤ k := h1; have h2 : k ≤ 0 := h2; omega
                  have h3 : Hid (RS base rb s st w1) ∧ Hid (Below base w w1) := h3
                  refine (next_r base rb s st 92 true w1 h3.1.out hf N1).mono ?_
                  rintro e w2 ⟨rfl, g1, g2⟩
                  exact ⟨(), rfl, ⟨Lib.hid g1, Lib.hid (h3.2.out.trans g2)⟩, fun j _ _ => rfl⟩)
              · exact ob_move _ _ _ rfl rfl (fun _ => rfl) (fun _ => by kernel_rfl)
              · exact ob_move _ _ _ rfl rfl (fun _ => rfl) (fun _ => by kernel_rfl)
              · exact ob_call _ _ (f := 78) Tryd.func78 rfl rfl (fun _ => #[(.pointer (some ⟨rb, 0, none⟩)), .int .u8 120]) rfl rfl (fun _ => rfl) (fun _ => by kernel_rfl) (fun k _ w1 h1 h2 h3 => by
                  obtain rfl : k = 1 := by have h1 : 1 ≤ k := h1; have h2 : k ≤ 1 := h2; omega
                  have h3 : Hid (RS base rb s (pass s 92 st) w1) ∧ Hid (Below base w w1) := h3
                  refine (next_r base rb s (pass s 92 st) 120 false w1 h3.1.out hf N2).mono ?_
                  rintro e w2 ⟨rfl, g1, g2⟩
                  exact ⟨(), rfl, ⟨Lib.hid g1, Lib.hid (h3.2.out.trans g2)⟩, fun j _ _ => rfl⟩)
              · exact ob_pick _ _ _ _ true _ rfl rfl (fun _ => rfl) (fun _ => by kernel_rfl) (fun _ => by kernel_rfl)
              · exact ob_move _ _ _ rfl rfl (fun _ => rfl) (fun _ => by kernel_rfl)
              · exact ob_skip _ _ _ rfl rfl (fun _ => rfl) (fun _ => rfl)
              · exact ob_skip _ _ _ rfl rfl (fun _ => rfl) (fun _ => rfl)
              · exact ob_skip _ _ _ rfl rfl (fun _ => rfl) (fun _ => rfl)
              · exact ob_skip _ _ _ rfl rfl (fun _ => rfl) (fun _ => rfl)
              · exact ob_skip _ _ _ rfl rfl (fun _ => rfl) (fun _ => rfl)
              · exact ob_skip _ _ _ rfl rfl (fun _ => rfl) (fun _ => rfl)
              · exact ob_skip _ _ _ rfl rfl (fun _ => rfl) (fun _ => rfl)
              · exact ob_skip _ _ _ rfl rfl (fun _ => rfl) (fun _ => rfl)
              · exact ob_skip _ _ _ rfl rfl (fun _ => rfl) (fun _ => rfl)
              · exact ob_skip _ _ _ rfl rfl (fun _ => rfl) (fun _ => rfl)
              · exact ob_skip _ _ _ rfl rfl (fun _ => rfl) (fun _ => rfl)
              · exact ob_pick _ _ _ _ false _ rfl rfl (fun _ => rfl) (fun _ => by kernel_rfl) (fun _ => by kernel_rfl)
            case h0 => exact ⟨Lib.hid hR0.out.drew, Lib.hid (below_drew1 hL0.out)⟩
            case hend =>
              intro _ wd hW
              have hW : Hid (RS base rb s (pass s 120 (pass s 92 st)) wd) ∧ Hid (Below base w wd) := hW
              simp only [putsL, List.tail_cons, List.headD_cons, Act.put, List.setIfInBounds_toArray, List.set_cons_zero, List.set_cons_succ]
              go_wp2_with fail
              go_meet
              refine ⟨false, _, rfl, hW.1, hW.2, ?_, ?_⟩
              · exact Lib.hid (fun _ => HE.out)
              · exact Lib.hid (fun h => by cases h)
        · have N1 : Hid (isNext s 92 st = false) := Lib.hid (by simpa using n1)
          have P1 : Hid (pass s 92 st = st) := Lib.hid (pass_no N1.out)
          have HE : Hid (r = (0, (pass s 92 st).bad true)) := Lib.hid (by
            rw [HR.out, P1.out]; unfold charF
            rw [if_neg (by rw [← HQ.out]; exact HA.out), if_neg n1])
          clear n1 hbt c0 c1 f1
          refine region_rule (ε := Unit) 19 [0, 1, 3, 7, 15, 31, 63, 127, 255, 511, 1023, 2047, 127, 4223, 12415, 28799, 61567, 131071, 262143] [1] [some 45, some 46, some 47, some 48, some 49, some 50, some 51, some 52, some 53, some 54, some 55, some 56, some 57, some 58, some 59, some 60, some 61, some 62, some 63] (fun _ => [(.pointer (some ⟨rb, 0, none⟩)), (.bool false), (.bool false), undef, undef, (.bool false), (.bool false), undef, undef, undef, undef, undef, undef, undef, undef, undef, undef, undef, (.bool false)]) (fun k _ wd => match k with | 0 => Hid (RS base rb s st wd) ∧ Hid (Below base w wd) | _ => Hid (RS base rb s (pass s 92 st) wd) ∧ Hid (Below base w wd)) 105 () (by kernel_rfl) rfl rfl (by kernel_rfl) rfl (by decide) (by kernel_rfl) ?h0 (AllOb.lt ?hob) ?hend
          case hob =>
            refine ⟨⟨⟨⟨⟨⟨⟨⟨⟨⟨⟨⟨⟨⟨⟨⟨⟨⟨⟨trivial, ?_⟩, ?_⟩, ?_⟩, ?_⟩, ?_⟩, ?_⟩, ?_⟩, ?_⟩, ?_⟩, ?_⟩, ?_⟩, ?_⟩, ?_⟩, ?_⟩, ?_⟩, ?_⟩, ?_⟩, ?_⟩, ?_⟩
            · exact ob_move _ _ _ rfl rfl (fun _ => rfl) (fun _ => by kernel_rfl)
            · exact ob_call _ _ (f := 78) Tryd.func78 rfl rfl (fun _ => #[(.pointer (some ⟨rb, 0, none⟩)), .int .u8 92]) rfl rfl (fun _ => rfl) (fun _ => by kernel_rfl) (fun k _ w1 h1 h2 h3 => by
                obtain rfl : k = 0 := by have h1 : 0 ≤ k := h1; have h2 : k ≤ 0 := h2; omega
                have h3 : Hid (RS base rb s st w1) ∧ Hid (Below base w w1) := h3
                refine (next_r base rb s st 92 false w1 h3.1.out hf N1).mono ?_
                rintro e w2 ⟨rfl, g1, g2⟩
                exact ⟨(), rfl, ⟨Lib.hid g1, Lib.hid (h3.2.out.trans g2)⟩, fun j _ _ => rfl⟩)
            · exact ob_move _ _ _ rfl rfl (fun _ => rfl) (fun _ => by kernel_rfl)
            · exact ob_skip _ _ _ rfl rfl (fun _ => rfl) (fun _ => rfl)
            · exact ob_skip _ _ _ rfl rfl (fun _ => rfl) (fun _ => rfl)
            · exact ob_pick _ _ _ _ false _ rfl rfl (fun _ => rfl) (fun _ => by kernel_rfl) (fun _ => by kernel_rfl)
            · exact ob_move _ _ _ rfl rfl (fun _ => rfl) (fun _ => by kernel_rfl)
            · exact ob_skip _ _ _ rfl rfl (fun _ => rfl) (fun _ => rfl)
            · exact ob_skip _ _ _ rfl rfl (fun _ => rfl) (fun _ => rfl)
            · exact ob_skip _ _ _ rfl rfl (fun _ => rfl) (fun _ => rfl)
            · exact ob_skip _ _ _ rfl rfl (fun _ => rfl) (fun _ => rfl)
            · exact ob_skip _ _ _ rfl rfl (fun _ => rfl) (fun _ => rfl)
            · exact ob_skip _ _ _ rfl rfl (fun _ => rfl) (fun _ => rfl)
            · exact ob_skip _ _ _ rfl rfl (fun _ => rfl) (fun _ => rfl)
            · exact ob_skip _ _ _ rfl rfl (fun _ => rfl) (fun _ => rfl)
            · exact ob_skip _ _ _ rfl rfl (fun _ => rfl) (fun _ => rfl)
            · exact ob_skip _ _ _ rfl rfl (fun _ => rfl) (fun _ => rfl)
            · exact ob_skip _ _ _ rfl rfl (fun _ => rfl) (fun _ => rfl)
            · exact ob_pick _ _ _ _ false _ rfl rfl (fun _ => rfl) (fun _ => by kernel_rfl) (fun _ => by kernel_rfl)
          case h0 => exact ⟨Lib.hid hR0.out.drew, Lib.hid (below_drew1 hL0.out)⟩
          case hend =>
            intro _ wd hW
            have hW : Hid (RS base rb s (pass s 92 st) wd) ∧ Hid (Below base w wd) := hW
            simp only [putsL, List.tail_cons, List.headD_cons, Act.put, List.setIfInBounds_toArray, List.set_cons_zero, List.set_cons_succ]
            go_wp2_with fail
            go_meet
            refine ⟨false, _, rfl, hW.1, hW.2, ?_, ?_⟩
            · exact Lib.hid (fun _ => HE.out)
            · exact Lib.hid (fun h => by cases h)
      case rest =>
        obtain ⟨tb, st2, rfl, hR2, hL2, HF, HT⟩ := hcut
        obtain ⟨v2, hB2, hR2'⟩ := hR2.out.ex
        have hlt2 := hB2.lt
        have d0 := (hB2.cell 0)
        have d1 := (hB2.cell 1)
        have d3 := (hB2.cell 3)
        have g1 := hB2.frozen 1
        have g3 := hB2.frozen 3
        simp only [List.getElem?_cons_zero, List.getElem?_cons_succ] at d0 d1 d3
        have HB2 := Lib.hid hB2
        clear hB2 hR2' hbt
        cases tb with
        | false =>
          have HF2 : Hid (r = (0, st2.bad true)) := Lib.hid (HF.out rfl)
          clear HF HT
          go_wp2
          go_ret
          rw [HF2.out]
          exact ⟨rfl, hR2.out.wrong true, hR2.out.low _ _ hL2.out⟩
        | true =>
          have hz := (HT.out rfl).1
          have hE : Hid (r = charHex s st2) := Lib.hid (HT.out rfl).2
          clear HF HT
          obtain ⟨p2, hp2⟩ : ∃ p2, p2 = st2.pos := ⟨_, rfl⟩
          rw [← hp2] at hz d1
          have HP2 := Lib.hid hp2
          clear hp2
          obtain ⟨q1, hq1⟩ : ∃ q, q = bt s p2 := ⟨_, rfl⟩
          obtain ⟨q2, hq2⟩ : ∃ q, q = bt s (p2 + 1) := ⟨_, rfl⟩
          have hb1 := bt_at s p2
          have hr1 := bt_range s p2
          have hb2 := bt_at s ((p2 + 1 : Nat) : Int)
          have hr2 := bt_range s ((p2 + 1 : Nat) : Int)
          have hq2' : q2 = bt s ((p2 + 1 : Nat) : Int) := hq2
          simp only [Int.toNat_natCast] at hb1 hb2
          rw [← hq1] at hb1 hr1
          rw [← hq2'] at hb2 hr2
          obtain ⟨hq10, hq11⟩ := hr1
          obtain ⟨hq20, hq21⟩ := hr2
          have hbn1 := hb1 (by omega)
          have hbn2 := hb2 (by omega)
          have hpI : (p2 : Int) < (s.size : Int) := by omega
          have hpI1 : (p2 : Int) + 1 < (s.size : Int) := by omega
          have hw1 : IntKind.i64.wrap ((p2 : Int) + 1) = (p2 : Int) + 1 := IntWalk.i64_in _ (by omega)
          have htn : ((p2 : Int) + 1).toNat = p2 + 1 := by omega
          obtain ⟨x1, hx1⟩ : ∃ x, x = hexV q1 := ⟨_, rfl⟩
          obtain ⟨x2, hx2⟩ : ∃ x, x = hexV q2 := ⟨_, rfl⟩
          have HX1 : Hid (hexV q1 = x1) := Lib.hid hx1.symm
          have HX2 : Hid (hexV q2 = x2) := Lib.hid hx2.symm
          have hv1 := hexV_range q1
          have hv2 := hexV_range q2
          rw [← hx1] at hv1
          rw [← hx2] at hv2
          have HE2 : Hid (charHex s st2 = if 0 ≤ x1 ∧ 0 ≤ x2 then (16 * x1 + x2, { st2 with pos := p2 + 2 }) else (0, { st2 with pos := p2 + 2, wrong := true })) := Lib.hid (by unfold charHex; rw [← HP2.out, ← hq1, ← hq2, ← hx1, ← hx2])
          clear hq1 hq2 hq2' hb1 hb2 hx1 hx2
          by_cases hok : 0 ≤ x1 ∧ 0 ≤ x2
          · obtain ⟨ho1, ho2⟩ := hok
            have HE3 : Hid (r = (16 * x1 + x2, { st2 with pos := p2 + 2 })) := Lib.hid (by rw [hE.out, HE2.out, if_pos ⟨ho1, ho2⟩])
            go_wp2_with fail
            go_quiet (first | (go_at_call 95; first | (with_reducible refine Calls.quiet_of (hex_q q1 x1 _ hq10 hq11 HX1)) | (with_reducible refine Calls.quiet_of (hex_q q2 x2 _ hq20 hq21 HX2))) | fail)
            go_wp2
            go_ret
            rw [HE3.out]
            have := hR2.out.drewN nq
            exact ⟨by go_num, by simpa using this.pos (p2 + 2) (by omega), (hR2.out.drewN nq).low _ _ (pw_below_drewN hL2.out _)⟩
          · have HE3 : Hid (r = (0, { st2 with pos := p2 + 2, wrong := true })) := Lib.hid (by rw [hE.out, HE2.out, if_neg hok])
            by_cases ho1 : 0 ≤ x1
            · have ho2 : ¬ 0 ≤ x2 := fun h => hok ⟨ho1, h⟩
              clear hok
              go_wp2_with fail
              go_quiet (first | (go_at_call 95; first | (with_reducible refine Calls.quiet_of (hex_q q1 x1 _ hq10 hq11 HX1)) | (with_reducible refine Calls.quiet_of (hex_q q2 x2 _ hq20 hq21 HX2))) | fail)
              go_wp2
              go_ret
              rw [HE3.out]
              have := (hR2.out.drewN nq).pos (p2 + 2) (by omega)
              exact ⟨by go_num, by simpa [St.bad] using this.wrong true, RS.low this _ _ ((hR2.out.drewN nq).low _ _ (pw_below_drewN hL2.out _))⟩
            · clear hok
              go_wp2_with fail
              go_quiet (first | (go_at_call 95; first | (with_reducible refine Calls.quiet_of (hex_q q1 x1 _ hq10 hq11 HX1)) | (with_reducible refine Calls.quiet_of (hex_q q2 x2 _ hq20 hq21 HX2))) | fail)
              go_wp2
              go_ret
              rw [HE3.out]
              have := (hR2.out.drewN nq).pos (p2 + 2) (by omega)
              exact ⟨by go_num, by simpa [St.bad] using this.wrong true, RS.low this _ _ ((hR2.out.drewN nq).low _ _ (pw_below_drewN hL2.out _))⟩
end Go.Proofs.YtaphblnelmncaaaDoor.PA
end

section
/- The walk over character (a byte as a character of a pattern's string). -/
set_option linter.unusedVariables false
namespace Go.Proofs.YtaphblnelmncaaaDoor.PA
open Go.RowKit Go.Proofs.YtaphblnelmncaaaDoorW.PrintWords Go.Proofs.YtaphblnelmncaaaDoorW.PrintLast Go.Proofs.YtaphblnelmncaaaDoorW.PrintMore

/-- The hexadecimal digits. -/
def digits : ByteArray := ⟨#[48, 49, 50, 51, 52, 53, 54, 55, 56, 57, 97, 98, 99, 100, 101, 102]⟩
/-- A byte as a character. -/
def chrL (b : Int) : List Int := if plainB b then [b] else [92, 120, bt digits (b / 16), bt digits (b % 16)]

/-- A fresh slice of bytes as a string. -/
theorem conv_new (W : World) (g : Nat) (hg : g = W.heap.size) (xs : List Int) (hx : xs.length ≤ 100) : (convert 22 9 (.slice (some ⟨g, 0, none⟩) xs.length xs.length)).run Tryd.prog (W.alloc (.cells (xs.map fun x => Value.int .u8 x).toArray 5)) = .ok (.string (strOfNums xs)) (W.alloc (.cells (xs.map fun x => Value.int .u8 x).toArray 5)) := by
  refine string_of_reads Tryd.underlying22 Tryd.underlying5 Tryd.underlying9 ⟨rfl, by omega, fun h => ⟨_, rfl, fun j hj => ?_⟩⟩
  have hb := Blk.newE W (xs.map fun x => Value.int .u8 x).toArray 5 g _ hg rfl
  have := hb.cell j
  simp only [List.getElem?_map, List.getElem?_eq_getElem hj, Option.map_some] at this
  rw [List.getD_eq_getElem?_getD, List.getElem?_eq_getElem hj]
  by_cases h0 : j = 0
  · subst h0; simpa [Addr.add] using this
  · simpa [Addr.add, h0] using this

set_option maxHeartbeats 1000000 in
set_option maxRecDepth 100000 in
theorem chr_any (b : Int) (w : World) (h0 : 0 ≤ b) (h1 : b ≤ 255) : Calls Tryd.prog 47 #[.int .i64 b] w fun e w' => e = .returned (.string (strOfNums (chrL b))) ∧ Below w.heap.size w w' := by
  have hw8 : IntKind.u8.wrap b = b := IntWalk.u8_in _ (by omega)
  cases hp : plainB b with
  | true =>
    have HP := Lib.hid hp
    have HE : Hid (chrL b = [b]) := Lib.hid (by unfold chrL; rw [if_pos hp])
    rw [HE.out]
    clear hp
    have hc : ∀ k, (convert 22 9 (.slice (some ⟨w.heap.size, 0, none⟩) 1 1)).run Tryd.prog ((w.drewN k).alloc (.cells #[.int .u8 b] 5)) = .ok (.string (strOfNums [b])) ((w.drewN k).alloc (.cells #[.int .u8 b] 5)) := fun k => conv_new (w.drewN k) _ rfl [b] (by simp)
    go_enter Tryd.func47, Tryd.ntmps47
    go_wp2_with fail
    refine (plain_q b true _ h0 h1 HP).mono ?_
    rintro e w1 ⟨rfl, nn, rfl⟩
    go_wp2
    go_ret
    exact ⟨rfl, (pw_below_drewN (Below.refl _ _) _).alloc (by simp) _⟩
  | false =>
    have HP := Lib.hid hp
    have HE : Hid (chrL b = [92, 120, bt digits (b / 16), bt digits (b % 16)]) := Lib.hid (by unfold chrL; rw [if_neg (by simp [hp])])
    rw [HE.out]
    clear hp
    obtain ⟨d, hd, hdl⟩ : ∃ d : Nat, (d : Int) = b / 16 ∧ d < 16 := ⟨(b / 16).toNat, by omega, by omega⟩
    obtain ⟨m, hm, hml⟩ : ∃ m : Nat, (m : Int) = b % 16 ∧ m < 16 := ⟨(b % 16).toNat, by omega, by omega⟩
    have hq : IntKind.i64.wrap (b.tdiv 16) = (d : Int) := by rw [Int.tdiv_eq_ediv_of_nonneg h0, ← hd]; exact IntWalk.i64_in _ (by omega)
    have hr : b.tmod 16 = (m : Int) := by rw [Int.tmod_eq_emod_of_nonneg h0, ← hm]
    have hd16 : (d : Int) < 16 := by omega
    have hm16 : (m : Int) < 16 := by omega
    rw [← hd, ← hm]
    obtain ⟨x1, hx1⟩ : ∃ x, x = bt digits d := ⟨_, rfl⟩
    obtain ⟨x2, hx2⟩ : ∃ x, x = bt digits m := ⟨_, rfl⟩
    have hy1 : ((digits[d]'hdl).toNat : Int) = x1 := by rw [hx1]; exact (bt_at digits d hdl).symm ▸ rfl
    have hy2 : ((digits[m]'hml).toNat : Int) = x2 := by rw [hx2]; exact (bt_at digits m hml).symm ▸ rfl
    rw [← hx1, ← hx2]
    unfold digits at hy1 hy2
    clear hd hm hx1 hx2
    have hc : ∀ k, (convert 22 9 (.slice (some ⟨w.heap.size, 0, none⟩) 4 4)).run Tryd.prog ((w.drewN k).alloc (.cells #[.int .u8 92, .int .u8 120, .int .u8 x1, .int .u8 x2] 5)) = .ok (.string (strOfNums [92, 120, x1, x2])) ((w.drewN k).alloc (.cells #[.int .u8 92, .int .u8 120, .int .u8 x1, .int .u8 x2] 5)) := fun k => conv_new (w.drewN k) _ rfl [92, 120, x1, x2] (by simp)
    go_enter Tryd.func47, Tryd.ntmps47
    go_wp2_with fail
    refine (plain_q b false _ h0 h1 HP).mono ?_
    rintro e w1 ⟨rfl, nn, rfl⟩
    go_wp2_with fail
    go_region
    all_goals
      go_wp2
      go_ret
      exact ⟨rfl, (pw_below_drewN (Below.refl _ _) _).alloc (by simp) _⟩
end Go.Proofs.YtaphblnelmncaaaDoor.PA
end

section
/- The string of a tree. -/
set_option linter.unusedVariables false
namespace Go.Proofs.YtaphblnelmncaaaDoor.PA
open Go.RowKit Go.Proofs.YtaphblnelmncaaaDoorW.PrintWords

namespace Re
/-- The bytes of its ranges are bytes. -/
def ok : Re → Prop
  | emp => True
  | rng lo hi _ => 0 ≤ lo ∧ lo ≤ hi ∧ hi ≤ 255
  | seq a b => a.ok ∧ b.ok
  | alt a b => a.ok ∧ b.ok
  | rep a => a.ok
/-- How tightly it binds. -/
def lev : Re → Int
  | seq _ _ => 2
  | alt _ _ => 1
  | _ => 3
end Re
/-- In parentheses, or not. -/
def par (b : Bool) (l : List Int) : List Int := if b then 40 :: (l ++ [41]) else l
namespace Re
/-- Its string. -/
def str : Re → List Int
  | emp => [40, 41]
  | rng lo hi _ => if lo < hi then 91 :: (chrL lo ++ 45 :: (chrL hi ++ [93])) else chrL lo
  | seq a b => par (decide (a.lev < 2)) a.str ++ par (decide (b.lev < 3)) b.str
  | alt a b => par (decide (a.lev < 1)) a.str ++ 124 :: par (decide (b.lev < 2)) b.str
  | rep a => par (decide (a.lev < 3)) a.str ++ [42]
def shown (t : Re) (least : Int) : List Int := par (decide (t.lev < least)) t.str
end Re
theorem par_length (b : Bool) (l : List Int) : (par b l).length ≤ l.length + 2 := by unfold par; split <;> simp
theorem chrL_length (b : Int) : (chrL b).length ≤ 4 := by unfold chrL; split <;> simp
theorem str_length (t : Re) : t.str.length ≤ 13 * t.size := by
  induction t with
  | emp => simp [Re.str, Re.size]
  | rng lo hi i =>
    have := chrL_length lo
    have := chrL_length hi
    simp only [Re.str, Re.size]
    split
    · simp; omega
    · omega
  | seq a b iha ihb =>
    have := par_length (decide (a.lev < 2)) a.str
    have := par_length (decide (b.lev < 3)) b.str
    simp only [Re.str, Re.size, List.length_append]; omega
  | alt a b iha ihb =>
    have := par_length (decide (a.lev < 1)) a.str
    have := par_length (decide (b.lev < 2)) b.str
    simp only [Re.str, Re.size, List.length_append, List.length_cons]; omega
  | rep a iha =>
    have := par_length (decide (a.lev < 3)) a.str
    simp only [Re.str, Re.size, List.length_append, List.length_cons, List.length_nil]; omega
theorem shown_length (t : Re) (least : Int) : (t.shown least).length ≤ 13 * t.size + 2 := by
  have := str_length t
  have := par_length (decide (t.lev < least)) t.str
  unfold Re.shown; omega
theorem shown_size (t : Re) (least : Int) (h : t.size ≤ 1000000) : (strOfNums (t.shown least)).size ≤ 13000002 := by
  rw [strOfNums_size]; have := shown_length t least; omega
theorem strOfNums_app (a b : List Int) : strOfNums a ++ strOfNums b = strOfNums (a ++ b) := by
  unfold strOfNums
  apply ByteArray.ext
  simp
theorem shown_yes {t : Re} {least : Int} (h : t.lev < least) : t.shown least = 40 :: (t.str ++ [41]) := by unfold Re.shown par; rw [if_pos (by simpa using h)]
theorem shown_no {t : Re} {least : Int} (h : ¬ t.lev < least) : t.shown least = t.str := by unfold Re.shown par; rw [if_neg (by simpa using h)]
/-- The parentheses around a string. -/
theorem enclosed (l : List Int) : (⟨#[40]⟩ : ByteArray) ++ strOfNums l ++ ⟨#[41]⟩ = strOfNums (40 :: (l ++ [41])) := by
  have e1 : (⟨#[40]⟩ : ByteArray) = strOfNums [40] := rfl
  have e2 : (⟨#[41]⟩ : ByteArray) = strOfNums [41] := rfl
  rw [e1, e2, strOfNums_app, strOfNums_app]; simp
end Go.Proofs.YtaphblnelmncaaaDoor.PA
end

section
/- Languages of trees; words of places; the places that follow each other. -/
set_option linter.unusedVariables false
namespace Go.Proofs.YtaphblnelmncaaaDoor.PA
open Go.Proofs.YtaphblnelmncaaaDoorW.PrintWords

/-- Words of words. -/
inductive Star {α : Type} (L : List α → Prop) : List α → Prop where
  | nil : Star L []
  | app (u v : List α) (hu : L u) (hv : Star L v) : Star L (u ++ v)

namespace Re
/-- The strings that a tree matches. -/
def Lang : Re → List Int → Prop
  | emp, w => w = []
  | rng lo hi _, w => ∃ b, w = [b] ∧ lo ≤ b ∧ b ≤ hi
  | seq a b, w => ∃ u v, w = u ++ v ∧ a.Lang u ∧ b.Lang v
  | alt a b, w => a.Lang w ∨ b.Lang w
  | rep a, w => Star a.Lang w
/-- The words of places. -/
def Words : Re → List Nat → Prop
  | emp, w => w = []
  | rng _ _ i, w => w = [i]
  | seq a b, w => ∃ u v, w = u ++ v ∧ a.Words u ∧ b.Words v
  | alt a b, w => a.Words w ∨ b.Words w
  | rep a, w => Star a.Words w
def leaves : Re → List Nat
  | emp => []
  | rng _ _ i => [i]
  | seq a b => a.leaves ++ b.leaves
  | alt a b => a.leaves ++ b.leaves
  | rep a => a.leaves
/-- Place j can follow place i. -/
def Fol : Re → Nat → Nat → Prop
  | emp, _, _ => False
  | rng _ _ _, _, _ => False
  | seq a b, i, j => a.Fol i j ∨ b.Fol i j ∨ (a.last.testBit i = true ∧ b.first.testBit j = true)
  | alt a b, i, j => a.Fol i j ∨ b.Fol i j
  | rep a, i, j => a.Fol i j ∨ (a.last.testBit i = true ∧ a.first.testBit j = true)
end Re

theorem one_bit (i j : Nat) : (0 ||| 1 <<< i).testBit j = true ↔ j = i := by
  rw [Nat.zero_or, Nat.shiftLeft_eq, Nat.one_mul, Nat.testBit_two_pow]
  simp; exact ⟨fun h => h.symm, fun h => h.symm⟩
theorem first_leaf (t : Re) : ∀ {i}, t.first.testBit i = true → i ∈ t.leaves := by
  induction t with
  | emp => intro i h; simp [Re.first] at h
  | rng lo hi k => intro i h; simp only [Re.first] at h; rw [one_bit] at h; simp [Re.leaves, h]
  | seq a b iha ihb =>
    intro i h
    simp only [Re.first] at h
    simp only [Re.leaves, List.mem_append]
    split at h
    · rw [Nat.testBit_or, Bool.or_eq_true] at h; exact h.imp iha ihb
    · exact .inl (iha h)
  | alt a b iha ihb =>
    intro i h
    simp only [Re.first, Nat.testBit_or, Bool.or_eq_true] at h
    simp only [Re.leaves, List.mem_append]
    exact h.imp iha ihb
  | rep a iha => intro i h; exact iha h
theorem last_leaf (t : Re) : ∀ {i}, t.last.testBit i = true → i ∈ t.leaves := by
  induction t with
  | emp => intro i h; simp [Re.last] at h
  | rng lo hi k => intro i h; simp only [Re.last] at h; rw [one_bit] at h; simp [Re.leaves, h]
  | seq a b iha ihb =>
    intro i h
    simp only [Re.last] at h
    simp only [Re.leaves, List.mem_append]
    split at h
    · rw [Nat.testBit_or, Bool.or_eq_true] at h; exact h.symm.imp iha ihb
    · exact .inr (ihb h)
  | alt a b iha ihb =>
    intro i h
    simp only [Re.last, Nat.testBit_or, Bool.or_eq_true] at h
    simp only [Re.leaves, List.mem_append]
    exact h.imp iha ihb
  | rep a iha => intro i h; exact iha h
theorem fol_leaf (t : Re) : ∀ {i j}, t.Fol i j → i ∈ t.leaves ∧ j ∈ t.leaves := by
  induction t with
  | emp => intro i j h; exact h.elim
  | rng => intro i j h; exact h.elim
  | seq a b iha ihb =>
    intro i j h
    simp only [Re.leaves, List.mem_append]
    rcases h with h | h | ⟨h1, h2⟩
    · exact ⟨.inl (iha h).1, .inl (iha h).2⟩
    · exact ⟨.inr (ihb h).1, .inr (ihb h).2⟩
    · exact ⟨.inl (last_leaf a h1), .inr (first_leaf b h2)⟩
  | alt a b iha ihb =>
    intro i j h
    simp only [Re.leaves, List.mem_append]
    rcases h with h | h
    · exact ⟨.inl (iha h).1, .inl (iha h).2⟩
    · exact ⟨.inr (ihb h).1, .inr (ihb h).2⟩
  | rep a iha =>
    intro i j h
    rcases h with h | ⟨h1, h2⟩
    · exact iha h
    · exact ⟨last_leaf a h1, first_leaf a h2⟩

/-- Each place can follow the one before; the last can be the end. -/
def Way (R : Nat → Nat → Prop) (E : Nat → Prop) : Nat → List Nat → Prop
  | i, [] => E i
  | i, j :: r => R i j ∧ Way R E j r
theorem Way.mono {R R' : Nat → Nat → Prop} {E E' : Nat → Prop} (hR : ∀ i j, R i j → R' i j) (hE : ∀ i, E i → E' i) : ∀ {i : Nat} {r : List Nat}, Way R E i r → Way R' E' i r
  | _, [], h => hE _ h
  | _, j :: r, h => ⟨hR _ _ h.1, Way.mono hR hE h.2⟩
/-- Two ways, one behind the other. -/
theorem Way.join {R : Nat → Nat → Prop} {E E' : Nat → Prop} : ∀ {i : Nat} {r : List Nat} {j : Nat} {s : List Nat}, Way R E i r → (∀ k, E k → R k j) → Way R E' j s → Way R E' i (r ++ j :: s)
  | _, [], _, _, h, hR, h2 => ⟨hR _ h, h2⟩
  | _, k :: r, _, _, h, hR, h2 => ⟨h.1, Way.join h.2 hR h2⟩

/-- The nonempty words of places as ways. -/
def Acc (t : Re) (w : List Nat) : Prop := ∃ i r, w = i :: r ∧ t.first.testBit i = true ∧ Way t.Fol (fun k => t.last.testBit k = true) i r

theorem star_append {α : Type} {L : List α → Prop} {u v : List α} (h : Star L u) (k : Star L v) : Star L (u ++ v) := by
  induction h with
  | nil => exact k
  | app a b ha hb ih => rw [List.append_assoc]; exact .app a _ ha ih
theorem star_one {α : Type} {L : List α → Prop} {u : List α} (h : L u) : Star L u := by
  have := Star.app u [] h .nil
  rwa [List.append_nil] at this
/-- A nonempty word of words begins with a nonempty word. -/
theorem star_cons {α : Type} {L : List α → Prop} {w : List α} (h : Star L w) : w = [] ∨ ∃ u v, w = u ++ v ∧ u ≠ [] ∧ L u ∧ Star L v := by
  induction h with
  | nil => exact .inl rfl
  | app a b ha hb ih =>
    by_cases e : a = []
    · subst e; exact ih
    · exact .inr ⟨a, b, rfl, e, ha, hb⟩

theorem null_iff (t : Re) : t.null = true ↔ t.Words [] := by
  induction t with
  | emp => simp [Re.null, Re.Words]
  | rng => simp [Re.null, Re.Words]
  | seq a b iha ihb =>
    simp only [Re.null, Re.Words, Bool.and_eq_true, iha, ihb]
    constructor
    · rintro ⟨h1, h2⟩; exact ⟨[], [], rfl, h1, h2⟩
    · rintro ⟨u, v, h, h1, h2⟩
      have h3 := List.append_eq_nil_iff.1 h.symm
      rw [h3.1] at h1; rw [h3.2] at h2; exact ⟨h1, h2⟩
  | alt a b iha ihb => simp only [Re.null, Re.Words, Bool.or_eq_true, iha, ihb]
  | rep a iha => simp only [Re.null, Re.Words, true_iff]; exact .nil

/-- A nonempty word is a way. -/
theorem words_acc (t : Re) : ∀ {w}, t.Words w → w ≠ [] → Acc t w := by
  induction t with
  | emp => intro w h hn; exact absurd h hn
  | rng lo hi k =>
    intro w h hn
    have h : w = [k] := h
    subst h
    exact ⟨k, [], rfl, by simp only [Re.first]; rw [one_bit], by show (Re.rng lo hi k).last.testBit k = true; simp only [Re.last]; rw [one_bit]⟩
  | seq a b iha ihb =>
    rintro w ⟨u, v, rfl, h1, h2⟩ hn
    by_cases hu : u = []
    · subst hu
      have ha : a.null = true := (null_iff a).2 h1
      obtain ⟨i, r, rfl, hf, hw⟩ := ihb h2 hn
      refine ⟨i, r, rfl, by simp only [Re.first, ha, if_true]; rw [Nat.testBit_or, hf, Bool.or_true], hw.mono (fun _ _ h => .inr (.inl h)) (fun k h => ?_)⟩
      simp only [Re.last]; split
      · rw [Nat.testBit_or, h]; rfl
      · exact h
    · obtain ⟨i, r, rfl, hf, hw⟩ := iha h1 hu
      have hf2 : (Re.seq a b).first.testBit i = true := by simp only [Re.first]; split; rw [Nat.testBit_or, hf]; rfl; exact hf
      by_cases hv : v = []
      · subst hv
        have hb : b.null = true := (null_iff b).2 h2
        refine ⟨i, r, by simp, hf2, hw.mono (fun _ _ h => .inl h) (fun k h => ?_)⟩
        simp only [Re.last, hb, if_true]; rw [Nat.testBit_or, h, Bool.or_true]
      · obtain ⟨j, s, rfl, hg, hx⟩ := ihb h2 hv
        refine ⟨i, r ++ j :: s, rfl, hf2, Way.join (hw.mono (fun _ _ h => .inl h) (fun k h => h)) (fun k h => .inr (.inr ⟨h, hg⟩)) (hx.mono (fun _ _ h => .inr (.inl h)) (fun k h => ?_))⟩
        simp only [Re.last]; split
        · rw [Nat.testBit_or, h]; rfl
        · exact h
  | alt a b iha ihb =>
    intro w h hn
    rcases h with h | h
    · obtain ⟨i, r, rfl, hf, hw⟩ := iha h hn
      exact ⟨i, r, rfl, by simp only [Re.first]; rw [Nat.testBit_or, hf]; rfl, hw.mono (fun _ _ h => .inl h) (fun k h => by simp only [Re.last]; rw [Nat.testBit_or, h]; rfl)⟩
    · obtain ⟨i, r, rfl, hf, hw⟩ := ihb h hn
      exact ⟨i, r, rfl, by simp only [Re.first]; rw [Nat.testBit_or, hf, Bool.or_true], hw.mono (fun _ _ h => .inr h) (fun k h => by simp only [Re.last]; rw [Nat.testBit_or, h, Bool.or_true])⟩
  | rep a iha =>
    intro w h
    have h : Star a.Words w := h
    induction h with
    | nil => intro hn; exact absurd rfl hn
    | app u v hu hv ih =>
      intro hn
      by_cases hu0 : u = []
      · subst hu0; exact ih hv hn
      · obtain ⟨i, r, rfl, hf, hw⟩ := iha hu hu0
        by_cases hv0 : v = []
        · subst hv0
          exact ⟨i, r, by simp, hf, hw.mono (fun _ _ h => .inl h) (fun k h => h)⟩
        · obtain ⟨j, s, rfl, hg, hx⟩ := ih hv hv0
          exact ⟨i, r ++ j :: s, rfl, hf, Way.join (hw.mono (fun _ _ h => .inl h) (fun k h => h)) (fun k h => .inr ⟨h, hg⟩) hx⟩

/-- A way in a part stays there. -/
theorem way_in {a b : Re} {R : Nat → Nat → Prop} {E E' : Nat → Prop} (hd : ∀ i, i ∈ a.leaves → i ∉ b.leaves) (hR : ∀ i j, R i j → a.Fol i j ∨ b.Fol i j) (hE : ∀ i, i ∈ a.leaves → E i → E' i) :
    ∀ {r : List Nat} {i : Nat}, i ∈ a.leaves → Way R E i r → Way a.Fol E' i r
  | [], i, hi, h => hE i hi h
  | j :: r, i, hi, h => by
    rcases hR i j h.1 with h1 | h1
    · exact ⟨h1, way_in hd hR hE (fol_leaf a h1).2 h.2⟩
    · exact absurd (fol_leaf b h1).1 (hd i hi)
/-- A way through a sequence. -/
theorem way_seq {a b : Re} (hd : ∀ i, i ∈ a.leaves → i ∉ b.leaves) {E : Nat → Prop} (hE : ∀ i, E i → b.last.testBit i = true ∨ (b.null = true ∧ a.last.testBit i = true)) :
    ∀ {r : List Nat} {i : Nat}, i ∈ a.leaves → Way (Re.seq a b).Fol E i r →
      (b.null = true ∧ Way a.Fol (fun k => a.last.testBit k = true) i r) ∨ ∃ u j s, r = u ++ j :: s ∧ Way a.Fol (fun k => a.last.testBit k = true) i u ∧ b.first.testBit j = true ∧ Way b.Fol (fun k => b.last.testBit k = true) j s
  | [], i, hi, h => by
    rcases hE i h with h1 | h1
    · exact absurd (last_leaf b h1) (hd i hi)
    · exact .inl h1
  | j :: r, i, hi, h => by
    rcases h.1 with h1 | h1 | ⟨h1, h2⟩
    · rcases way_seq hd hE (fol_leaf a h1).2 h.2 with ⟨h3, h4⟩ | ⟨u, k, s, rfl, h4, h5⟩
      · exact .inl ⟨h3, h1, h4⟩
      · exact .inr ⟨j :: u, k, s, rfl, ⟨h1, h4⟩, h5⟩
    · exact absurd (fol_leaf b h1).1 (hd i hi)
    · refine .inr ⟨[], j, r, rfl, h1, h2, ?_⟩
      have hj := first_leaf b h2
      exact way_in2 hd hE hj h.2
where
  way_in2 {a b : Re} (hd : ∀ i, i ∈ a.leaves → i ∉ b.leaves) {E : Nat → Prop} (hE : ∀ i, E i → b.last.testBit i = true ∨ (b.null = true ∧ a.last.testBit i = true)) :
      ∀ {r : List Nat} {i : Nat}, i ∈ b.leaves → Way (Re.seq a b).Fol E i r → Way b.Fol (fun k => b.last.testBit k = true) i r
    | [], i, hi, h => by
      rcases hE i h with h1 | h1
      · exact h1
      · exact absurd hi (hd i (last_leaf a h1.2))
    | j :: r, i, hi, h => by
      rcases h.1 with h1 | h1 | ⟨h1, h2⟩
      · exact absurd hi (hd i (fol_leaf a h1).1)
      · exact ⟨h1, way_in2 hd hE (fol_leaf b h1).2 h.2⟩
      · exact absurd hi (hd i (last_leaf a h1))
/-- A way through a repetition: its first round. -/
theorem way_rep {a : Re} : ∀ {r : List Nat} {i : Nat}, Way (Re.rep a).Fol (fun k => (Re.rep a).last.testBit k = true) i r →
      Way a.Fol (fun k => a.last.testBit k = true) i r ∨ ∃ u j s, r = u ++ j :: s ∧ Way a.Fol (fun k => a.last.testBit k = true) i u ∧ a.first.testBit j = true ∧ Way (Re.rep a).Fol (fun k => (Re.rep a).last.testBit k = true) j s
  | [], i, h => .inl h
  | j :: r, i, h => by
    rcases h.1 with h1 | ⟨h1, h2⟩
    · rcases way_rep h.2 with h3 | ⟨u, k, s, rfl, h4, h5⟩
      · exact .inl ⟨h1, h3⟩
      · exact .inr ⟨j :: u, k, s, rfl, ⟨h1, h4⟩, h5⟩
    · exact .inr ⟨[], j, r, rfl, h1, h2, h.2⟩

/-- A way is a word, each place standing once. -/
theorem acc_words (t : Re) (hn : t.leaves.Nodup) : ∀ {w}, Acc t w → t.Words w := by
  induction t with
  | emp => rintro w ⟨i, r, rfl, hf, _⟩; simp [Re.first] at hf
  | rng lo hi k =>
    rintro w ⟨i, r, rfl, hf, hw⟩
    simp only [Re.first] at hf
    rw [one_bit] at hf
    subst hf
    cases r with
    | nil => rfl
    | cons j r => exact hw.1.elim
  | seq a b iha ihb =>
    simp only [Re.leaves, List.nodup_append] at hn
    obtain ⟨h1, h2, h3⟩ := hn
    have hd : ∀ i, i ∈ a.leaves → i ∉ b.leaves := fun i hi hj => h3 i hi i hj rfl
    have hE : ∀ i, (Re.seq a b).last.testBit i = true → b.last.testBit i = true ∨ (b.null = true ∧ a.last.testBit i = true) := by
      intro i h
      simp only [Re.last] at h
      split at h
      · rename_i hb
        rw [Nat.testBit_or, Bool.or_eq_true] at h
        exact h.imp id fun h => ⟨hb, h⟩
      · exact .inl h
    rintro w ⟨i, r, rfl, hf, hw⟩
    have hf2 : a.first.testBit i = true ∨ (a.null = true ∧ b.first.testBit i = true) := by
      simp only [Re.first] at hf
      split at hf
      · rename_i ha
        rw [Nat.testBit_or, Bool.or_eq_true] at hf
        exact hf.imp id fun h => ⟨ha, h⟩
      · exact .inl hf
    rcases hf2 with hfa | ⟨hna, hfb⟩
    · rcases way_seq hd hE (first_leaf a hfa) hw with ⟨hnb, hx⟩ | ⟨u, j, s, rfl, hx, hg, hy⟩
      · exact ⟨i :: r, [], by simp, iha h1 ⟨i, r, rfl, hfa, hx⟩, (null_iff b).1 hnb⟩
      · exact ⟨i :: u, j :: s, by simp, iha h1 ⟨i, u, rfl, hfa, hx⟩, ihb h2 ⟨j, s, rfl, hg, hy⟩⟩
    · exact ⟨[], i :: r, rfl, (null_iff a).1 hna, ihb h2 ⟨i, r, rfl, hfb, way_seq.way_in2 hd hE (first_leaf b hfb) hw⟩⟩
  | alt a b iha ihb =>
    simp only [Re.leaves, List.nodup_append] at hn
    obtain ⟨h1, h2, h3⟩ := hn
    have hd : ∀ i, i ∈ a.leaves → i ∉ b.leaves := fun i hi hj => h3 i hi i hj rfl
    have hd' : ∀ i, i ∈ b.leaves → i ∉ a.leaves := fun i hi hj => hd i hj hi
    rintro w ⟨i, r, rfl, hf, hw⟩
    simp only [Re.first, Nat.testBit_or, Bool.or_eq_true] at hf
    rcases hf with hf | hf
    · refine .inl (iha h1 ⟨i, r, rfl, hf, way_in hd (fun i j h => h) (fun k hk h => ?_) (first_leaf a hf) hw⟩)
      simp only [Re.last, Nat.testBit_or, Bool.or_eq_true] at h
      rcases h with h | h
      · exact h
      · exact absurd (last_leaf b h) (hd k hk)
    · refine .inr (ihb h2 ⟨i, r, rfl, hf, way_in hd' (fun i j h => Or.symm h) (fun k hk h => ?_) (first_leaf b hf) hw⟩)
      simp only [Re.last, Nat.testBit_or, Bool.or_eq_true] at h
      rcases h with h | h
      · exact absurd (last_leaf a h) (hd' k hk)
      · exact h
  | rep a iha =>
    have key : ∀ n (r : List Nat) (i : Nat), r.length ≤ n → a.first.testBit i = true → Way (Re.rep a).Fol (fun k => (Re.rep a).last.testBit k = true) i r → Star a.Words (i :: r) := by
      intro n
      induction n with
      | zero =>
        intro r i hl hf hw
        rcases way_rep hw with h | ⟨u, j, s, rfl, _, _, _⟩
        · exact star_one (iha hn ⟨i, r, rfl, hf, h⟩)
        · simp at hl
      | succ n ih =>
        intro r i hl hf hw
        rcases way_rep hw with h | ⟨u, j, s, rfl, h1, h2, h3⟩
        · exact star_one (iha hn ⟨i, r, rfl, hf, h⟩)
        · have := ih s j (by simp at hl; omega) h2 h3
          exact Star.app (i :: u) (j :: s) (iha hn ⟨i, u, rfl, hf, h1⟩) this
    rintro w ⟨i, r, rfl, hf, hw⟩
    exact key r.length r i (Nat.le_refl _) hf hw
end Go.Proofs.YtaphblnelmncaaaDoor.PA
end

section
/- A pattern that is in order is a tree. -/
set_option linter.unusedVariables false
namespace Go.Proofs.YtaphblnelmncaaaDoor.PA
open Go.RowKit Go.Proofs.YtaphblnelmncaaaDoorW.PrintWords

/-- Nodes below k that have not been taken yet stand for trees; the sizes of these add up to k. -/
theorem rd_get {p : List S50} {k : Nat} (h : k < p.length) : p[k]? = some (rd_T50 p k) := by
  simp [rd_T50, List.getD_eq_getElem?_getD, List.getElem?_eq_getElem h]

/-- The sum of the trees' sizes over the nodes below k that are not taken. -/
def left (T : Nat → Re) (U : List Bool) : Nat → Nat
  | 0 => 0
  | k + 1 => left T U k + if U.getD k false then 0 else (T k).size
theorem left_congr {T T' : Nat → Re} {U V : List Bool} : ∀ {k : Nat}, (∀ j, j < k → T j = T' j ∧ U.getD j false = V.getD j false) → left T U k = left T' V k
  | 0, _ => rfl
  | k + 1, h => by
    simp only [left]
    rw [left_congr fun j hj => h j (by omega), (h k (by omega)).1, (h k (by omega)).2]
theorem left_take {T : Nat → Re} {U : List Bool} {i : Nat} (hi : i < U.length) (hu : U.getD i false = false) : ∀ {k : Nat}, i < k → left T (U.set i true) k + (T i).size = left T U k
  | 0, h => by omega
  | k + 1, h => by
    simp only [left]
    by_cases e : i = k
    · subst e
      have e1 : (U.set i true).getD i false = true := by simp [List.getD_eq_getElem?_getD, hi]
      rw [e1, hu]
      have : left T (U.set i true) i = left T U i := left_congr fun j hj => ⟨rfl, by simp [List.getD_eq_getElem?_getD, List.getElem?_set_ne (show i ≠ j by omega)]⟩
      simp [this]
    · have e1 : (U.set i true).getD k false = U.getD k false := by simp [List.getD_eq_getElem?_getD, List.getElem?_set_ne (show i ≠ k by omega)]
      rw [e1]
      have := left_take (T := T) hi hu (k := k) (by omega)
      omega

/-- The places of the trees below k that are not taken. -/
def lvs (T : Nat → Re) (U : List Bool) : Nat → List Nat
  | 0 => []
  | k + 1 => lvs T U k ++ if U.getD k false then [] else (T k).leaves
theorem lvs_congr {T T' : Nat → Re} {U V : List Bool} : ∀ {k : Nat}, (∀ j, j < k → T j = T' j ∧ U.getD j false = V.getD j false) → lvs T U k = lvs T' V k
  | 0, _ => rfl
  | k + 1, h => by
    simp only [lvs]
    rw [lvs_congr fun j hj => h j (by omega), (h k (by omega)).1, (h k (by omega)).2]
theorem lvs_take {T : Nat → Re} {U : List Bool} {i : Nat} (hi : i < U.length) (hu : U.getD i false = false) : ∀ {k : Nat}, i < k → (lvs T (U.set i true) k ++ (T i).leaves).Perm (lvs T U k)
  | 0, h => by omega
  | k + 1, h => by
    simp only [lvs]
    by_cases e : i = k
    · subst e
      have e1 : (U.set i true).getD i false = true := by simp [List.getD_eq_getElem?_getD, hi]
      rw [e1, hu]
      have : lvs T (U.set i true) i = lvs T U i := lvs_congr fun j hj => ⟨rfl, by simp [List.getD_eq_getElem?_getD, List.getElem?_set_ne (show i ≠ j by omega)]⟩
      simp [this]
    · have e1 : (U.set i true).getD k false = U.getD k false := by simp [List.getD_eq_getElem?_getD, List.getElem?_set_ne (show i ≠ k by omega)]
      rw [e1]
      have := lvs_take (T := T) hi hu (k := k) (by omega)
      rw [List.append_assoc]
      refine (List.Perm.append_left _ List.perm_append_comm).trans ?_
      rw [← List.append_assoc]
      exact this.append_right _
theorem lvs_mem {T : Nat → Re} {U : List Bool} : ∀ {k i : Nat}, i ∈ lvs T U k → ∃ j, j < k ∧ i ∈ (T j).leaves
  | 0, i, h => by simp [lvs] at h
  | k + 1, i, h => by
    simp only [lvs, List.mem_append] at h
    rcases h with h | h
    · obtain ⟨j, h1, h2⟩ := lvs_mem h; exact ⟨j, by omega, h2⟩
    · split at h
      · cases h
      · exact ⟨k, by omega, h⟩

structure TreeTo (p : List S50) (k : Nat) (U : List Bool) (T : Nat → Re) : Prop where
  len : U.length = p.length
  far : ∀ j, k ≤ j → U.getD j false = false
  tree : ∀ j, j < k → IsRe p j (T j) ∧ (T j).ok
  sum : left T U k = k
  once : (lvs T U k).Nodup
  low : ∀ j, j < k → ∀ i ∈ (T j).leaves, i ≤ j

theorem use_spec {i a : Int} {U : List Bool} (h : useOk i a U = true) : ∃ j : Nat, i = j ∧ (j : Int) < a ∧ U.getD j false = false ∧ useNew i a U = U.set j true := by
  have h' := h
  unfold useOk at h
  simp only [Bool.and_eq_true, decide_eq_true_eq, Bool.not_eq_true'] at h
  obtain ⟨h0, h1, h2⟩ := h
  obtain ⟨j, rfl⟩ := Int.eq_ofNat_of_zero_le h0
  refine ⟨j, rfl, h1, by simpa using h2, ?_⟩
  unfold useNew; rw [if_pos h']; simp

theorem tree_step {p : List S50} {k : Nat} (hk : k < p.length) {U V : List Bool} {T : Nat → Re} (h : TreeTo p k U T) (hc : chkNode (rd_T50 p k) k U = some V) : ∃ T', TreeTo p (k + 1) V T' := by
  have hx := rd_get hk
  generalize rd_T50 p k = x at *
  unfold chkNode at hc
  split at hc
  · cases hc
  rename_i hb
  have hb : baseOk x = true := by simpa using hb
  unfold baseOk at hb
  have mk : ∀ (t : Re) (V : List Bool), IsRe p k t → t.ok → V.length = p.length → (∀ j, k ≤ j → V.getD j false = false) → left T V k + t.size = k + 1 → (lvs T V k ++ t.leaves).Nodup → (∀ i ∈ t.leaves, i ≤ k) → ∃ T', TreeTo p (k + 1) V T' := by
    intro t V h1 h2 h3 h4 h5 h6 h7
    refine ⟨fun j => if j = k then t else T j, h3, fun j hj => h4 j (by omega), fun j hj => ?_, ?_, ?_, fun j hj i hi => ?_⟩
    · by_cases e : j = k
      · subst e; simp only [if_true]; exact ⟨h1, h2⟩
      · simp only [if_neg e]; exact h.tree j (by omega)
    · simp only [left, if_true]
      rw [left_congr (T' := T) (V := V) fun j hj => ⟨if_neg (by omega), rfl⟩, h4 k (Nat.le_refl _)]
      simpa using h5
    · simp only [lvs, if_true]
      rw [lvs_congr (T' := T) (V := V) fun j hj => ⟨if_neg (by omega), rfl⟩, h4 k (Nat.le_refl _)]
      simpa using h6
    · by_cases e : j = k
      · subst e; simp only [if_true] at hi; exact h7 i hi
      · simp only [if_neg e] at hi; exact h.low j (by omega) i hi
  by_cases k0 : x.f0 = 0
  · have ha : ari x.f0 = 0 := by rw [k0]; rfl
    rw [if_pos (by omega)] at hc
    cases hc
    exact mk .emp _ (.emp k x hx k0) trivial h.len h.far (by rw [h.sum]; rfl) (by simpa [Re.leaves] using h.once) (by simp [Re.leaves])
  by_cases k1 : x.f0 = 1
  · have ha : ari x.f0 = 0 := by rw [k1]; rfl
    rw [if_pos (by omega)] at hc
    cases hc
    have ho : 0 ≤ x.f1 ∧ x.f1 ≤ x.f2 ∧ x.f2 ≤ 255 := by
      simp [k1] at hb; omega
    exact mk (.rng x.f1 x.f2 k) _ (.rng k x hx k1) ho h.len h.far (by rw [h.sum]; rfl) (by
      simp only [Re.leaves, List.nodup_append]
      refine ⟨h.once, by simp, fun a ha b hb => ?_⟩
      rw [List.mem_singleton] at hb
      obtain ⟨j, hj, hm⟩ := lvs_mem ha
      have := h.low j hj a hm
      omega) (by simp [Re.leaves])
  have take1 : ∀ {i : Int} {U : List Bool} (hl : U.length = p.length) (hf : ∀ j, k ≤ j → U.getD j false = false), useOk i k U = true → ∃ j : Nat, i = j ∧ j < k ∧ (useNew i k U).length = p.length ∧ (∀ j, k ≤ j → (useNew i k U).getD j false = false) ∧ left T (useNew i k U) k + (T j).size = left T U k ∧ (lvs T (useNew i k U) k ++ (T j).leaves).Perm (lvs T U k) := by
    intro i U hl hf hu
    obtain ⟨j, h1, h2, h3, h4⟩ := use_spec hu
    refine ⟨j, h1, by omega, by rw [h4]; simpa using hl, fun q hq => ?_, ?_, ?_⟩
    · rw [h4]; simp [List.getD_eq_getElem?_getD, List.getElem?_set_ne (show j ≠ q by omega)]
      have := hf q hq; simpa [List.getD_eq_getElem?_getD] using this
    · rw [h4]; exact left_take (by omega) h3 (by omega)
    · rw [h4]; exact lvs_take (by omega) h3 (by omega)
  by_cases k4 : x.f0 = 4
  · have ha : ari x.f0 = 1 := by rw [k4]; rfl
    rw [if_neg (by omega)] at hc
    split at hc
    · cases hc
    rename_i hu
    rw [if_pos (by omega)] at hc
    cases hc
    obtain ⟨j, e1, e2, e3, e4, e5, e6⟩ := take1 h.len h.far (by simpa using hu)
    have ht := h.tree j e2
    exact mk (.rep (T j)) _ (.rep k x j _ hx k4 e1 ht.1) ht.2 e3 e4 (by have := h.sum; simp only [Re.size]; omega) (e6.nodup_iff.2 h.once) (fun i hi => Nat.le_trans (h.low j e2 i hi) (by omega))
  by_cases k23 : x.f0 = 2 ∨ x.f0 = 3
  · have ha : ari x.f0 = 2 := by rcases k23 with e | e <;> (rw [e]; rfl)
    rw [if_neg (by omega)] at hc
    split at hc
    · cases hc
    rename_i hu
    rw [if_neg (by omega)] at hc
    split at hc
    · cases hc
    rename_i hv
    cases hc
    obtain ⟨j, e1, e2, e3, e4, e5, e6⟩ := take1 h.len h.far (by simpa using hu)
    obtain ⟨i, f1, f2, f3, f4, f5, f6⟩ := take1 e3 e4 (by simpa using hv)
    have ht := h.tree j e2
    have hs := h.tree i f2
    have hnd : (lvs T (useNew x.f4 k (useNew x.f3 k U)) k ++ ((T j).leaves ++ (T i).leaves)).Nodup := by
      have h1 : (lvs T (useNew x.f4 k (useNew x.f3 k U)) k ++ ((T j).leaves ++ (T i).leaves)).Perm (lvs T U k) := by
        refine (List.Perm.append_left _ List.perm_append_comm).trans ?_
        rw [← List.append_assoc]
        exact (f6.append_right _).trans e6
      exact h1.nodup_iff.2 h.once
    have hlw : ∀ z ∈ (T j).leaves ++ (T i).leaves, z ≤ k := fun z hz => by
      rcases List.mem_append.1 hz with hz | hz
      · exact Nat.le_trans (h.low j e2 z hz) (by omega)
      · exact Nat.le_trans (h.low i f2 z hz) (by omega)
    rcases k23 with e | e
    · exact mk (.seq (T j) (T i)) _ (.seq k x j i _ _ hx e e1 f1 ht.1 hs.1) ⟨ht.2, hs.2⟩ f3 f4 (by have := h.sum; simp only [Re.size]; omega) hnd hlw
    · exact mk (.alt (T j) (T i)) _ (.alt k x j i _ _ hx e e1 f1 ht.1 hs.1) ⟨ht.2, hs.2⟩ f3 f4 (by have := h.sum; simp only [Re.size]; omega) hnd hlw
  · exfalso
    have : ari x.f0 = -1 := by unfold ari; rw [if_neg (by omega), if_neg k4, if_neg k23]
    simp [this] at hb
    exact k1 hb.1.1

theorem tree_all {p : List S50} : ∀ k, k ≤ p.length → ∀ U, chkTo p k = some U → ∃ T, TreeTo p k U T
  | 0, _, U, h => by
    simp only [chkTo] at h
    cases h
    exact ⟨fun _ => .emp, by simp, fun j _ => by simp [List.getD_eq_getElem?_getD, List.getElem?_replicate]; split <;> rfl, fun j hj => by omega, rfl, by simp [lvs], fun j hj => by omega⟩
  | k + 1, hk, U, h => by
    simp only [chkTo] at h
    obtain ⟨V, h1, h2⟩ := Option.bind_eq_some_iff.1 h
    obtain ⟨T, hT⟩ := tree_all k (by omega) V h1
    exact tree_step (by omega) hT h2

theorem left_last {T : Nat → Re} {U : List Bool} : ∀ {k : Nat}, (∀ j, j < k → U.getD j false = true) → left T U k = 0
  | 0, _ => rfl
  | k + 1, h => by simp only [left]; rw [left_last fun j hj => h j (by omega), h k (by omega)]; rfl

/-- A pattern that Check finds in order. -/
theorem tree_of_chk {p : List S50} (h : chk p = 0) : p.length ≤ 512 ∧ ∃ t, IsRe p (p.length - 1) t ∧ t.ok ∧ t.size = p.length ∧ t.leaves.Nodup := by
  unfold chk at h
  split at h
  · cases h
  rename_i h512
  refine ⟨by omega, ?_⟩
  split at h
  · cases h
  rename_i U hU
  split at h
  · rename_i hh
    obtain ⟨h1, h2⟩ := hh
    obtain ⟨T, hT⟩ := tree_all p.length (Nat.le_refl _) U hU
    have hl := hT.tree (p.length - 1) (by omega)
    have hsz : (T (p.length - 1)).size = p.length ∧ (T (p.length - 1)).leaves.Nodup := ?_
    exact ⟨_, hl.1, hl.2, hsz⟩
    have hs := hT.sum
    have ho := hT.once
    have h1' : ∀ j, j < p.length - 1 → U.getD j false = true := fun j hj => List.all_eq_true.1 h1 j (List.mem_range.2 hj)
    obtain ⟨n, hn⟩ : ∃ n, p.length = n + 1 := ⟨p.length - 1, by omega⟩
    rw [hn] at hs h1' ho
    have hlast : U.getD n false = false ∨ U.getD n false = true := by cases U.getD n false <;> simp
    simp only [left] at hs
    rw [left_last (fun j hj => h1' j (by omega))] at hs
    rcases hlast with e | e
    · rw [e] at hs
      simp only [hn, Nat.add_sub_cancel]
      refine ⟨by simpa using hs, ?_⟩
      simp only [lvs, e, List.nodup_append] at ho
      exact ho.2.1
    · rw [e] at hs; simp at hs
  · cases h
end Go.Proofs.YtaphblnelmncaaaDoor.PA
end

section
/- The common string as plain functions; Common where a pattern is not in order. -/
set_option linter.unusedVariables false
namespace Go.Proofs.YtaphblnelmncaaaDoor.PA
open Go.RowKit Go.Proofs.YtaphblnelmncaaaDoorW.PrintWords Go.Proofs.YtaphblnelmncaaaDoorW.PrintLast Go.Proofs.YtaphblnelmncaaaDoorW.PrintMore

/-- The least distance. -/
def bestStep (f : DMap) (best : Int) (x : Int × Int) : Int := match f x with
  | some d => if best < 0 ∨ d < best then d else best
  | none => best
def bestF (f : DMap) (now : List (Int × Int)) : Int := now.foldl (bestStep f) (-1)
/-- The least byte of the pairs at distance d. -/
def leastStep (p q : List S50) (f : DMap) (d : Int) (l : Int) (x : Int × Int) : Int := if f x = some d then mn2 l (mx2 (rd_T50 p x.1).f1 (rd_T50 q x.2).f1) else l
def leastF (p q : List S50) (f : DMap) (d : Int) (now : List (Int × Int)) : Int := now.foldl (leastStep p q f d) 256
/-- The bytes from distance n - 1 down to 0. -/
def outF (p q : List S50) (F G : List Nat) (f : DMap) : Nat → List (Int × Int) → List Int
  | 0, _ => []
  | n + 1, now => leastF p q f n now % 256 :: outF p q F G f n (afterF p q F G now (leastF p q f n now) (fun x => decide (f x = some (n : Int))))
/-- What Common answers for patterns in order. -/
def comF (p q : List S50) (t u : Re) (f : DMap) : ByteArray × Int :=
  if bestF f (meetL p q t.first u.first) < 0 then (⟨#[]⟩, 3)
  else (strOfNums (outF p q (t.link (List.replicate p.length 0)) (u.link (List.replicate q.length 0)) f ((bestF f (meetL p q t.first u.first)).toNat + 1) (meetL p q t.first u.first)), 0)
/-- Common's post. -/
def CPost (w : World) (r : ByteArray × Int) (e : Ending) (w' : World) : Prop := e = .returned (.tuple #[.string r.1, .int .i64 r.2]) ∧ Below w.heap.size w w'
theorem outF_length (p q : List S50) (F G : List Nat) (f : DMap) : ∀ n now, (outF p q F G f n now).length = n
  | 0, _ => rfl
  | n + 1, _ => by simp [outF, outF_length p q F G f n]

set_option maxHeartbeats 1000000 in
set_option maxRecDepth 100000 in
theorem com_bad (A B : Option Addr) (ca cb : Nat) (p q : List S50) (w : World) (hC : Kd.C k50 w A p.length p) (hD : Kd.C k50 w B q.length q) (hc : p.length ≤ ca) (hd : q.length ≤ cb) (hpb : p.length * 40 ≤ 140737488351232) (hqb : q.length * 40 ≤ 140737488351232)
    (hbad : chk p ≠ 0 ∨ chk q ≠ 0) : Calls Tryd.prog 31 #[.slice A p.length ca, .slice B q.length cb] w (CPost w (⟨#[]⟩, if chk p ≠ 0 then chk p else chk q)) := by
  have HC := Lib.hid hC
  have HD := Lib.hid hD
  obtain ⟨z, hz⟩ : ∃ z, z = chk p := ⟨_, rfl⟩
  obtain ⟨y, hy⟩ : ∃ z, z = chk q := ⟨_, rfl⟩
  rw [← hz, ← hy] at hbad ⊢
  have HZ := Lib.hid hz
  have HY := Lib.hid hy
  clear hC hD hz hy
  by_cases h1 : z = 0
  · subst h1
    have h2 : y ≠ 0 := by rcases hbad with h | h; exact absurd rfl h; exact h
    have hb2 : (y != 0) = true := by simpa using h2
    have hb3 : (y == 0) = false := by simpa using h2
    clear hbad h2
    go_enter Tryd.func31, Tryd.ntmps31
    go_wp2_with fail
    refine (check_any A ca p _ HC.out hc hpb).mono ?_
    rw [← HZ.out]
    rintro e w1 ⟨rfl, k1⟩
    have L1 := Lib.hid k1
    clear k1
    go_wp2_with fail
    refine (check_any B cb q _ (Kd.C_below HD.out L1.out) hd hqb).mono ?_
    rw [← HY.out]
    rintro e w2 ⟨rfl, k2⟩
    have L2 := Lib.hid (L1.out.trans (k2.mono L1.out.size))
    clear k2
    go_wp2
    go_ret2
    exact ⟨rfl, L2.out⟩
  · have hb1 : (z != 0) = true := by simpa using h1
    have hb3 : (z == 0) = false := by simpa using h1
    have H1 : Hid ((if z ≠ 0 then z else y) = z) := Lib.hid (if_pos h1)
    rw [H1.out]
    clear hbad h1
    go_enter Tryd.func31, Tryd.ntmps31
    go_wp2_with fail
    refine (check_any A ca p _ HC.out hc hpb).mono ?_
    rw [← HZ.out]
    rintro e w1 ⟨rfl, k1⟩
    have L1 := Lib.hid k1
    clear k1
    go_wp2
    go_ret2
    exact ⟨rfl, L1.out⟩
end Go.Proofs.YtaphblnelmncaaaDoor.PA
end

section
/- The walk over Common. -/
set_option linter.unusedVariables false
namespace Go.Proofs.YtaphblnelmncaaaDoor.PA
open Go.RowKit Go.Proofs.YtaphblnelmncaaaDoorW.PrintWords Go.Proofs.YtaphblnelmncaaaDoorW.PrintLast Go.Proofs.YtaphblnelmncaaaDoorW.PrintMore
attribute [local go_sem] max_mx min_mn

/-- What stands while Common goes on, behind the machines and the distances. -/
structure ComInv (w0 : World) (b0 : Nat) (v : Value) (now : List (Int × Int)) (w : World) : Prop where
  low : Below w0.heap.size w0 w
  hq : Kd.R k92 92 w b0 (fun _ => True) v now
  b0 : b0 ≤ w.heap.size
theorem ComInv.below {w0 w w' : World} {b0 : Nat} {v : Value} {now : List (Int × Int)} (h : ComInv w0 b0 v now w) (k : Below w.heap.size w w') : ComInv w0 b0 v now w' :=
  ⟨h.low.trans (k.mono h.low.size), Kd.R_below h.hq k, Nat.le_trans h.b0 k.size⟩

theorem R_empty (W : World) : Kd.R (Kd.int .u8) 5 (W.alloc (.cells #[] 5)) W.heap.size (fun _ => True) (.slice (some ⟨W.heap.size, 0, none⟩) 0 0) [] := by
  refine ⟨fun _ _ => trivial, [], ?_, Reps.none _ _⟩
  have h2 := World.ownsRow_lit (base := W.heap.size) (e := 5) (size := 1) W #[] 0 (Nat.le_refl _) (by simp [maxLen]) (by simp)
  have h3 : (W.alloc (.cells #[] 5)).ownsRow W.heap.size 5 1 (.slice (some ⟨W.heap.size, 0, none⟩) 0 0) 0 [] := by simpa using h2
  exact h3
/-- While the bytes are found. -/
structure MainInv (w0 : World) (b0 ob dv : Nat) (vn vo : Value) (now : List (Int × Int)) (out : List Int) (d : Int) (w : World) : Prop where
  low : Below w0.heap.size w0 w
  hq : Kd.R k92 92 w b0 (fun _ => True) vn now
  ho : Kd.R (Kd.int .u8) 5 w ob (fun _ => True) vo out
  hd : Blk w dv 3 [.int .i64 d]
  gd : w0.heap.size ≤ dv
  go_ : w0.heap.size ≤ ob
  s1 : b0 ≤ w.heap.size
  s2 : ob ≤ w.heap.size
theorem MainInv.below {w0 w w' : World} {b0 ob dv : Nat} {vn vo : Value} {now : List (Int × Int)} {out : List Int} {d : Int} (h : MainInv w0 b0 ob dv vn vo now out d w) (k : Below w.heap.size w w') : MainInv w0 b0 ob dv vn vo now out d w' :=
  ⟨h.low.trans (k.mono h.low.size), Kd.R_below h.hq k, Kd.R_below h.ho k, h.hd.below k, h.gd, h.go_, Nat.le_trans h.s1 k.size, Nat.le_trans h.s2 k.size⟩
theorem MainInv.setD {w0 w : World} {b0 ob dv : Nat} {vn vo : Value} {now : List (Int × Int)} {out : List Int} {d : Int} (h : MainInv w0 b0 ob dv vn vo now out d w) (d' : Int) : MainInv w0 b0 ob dv vn vo now out d' (w.setCell ⟨dv, 0, none⟩ (.int .i64 d')) := by
  have hh : w.heap[dv]? = some (.cells [Value.int .i64 d].toArray 3 (0, 0)) := h.hd
  have hg := h.gd
  refine ⟨h.low.trans ⟨rfl, rfl, rfl, by simp [World.setCell], fun g hg2 => Below.heap_setCell _ _ _ _ (by simp; omega)⟩, ?_, ?_, h.hd.set 0 _, h.gd, h.go_, by simpa [World.setCell] using h.s1, by simpa [World.setCell] using h.s2⟩
  · exact Kd.R_mono (Kd.R_far (Kd.R_types h.hq hh (by decide)) (fun k hk => hk.2) _) (fun _ _ => trivial)
  · exact Kd.R_mono (Kd.R_far (Kd.R_types h.ho hh (by decide)) (fun k hk => hk.2) _) (fun _ _ => trivial)
theorem MainInv.pushO {w0 w w1 : World} {b0 ob dv : Nat} {vn vo v1 : Value} {now : List (Int × Int)} {out out' : List Int} {d : Int} (h : MainInv w0 b0 ob dv vn vo now out d w) (hR : Kd.R (Kd.int .u8) 5 w1 ob (fun _ => True) v1 out') (hG : w.grownBy w1 vo.ownBlock) : MainInv w0 b0 ob dv vn v1 now out' d w1 := by
  have hg := h.go_
  have kp : Kp (fun g => g < ob) w w1 := Kp.grown hG (fun g hg e => by have := Kd.R_base h.ho g e.symm; omega)
  refine ⟨h.low.trans (kp.below (fun g hg => by omega) h.low.size), ?_, hR, ?_, h.gd, h.go_, Nat.le_trans h.s1 kp.size, Nat.le_trans h.s2 kp.size⟩
  · exact Kd.R_mono (Kd.R_grown (Kd.R_apartR h.hq h.ho (by decide)) hG (fun k hk => hk.2)) (fun _ _ => trivial)
  · exact (hG.block dv h.hd.lt (Kd.R_ne h.ho h.hd (by decide))).trans h.hd
theorem MainInv.newNow {w0 w w1 : World} {b0 ob dv : Nat} {vn vn' vo : Value} {now now' : List (Int × Int)} {out : List Int} {d : Int} (h : MainInv w0 b0 ob dv vn vo now out d w) (k : Below w.heap.size w w1) (hR : Kd.R k92 92 w1 w.heap.size (fun _ => True) vn' now') : MainInv w0 b0 ob dv vn' vo now' out d w1 := by
  have h2 := h.below k
  exact ⟨h2.low, Kd.R_lower hR h.s1, h2.ho, h2.hd, h2.gd, h2.go_, h2.s1, h2.s2⟩
theorem MainInv.newD {w0 w : World} {b0 ob dv : Nat} {vn vo : Value} {now : List (Int × Int)} {out : List Int} {d : Int} (h : MainInv w0 b0 ob dv vn vo now out d w) (d' : Int) : MainInv w0 b0 ob w.heap.size vn vo now out d' (w.alloc (.cells #[.int .i64 d'] 3)) := by
  have h2 := h.below ((Below.refl w.heap.size w).alloc (Nat.le_refl _) (.cells #[.int .i64 d'] 3))
  exact ⟨h2.low, h2.hq, h2.ho, Blk.new w _ 3, h.low.size, h2.go_, h2.s1, h2.s2⟩
theorem kint_mk (w : World) (base : Nat) (ok : Nat → Prop) (x : Int) : (Kd.int .u8).M w base ok x [.int .u8 x] := rfl
theorem u8_mod (l : Int) : IntKind.u8.wrap l = l % 256 := by simp [IntKind.wrap, IntKind.bits, IntKind.signed]

set_option maxHeartbeats 4000000 in
set_option maxRecDepth 100000 in
theorem com_good (A B : Option Addr) (ca cb : Nat) (p q : List S50) (t u : Re) (f : DMap) (w : World) (hC : Kd.C k50 w A p.length p) (hD : Kd.C k50 w B q.length q) (hc : p.length ≤ ca) (hd : q.length ≤ cb) (hp5 : p.length ≤ 512) (hq5 : q.length ≤ 512)
    (h1 : chk p = 0) (h2 : chk q = 0) (ht : IsRe p (p.length - 1) t) (hu : IsRe q (q.length - 1) u) (htab : Tab w) (hf : distF p q (t.link (List.replicate p.length 0)) (u.link (List.replicate q.length 0)) t.last u.last = some f)
    (hfr : ∀ x d, f x = some d → 0 ≤ d ∧ d ≤ 524288) :
    Calls Tryd.prog 31 #[.slice A p.length ca, .slice B q.length cb] w (CPost w (comF p q t u f)) := by
  obtain ⟨r, hr⟩ : ∃ r, r = comF p q t u f := ⟨_, rfl⟩
  rw [← hr]
  have HR := Lib.hid hr
  have HC := Lib.hid hC
  have HD := Lib.hid hD
  have H1 := Lib.hid h1
  have H2 := Lib.hid h2
  have Ht := Lib.hid ht
  have Hu := Lib.hid hu
  have HT := Lib.hid htab
  have HF := Lib.hid hf
  have HFR := Lib.hid hfr
  clear hr hC hD h1 h2 ht hu htab hf hfr
  go_enter Tryd.func31, Tryd.ntmps31
  go_wp2_with fail
  refine (check_any A ca p _ HC.out hc (by omega)).mono ?_
  rw [H1.out]
  rintro e w1 ⟨rfl, k1⟩
  have L1 := Lib.hid k1
  clear k1
  go_wp2_with fail
  refine (check_any B cb q _ (Kd.C_below HD.out L1.out) hd (by omega)).mono ?_
  rw [H2.out]
  rintro e w2 ⟨rfl, k2⟩
  have L2 := Lib.hid (L1.out.trans (k2.mono L1.out.size))
  clear k2
  go_wp2_with fail
  refine (compile_any A ca p t w2 (Kd.C_below HC.out L2.out) hc hp5 Ht.out (HT.out.chg (Chg.of_below (L := []) L2.out) (by simp))).mono ?_
  rintro e w3 ⟨ma, fa, rfl, k3, k4⟩
  have L3 := Lib.hid (L2.out.trans (k4.mono L2.out.size))
  have MA3 : Hid (MachAt w3 ma fa A ca p t) := Lib.hid (MachAt.of k3 (Kd.C_below HC.out L2.out) hp5 k4)
  clear k3 k4
  go_wp2_with fail
  refine (compile_any B cb q u w3 (Kd.C_below HD.out L3.out) hd hq5 Hu.out (HT.out.chg (Chg.of_below (L := []) L3.out) (by simp))).mono ?_
  rintro e w4 ⟨mb, fb, rfl, k3, k4⟩
  have L4 := Lib.hid (L3.out.trans (k4.mono L3.out.size))
  have MA4 : Hid (MachAt w4 ma fa A ca p t) := Lib.hid (MA3.out.below k4)
  have MB4 : Hid (MachAt w4 mb fb B cb q u) := Lib.hid (MachAt.of k3 (Kd.C_below HD.out L3.out) hq5 k4)
  clear k3 k4
  go_wp2_with fail
  refine (dist_any w4 ma fa mb fb A B ca cb p q t u _ _ f MA4.out MB4.out Ht.out Hu.out (HT.out.chg (Chg.of_below (L := []) L4.out) (by simp)) HF.out).mono ?_
  rintro e w5 ⟨rm, rfl, k3, k4, k5⟩
  have L5 := Lib.hid (L4.out.trans (k5.mono L4.out.size))
  have MA5 := Lib.hid (MA4.out.below k5)
  have MB5 := Lib.hid (MB4.out.below k5)
  have PM5 := Lib.hid k3
  have m1 := MA5.out.hmb.lt
  have m2 := MB5.out.hmb.lt
  have m3 := k3.lt
  have e1 : ∀ k, k < 8 → (mcells (.slice A p.length ca) t.first t.last (.slice (some ⟨fa, 0, none⟩) p.length p.length) t.null)[1 + k]? = some (.int .u64 (limb t.first k)) := mc_first
  have e2 : ∀ k, k < 8 → (mcells (.slice B q.length cb) u.first u.last (.slice (some ⟨fb, 0, none⟩) q.length q.length) u.null)[1 + k]? = some (.int .u64 (limb u.first k)) := mc_first
  obtain ⟨u0, u1, u2, u3, u4, u5, u6, u7⟩ := cells8 (o := 1) MA5.out.hmb e1
  obtain ⟨v0, v1, v2, v3, v4, v5, v6, v7⟩ := cells8 (o := 1) MB5.out.hmb e2
  have HT5 := Lib.hid (HT.out.chg (Chg.of_below (L := []) L5.out) (by simp))
  have PT := Lib.hid Ht.out.places.1
  have PU := Lib.hid Hu.out.places.1
  obtain ⟨Q0, hQ0⟩ : ∃ Q, Q = meetL p q t.first u.first := ⟨_, rfl⟩
  have HQ0 := Lib.hid hQ0
  have hQ0l : Q0.length ≤ 262144 := by rw [hQ0]; exact meetL_length _ _ _ _
  have HQin : Hid (∀ y ∈ Q0, InP p.length q.length y) := Lib.hid (by rw [hQ0]; exact meetL_in PT.out PU.out)
  clear k3 k4 k5 e1 e2 hQ0
  go_wp2_with fail
  go_cut [11] (fun c11 wd => ∃ Q1 cq, c11 = .slice Q1 Q0.length cq ∧ Hid (ComInv (w5.alloc (.cells #[.map (some rm)] 87)) (w5.heap.size + 1) c11 Q0 wd))
  case first =>
    go_region_with (go_at_call 58; refine (meet_ex _ ma fa mb fb A B ca cb p q t u t.first u.first (MA5.out.below ((Below.refl _ _).alloc (Nat.le_refl _) _).drew) (MB5.out.below ((Below.refl _ _).alloc (Nat.le_refl _) _).drew) (HT5.out.chg (((Chg.refl [] _).alloc _).drew) (by simp)) PT.out PU.out).mono ?_; rw [← HQ0.out]; rintro e w6 ⟨v, rfl, h1, h2⟩; obtain ⟨Q1, cq, rfl⟩ := Kd.R_slice h1; have HQ := Lib.hid h1; have HL := Lib.hid h2; clear h1 h2)
    all_goals
      go_wp2
      go_meet
      refine ⟨_, _, rfl, Lib.hid ⟨(Below.refl _ _).drew.trans HL.out, ?_, ?_⟩⟩
      · have := HQ.out; simpa [World.drew] using this
      · have := HL.out.size; simpa [World.drew] using this
  case rest =>
    obtain ⟨Q1, cq, rfl, hI⟩ := hcut
    clear u0 u1 u2 u3 u4 u5 u6 u7 v0 v1 v2 v3 v4 v5 v6 v7
    obtain ⟨W9, hW9⟩ : ∃ W9, W9 = w5.alloc (.cells #[.map (some rm)] 87) := ⟨_, rfl⟩
    rw [← hW9] at hI
    have B59 : Hid (Below w5.heap.size w5 W9) := Lib.hid (by rw [hW9]; exact (Below.refl _ _).alloc (Nat.le_refl _) _)
    have L9 : Hid (Below w.heap.size w W9) := Lib.hid (L5.out.trans (B59.out.mono L5.out.size))
    have LV : Hid (Blk W9 w5.heap.size 87 [.map (some rm)]) := Lib.hid (by rw [hW9]; exact Blk.new w5 _ 87)
    have PM9 := Lib.hid (PM5.out.below B59.out)
    have MA9 := Lib.hid (MA5.out.below B59.out)
    have MB9 := Lib.hid (MB5.out.below B59.out)
    have HT9 := Lib.hid (HT5.out.chg (Chg.of_below (L := []) B59.out) (by simp))
    generalize hlv : w5.heap.size = lv at *
    have HLV := Lib.hid hlv
    clear hW9 m1 m2 m3 hlv
    go_wp2_with fail
    go_loopw [12, 54] (fun c12 c54 wr => ∃ (k : Nat) (best : Int), k ≤ Q0.length ∧ c54 = .int .i64 (k : Int) ∧ c12 = .int .i64 best ∧ -1 ≤ best ∧ best ≤ 524288 ∧ Hid (best = (Q0.take k).foldl (bestStep f) (-1)) ∧ Hid (ComInv W9 (lv + 1) (.slice Q1 Q0.length cq) Q0 wr)) (fun _ c54 _ => Q0.length - (intOf c54).toNat)
    case atStart => exact ⟨0, -1, Nat.zero_le _, rfl, rfl, by omega, by omega, Lib.hid rfl, hI⟩
    case round =>
      obtain ⟨k, best, hk, rfl, rfl, hb0, hb1, hbs, hJ⟩ := hrel
      by_cases hlt : k < Q0.length
      · have hkI : (k : Int) < (Q0.length : Int) := by omega
        obtain ⟨_, hcl, hCC⟩ := Kd.R_reads' hJ.out.hq
        obtain ⟨ad, rfl, x1, x2⟩ := at_T92 hCC k hlt
        obtain ⟨x, hx⟩ : ∃ x, x = rd_T92 Q0 k := ⟨_, rfl⟩
        rw [← hx] at x1 x2
        have y1 := World.block_lt_of_cell? wr _ x1
        have hstep : Hid ((Q0.take (k + 1)).foldl (bestStep f) (-1) = bestStep f best x) := Lib.hid (by rw [take_get hlt, List.foldl_append, ← hbs.out, hx]; rfl)
        have hLVw := LV.out.below hJ.out.low
        have lc : wr.cell? ⟨lv, 0, none⟩ = some (.map (some rm)) := hLVw.cell 0
        have ll := hLVw.lt
        have hJ2 := Lib.hid (hJ.out.below ((Below.refl wr.heap.size wr).alloc (Nat.le_refl _) (.cells #[.int .i64 x.1, .int .i64 x.2] 92)))
        have hlook := run_look' (((PM9.out.below hJ.out.low)).below ((Below.refl wr.heap.size wr).alloc (Nat.le_refl _) (.cells #[.int .i64 x.1, .int .i64 x.2] 92))) x true
        cases hfx : f x with
        | none =>
          rw [hfx] at hlook
          have hlook2 : (Instr.lookup 87 (.map (some rm)) (.agg #[.int .i64 x.1, .int .i64 x.2]) true).run Tryd.prog (wr.alloc (.cells #[.int .i64 x.1, .int .i64 x.2] 92)) = .ok (.tuple #[.int .i64 0, .bool false]) (wr.alloc (.cells #[.int .i64 x.1, .int .i64 x.2] 92)) := hlook
          have hst : Hid (bestStep f best x = best) := Lib.hid (by unfold bestStep; rw [hfx])
          clear hlook hfx hx hCC hLVw
          go_wp2
          go_roundw
          case rel => exact ⟨k + 1, best, by omega, by go_num, rfl, hb0, hb1, Lib.hid (by rw [hstep.out, hst.out]), hJ2⟩
          case measure => simp [intOf]; omega
        | some d =>
          rw [hfx] at hlook
          have hlook2 : (Instr.lookup 87 (.map (some rm)) (.agg #[.int .i64 x.1, .int .i64 x.2]) true).run Tryd.prog (wr.alloc (.cells #[.int .i64 x.1, .int .i64 x.2] 92)) = .ok (.tuple #[.int .i64 d, .bool true]) (wr.alloc (.cells #[.int .i64 x.1, .int .i64 x.2] 92)) := hlook
          obtain ⟨hd0, hd1⟩ := HFR.out x d hfx
          by_cases hneg : best < 0
          · have hst : Hid (bestStep f best x = d) := Lib.hid (by unfold bestStep; rw [hfx]; simp [hneg])
            clear hlook hfx hx hCC hLVw
            go_wp2
            go_roundw
            case rel => exact ⟨k + 1, d, by omega, by go_num, rfl, by omega, by omega, Lib.hid (by rw [hstep.out, hst.out]), hJ2⟩
            case measure => simp [intOf]; omega
          · by_cases hdl : d < best
            · have hst : Hid (bestStep f best x = d) := Lib.hid (by unfold bestStep; rw [hfx]; simp [hdl])
              clear hlook hfx hx hCC hLVw
              go_wp2
              go_roundw
              case rel => exact ⟨k + 1, d, by omega, by go_num, rfl, by omega, by omega, Lib.hid (by rw [hstep.out, hst.out]), hJ2⟩
              case measure => simp [intOf]; omega
            · have hst : Hid (bestStep f best x = best) := Lib.hid (by unfold bestStep; rw [hfx]; simp [hdl, hneg])
              clear hlook hfx hx hCC hLVw
              go_wp2
              go_roundw
              case rel => exact ⟨k + 1, best, by omega, by go_num, rfl, hb0, hb1, Lib.hid (by rw [hstep.out, hst.out]), hJ2⟩
              case measure => simp [intOf]; omega
      · have : k = Q0.length := by omega
        subst this
        have HBST : Hid (bestF f (meetL p q t.first u.first) = best) := Lib.hid (by have := hbs.out; rw [List.take_length] at this; rw [← HQ0.out]; exact this.symm)
        by_cases hneg : best < 0
        · have HE : Hid (r = (⟨#[]⟩, 3)) := Lib.hid (by rw [HR.out]; unfold comF; rw [HBST.out, if_pos hneg])
          go_wp2
          go_ret2
          rw [HE.out]
          exact ⟨rfl, L9.out.trans (hJ.out.low.mono L9.out.size)⟩
        · obtain ⟨FA, hFA⟩ : ∃ F, F = t.link (List.replicate p.length 0) := ⟨_, rfl⟩
          obtain ⟨FB, hFB⟩ : ∃ F, F = u.link (List.replicate q.length 0) := ⟨_, rfl⟩
          have HFA := Lib.hid hFA
          have HFB := Lib.hid hFB
          have HWA : Hid (Within FA p.length) := Lib.hid (by rw [hFA]; exact link_within Ht.out _ (within_zero _ _))
          have HWB : Hid (Within FB q.length) := Lib.hid (by rw [hFB]; exact link_within Hu.out _ (within_zero _ _))
          obtain ⟨nb, hnb⟩ : ∃ nb : Nat, (best : Int) = (nb : Int) := ⟨best.toNat, by omega⟩
          have HE : Hid (r = (strOfNums (outF p q FA FB f (nb + 1) Q0), 0)) := Lib.hid (by
            rw [HR.out]; unfold comF; rw [HBST.out, if_neg hneg, hFA, hFB, ← HQ0.out, hnb, Int.toNat_natCast])
          subst hnb
          obtain ⟨RS, hRS⟩ : ∃ RS, RS = outF p q FA FB f (nb + 1) Q0 := ⟨_, rfl⟩
          rw [← hRS] at HE
          have HRS := Lib.hid hRS
          have hw9 : W9.heap.size ≤ wr.heap.size := hJ.out.low.size
          have M0 : Hid (MainInv W9 (lv + 1) wr.heap.size (wr.heap.size + 1) (.slice Q1 Q0.length cq) (.slice (some ⟨wr.heap.size, 0, none⟩) 0 0) Q0 [] (nb : Int) ((wr.alloc (.cells #[] 5)).alloc (.cells #[.int .i64 (nb : Int)] 3))) := Lib.hid (by
            have hJ2 := (hJ.out.below ((Below.refl wr.heap.size wr).alloc (Nat.le_refl _) (.cells #[] 5))).below ((Below.refl (wr.alloc (.cells #[] 5)).heap.size (wr.alloc (.cells #[] 5))).alloc (Nat.le_refl _) (.cells #[.int .i64 (nb : Int)] 3))
            refine ⟨hJ2.low, hJ2.hq, Kd.R_alloc (R_empty wr) _, Blk.newE _ _ _ _ _ (by simp) rfl, by omega, hw9, hJ2.b0, by simp; omega⟩)
          clear hRS hFA hFB hJ hbs
          go_wp2_with fail
          generalize hob : wr.heap.size = ob at *
          have HOB := Lib.hid hob
          clear hob
          go_loopg [11, 17, 18] (nb + 1) (fun n c11 c17 c18 wr => ∃ (now : List (Int × Int)) (N : Option Addr) (cn : Nat) (out : List Int) (O : Option Addr) (co dv : Nat), c11 = .slice N now.length cn ∧ c17 = .slice O out.length co ∧ c18 = .pointer (some ⟨dv, 0, none⟩) ∧ n ≤ 524289 ∧ now.length ≤ 262144 ∧ out.length + n ≤ 600000 ∧ Hid (MainInv W9 (lv + 1) ob dv c11 c17 now out ((n : Int) - 1) wr) ∧ Hid (RS = out ++ outF p q FA FB f n now) ∧ Hid (∀ y ∈ now, InP p.length q.length y))
          case atStart => exact ⟨Q0, Q1, cq, [], some ⟨ob, 0, none⟩, 0, ob + 1, rfl, rfl, rfl, by omega, hQ0l, by simp; omega, by simpa using M0, Lib.hid HRS.out, HQin⟩
          case round =>
            obtain ⟨now, N, cn, out, O, co, dv, rfl, rfl, rfl, hn1, hn2, hn3, hM, hS, hIn⟩ := hrel
            cases gk with
            | zero =>
              have hS2 : Hid (RS = out) := Lib.hid (by rw [hS.out]; simp [outF])
              have c1 : wr.cell? ⟨dv, 0, none⟩ = some (.int .i64 (-1)) := by have := hM.out.hd.cell 0; simpa using this
              obtain ⟨_, hcl, hCO⟩ := Kd.R_reads' hM.out.ho
              have hconv := Kd.C_string (dst := 9) Tryd.underlying22 Tryd.underlying5 Tryd.underlying9 (c := co) hCO
              clear hS hCO
              go_wp2
              go_ret2
              rw [HE.out, hS2.out]
              exact ⟨rfl, L9.out.trans (hM.out.low.mono L9.out.size)⟩
            | succ n =>
              have hM1 : Hid (MainInv W9 (lv + 1) ob dv (.slice N now.length cn) (.slice O out.length co) now out (n : Int) wr) := Lib.hid (by have := hM.out; rwa [show (((n + 1 : Nat) : Int) - 1) = (n : Int) by omega] at this)
              have c1 : wr.cell? ⟨dv, 0, none⟩ = some (.int .i64 (n : Int)) := hM1.out.hd.cell 0
              obtain ⟨ls, hls⟩ : ∃ l, l = leastF p q f (n : Int) now := ⟨_, rfl⟩
              have hS2 : Hid (RS = out ++ (ls % 256 :: outF p q FA FB f n (afterF p q FA FB now ls (fun x => decide (f x = some (n : Int)))))) := Lib.hid (by rw [hS.out, hls]; rfl)
              have HLS := Lib.hid hls
              have hM1k := hM1.out.low
              have HMAk := Lib.hid (MA9.out.below hM1.out.low)
              have HMBk := Lib.hid (MB9.out.below hM1.out.low)
              clear hS hM hls hM1k
              go_upto_block 4 with (fail)
              generalize hw0 : wr = w0 at *
              have HW0 := Lib.hid hw0
              clear hw0
              go_cut [19] (fun c19 wd => c19 = .int .i64 ls ∧ Hid (MainInv W9 (lv + 1) ob dv (.slice N now.length cn) (.slice O out.length co) now out (n : Int) wd))
              case first =>
                go_wp2_with fail
                go_loopw [19, 86] (fun c19 c86 wr => ∃ (k : Nat) (l : Int), k ≤ now.length ∧ c86 = .int .i64 (k : Int) ∧ c19 = .int .i64 l ∧ Hid (l = (now.take k).foldl (leastStep p q f (n : Int)) 256) ∧ Hid (MainInv W9 (lv + 1) ob dv (.slice N now.length cn) (.slice O out.length co) now out (n : Int) wr)) (fun _ c86 _ => now.length - (intOf c86).toNat)
                case atStart => exact ⟨0, 256, Nat.zero_le _, rfl, rfl, Lib.hid rfl, hM1⟩
                case round =>
                  obtain ⟨k, l, hk, rfl, rfl, hl, hK⟩ := hrel
                  by_cases hlt : k < now.length
                  · have hkI : (k : Int) < (now.length : Int) := by omega
                    obtain ⟨_, hcl, hCC⟩ := Kd.R_reads' hK.out.hq
                    obtain ⟨nd, rfl, x1, x2⟩ := at_T92 hCC k hlt
                    obtain ⟨a, b, hx, ha, hb⟩ := hIn.out _ (rd_mem hlt)
                    rw [hx] at x1 x2
                    simp only at x1 x2
                    have y1 := World.block_lt_of_cell? wr _ x1
                    have hstep : Hid ((now.take (k + 1)).foldl (leastStep p q f (n : Int)) 256 = leastStep p q f (n : Int) l ((a : Int), (b : Int))) := Lib.hid (by rw [take_get hlt, List.foldl_append, ← hl.out, hx]; rfl)
                    have hLVw := LV.out.below hK.out.low
                    have lc : wr.cell? ⟨lv, 0, none⟩ = some (.map (some rm)) := hLVw.cell 0
                    have ll := hLVw.lt
                    have dc : wr.cell? ⟨dv, 0, none⟩ = some (.int .i64 (n : Int)) := hK.out.hd.cell 0
                    have dl := hK.out.hd.lt
                    have hK2 := Lib.hid (hK.out.below ((Below.refl wr.heap.size wr).alloc (Nat.le_refl _) (.cells #[.int .i64 (a : Int), .int .i64 (b : Int)] 92)))
                    have hlook := run_look' (((PM9.out.below hK.out.low)).below ((Below.refl wr.heap.size wr).alloc (Nat.le_refl _) (.cells #[.int .i64 (a : Int), .int .i64 (b : Int)] 92))) ((a : Int), (b : Int)) true
                    cases hfx : f ((a : Int), (b : Int)) with
                    | none =>
                      rw [hfx] at hlook
                      have hlook2 : (Instr.lookup 87 (.map (some rm)) (.agg #[.int .i64 (a : Int), .int .i64 (b : Int)]) true).run Tryd.prog (wr.alloc (.cells #[.int .i64 (a : Int), .int .i64 (b : Int)] 92)) = .ok (.tuple #[.int .i64 0, .bool false]) (wr.alloc (.cells #[.int .i64 (a : Int), .int .i64 (b : Int)] 92)) := hlook
                      have hst : Hid (leastStep p q f (n : Int) l ((a : Int), (b : Int)) = l) := Lib.hid (by unfold leastStep; rw [hfx]; simp)
                      clear hlook hfx hx hCC hLVw
                      go_wp2
                      go_roundw
                      case rel => exact ⟨k + 1, l, by omega, by go_num, rfl, Lib.hid (by rw [hstep.out, hst.out]), hK2⟩
                      case measure => simp [intOf]; omega
                    | some z =>
                      rw [hfx] at hlook
                      have hlook2 : (Instr.lookup 87 (.map (some rm)) (.agg #[.int .i64 (a : Int), .int .i64 (b : Int)]) true).run Tryd.prog (wr.alloc (.cells #[.int .i64 (a : Int), .int .i64 (b : Int)] 92)) = .ok (.tuple #[.int .i64 z, .bool true]) (wr.alloc (.cells #[.int .i64 (a : Int), .int .i64 (b : Int)] 92)) := hlook
                      by_cases hz : z = (n : Int)
                      · subst hz
                        have haI : (a : Int) < (p.length : Int) := by omega
                        have hbI : (b : Int) < (q.length : Int) := by omega
                        have hAw := MA9.out.below hK.out.low
                        have hBw := MB9.out.below hK.out.low
                        obtain ⟨pd, rfl, _, p1, _, _, _⟩ := at_T50 hAw.hC a (by omega) haI
                        obtain ⟨qd, rfl, _, q1, _, _, _⟩ := at_T50 hBw.hC b (by omega) hbI
                        simp only [Int.toNat_natCast] at p1 q1
                        have l3 := World.block_lt_of_cell? wr _ p1
                        have l4 := World.block_lt_of_cell? wr _ q1
                        simp only at l3 l4
                        obtain ⟨lo1, e1⟩ : ∃ z, z = (rd_T50 p a).f1 := ⟨_, rfl⟩
                        obtain ⟨lo2, e2⟩ : ∃ z, z = (rd_T50 q b).f1 := ⟨_, rfl⟩
                        rw [← e1] at p1
                        rw [← e2] at q1
                        have hst : Hid (leastStep p q f (n : Int) l ((a : Int), (b : Int)) = mn2 l (mx2 lo1 lo2)) := Lib.hid (by unfold leastStep; rw [hfx, if_pos rfl, e1, e2])
                        clear hlook hfx hx hCC hLVw hAw hBw e1 e2
                        go_wp2_with fail
                        go_quiet (fail)
                        go_wp2
                        go_roundw
                        case rel => exact ⟨k + 1, _, by omega, by go_num, rfl, Lib.hid (by rw [hstep.out, hst.out]), Lib.hid (hK2.out.below (pw_below_drewN (Below.refl _ _) _))⟩
                        case measure => simp [intOf]; omega
                      · have hzb : (z == (n : Int)) = false := by simpa using hz
                        have hst : Hid (leastStep p q f (n : Int) l ((a : Int), (b : Int)) = l) := Lib.hid (by unfold leastStep; rw [hfx]; simp [hz])
                        clear hlook hfx hx hCC hLVw hz
                        go_wp2
                        go_roundw
                        case rel => exact ⟨k + 1, l, by omega, by go_num, rfl, Lib.hid (by rw [hstep.out, hst.out]), hK2⟩
                        case measure => simp [intOf]; omega
                  · have : k = now.length := by omega
                    subst this
                    have hL2 : Hid (l = ls) := Lib.hid (by rw [hl.out, List.take_length, HLS.out]; rfl)
                    go_wp2_with fail
                    go_meet
                    exact ⟨by rw [hL2.out], hK⟩
              case rest =>
                obtain ⟨rfl, hM2⟩ := hcut
                obtain ⟨lb, hlb⟩ : ∃ lb, lb = ls % 256 := ⟨_, rfl⟩
                have hu8 : IntKind.u8.wrap ls = lb := by rw [u8_mod, hlb]
                have HLB := Lib.hid hlb
                have hs2 := hM2.out.s2
                clear hlb c1
                go_wp2_with (first | ((with_reducible refine gate_builtin (b := .append) (xs := #[.tmp 118, .tmp 121]) rfl ?_); at_builtin; refine Kd.R_append (Kd.int .u8) (w0 := wc) ob rfl (.tmp 118) (.tmp 121) 22 5 (.int .u8 0) 1 rfl Tryd.underlying22 info5 rfl (by decide) (by omega) (.slice O out.length co) out lb [.int .u8 lb] (fun _ => True) (fun _ => False) rfl rfl ?aP (fun _ hk => hk.elim) ?aF ?aO ?aB ?aS ?aL ?_; (case aP => exact kint_mk _ _ _ lb); (case aF => exact (fun _ _ => trivial)); (case aO => exact hM2.out.ho); (case aB => exact Below.refl _ _); (case aS => omega); (case aL => omega); intro v1 w6 ho1 hb1 hg1 hat1; obtain ⟨A1, c1, rfl⟩ := Kd.R_slice ho1; simp only [List.length_append, List.length_cons, List.length_nil, Nat.zero_add] at ho1 hat1; have HO1 := Lib.hid (hM2.out.pushO ho1 hg1); clear ho1 hb1 hg1 hat1) | fail)
                have hlow6 := HO1.out.low
                refine (after_any w6 ma fa mb fb A B N ca cb cn p q t u _ _ now ls lv dv rm (n : Int) f (MA9.out.below hlow6) (MB9.out.below hlow6) Ht.out Hu.out (HT9.out.chg (Chg.of_below (L := []) hlow6) (by simp)) (Kd.R_reads' HO1.out.hq).2.2 hIn.out (by omega) (LV.out.below hlow6) HO1.out.hd (PM9.out.below hlow6)).mono ?_
                rw [← HFA.out, ← HFB.out]
                obtain ⟨now', hnow'⟩ : ∃ l, l = afterF p q FA FB now ls (fun x => decide (f x = some (n : Int))) := ⟨_, rfl⟩
                have hones : Ones p.length q.length now' := by rw [hnow']; exact Ones.after HWA.out HWB.out _ (Ones.nil _ _)
                have hnl := hones.room hp5 hq5
                have HIN2 : Hid (∀ y ∈ now', InP p.length q.length y) := Lib.hid hones.inP
                rw [← hnow']
                have hS3 : Hid (RS = (out ++ [lb]) ++ outF p q FA FB f n now') := Lib.hid (by rw [hS2.out, hnow', HLB.out]; simp)
                rintro e w7 ⟨v, rfl, k1, k2⟩
                obtain ⟨N', cn', rfl⟩ := Kd.R_slice k1
                have M7 := Lib.hid (HO1.out.newNow k2 k1)
                have d7 : w7.cell? ⟨dv, 0, none⟩ = some (.int .i64 (n : Int)) := M7.out.hd.cell 0
                have dl7 := M7.out.hd.lt
                have M8 := Lib.hid (M7.out.newD ((n : Int) - 1))
                have hwn : IntKind.i64.wrap ((n : Int) - 1) = (n : Int) - 1 := IntWalk.i64_in _ (by omega)
                clear hlow6 hones hnow' k1 k2
                go_wp2
                go_roundg n
                case measure => omega
                case rel => exact ⟨now', N', cn', out ++ [lb], A1, c1, w7.heap.size, rfl, by simp only [List.length_append, List.length_cons, List.length_nil, Nat.zero_add], rfl, by omega, hnl, by simp only [List.length_append, List.length_cons, List.length_nil, Nat.zero_add]; omega, M8, hS3, HIN2⟩
end Go.Proofs.YtaphblnelmncaaaDoor.PA
end

section
/- Common and Shortest for all patterns. -/
set_option linter.unusedVariables false
namespace Go.Proofs.YtaphblnelmncaaaDoor.PA
open Go.RowKit Go.Proofs.YtaphblnelmncaaaDoorW.PrintWords Go.Proofs.YtaphblnelmncaaaDoorW.PrintLast Go.Proofs.YtaphblnelmncaaaDoorW.PrintMore

/-- A pattern in order and its tree. -/
structure Good (p : List S50) (t : Re) : Prop where
  chk : chk p = 0
  len : p.length ≤ 512
  is : IsRe p (p.length - 1) t
  ok : t.ok
  size : t.size = p.length
/-- A pattern in order, its tree, each place standing once. -/
structure Fine (p : List S50) (t : Re) : Prop where
  good : Good p t
  once : t.leaves.Nodup
theorem fine_of {p : List S50} (h : PA.chk p = 0) : ∃ t, Fine p t := by
  obtain ⟨h1, t, h2, h3, h4, h5⟩ := tree_of_chk h
  exact ⟨t, ⟨h, h1, h2, h3, h4⟩, h5⟩
theorem good_of {p : List S50} (h : chk p = 0) : ∃ t, Good p t := by
  obtain ⟨t, ht⟩ := fine_of h
  exact ⟨t, ht.good⟩
theorem bfsF_rng {p q : List S50} {A B : List Nat} (hA : Within A p.length) (hB : Within B q.length) (hp : p.length ≤ 512) (hq : q.length ≤ 512) {init : List (Int × Int)} (hi : init.length ≤ 262144) :
    ∀ (n i : Nat) (s : List (Int × Int) × DMap) (f : DMap), BInv p.length q.length init s → bfsF p q A B n i s = some f → ∀ x d, f x = some d → 0 ≤ d ∧ d ≤ 524288
  | 0, i, s, f, h, hf => by simp [bfsF] at hf
  | n + 1, i, s, f, h, hf => by
    unfold bfsF at hf
    split at hf
    · exact bfsF_rng hA hB hp hq hi n (i + 1) _ f (h.row _ _ (prevL_in hA hB _)) hf
    · cases hf
      intro x d hx
      have := h.rng x d hx
      have := h.room hp hq hi
      omega
/-- The distances exist. -/
theorem dist_total {p q : List S50} {t u : Re} (hp : Good p t) (hq : Good q u) : ∃ f, distF p q (t.link (List.replicate p.length 0)) (u.link (List.replicate q.length 0)) t.last u.last = some f ∧ ∀ x d, f x = some d → 0 ≤ d ∧ d ≤ 524288 := by
  have hA : Within (backF (t.link (List.replicate p.length 0))) p.length := by have := backF_within (t.link (List.replicate p.length 0)); rwa [Re.link_length, List.length_replicate] at this
  have hB : Within (backF (u.link (List.replicate q.length 0))) q.length := by have := backF_within (u.link (List.replicate q.length 0)); rwa [Re.link_length, List.length_replicate] at this
  have hb := binv_start (n := p.length) (m := q.length) (meetL_in (p := p) (q := q) (S := t.last) (T := u.last) hp.is.places.2 hq.is.places.2)
  obtain ⟨f, hf⟩ := bfsF_total hA hB hp.len hq.len (meetL_length p q t.last u.last) 600000 0 _ hb (Nat.zero_le _) (by decide)
  exact ⟨f, hf, bfsF_rng hA hB hp.len hq.len (meetL_length p q t.last u.last) _ _ _ f hb hf⟩

/-- r is what Common answers. -/
def IsCom (p q : List S50) (r : ByteArray × Int) : Prop :=
  (chk p ≠ 0 ∧ r = (⟨#[]⟩, chk p)) ∨ (chk p = 0 ∧ chk q ≠ 0 ∧ r = (⟨#[]⟩, chk q)) ∨
  ∃ t u f, Good p t ∧ Good q u ∧ distF p q (t.link (List.replicate p.length 0)) (u.link (List.replicate q.length 0)) t.last u.last = some f ∧ r = comF p q t u f
theorem com_ex (p q : List S50) : ∃ r, IsCom p q r := by
  by_cases h1 : chk p = 0
  · by_cases h2 : chk q = 0
    · obtain ⟨t, ht⟩ := good_of h1
      obtain ⟨u, hu⟩ := good_of h2
      obtain ⟨f, hf, _⟩ := dist_total ht hu
      exact ⟨_, .inr (.inr ⟨t, u, f, ht, hu, hf, rfl⟩)⟩
    · exact ⟨_, .inr (.inl ⟨h1, h2, rfl⟩)⟩
  · exact ⟨_, .inl ⟨h1, rfl⟩⟩
theorem com_any (A B : Option Addr) (ca cb : Nat) (p q : List S50) (r : ByteArray × Int) (w : World) (hC : Kd.C k50 w A p.length p) (hD : Kd.C k50 w B q.length q) (hc : p.length ≤ ca) (hd : q.length ≤ cb) (hpb : p.length * 40 ≤ 140737488351232) (hqb : q.length * 40 ≤ 140737488351232) (htab : Tab w) (hr : IsCom p q r) :
    Calls Tryd.prog 31 #[.slice A p.length ca, .slice B q.length cb] w (CPost w r) := by
  rcases hr with ⟨h1, hr⟩ | ⟨h1, h2, hr⟩ | ⟨t, u, f, ht, hu, hf, hr⟩
  · have := com_bad A B ca cb p q w hC hD hc hd hpb hqb (.inl h1)
    rw [if_pos h1] at this
    rw [hr]; exact this
  · have := com_bad A B ca cb p q w hC hD hc hd hpb hqb (.inr h2)
    rw [if_neg (by simp [h1])] at this
    rw [hr]; exact this
  · rw [hr]
    obtain ⟨f', hf', hrg⟩ := dist_total ht hu
    rw [hf] at hf'; cases hf'
    exact com_good A B ca cb p q t u f w hC hD hc hd ht.len hu.len ht.chk hu.chk ht.is hu.is htab hf hrg
set_option maxHeartbeats 1000000 in
theorem short_any (A : Option Addr) (ca : Nat) (p : List S50) (r : ByteArray × Int) (w : World) (hC : Kd.C k50 w A p.length p) (hc : p.length ≤ ca) (hpb : p.length * 40 ≤ 140737488351232) (htab : Tab w) (hr : IsCom p p r) :
    Calls Tryd.prog 29 #[.slice A p.length ca] w (CPost w r) := by
  have K := Lib.hid (com_any A A ca ca p p r w hC hC hc hc hpb hpb htab hr)
  clear hC htab hr
  go_enter Tryd.func29, Tryd.ntmps29
  go_wp2_with fail
  refine K.out.mono ?_
  rintro e w1 ⟨rfl, k1⟩
  have L1 := Lib.hid k1
  clear k1
  go_wp2
  go_ret2
  exact ⟨rfl, L1.out⟩
end Go.Proofs.YtaphblnelmncaaaDoor.PA
end

section
/- The reader's functions: how far they go, how much they make. -/
set_option linter.unusedVariables false
namespace Go.Proofs.YtaphblnelmncaaaDoor.PA
open Go.Proofs.YtaphblnelmncaaaDoorW.PrintWords

/-- From st on: what has been made is bounded by the bytes that have been passed. -/
structure Gr (st st' : St) : Prop where
  pos : st.pos ≤ st'.pos
  any : st'.out.length + 2 * st.pos ≤ st.out.length + 2 * st'.pos + 1
  good : st'.wrong = false → st'.out.length + 1 + 2 * st.pos ≤ st.out.length + 2 * st'.pos

theorem pass_out (s : ByteArray) (b : Int) (st : St) : (pass s b st).out = st.out ∧ (pass s b st).wrong = st.wrong ∧ st.pos ≤ (pass s b st).pos ∧ (isNext s b st = true → (pass s b st).pos = st.pos + 1) := by
  unfold pass; split <;> simp_all
theorem charF_gr (s : ByteArray) (st : St) : (charF s st).2.out = st.out ∧ st.pos ≤ (charF s st).2.pos ∧ ((charF s st).2.wrong = false → st.pos < (charF s st).2.pos) := by
  have h1 := pass_out s 92 st
  have h2 := pass_out s 120 (pass s 92 st)
  unfold charF St.bad
  split
  · simp
  split
  · split
    · split
      · split
        · refine ⟨by simp [h1, h2], by simp; omega, fun _ => by simp; omega⟩
        · refine ⟨by simp [h1, h2], by simp; omega, fun h => by simp at h⟩
      · refine ⟨by simp [h1, h2], by simp; omega, fun h => by simp at h⟩
    · refine ⟨by simp [h1], by simp; omega, fun h => by simp at h⟩
  · refine ⟨rfl, by simp, fun h => by simp at h⟩

structure AllGr (s : ByteArray) (n : Nat) : Prop where
  star : ∀ st0 i st r, Gr st0 st → starF s n i st = some r → Gr st0 r.2
  atom : ∀ st r, atomF s n st = some r → Gr st r.2
  seq : ∀ st r, seqF s n st = some r → Gr st r.2
  seqL : ∀ st0 i st r, Gr st0 st → seqLoop s n i st = some r → Gr st0 r.2
  alt : ∀ st r, altF s n st = some r → Gr st r.2
  altL : ∀ st0 i st r, Gr st0 st → altLoop s n i st = some r → Gr st0 r.2

theorem gr_star {s : ByteArray} {st0 st : St} {x : S50} (h : Gr st0 st) (hw : st.wrong = false) (hn : isNext s 42 st = true) : Gr st0 ((pass s 42 st).add x) := by
  obtain ⟨h1, h2, h3⟩ := h
  obtain ⟨p1, p2, p3, p4⟩ := pass_out s 42 st
  have := p4 hn
  have := h3 hw
  refine ⟨by simp only [St.add]; omega, ?_, fun _ => ?_⟩ <;> (simp only [St.add, List.length_append, List.length_cons, List.length_nil, p1]; omega)
theorem gr_seq {st0 st st' : St} {x : S50} (h : Gr st0 st) (hw : st.wrong = false) (k : Gr st st') : Gr st0 (st'.add x) := by
  obtain ⟨h1, h2, h3⟩ := h
  obtain ⟨k1, k2, k3⟩ := k
  have := h3 hw
  refine ⟨by simp only [St.add]; omega, ?_, fun g => ?_⟩
  · simp only [St.add, List.length_append, List.length_cons, List.length_nil]; omega
  · have := k3 g
    simp only [St.add, List.length_append, List.length_cons, List.length_nil]; omega
theorem gr_alt {s : ByteArray} {b : Int} {st0 st st' : St} {x : S50} (h : Gr st0 st) (hw : st.wrong = false) (hn : isNext s b st = true) (k : Gr (pass s b st) st') : Gr st0 (st'.add x) := by
  obtain ⟨h1, h2, h3⟩ := h
  obtain ⟨k1, k2, k3⟩ := k
  obtain ⟨p1, p2, p3, p4⟩ := pass_out s b st
  have := p4 hn
  have := h3 hw
  rw [p1] at k2 k3
  refine ⟨by simp only [St.add]; omega, ?_, fun g => ?_⟩
  · simp only [St.add, List.length_append, List.length_cons, List.length_nil]; omega
  · have := k3 g
    simp only [St.add, List.length_append, List.length_cons, List.length_nil]; omega
theorem gr_range {s : ByteArray} {st : St} (hn : isNext s 91 st = true) : Gr st ((rangeF s (pass s 91 st)).2.add (rangeF s (pass s 91 st)).1) ∧ (rangeF s (pass s 91 st)).2.out = st.out := by
  obtain ⟨p1, p2, p3, p4⟩ := pass_out s 91 st
  have := p4 hn
  have c1 := charF_gr s (pass s 91 st)
  unfold rangeF
  generalize hA : charF s (pass s 91 st) = A at *
  obtain ⟨lo, st1⟩ := A
  have q := pass_out s 45 st1
  have c2 := charF_gr s (pass s 45 st1)
  simp only at *
  generalize hB : charF s (pass s 45 st1) = B at *
  obtain ⟨hi, st3⟩ := B
  have q3 := pass_out s 93 st3
  simp only at *
  split
  · refine ⟨⟨by simp only [St.add, St.bad]; omega, ?_, fun g => by simp [St.add, St.bad] at g⟩, by simp [St.bad, c1, c2, q, p1]⟩
    simp only [St.add, St.bad, List.length_append, List.length_cons, List.length_nil, c2.1, q.1, c1.1, p1]; omega
  · refine ⟨⟨by simp only [St.add, St.bad]; omega, ?_, fun g => ?_⟩, by simp [St.bad, c1, c2, q, q3, p1]⟩ <;>
    (simp only [St.add, St.bad, List.length_append, List.length_cons, List.length_nil, q3.1, c2.1, q.1, c1.1, p1]; omega)
theorem gr_paren {s : ByteArray} {st : St} {x : S50} (h1 : isNext s 40 st = true) (h2 : isNext s 41 (pass s 40 st) = true) : Gr st ((pass s 41 (pass s 40 st)).add x) := by
  obtain ⟨p1, p2, p3, p4⟩ := pass_out s 40 st
  obtain ⟨q1, q2, q3, q4⟩ := pass_out s 41 (pass s 40 st)
  have := p4 h1
  have := q4 h2
  refine ⟨by simp only [St.add]; omega, ?_, fun _ => ?_⟩ <;> (simp only [St.add, List.length_append, List.length_cons, List.length_nil, q1, p1]; omega)
theorem gr_in {s : ByteArray} {st st' : St} (h1 : isNext s 40 st = true) (k : Gr (pass s 40 st) st') : Gr st (if st'.wrong then st'.bad true else (pass s 41 st').bad (!isNext s 41 st')) := by
  obtain ⟨p1, p2, p3, p4⟩ := pass_out s 40 st
  obtain ⟨q1, q2, q3, q4⟩ := pass_out s 41 st'
  obtain ⟨k1, k2, k3⟩ := k
  have := p4 h1
  rw [p1] at k2 k3
  split
  · refine ⟨by simp only [St.bad]; omega, by simp only [St.bad]; omega, fun g => by simp [St.bad] at g⟩
  · rename_i hw
    have := k3 (by simpa using hw)
    refine ⟨by simp only [St.bad]; omega, ?_, fun g => ?_⟩ <;> (simp only [St.bad, q1]; omega)
theorem gr_char (s : ByteArray) (st : St) (x : S50) : Gr st ((charF s st).2.add x) := by
  obtain ⟨c1, c2, c3⟩ := charF_gr s st
  refine ⟨by simp only [St.add]; omega, ?_, fun g => ?_⟩
  · simp only [St.add, List.length_append, List.length_cons, List.length_nil, c1]; omega
  · have := c3 g
    simp only [St.add, List.length_append, List.length_cons, List.length_nil, c1]; omega

theorem allGr (s : ByteArray) : ∀ n, AllGr s n
  | 0 => ⟨fun _ _ _ _ _ h => by simp [starF] at h, fun _ _ h => by simp [atomF] at h, fun _ _ h => by simp [seqF] at h, fun _ _ _ _ _ h => by simp [seqLoop] at h, fun _ _ h => by simp [altF] at h, fun _ _ _ _ _ h => by simp [altLoop] at h⟩
  | n + 1 => by
    have ih := allGr s n
    refine ⟨?_, ?_, ?_, ?_, ?_, ?_⟩
    · intro st0 i st r hg h
      simp only [starF] at h
      split at h
      · cases h; exact hg
      · rename_i hw
        split at h
        · rename_i hn
          exact ih.star _ _ _ _ (gr_star hg (by simpa using hw) hn) h
        · cases h; exact hg
    · intro st r h
      simp only [atomF] at h
      split at h
      · rename_i hn
        exact ih.star _ _ _ _ (gr_range hn).1 h
      split at h
      · rename_i hn
        split at h
        · rename_i hn2
          exact ih.star _ _ _ _ (gr_paren hn hn2) h
        · obtain ⟨r1, h1, h2⟩ := Option.bind_eq_some_iff.1 h
          have hg := gr_in hn (ih.alt _ _ h1)
          split at h2
          · rename_i hw
            rw [if_pos hw] at hg
            exact ih.star _ _ _ _ hg h2
          · rename_i hw
            rw [if_neg hw] at hg
            exact ih.star _ _ _ _ hg h2
      · exact ih.star _ _ _ _ (gr_char s st _) h
    · intro st r h
      simp only [seqF] at h
      obtain ⟨r1, h1, h2⟩ := Option.bind_eq_some_iff.1 h
      exact ih.seqL _ _ _ _ (ih.atom _ _ h1) h2
    · intro st0 i st r hg h
      simp only [seqLoop] at h
      split at h
      · rename_i hw
        simp only [Bool.and_eq_true, Bool.not_eq_true'] at hw
        obtain ⟨r1, h1, h2⟩ := Option.bind_eq_some_iff.1 h
        exact ih.seqL _ _ _ _ (gr_seq hg hw.1 (ih.atom _ _ h1)) h2
      · cases h; exact hg
    · intro st r h
      simp only [altF] at h
      obtain ⟨r1, h1, h2⟩ := Option.bind_eq_some_iff.1 h
      exact ih.altL _ _ _ _ (ih.seq _ _ h1) h2
    · intro st0 i st r hg h
      simp only [altLoop] at h
      split at h
      · cases h; exact hg
      · rename_i hw
        split at h
        · rename_i hn
          obtain ⟨r1, h1, h2⟩ := Option.bind_eq_some_iff.1 h
          exact ih.altL _ _ _ _ (gr_alt hg (by simpa using hw) hn (ih.seq _ _ h1)) h2
        · cases h; exact hg
end Go.Proofs.YtaphblnelmncaaaDoor.PA
end

section
/- The reader's alternatives, given its sequences. -/
set_option linter.unusedVariables false
namespace Go.Proofs.YtaphblnelmncaaaDoor.PA
open Go.RowKit Go.Proofs.YtaphblnelmncaaaDoorW.PrintWords Go.Proofs.YtaphblnelmncaaaDoorW.PrintLast Go.Proofs.YtaphblnelmncaaaDoorW.PrintMore

theorem RS.c0 {base rb : Nat} {s : ByteArray} {st : St} {w : World} (h : RS base rb s st w) : w.cell? ⟨rb, 0, none⟩ = some (.string s) := by obtain ⟨v, hB, _⟩ := h.ex; exact hB.cell 0
theorem RS.c1 {base rb : Nat} {s : ByteArray} {st : St} {w : World} (h : RS base rb s st w) : w.cell? ⟨rb, 1, none⟩ = some (.int .i64 st.pos) := by obtain ⟨v, hB, _⟩ := h.ex; exact hB.cell 1
theorem RS.c3 {base rb : Nat} {s : ByteArray} {st : St} {w : World} (h : RS base rb s st w) : w.cell? ⟨rb, 3, none⟩ = some (.bool st.wrong) := by obtain ⟨v, hB, _⟩ := h.ex; exact hB.cell 3
theorem RS.fz {base rb : Nat} {s : ByteArray} {st : St} {w : World} (h : RS base rb s st w) (i : Nat) : w.frozen? ⟨rb, i, none⟩ = false := by obtain ⟨v, hB, _⟩ := h.ex; exact hB.frozen i
theorem RS.lt {base rb : Nat} {s : ByteArray} {st : St} {w : World} (h : RS base rb s st w) : rb < w.heap.size := by obtain ⟨v, hB, _⟩ := h.ex; exact hB.lt

/-- The reader's function f does what F tells. -/
def RdOK (base rb : Nat) (s : ByteArray) (f : Nat) (F : St → Option (Int × St)) : Prop :=
  ∀ st r w, F st = some r → RS base rb s st w → st.out.length ≤ 2 * st.pos → Calls Tryd.prog f #[.pointer (some ⟨rb, 0, none⟩)] w (RPost base rb s w r)

theorem Gr.room {s : ByteArray} {st st' : St} (h : Gr st st') (hb : st.out.length ≤ 2 * st.pos) (hf : Fit s) (hp : st'.pos ≤ s.size) : st'.out.length ≤ 1000000 := by
  have := h.any; unfold Fit at hf; omega
theorem Gr.again {st st' : St} (h : Gr st st') (hb : st.out.length ≤ 2 * st.pos) (hw : st'.wrong = false) : st'.out.length ≤ 2 * st'.pos := by
  have := h.good hw; omega

set_option maxHeartbeats 1000000 in
theorem alt_step (base rb : Nat) (s : ByteArray) (hf : Fit s) (n : Nat) (hseq : ∀ m, m ≤ n → RdOK base rb s 77 (seqF s m)) : RdOK base rb s 55 (altF s (n + 1)) := by
  intro st r w hF hR hb
  have HS := Lib.hid hseq
  have HB := Lib.hid hb
  simp only [altF] at hF
  obtain ⟨r1, h1, h2⟩ := Option.bind_eq_some_iff.1 hF
  have G1 : Hid (Gr st r1.2) := Lib.hid ((allGr s n).seq _ _ h1)
  have H1 := Lib.hid h1
  have H2 := Lib.hid h2
  have HR := Lib.hid hR
  clear hseq hb hF h1 h2 hR
  go_enter Tryd.func55, Tryd.ntmps55
  go_wp2_with fail
  refine (HS.out n (Nat.le_refl _) st r1 w H1.out HR.out HB.out).mono ?_
  rintro e w1 ⟨rfl, g1, g2⟩
  have K1 := Lib.hid g1
  have L1 := Lib.hid g2
  clear g1 g2
  go_wp2_with fail
  go_loopg [3] n (fun k c wr => ∃ (i : Int) (st' : St), c = .int .i64 i ∧ k ≤ n ∧ Hid (RS base rb s st' wr) ∧ Hid (altLoop s k i st' = some r) ∧ Hid (Gr st st') ∧ Hid (Below base w wr))
  case atStart => exact ⟨r1.1, r1.2, rfl, Nat.le_refl _, K1, H2, G1, L1⟩
  case round =>
    obtain ⟨i, st', rfl, hkn, hR', hL, hG, hB'⟩ := hrel
    cases gk with
    | zero => exact absurd hL.out (by simp [altLoop])
    | succ k =>
      have c3 := hR'.out.c3
      have hE : Hid ((if st'.wrong = true then some (i, st') else if isNext s 124 st' = true then (seqF s k (pass s 124 st')).bind fun r => altLoop s k r.2.out.length (r.2.add ⟨3, 0, 0, i, r.1⟩) else some (i, st')) = some r) := Lib.hid (by have := hL.out; simpa only [altLoop] using this)
      clear hL
      cases hw : st'.wrong with
      | true =>
        rw [hw] at c3
        have hr : Hid (r = (i, st')) := Lib.hid (by have := hE.out; rw [if_pos hw] at this; exact (Option.some.inj this).symm)
        clear hw hE
        go_wp2
        go_ret
        rw [hr.out]
        exact ⟨rfl, hR'.out, hB'.out⟩
      | false =>
        rw [hw] at c3
        cases hn : isNext s 124 st' with
        | false =>
          have hr : Hid (r = (i, st')) := Lib.hid (by have := hE.out; rw [if_neg (by simp [hw]), if_neg (by simp [hn])] at this; exact (Option.some.inj this).symm)
          have HN := Lib.hid hn
          clear hw hn hE
          go_wp2_with fail
          refine (next_r base rb s st' 124 false _ hR'.out hf HN).mono ?_
          rintro e w2 ⟨rfl, k1, k2⟩
          have K2 := Lib.hid k1
          have L2 := Lib.hid k2
          clear k1 k2
          go_wp2
          go_ret
          rw [hr.out]
          have := K2.out
          rw [pass_no HN.out] at this
          exact ⟨rfl, this, hB'.out.trans L2.out⟩
        | true =>
          have HN := Lib.hid hn
          have hE2 := hE.out
          rw [if_neg (by simp [hw]), if_pos hn] at hE2
          obtain ⟨r2, h3, h4⟩ := Option.bind_eq_some_iff.1 hE2
          have H3 := Lib.hid h3
          have H4 := Lib.hid h4
          have HP := pass_out s 124 st'
          have GS : Hid (Gr (pass s 124 st') r2.2) := Lib.hid ((allGr s k).seq _ _ h3)
          have GN : Hid (Gr st (r2.2.add ⟨3, 0, 0, i, r2.1⟩)) := Lib.hid (gr_alt hG.out hw hn GS.out)
          have HBD : Hid ((pass s 124 st').out.length ≤ 2 * (pass s 124 st').pos) := Lib.hid (by
            have := hG.out.again HB.out hw
            rw [HP.1]; have := HP.2.2.1; omega)
          clear hw hn hE hE2 h3 h4 HP
          go_wp2_with fail
          refine (next_r base rb s st' 124 true _ hR'.out hf HN).mono ?_
          rintro e w2 ⟨rfl, k1, k2⟩
          have K2 := Lib.hid k1
          have L2 := Lib.hid k2
          clear k1 k2
          go_wp2_with fail
          refine (HS.out k (by omega) _ r2 _ H3.out K2.out HBD.out).mono ?_
          rintro e w3 ⟨rfl, k1, k2⟩
          have K3 := Lib.hid k1
          have L3 := Lib.hid k2
          have hroom : r2.2.out.length ≤ 1000000 := GS.out.room HBD.out hf k1.le
          clear k1 k2
          go_wp2_with fail
          refine (radd_any base rb s r2.2 ⟨3, 0, 0, i, r2.1⟩ _ K3.out hroom).mono ?_
          rintro e w4 ⟨rfl, k1, k2⟩
          have K4 := Lib.hid k1
          have L4 := Lib.hid k2
          clear k1 k2
          go_wp2
          go_roundg k
          case measure => omega
          case rel => exact ⟨_, _, rfl, by omega, K4, H4, GN, Lib.hid (((hB'.out.trans L2.out).trans L3.out).trans L4.out)⟩
end Go.Proofs.YtaphblnelmncaaaDoor.PA
end

section
/- The reader's sequences, given its atoms. -/
set_option linter.unusedVariables false
namespace Go.Proofs.YtaphblnelmncaaaDoor.PA
open Go.RowKit Go.Proofs.YtaphblnelmncaaaDoorW.PrintWords Go.Proofs.YtaphblnelmncaaaDoorW.PrintLast Go.Proofs.YtaphblnelmncaaaDoorW.PrintMore

/-- Does the sequence go on? -/
def seqOn (s : ByteArray) (st : St) : Bool := !st.wrong && (decide (st.pos < s.size) && (bt s st.pos != 124 && bt s st.pos != 41))
theorem RS.drewB {base rb : Nat} {s : ByteArray} {st : St} {w w0 : World} (h : RS base rb s st w) (hb : Below base w0 w) (n : Nat) : RS base rb s st (w.drewN n) ∧ Below base w0 (w.drewN n) := ⟨h.drewN n, pw_below_drewN hb n⟩

set_option maxHeartbeats 2000000 in
set_option maxRecDepth 100000 in
theorem seq_step (base rb : Nat) (s : ByteArray) (hf : Fit s) (n : Nat) (hatom : ∀ m, m ≤ n → RdOK base rb s 91 (atomF s m)) : RdOK base rb s 77 (seqF s (n + 1)) := by
  intro st r w hF hR hb
  have HS := Lib.hid hatom
  have HB := Lib.hid hb
  simp only [seqF] at hF
  obtain ⟨r1, h1, h2⟩ := Option.bind_eq_some_iff.1 hF
  have G1 : Hid (Gr st r1.2) := Lib.hid ((allGr s n).atom _ _ h1)
  have H1 := Lib.hid h1
  have H2 := Lib.hid h2
  have HR := Lib.hid hR
  clear hatom hb hF h1 h2 hR
  go_enter Tryd.func77, Tryd.ntmps77
  go_wp2_with fail
  refine (HS.out n (Nat.le_refl _) st r1 w H1.out HR.out HB.out).mono ?_
  rintro e w1 ⟨rfl, g1, g2⟩
  have K1 := Lib.hid g1
  have L1 := Lib.hid g2
  clear g1 g2
  go_wp2_with fail
  go_loopg [3] n (fun k c wr => ∃ (i : Int) (st' : St), c = .int .i64 i ∧ k ≤ n ∧ Hid (RS base rb s st' wr) ∧ Hid (seqLoop s k i st' = some r) ∧ Hid (Gr st st') ∧ Hid (Below base w wr))
  case atStart => exact ⟨r1.1, r1.2, rfl, Nat.le_refl _, K1, H2, G1, L1⟩
  case round =>
    obtain ⟨i, st', rfl, hkn, hR', hL, hG, hB'⟩ := hrel
    cases gk with
    | zero => exact absurd hL.out (by simp [seqLoop])
    | succ k =>
      have c0 := hR'.out.c0
      have c1 := hR'.out.c1
      have c3 := hR'.out.c3
      have hlt := hR'.out.lt
      have hE : Hid ((if seqOn s st' = true then (atomF s k st').bind fun r => seqLoop s k r.2.out.length (r.2.add ⟨2, 0, 0, i, r.1⟩) else some (i, st')) = some r) := Lib.hid (by have := hL.out; simp only [seqLoop] at this; unfold seqOn; exact this)
      clear hL
      have hle := hR'.out.le
      have hbt := bt_at s st'.pos
      simp only [Int.toNat_natCast] at hbt
      obtain ⟨q, hq⟩ : ∃ q, q = bt s st'.pos := ⟨_, rfl⟩
      rw [← hq] at hbt
      have HQ := Lib.hid hq
      clear hq
      have hff := hf
      unfold Fit at hff
      by_cases hon : seqOn s st' = true
      · have hE2 := hE.out
        rw [if_pos hon] at hE2
        obtain ⟨r2, h3, h4⟩ := Option.bind_eq_some_iff.1 hE2
        have H3 := Lib.hid h3
        have H4 := Lib.hid h4
        have hon2 := hon
        unfold seqOn at hon2
        rw [← HQ.out] at hon2
        simp only [Bool.and_eq_true, decide_eq_true_eq, bne_iff_ne, Bool.not_eq_true'] at hon2
        obtain ⟨hw, hp, h124, h41⟩ := hon2
        have GS : Hid (Gr st' r2.2) := Lib.hid ((allGr s k).atom _ _ h3)
        have GN : Hid (Gr st (r2.2.add ⟨2, 0, 0, i, r2.1⟩)) := Lib.hid (gr_seq hG.out hw GS.out)
        have HBD : Hid (st'.out.length ≤ 2 * st'.pos) := Lib.hid (hG.out.again HB.out hw)
        have hbn := hbt hp
        have hpI : (st'.pos : Int) < (s.size : Int) := by omega
        have hd : decide ((st'.pos : Int) < (s.size : Int)) = true := by simp; omega
        have h124b : (q != 124) = true := by simpa using h124
        have h41b : (q != 41) = true := by simpa using h41
        rw [hw] at c3
        clear hbt hw hon hE hE2 h3 h4 h124 h41
        go_wp2_with fail
        go_quiet (fail)
        go_wp2_with fail
        refine (HS.out k (by omega) _ r2 _ H3.out (hR'.out.drewN _) HBD.out).mono ?_
        rintro e w2 ⟨rfl, k1, k2⟩
        have K3 := Lib.hid k1
        have L3 := Lib.hid k2
        have hroom : r2.2.out.length ≤ 1000000 := GS.out.room HBD.out hf k1.le
        clear k1 k2 c0 c1 c3
        go_wp2_with fail
        refine (radd_any base rb s r2.2 ⟨2, 0, 0, i, r2.1⟩ _ K3.out hroom).mono ?_
        rintro e w4 ⟨rfl, k1, k2⟩
        have K4 := Lib.hid k1
        have L4 := Lib.hid k2
        clear k1 k2
        go_wp2
        go_roundg k
        case measure => omega
        case rel => exact ⟨_, _, rfl, by omega, K4, H4, GN, Lib.hid (((pw_below_drewN hB'.out _).trans L3.out).trans L4.out)⟩
      · have hr : Hid (r = (i, st')) := Lib.hid (by have := hE.out; rw [if_neg hon] at this; exact (Option.some.inj this).symm)
        have hon2 : seqOn s st' = false := by simpa using hon
        unfold seqOn at hon2
        rw [← HQ.out] at hon2
        clear hon hE
        cases hw : st'.wrong with
        | true =>
          rw [hw] at c3
          clear hbt hw hon2
          go_wp2_with fail
          go_quiet (fail)
          go_wp2
          go_ret
          rw [hr.out]
          exact ⟨rfl, hR'.out.drewB hB'.out _⟩
        | false =>
          rw [hw] at hon2 c3
          by_cases hp : st'.pos < s.size
          · have hbn := hbt hp
            have hpI : (st'.pos : Int) < (s.size : Int) := by omega
            have hd : decide ((st'.pos : Int) < (s.size : Int)) = true := by simp; omega
            by_cases h124 : q = 124
            · subst h124
              clear hbt hw hon2
              go_wp2_with fail
              go_quiet (fail)
              go_wp2
              go_ret
              rw [hr.out]
              exact ⟨rfl, hR'.out.drewB hB'.out _⟩
            · have h41 : q = 41 := by
                have := hon2; simp [hp, h124] at this; exact this
              subst h41
              clear hbt hw hon2 h124
              go_wp2_with fail
              go_quiet (fail)
              go_wp2
              go_ret
              rw [hr.out]
              exact ⟨rfl, hR'.out.drewB hB'.out _⟩
          · have hd : decide ((st'.pos : Int) < (s.size : Int)) = false := by simp; omega
            clear hbt hw hon2
            go_wp2_with fail
            go_quiet (fail)
            go_wp2
            go_ret
            rw [hr.out]
            exact ⟨rfl, hR'.out.drewB hB'.out _⟩
end Go.Proofs.YtaphblnelmncaaaDoor.PA
end
