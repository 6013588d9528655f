/- How the program's functions compute, function by function: each is told by a plain Lean function of the same answers, under the condition that this one answers. Written by a program of this project over the seat's translation; Lean checks it. -/
import Derived.Test.YtjfdhkobaiplpaaG0
import Derived.Test.YtjfdhkobaiplpaaGQ00j
namespace Go.Proofs.Ytjfdhkobaiplpaa.G
open Go.RowKit Go.Proofs.YtjfdhkobaiplpaaW.PrintWords Go.Proofs.YtjfdhkobaiplpaaW.PrintLast Go.Proofs.YtjfdhkobaiplpaaW.PrintMore
attribute [local go_sem] max2_int min2_int max_two min_two max_three min_three max_four min_four   -- for this text's walks alone
set_option linter.unusedVariables false
set_option linter.unusedSimpArgs false

/-! ### laws_markAlphabetS: function 7 -/
def laws_markAlphabetS.l0 : Nat → List S32 → Int → Int → Option (Int × List S32)
  | 0, _, _, _ => none
  | k + 1, x0, x1, x5 => if x5 < (x0.length : Int) then (if 0 ≤ x5 then ((laws_markInt64S.f k (rd_T32 x0 x5).f1 (wrap64 (x1 + 1))).bind fun t => laws_markAlphabetS.l0 k (x0.set x5.toNat ⟨x1, t.2⟩) t.1 (wrap64 (x5 + 1))) else none) else some (x1, x0)
def laws_markAlphabetS.f (k : Nat) (l0 : List S32) (a1 : Int) : Option (Int × List S32) := laws_markAlphabetS.l0 k l0 a1 0
theorem laws_markAlphabetS.mono_l : ∀ k y0 y1 y2, LeO (laws_markAlphabetS.l0 k y0 y1 y2) (laws_markAlphabetS.l0 (k + 1) y0 y1 y2)
  | 0, _, _, _ => LeO.none _
  | k + 1, y0, y1, y2 => by
    simp only [laws_markAlphabetS.l0]
    exact LeO.ite (LeO.ite (LeO.bind (laws_markInt64S.mono _ _ k) fun _ => laws_markAlphabetS.mono_l k _ _ _) (LeO.none _)) (LeO.refl _)
theorem laws_markAlphabetS.mono : ∀ a0 a1 k, LeO (laws_markAlphabetS.f k a0 a1) (laws_markAlphabetS.f (k + 1) a0 a1) := fun a0 a1 k => laws_markAlphabetS.mono_l k a0 a1 0
set_option maxHeartbeats 4000000 in
set_option maxRecDepth 100000 in
theorem laws_markAlphabetS.calls (k : Nat) (P0_ : Nat → Prop) (u : Value) (l0 : List S32) (a1 : Int) (r1 : Int) (r2 : List S32) (w0 w : World) (hB : Below w0.heap.size w0 w) (ho : Kd.S k32 32 w w0.heap.size P0_ u l0) (h : laws_markAlphabetS.f k l0 a1 = some (r1, r2)) :
    Calls Try.prog 7 #[u, .int .i64 a1] w fun e w' => e = .returned (.int .i64 r1) ∧ Kd.S k32 32 w' w0.heap.size (fun k_ => P0_ k_ ∨ w.heap.size ≤ k_) u r2 ∧ Below w0.heap.size w0 w' ∧ Kept w w' P0_ := by
  obtain ⟨A, c, rfl⟩ := Kd.S_slice ho
  obtain ⟨n, hn⟩ : ∃ n, l0.length = n := ⟨_, rfl⟩
  rw [hn] at ho ⊢
  have hu := Try.underlying32
  have HO := Aside0.mk ho
  have HB := Aside0.mk hB
  have HN := Aside0.mk hn
  have H' := Aside0.mk h
  have HK := Aside0.mk (Kept.refl w P0_)
  have HW := Aside0.mk (Nat.le_refl w.heap.size)
  clear ho hB hn h
  go_enter Try.func7, Try.ntmps7
  go_wp2
  go_loopg [1, 5] k (fun kq v1 v5 w' => ∃ (x0 : List S32) (x1 x5 : Int), v1 = .int .i64 x1 ∧ v5 = .int .i64 x5 ∧ Aside0 (x0.length = n) ∧ Aside0 (laws_markAlphabetS.l0 kq x0 x1 x5 = some (r1, r2)) ∧ Aside0 (Kd.S k32 32 w' w0.heap.size (fun k_ => P0_ k_ ∨ w.heap.size ≤ k_) (.slice A n c) x0) ∧ Aside0 (Below w0.heap.size w0 w') ∧ Aside0 (Kept w w' P0_))
  case atStart => exact ⟨l0, a1, 0, rfl, rfl, HN, H', ⟨Kd.S_mono HO.out (fun _ h => .inl h)⟩, HB, HK⟩
  case round =>
    clear HO HB HN H' HK
    obtain ⟨x0, x1, x5, rfl, rfl, HN, HA, HO, HB, HK⟩ := hrel
    cases gk with
    | zero => exact absurd HA.out (by simp [laws_markAlphabetS.l0])
    | succ k1 =>
      have H := HA.out
      clear HA
      simp only [laws_markAlphabetS.l0] at H
      rw [HN.out] at H
      by_cases c1 : x5 < (n : Int)
      · rw [if_pos c1] at H
        by_cases c2 : 0 ≤ x5
        · rw [if_pos c2] at H
          obtain ⟨row, hrow⟩ : ∃ row, rd_T32 x0 x5 = row := ⟨_, rfl⟩
          rw [hrow] at H
          replace H := Option.bind_eq_some_iff.mp H
          obtain ⟨⟨t1, t2⟩, hm, H⟩ := H
          have AM := Aside0.mk hm
          have HH := Aside0.mk H
          clear hm H
          obtain ⟨g, cap, eA, gb, _⟩ := Kd.S_form HO.out (by have := HN.out; omega)
          injection eA with eA e2 e3
          subst eA
          clear e2 e3
          have GB := Aside0.mk gb
          obtain ⟨oki, cs, hcl, hM, hcc, hfr, hoki, hH⟩ := Kd.S_elem HO.out z32 x5 c2 c1
          rw [show x0.getD x5.toNat z32 = row from hrow] at hM
          obtain ⟨v1, rfl, hR⟩ := k32_openM hM
          have HS := Kd.H_seg hH c2 c1 (seg := [.int .i64 x1]) (j := 0) (by show 0 + 1 ≤ 2; omega) (by intro q hq; simp at hq; subst hq; rfl)
          have HP : Kd.S k32 32 (wr.setCell ⟨g, x5.toNat * 2, none⟩ (.int .i64 x1)) w0.heap.size (fun k_ => P0_ k_ ∨ w.heap.size ≤ k_) (.slice (some ⟨g, 0, none⟩) n c) (x0.set x5.toNat ⟨x1, row.f1⟩) ∧ wr.grownBy (wr.setCell ⟨g, x5.toNat * 2, none⟩ (.int .i64 x1)) (some g) :=
            ⟨Kd.H_back HS.1 (k32_mkM _ _ _ ⟨x1, row.f1⟩ (Kd.R_step hR (fun k hk hlt => HS.2.block k hlt (fun he => (hoki k hk).2 (by injection he))))) (fun k hk => hk), HS.2⟩
          have HQ := Aside0.mk HP
          have HG : Aside0 (P0_ g ∨ w.heap.size ≤ g) := ⟨by obtain ⟨_, q⟩ := HO.out; exact q.1 g rfl⟩
          have hx0 : wr.cell? ⟨g, x5.toNat * 2, none⟩ = some (.int .i64 row.f0) := hcc 0 _ rfl
          have hf0 : wr.frozen? ⟨g, x5.toNat * 2, none⟩ = false := hfr 0
          clear hM hcc hfr hoki hH HS HP hR hcl gb
          have C1 := Aside0.mk c1
          have C2 := Aside0.mk c2
          have d1 : decide (x5 < (n : Int)) = true := decide_eq_true c1
          have d2 : decide (0 ≤ x5) = true := decide_eq_true c2
          have d3 := eq_true c1
          have d4 := eq_true c2
          clear c1 c2 hrow
          go_wp2_with (first
            | ((with_reducible refine gate_store (t := 2) (p := 16) rfl ?_); go_loud (refine store_event (t := 2) (p := 16) (v := ?vo) (w1 := wr.setCell ⟨g, x5.toNat * 2, none⟩ (.int .i64 x1)) ?hg ?ho ?hn ?hr ?_; (case ho => rfl); (case hg => rfl); (case hn => rfl); (case hr => first | (go_simp; done) | (go_simp; rfl)); intro w8 hw; have HO8 : Aside0 (Kd.S k32 32 w8 w0.heap.size (fun k_ => P0_ k_ ∨ w.heap.size ≤ k_) (.slice (some ⟨g, 0, none⟩) n c) (x0.set x5.toNat ⟨x1, row.f1⟩)) := ⟨by rw [hw]; exact HQ.out.1⟩; have hg : wr.grownBy w8 (some g) := (by rw [hw]; exact HQ.out.2); have HB8 : Aside0 (Below w0.heap.size w0 w8) := ⟨by rw [hw]; exact below_set HB.out GB.out⟩; have HK8 : Aside0 (Kept w w8 P0_) := Aside0.mk (Kept.of_grown (S := P0_) hg HK.out (fun k_ e_ => by injection e_ with e_; subst e_; exact HG.out)); have hle : Aside0 (wr.heap.size ≤ w8.heap.size) := ⟨hg.size⟩; clear hw hg HQ HO HB HK HG hx0 hf0; obtain ⟨oki, cs, hcl, hM, hcc, hoki, hH⟩ := Kd.S_lend HO8.out z32 x5 C2.out C1.out; rw [show (x0.set x5.toNat ⟨x1, row.f1⟩).getD x5.toNat z32 = ⟨x1, row.f1⟩ from (by have := C1.out; have := C2.out; have := HN.out; rw [List.getD_eq_getElem?_getD, List.getElem?_set_self (by omega)]; rfl)] at hM; obtain ⟨v1, rfl, hR⟩ := k32_openM hM; obtain ⟨A2, c3, rfl⟩ := Kd.R_slice hR; have hx1 : w8.cell? ⟨g, x5.toNat * 2 + 1, none⟩ = some (.slice A2 row.f1.length c3) := hcc 1 _ rfl; have HR := Aside0.mk hR; have HH2 := Aside0.mk hH; have OK := Aside0.mk hoki; clear hcl hcc hM hR hH hoki))
            | (go_at_call 29; go_loud ((with_reducible refine (laws_markInt64S.calls k1 oki _ row.f1 (wrap64 (x1 + 1)) t1 t2 w0 _ HB8.out HR.out AM.out).mono ?_)); rintro e w2 ⟨rfl, hR2, hB2, hK2⟩; have HR2 := Aside0.mk hR2; have HB2 := Aside0.mk hB2; have HK2 := Aside0.mk hK2; clear hR2 hB2 hK2 hx1))
          go_roundg k1
          case measure => omega
          case rel =>
            have hle2 : w8.heap.size ≤ w2.heap.size := HK2.out.1
            refine ⟨x0.set x5.toNat ⟨x1, t2⟩, t1, _, rfl, rfl, ⟨by rw [List.length_set]; exact HN.out⟩, HH, ⟨?_⟩, HB2, ⟨?_⟩⟩
            · have h2 := Kd.H_kept (Kd.H_widen HH2.out) HK2.out (fun k _ hn hs => hn (.inl hs))
              have h3 := Kd.H_back h2 (k32_mkM _ _ _ ⟨x1, t2⟩ HR2.out) (fun k hk => hk.elim .inl (fun h3 => .inr ⟨.inr (Nat.le_trans HK8.out.1 h3), h3⟩))
              rw [List.set_set] at h3
              exact h3
            · exact Kept.then_ HK8.out HK2.out (fun k hk => (OK.out k hk).1)
        · rw [if_neg c2] at H; cases H
      · rw [if_neg c1] at H
        cases H
        have d1 : decide (x5 < (n : Int)) = false := decide_eq_false c1
        clear c1
        go_wp2
        go_ret
        exact ⟨rfl, HO.out, HB.out, HK.out⟩

/-! ### laws_heldInt64S: function 30 -/
def laws_heldInt64S.l0 : Nat → List Int → Int → Int → Option (Int)
 | 0, _, _, _ => none
 | k + 1, x0, x1, x5 => if x5 < (x0.length : Int) then (if 0 ≤ x5 then (if (rd x0 x5) = x1 then (laws_heldInt64S.l0 k x0 (wrap64 (x1 + 1)) (wrap64 (x5 + 1))) else (some (-1))) else (none)) else (some x1)
def laws_heldInt64S.f (k : Nat) (l0 : List Int) (a1 : Int) : Option (Int) := laws_heldInt64S.l0 k l0 a1 0
theorem laws_heldInt64S.mono_l : ∀ k, (∀ y0 y1 y2, LeO (laws_heldInt64S.l0 k y0 y1 y2) (laws_heldInt64S.l0 (k + 1) y0 y1 y2))
 | 0 => fun _ _ _ r h => by simp [laws_heldInt64S.l0] at h
 | k + 1 => by
  have ih0 := laws_heldInt64S.mono_l k
  ·intro y0 y1 y2
   unfold laws_heldInt64S.l0
   repeat' first
   | (with_reducible exact ih0 _ _ _)
   | (with_reducible exact LeO.refl _)
   | (with_reducible exact LeO.none _)
   | (with_reducible refine LeO.ite ?_ ?_)
   | (with_reducible refine LeO.bind ?_ (fun _ => ?_))
   | exact ih0 _ _ _
   | exact LeO.none _
   | refine LeO.ite ?_ ?_
   | refine LeO.bind ?_ (fun _ => ?_)
theorem laws_heldInt64S.mono : ∀ a0 a1 k, LeO (laws_heldInt64S.f k a0 a1) (laws_heldInt64S.f (k + 1) a0 a1) := by
 intro a0 a1 k
 have ih0 := laws_heldInt64S.mono_l k
 unfold laws_heldInt64S.f
 repeat' first
   | (with_reducible exact ih0 _ _ _)
   | (with_reducible exact LeO.refl _)
   | (with_reducible exact LeO.none _)
   | (with_reducible refine LeO.ite ?_ ?_)
   | (with_reducible refine LeO.bind ?_ (fun _ => ?_))
   | exact ih0 _ _ _
   | exact LeO.none _
   | refine LeO.ite ?_ ?_
   | refine LeO.bind ?_ (fun _ => ?_)
set_option maxHeartbeats 8000000 in
set_option maxRecDepth 100000 in
theorem laws_heldInt64S.calls (k : Nat) (A0 : Option Addr) (c0 : Nat) (l0 : List Int) (a1 : Int) (r : Int) (w : World) (hr0 : Kd.C (Kd.int .i64) w A0 l0.length l0) (hc0 : l0.length ≤ c0) (h : laws_heldInt64S.f k l0 a1 = some r) :
  Calls Try.prog 30 #[.slice A0 l0.length c0, .int .i64 a1] w fun e w' => e = .returned (.int .i64 r) ∧ Drawn0 w w' := by
 have HR0 := Aside0.mk hr0; have HC0 := Aside0.mk hc0; clear hr0 hc0
 have H : (laws_heldInt64S.l0 k l0 a1 0) = some r := h
 clear h
 have H' := Aside0.mk H
 clear H
 go_enter Try.func30, Try.ntmps30
 go_wp2
 go_loopg [1, 5] k (fun kq v1 v5 w' => ∃ (x1_1 : Int) (x5_1 : Int), v1 = .int .i64 x1_1 ∧ v5 = .int .i64 x5_1 ∧ Aside0 (laws_heldInt64S.l0 kq l0 x1_1 x5_1 = some r) ∧ Aside0 (kq ≤ k) ∧ Drawn0 w w')
 case atStart => exact ⟨(a1), (0), sz, sz, H', ⟨Nat.le_refl _⟩, by repeat (first | exact Drawn0.refl _ | apply Drawn0.step)⟩
 case round =>
  clear H'
  try clear p2
  obtain ⟨x1_1, x5_1, rfl, rfl, HA, HK1, ⟨m1, rfl⟩⟩ := hrel
  cases gk with
  | zero => exact absurd HA.out (by simp [laws_heldInt64S.l0])
  | succ k1 =>
   have H := HA.out; clear HA
   simp only [laws_heldInt64S.l0] at H
   by_cases c3 : x5_1 < (l0.length : Int)
   ·rw [if_pos c3] at H
    have c3b0 : decide (x5_1 < (l0.length : Int)) = true := decide_eq_true c3
    clear c3
    by_cases c4 : 0 ≤ x5_1
    ·rw [if_pos c4] at H
     have c4b0 : decide (0 ≤ x5_1) = true := decide_eq_true c4
     clear c4
     by_cases c5 : (rd l0 x5_1) = x1_1
     ·rw [if_pos c5] at H
      have c5b0 : ((rd l0 x5_1) == x1_1) = true := beq_iff_eq.mpr c5
      have c5b1 : ((rd l0 x5_1) != x1_1) = false := bne_eq_false_iff_eq.mpr c5
      clear c5
      have H' := Aside0.mk H
      clear H
      have p268 : 0 ≤ (x5_1 : Int) := of_decide_eq_true (by first | (with_reducible assumption) | assumption)
      have q268 : x5_1 < (l0.length : Int) := of_decide_eq_true (by first | (with_reducible assumption) | assumption)
      obtain ⟨ad268, e268, hx268_0⟩ := Kd.at_int HR0.out x5_1 p268 q268; cases e268; replace p268 := eq_true p268; replace q268 := eq_true q268
      go_wp2
      go_roundg k1
      case measure => have := HK1.out; omega
      case rel => exact ⟨(wrap64 (x1_1 + 1)), (wrap64 (x5_1 + 1)), sz, sz, H', ⟨by have := HK1.out; omega⟩, by repeat (first | exact Drawn0.refl _ | apply Drawn0.step)⟩
     ·rw [if_neg c5] at H
      have c5b0 : ((rd l0 x5_1) == x1_1) = false := beq_eq_false_iff_ne.mpr c5
      have c5b1 : ((rd l0 x5_1) != x1_1) = true := bne_iff_ne.mpr c5
      obtain rfl := Option.some.inj H
      have p268 : 0 ≤ (x5_1 : Int) := of_decide_eq_true (by first | (with_reducible assumption) | assumption)
      have q268 : x5_1 < (l0.length : Int) := of_decide_eq_true (by first | (with_reducible assumption) | assumption)
      obtain ⟨ad268, e268, hx268_0⟩ := Kd.at_int HR0.out x5_1 p268 q268; cases e268; replace p268 := eq_true p268; replace q268 := eq_true q268
      go_wp2
      go_ret
      exact ⟨by first | rfl | (simp; done) | (simp [*]; done), by repeat (first | exact Drawn0.refl _ | apply Drawn0.step)⟩
    ·rw [if_neg c4] at H
     exact absurd H (by simp)
   ·rw [if_neg c3] at H
    have c3b0 : decide (x5_1 < (l0.length : Int)) = false := decide_eq_false c3
    clear c3
    obtain rfl := Option.some.inj H
    go_wp2
    go_ret
    exact ⟨by first | rfl | (simp; done) | (simp [*]; done), by repeat (first | exact Drawn0.refl _ | apply Drawn0.step)⟩

/-! ### laws_heldAlphabetS: function 8 -/
def laws_heldAlphabetS.l0 : Nat → List (S32) → Int → Int → Option (Int)
 | 0, _, _, _ => none
 | k + 1, x0, x1, x5 => if x5 < (x0.length : Int) then (if 0 ≤ x5 then (if ((rd_T32 x0 x5).f0) = x1 then ((laws_heldInt64S.f k ((rd_T32 x0 x5).f1) (wrap64 (x1 + 1))).bind fun t271 => (if t271 < 0 then (some (-1)) else (laws_heldAlphabetS.l0 k x0 t271 (wrap64 (x5 + 1))))) else (some (-1))) else (none)) else (some x1)
def laws_heldAlphabetS.f (k : Nat) (l0 : List (S32)) (a1 : Int) : Option (Int) := laws_heldAlphabetS.l0 k l0 a1 0
theorem laws_heldAlphabetS.mono_l : ∀ k, (∀ y0 y1 y2, LeO (laws_heldAlphabetS.l0 k y0 y1 y2) (laws_heldAlphabetS.l0 (k + 1) y0 y1 y2))
 | 0 => fun _ _ _ r h => by simp [laws_heldAlphabetS.l0] at h
 | k + 1 => by
  have ih0 := laws_heldAlphabetS.mono_l k
  ·intro y0 y1 y2
   unfold laws_heldAlphabetS.l0
   repeat' first
   | (with_reducible exact ih0 _ _ _)
   | (with_reducible exact laws_heldInt64S.mono _ _ _)
   | (with_reducible exact LeO.refl _)
   | (with_reducible exact LeO.none _)
   | (with_reducible refine LeO.ite ?_ ?_)
   | (with_reducible refine LeO.bind ?_ (fun _ => ?_))
   | exact ih0 _ _ _
   | exact laws_heldInt64S.mono _ _ _
   | exact LeO.none _
   | refine LeO.ite ?_ ?_
   | refine LeO.bind ?_ (fun _ => ?_)
theorem laws_heldAlphabetS.mono : ∀ a0 a1 k, LeO (laws_heldAlphabetS.f k a0 a1) (laws_heldAlphabetS.f (k + 1) a0 a1) := by
 intro a0 a1 k
 have ih0 := laws_heldAlphabetS.mono_l k
 unfold laws_heldAlphabetS.f
 repeat' first
   | (with_reducible exact ih0 _ _ _)
   | (with_reducible exact laws_heldInt64S.mono _ _ _)
   | (with_reducible exact LeO.refl _)
   | (with_reducible exact LeO.none _)
   | (with_reducible refine LeO.ite ?_ ?_)
   | (with_reducible refine LeO.bind ?_ (fun _ => ?_))
   | exact ih0 _ _ _
   | exact laws_heldInt64S.mono _ _ _
   | exact LeO.none _
   | refine LeO.ite ?_ ?_
   | refine LeO.bind ?_ (fun _ => ?_)
set_option maxHeartbeats 8000000 in
set_option maxRecDepth 100000 in
theorem laws_heldAlphabetS.calls (k : Nat) (A0 : Option Addr) (c0 : Nat) (l0 : List (S32)) (a1 : Int) (r : Int) (w : World) (hr0 : Kd.C k32 w A0 l0.length l0) (hc0 : l0.length ≤ c0) (h : laws_heldAlphabetS.f k l0 a1 = some r) :
  Calls Try.prog 8 #[.slice A0 l0.length c0, .int .i64 a1] w fun e w' => e = .returned (.int .i64 r) ∧ Drawn0 w w' := by
 have HR0 := Aside0.mk hr0; have HC0 := Aside0.mk hc0; clear hr0 hc0
 have H : (laws_heldAlphabetS.l0 k l0 a1 0) = some r := h
 clear h
 have H' := Aside0.mk H
 clear H
 go_enter Try.func8, Try.ntmps8
 go_wp2
 go_loopg [1, 5] k (fun kq v1 v5 w' => ∃ (x1_1 : Int) (x5_1 : Int), v1 = .int .i64 x1_1 ∧ v5 = .int .i64 x5_1 ∧ Aside0 (laws_heldAlphabetS.l0 kq l0 x1_1 x5_1 = some r) ∧ Aside0 (kq ≤ k) ∧ Drawn0 w w')
 case atStart => exact ⟨(a1), (0), sz, sz, H', ⟨Nat.le_refl _⟩, by repeat (first | exact Drawn0.refl _ | apply Drawn0.step)⟩
 case round =>
  clear H'
  try clear p2
  obtain ⟨x1_1, x5_1, rfl, rfl, HA, HK1, ⟨m1, rfl⟩⟩ := hrel
  cases gk with
  | zero => exact absurd HA.out (by simp [laws_heldAlphabetS.l0])
  | succ k1 =>
   have H := HA.out; clear HA
   simp only [laws_heldAlphabetS.l0] at H
   by_cases c3 : x5_1 < (l0.length : Int)
   ·rw [if_pos c3] at H
    have c3b0 : decide (x5_1 < (l0.length : Int)) = true := decide_eq_true c3
    clear c3
    by_cases c4 : 0 ≤ x5_1
    ·rw [if_pos c4] at H
     have c4b0 : decide (0 ≤ x5_1) = true := decide_eq_true c4
     clear c4
     by_cases c5 : ((rd_T32 l0 x5_1).f0) = x1_1
     ·rw [if_pos c5] at H
      have c5b0 : (((rd_T32 l0 x5_1).f0) == x1_1) = true := beq_iff_eq.mpr c5
      have c5b1 : (((rd_T32 l0 x5_1).f0) != x1_1) = false := bne_eq_false_iff_eq.mpr c5
      clear c5; replace H := Option.bind_eq_some_iff.mp H; obtain ⟨t271, A60, H⟩ := H
      replace H : (if t271 < 0 then (some (-1)) else (laws_heldAlphabetS.l0 k1 l0 t271 (wrap64 (x5_1 + 1)))) = some r := H
      have A6 := Aside0.mk A60; clear A60
      by_cases c7 : t271 < 0
      ·rw [if_pos c7] at H
       have c7b0 : decide (t271 < 0) = true := decide_eq_true c7
       clear c7
       obtain rfl := Option.some.inj H
       have p269 : 0 ≤ (x5_1 : Int) := of_decide_eq_true (by first | (with_reducible assumption) | assumption)
       have q269 : x5_1 < (l0.length : Int) := of_decide_eq_true (by first | (with_reducible assumption) | assumption)
       obtain ⟨ad269, A269_1, c269_1, e269, hx269_0, hx269_1, hl269_1, hi269_1⟩ := at_T32 HR0.out x5_1 p269 q269; cases e269; have HR269_1 := Aside0.mk hi269_1; have HC269_1 := Aside0.mk hl269_1; clear hi269_1 hl269_1; replace p269 := eq_true p269; replace q269 := eq_true q269
       have p270 : 0 ≤ (x5_1 : Int) := of_decide_eq_true (by first | (with_reducible assumption) | assumption)
       have q270 : x5_1 < (l0.length : Int) := of_decide_eq_true (by first | (with_reducible assumption) | assumption)
       obtain ⟨ad270, A270_1, c270_1, e270, hx270_0, hx270_1, hl270_1, hi270_1⟩ := at_T32 HR0.out x5_1 p270 q270
       obtain rfl : ad269 = ad270 := (by injection e270)
       have HR270_1 := Aside0.mk hi270_1; have HC270_1 := Aside0.mk hl270_1; clear hi270_1 hl270_1; replace p270 := eq_true p270; replace q270 := eq_true q270; have ea_ := Option.some.inj (hx269_1.symm.trans hx270_1)
       injection ea_ with ea_ en_ ec_
       subst ea_; subst ec_; clear en_
       go_wp2_with (first | ((with_reducible refine gate_callee (f := 30) rfl ?_); refine goesL_ (some 27) rfl rfl Try.func30 (by kernel_rfl) rfl #[.slice A269_1 ((rd_T32 l0 x5_1).f1).length c269_1, .int .i64 (wrap64 (x1_1 + 1))] rfl lz ?_; (with_reducible refine (laws_heldInt64S.calls k1 _ _ ((rd_T32 l0 x5_1).f1) (wrap64 (x1_1 + 1)) t271 _ ?side1 ?side2 A6.out).mono ?_); (case side1 => have q_ := Aside0.mk HR270_1.out; exact cQ q_); (case side2 => exact HC270_1.out); rintro e w' ⟨rfl, ⟨nd, rfl⟩⟩; refine ⟨_, rfl, ?_⟩))
       go_ret
       exact ⟨by first | rfl | (simp; done) | (simp [*]; done), by repeat (first | exact Drawn0.refl _ | apply Drawn0.step)⟩
      ·rw [if_neg c7] at H
       have c7b0 : decide (t271 < 0) = false := decide_eq_false c7
       clear c7
       have H' := Aside0.mk H
       clear H
       have p269 : 0 ≤ (x5_1 : Int) := of_decide_eq_true (by first | (with_reducible assumption) | assumption)
       have q269 : x5_1 < (l0.length : Int) := of_decide_eq_true (by first | (with_reducible assumption) | assumption)
       obtain ⟨ad269, A269_1, c269_1, e269, hx269_0, hx269_1, hl269_1, hi269_1⟩ := at_T32 HR0.out x5_1 p269 q269; cases e269; have HR269_1 := Aside0.mk hi269_1; have HC269_1 := Aside0.mk hl269_1; clear hi269_1 hl269_1; replace p269 := eq_true p269; replace q269 := eq_true q269
       have p270 : 0 ≤ (x5_1 : Int) := of_decide_eq_true (by first | (with_reducible assumption) | assumption)
       have q270 : x5_1 < (l0.length : Int) := of_decide_eq_true (by first | (with_reducible assumption) | assumption)
       obtain ⟨ad270, A270_1, c270_1, e270, hx270_0, hx270_1, hl270_1, hi270_1⟩ := at_T32 HR0.out x5_1 p270 q270
       obtain rfl : ad269 = ad270 := (by injection e270)
       have HR270_1 := Aside0.mk hi270_1; have HC270_1 := Aside0.mk hl270_1; clear hi270_1 hl270_1; replace p270 := eq_true p270; replace q270 := eq_true q270; have ea_ := Option.some.inj (hx269_1.symm.trans hx270_1)
       injection ea_ with ea_ en_ ec_
       subst ea_; subst ec_; clear en_
       go_wp2_with (first | ((with_reducible refine gate_callee (f := 30) rfl ?_); refine goesL_ (some 27) rfl rfl Try.func30 (by kernel_rfl) rfl #[.slice A269_1 ((rd_T32 l0 x5_1).f1).length c269_1, .int .i64 (wrap64 (x1_1 + 1))] rfl lz ?_; (with_reducible refine (laws_heldInt64S.calls k1 _ _ ((rd_T32 l0 x5_1).f1) (wrap64 (x1_1 + 1)) t271 _ ?side1 ?side2 A6.out).mono ?_); (case side1 => have q_ := Aside0.mk HR270_1.out; exact cQ q_); (case side2 => exact HC270_1.out); rintro e w' ⟨rfl, ⟨nd, rfl⟩⟩; refine ⟨_, rfl, ?_⟩))
       go_roundg k1
       case measure => have := HK1.out; omega
       case rel => exact ⟨(t271), (wrap64 (x5_1 + 1)), sz, sz, H', ⟨by have := HK1.out; omega⟩, by repeat (first | exact Drawn0.refl _ | apply Drawn0.step)⟩
     ·rw [if_neg c5] at H
      have c5b0 : (((rd_T32 l0 x5_1).f0) == x1_1) = false := beq_eq_false_iff_ne.mpr c5
      have c5b1 : (((rd_T32 l0 x5_1).f0) != x1_1) = true := bne_iff_ne.mpr c5
      obtain rfl := Option.some.inj H
      have p269 : 0 ≤ (x5_1 : Int) := of_decide_eq_true (by first | (with_reducible assumption) | assumption)
      have q269 : x5_1 < (l0.length : Int) := of_decide_eq_true (by first | (with_reducible assumption) | assumption)
      obtain ⟨ad269, A269_1, c269_1, e269, hx269_0, hx269_1, hl269_1, hi269_1⟩ := at_T32 HR0.out x5_1 p269 q269; cases e269; have HR269_1 := Aside0.mk hi269_1; have HC269_1 := Aside0.mk hl269_1; clear hi269_1 hl269_1; replace p269 := eq_true p269; replace q269 := eq_true q269
      go_wp2
      go_ret
      exact ⟨by first | rfl | (simp; done) | (simp [*]; done), by repeat (first | exact Drawn0.refl _ | apply Drawn0.step)⟩
    ·rw [if_neg c4] at H
     exact absurd H (by simp)
   ·rw [if_neg c3] at H
    have c3b0 : decide (x5_1 < (l0.length : Int)) = false := decide_eq_false c3
    clear c3
    obtain rfl := Option.some.inj H
    go_wp2
    go_ret
    exact ⟨by first | rfl | (simp; done) | (simp [*]; done), by repeat (first | exact Drawn0.refl _ | apply Drawn0.step)⟩

end Go.Proofs.Ytjfdhkobaiplpaa.G
