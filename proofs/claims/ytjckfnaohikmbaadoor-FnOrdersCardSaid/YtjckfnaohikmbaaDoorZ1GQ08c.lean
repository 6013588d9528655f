-- A copy, with what one law needs, of a text that print.sh or a program of ours wrote
import Derived.Test.YtjckfnaohikmbaaDoorZ1G0
import Derived.Test.YtjckfnaohikmbaaDoorZ1GQ00a
import Derived.Test.YtjckfnaohikmbaaDoorZ1GQ00b
import Derived.Test.YtjckfnaohikmbaaDoorZ1GQ00c
import Derived.Test.YtjckfnaohikmbaaDoorZ1GQ08b
namespace Go.Proofs.YtjckfnaohikmbaaDoor.G
open Go.RowKit Go.Proofs.YtjckfnaohikmbaaDoorW.PrintWords Go.Proofs.YtjckfnaohikmbaaDoorW.PrintLast Go.Proofs.YtjckfnaohikmbaaDoorW.PrintMore
attribute [local go_sem] max2_int min2_int max_two min_two max_three min_three max_four min_four   -- for this text's walks alone
set_option linter.unusedVariables false
set_option linter.unusedSimpArgs false
def growD (below : List Int) : List Int → Int → List Int → Bool → Option (Bool × List Int × Bool)
  | [], c, s, _ => if s.length ≤ 4096 then (if s.length = 4096 then some (false, s, true) else some (true, s ++ [c], false)) else none
  | i :: line, c, s, b => (growD below line c s b).bind fun t => if t.1 = true then (if 0 ≤ i then (if i < (below.length : Int) then ((impl_one.f i).bind fun m => if Go.bits .andNot .i64 (Go.bits .andNot .i64 (rd below i) c) m = 0 then growD below line (Go.bits .or .i64 c m) t.2.1 t.2.2 else some (true, t.2.1, t.2.2)) else none) else none) else some (false, t.2.1, t.2.2)
theorem one_same (a0 r : Int) (w : World) (h : impl_one.f a0 = some r) :
    Calls Tryd.prog 53 #[.int .i64 a0] w fun e w' => e = .returned (.int .i64 r) ∧ w' = w := by
  have H := h
  unfold impl_one.f at H
  by_cases c : 0 ≤ a0
  · rw [if_pos c] at H
    obtain rfl := Option.some.inj H
    have cb : decide (0 ≤ a0) = true := decide_eq_true c
    have e : wrap64 (2 ^ min a0.toNat 64) = shl .i64 1 a0 := by
      show _ = IntKind.i64.wrap (1 * 2 ^ min a0.toNat 64)
      rw [Int.one_mul]
      exact (i64_w _).symm
    have E := Aside0.mk e
    clear e
    go_enter Tryd.func53, Tryd.ntmps53
    go_wp2
    go_ret
    exact ⟨by rw [← E.out]; rfl, rfl⟩
  · rw [if_neg c] at H; cases H
set_option maxHeartbeats 4000000 in
set_option maxRecDepth 100000 in
theorem growD_any (below : List Int) (A : Option Addr) (c : Nat) (line : List Int) : ∀ (A1 : Option Addr) (c1 : Nat) (chosen : Int) (s : List Int) (b : Bool) (r1 : Bool) (r2 : List Int) (r3 : Bool) (w0 wB w : World) (g : Nat) (v : Value), Fam w0 wB w g v s b → (∀ W, KeepBut wB W g none → Kd.C (Kd.int .i64) W A below.length below) → below.length ≤ c → (∀ W, KeepBut wB W g none → Kd.C (Kd.int .i64) W A1 line.length line) → line.length ≤ c1 → growD below line chosen s b = some (r1, r2, r3) →
    Calls Tryd.prog 66 #[.slice A below.length c, .slice A1 line.length c1, .int .i64 chosen, .pointer (some ⟨g, 0, none⟩)] w fun e w' => e = .returned (.bool r1) ∧ ∃ v', Fam w0 wB w' g v' r2 r3 := by
  induction line with
  | nil =>
    intro A1 c1 chosen s b r1 r2 r3 w0 wB w g v hF hN hc hL hc1 h
    have HF := Aside0.mk hF
    clear hF hN hL
    unfold growD at h
    by_cases h1 : s.length ≤ 4096
    · rw [if_pos h1] at h
      have hA := fun W v (hF : Fam w0 wB W g v s b) => add_any w0 wB W g v s b chosen hF h1
      have HA := Aside0.mk hA
      clear hA
      by_cases h2 : s.length = 4096
      · rw [if_pos h2] at h
        cases h
        rw [decide_eq_true h2, if_pos h2] at HA
        clear h1 h2
        go_enter Tryd.func66, Tryd.ntmps66
        go_wp2_with (go_at_call 75; refine (HA.out _ _ HF.out).mono ?_; rintro e w1 ⟨rfl, v1, hF1⟩; have HF1 := Aside0.mk hF1; clear hF1)
        go_ret
        exact ⟨rfl, v1, HF1.out⟩
      · rw [if_neg h2] at h
        cases h
        rw [decide_eq_false h2, if_neg h2] at HA
        clear h1 h2
        go_enter Tryd.func66, Tryd.ntmps66
        go_wp2_with (go_at_call 75; refine (HA.out _ _ HF.out).mono ?_; rintro e w1 ⟨rfl, v1, hF1⟩; have HF1 := Aside0.mk hF1; clear hF1)
        go_ret
        exact ⟨rfl, v1, HF1.out⟩
    · rw [if_neg h1] at h; cases h
  | cons i line ih =>
    intro A1 c1 chosen s b r1 r2 r3 w0 wB w g v hF hN hc hL hc1 h
    have HF := Aside0.mk hF
    have HN := Aside0.mk hN
    have HL := Aside0.mk hL
    have HC := Aside0.mk hc
    have HC1 := Aside0.mk hc1
    have IH := Aside0.mk ih
    clear hF hN hL ih
    unfold growD at h
    replace h := Option.bind_eq_some_iff.mp h
    obtain ⟨⟨t1, t2, t3⟩, ht, h⟩ := h
    have AT := Aside0.mk ht
    have AH := Aside0.mk h
    clear ht h
    obtain ⟨ad, e0, hx⟩ := Kd.at_int (HL.out _ HF.out.keep) 0 (by omega) (by simp only [List.length_cons]; omega)
    cases e0
    have hx0 : w.cell? ad = some (.int .i64 i) := by
      have ea : ad.add (0 : Int).toNat = ad := by simp [Addr.add]
      rw [ea] at hx
      exact hx
    clear hx
    obtain ⟨n, hn⟩ : ∃ n, (i :: line).length = n := ⟨_, rfl⟩
    have hn1 : n = line.length + 1 := by rw [← hn]; rfl
    rw [hn] at hc1 ⊢
    have hpb : ((n : Int) == 0) = false := beq_eq_false_iff_ne.mpr (by omega)
    have hp1 : 1 ≤ n := by omega
    have HN1 := Aside0.mk hn1
    clear hn hn1
    go_enter Tryd.func66, Tryd.ntmps66
    have HLS : Aside0 (∀ W, KeepBut wB W g none → Kd.C (Kd.int .i64) W (if c1 = 1 then some ad else some { block := ad.block, off := ad.off + 1 }) line.length line) := ⟨fun W hk => by
      have h1 := Kd.C_drop (m := 1) (HL.out W hk) (by simp) HC1.out
      simp only [List.drop_succ_cons, List.drop_zero, Option.map_some] at h1
      have ea : ad.add (1 * (Kd.int .i64).sz) = { block := ad.block, off := ad.off + 1 } := by
        rfl
      rw [ea] at h1
      exact h1⟩
    have hn2 : n - 1 = line.length := by have := HN1.out; omega
    have HN2 := Aside0.mk hn2
    have HC2 : Aside0 (line.length ≤ c1 - 1) := ⟨by have := HN1.out; omega⟩
    clear hn2
    have HL1 : Aside0 (c1 = 1 → ∀ W, KeepBut wB W g none → Kd.C (Kd.int .i64) W (some ad) line.length line) := ⟨fun e W hk => by have h := HLS.out W hk; rw [if_pos e] at h; exact h⟩
    have HL2 : Aside0 (¬ c1 = 1 → ∀ W, KeepBut wB W g none → Kd.C (Kd.int .i64) W (some { block := ad.block, off := ad.off + 1 }) line.length line) := ⟨fun e W hk => by have h := HLS.out W hk; rw [if_neg e] at h; exact h⟩
    cases t1 with
    | false =>
      have hh := AH.out
      simp only [Bool.false_eq_true, if_false] at hh
      cases hh
      go_wp2_with (first
        | (go_at_call 66; rw [HN2.out]; go_loud (refine (IH.out _ (c1 - 1) chosen s b false r2 r3 w0 wB w g v HF.out HN.out HC.out HLS.out HC2.out AT.out).mono ?_; rintro e w1 ⟨rfl, v1, hF1⟩; have HF1 := Aside0.mk hF1; clear hF1)))
      all_goals
        go_ret
        exact ⟨rfl, v1, HF1.out⟩
    | true =>
      have hh := AH.out
      simp only [if_true] at hh
      by_cases h0 : 0 ≤ i
      · rw [if_pos h0] at hh
        by_cases hl : i < (below.length : Int)
        · rw [if_pos hl] at hh
          replace hh := Option.bind_eq_some_iff.mp hh
          obtain ⟨m, hm, hh⟩ := hh
          have AM := Aside0.mk hm
          have HH := Aside0.mk hh
          clear hm hh AH
          go_wp2_with (first
            | (go_at_call 66; rw [HN2.out]; go_loud (refine (IH.out _ (c1 - 1) chosen s b true t2 t3 w0 wB w g v HF.out HN.out HC.out HLS.out HC2.out AT.out).mono ?_; rintro e w1 ⟨rfl, v1, hF1⟩; have HF1 := Aside0.mk hF1; clear hF1)))
          all_goals
            obtain ⟨ab, eb, hx⟩ := Kd.at_int (HN.out _ HF1.out.keep) i h0 hl
            cases eb
            have HX := Aside0.mk (fun W (hK : KeepBut wB W g none) => Kd.foot_int (HN.out W hK) i h0 hl)
            have hh := HH.out
            by_cases hz : Go.bits .andNot .i64 (Go.bits .andNot .i64 (rd below i) chosen) m = 0
            · rw [if_pos hz] at hh
              have AT2 := Aside0.mk hh
              have hzb : (Go.bits .andNot .i64 (Go.bits .andNot .i64 (rd below i) chosen) m != 0) = false := bne_eq_false_iff_eq.mpr hz
              clear hh hz
              have hx4 : w1.drew.cell? (ab.add i.toNat) = some (.int .i64 (rd below i)) := HX.out w1.drew HF1.out.drew.keep
              have hpi : (1 : Int) ≤ (n : Int) := by omega
              have hpt : ((1 : Int) ≤ (n : Int)) = True := eq_true hpi
              go_still_tail 19, (by kernel_rfl)
              still_call (one_same i m _ AM.out)
              iterate 8 still_step
              still_call (one_same i m _ AM.out)
              iterate 2 still_step
              refine wpStill_nil ?_
              change wpList _ _ _ _ _ w1.drew
              have HF2 := Aside0.mk HF1.out.drew
              clear hx hx4
              generalize w1.drew = w2 at HF2 ⊢
              go_wp2_with (first
                | (go_at_call 66; rw [HN2.out]; go_loud ((with_reducible refine (IH.out _ _ (Go.bits .or .i64 chosen m) t2 t3 r1 r2 r3 w0 wB _ g v1 HF2.out HN.out HC.out ?sL ?sC AT2.out).mono ?_); (case sL => first | (refine HL1.out ?_; assumption) | (refine HL2.out ?_; assumption)); (case sC => (have h8 := HN1.out; have h9 := HC1.out; simp only [List.length_cons] at h9; omega)); rintro e w5 ⟨rfl, v5, hF5⟩; have HF5 := Aside0.mk hF5; clear hF5)))
              go_ret
              exact ⟨rfl, v5, HF5.out⟩
            · rw [if_neg hz] at hh
              cases hh
              have hzb : (Go.bits .andNot .i64 (Go.bits .andNot .i64 (rd below i) chosen) m != 0) = true := bne_iff_ne.mpr hz
              clear hz
              have hx4 : w1.drew.cell? (ab.add i.toNat) = some (.int .i64 (rd below i)) := HX.out w1.drew HF1.out.drew.keep
              go_big_quiet ((go_at_call 53; exact Calls.quiet_of ((impl_one.calls i m _ AM.out).mono (fun e w2 h => by obtain ⟨rfl, ⟨n1, rfl⟩⟩ := h; exact ⟨rfl, n1, rfl⟩))))
              go_wp2
              go_ret
              exact ⟨rfl, v1, by repeat (first | exact HF1.out | apply Fam.drewN | apply Fam.drew)⟩
        · rw [if_neg hl] at hh; cases hh
      · rw [if_neg h0] at hh; cases hh
def insRen : Go.Shelf.Ren :=
  { f := fun x =>
      match x with
      | 20 => 84
      | n => n
    t := fun x =>
      match x with
      | 24 => 2
      | 22 => 22
      | 3 => 3
      | 25 => 64
      | 4 => 4
      | 0 => 0
      | n => n
    g := fun n => n }
theorem insLaid : Go.Proofs.SlLaysF.n20 Tryd.prog insRen := {
  mixed := rfl
  f20 := ⟨Tryd.f84.name, by decide, Tryd.func84.trans (congrArg some rfl)⟩
  t0 := Tryd.underlying0
  a0 := Tryd.isAgg0
  z0 := Tryd.sizeOf0
  v0 := Tryd.zeroValue0
  t3 := Tryd.underlying3
  a3 := Tryd.isAgg3
  z3 := Tryd.sizeOf3
  v3 := Tryd.zeroValue3
  t4 := Tryd.underlying4
  a4 := Tryd.isAgg4
  z4 := Tryd.sizeOf4
  v4 := Tryd.zeroValue4
  t22 := Tryd.underlying22
  a22 := Tryd.isAgg22
  z22 := Tryd.sizeOf22
  v22 := Tryd.zeroValue22
  a24 := Tryd.isAgg2
  z24 := Tryd.sizeOf2
  t25 := Tryd.underlying64
  a25 := Tryd.isAgg64
  z25 := Tryd.sizeOf64
  v25 := Tryd.zeroValue64 }
def sizesF : List Int → Option (List Int)
  | [] => some []
  | x :: l => (impl_size.f x).bind fun s => (sizesF l).bind fun t => some (s :: t)
theorem sizesF_get {l s : List Int} (h : sizesF l = some s) {i : Int} (h0 : 0 ≤ i) (h1 : i < (l.length : Int)) : impl_size.f (rd l i) = some (rd s i) := by
  induction l generalizing s i with
  | nil => simp at h1; omega
  | cons x l ih =>
    simp only [sizesF] at h
    replace h := Option.bind_eq_some_iff.mp h; obtain ⟨a, ha, h⟩ := h
    replace h := Option.bind_eq_some_iff.mp h; obtain ⟨t, ht, h⟩ := h
    cases h
    by_cases e : i = 0
    · subst e; exact ha
    · have hi : i.toNat = (i - 1).toNat + 1 := by omega
      have e1 : rd (x :: l) i = rd l (i - 1) := by unfold rd; rw [hi]; rfl
      have e2 : rd (a :: t) i = rd t (i - 1) := by unfold rd; rw [hi]; rfl
      rw [e1, e2]
      exact ih ht (by omega) (by simp only [List.length_cons] at h1; omega)
set_option maxHeartbeats 4000000 in
set_option maxRecDepth 100000 in
theorem down_cmp (W : World) (gb : Nat) (Ab : Option Addr) (cb : Nat) (below : List Int) (x y sx sy : Int) (hb : W.cell? ⟨gb, 0, none⟩ = some (.slice Ab below.length cb)) (hC : Kd.C (Kd.int .i64) W Ab below.length below) (x0 : 0 ≤ x) (x1 : x < (below.length : Int)) (y0 : 0 ≤ y) (y1 : y < (below.length : Int)) (hx : impl_size.f (rd below x) = some sx) (hy : impl_size.f (rd below y) = some sy) :
    Calls Tryd.prog 64 #[.int .i64 x, .int .i64 y, .pointer (some ⟨gb, 0, none⟩)] W fun e w' => e = .returned (.int .i64 (wrap64 (sx - sy))) ∧ ∃ q, w' = W.drewN q := by
  obtain ⟨ab, e0, hx0⟩ := Kd.at_int hC x x0 x1
  cases e0
  have hy0 := Kd.foot_int hC y y0 y1
  obtain ⟨sX, eX⟩ : ∃ s, rd below x = s := ⟨_, rfl⟩
  obtain ⟨sY, eY⟩ : ∃ s, rd below y = s := ⟨_, rfl⟩
  obtain ⟨n, hn⟩ : ∃ n, below.length = n := ⟨_, rfl⟩
  rw [eX] at hx0 hx
  rw [eY] at hy0 hy
  rw [hn] at hb x1 y1
  have HX := Aside0.mk hx; have HY := Aside0.mk hy
  clear hx hy eX eY hC hn
  have a1 : W.drew.cell? ⟨gb, 0, none⟩ = some (.slice (some ab) n cb) := hb
  have a2 : W.drew.cell? (ab.add x.toNat) = some (.int .i64 sX) := hx0
  have a3 : W.drew.cell? (ab.add y.toNat) = some (.int .i64 sY) := hy0
  go_enter Tryd.func64, Tryd.ntmps64
  go_wp2
  go_big_quiet (first
    | (go_at_call 65; exact Calls.quiet_of ((impl_size.calls sX sx _ HX.out).mono (fun e w2 h => by obtain ⟨rfl, ⟨n1, rfl⟩⟩ := h; exact ⟨rfl, n1, rfl⟩)))
    | (go_at_call 65; exact Calls.quiet_of ((impl_size.calls sY sy _ HY.out).mono (fun e w2 h => by obtain ⟨rfl, ⟨n1, rfl⟩⟩ := h; exact ⟨rfl, n1, rfl⟩))))
  go_wp2
  go_ret
  exact ⟨rfl, _, rfl⟩
def cfD (sz : List Int) {N : Nat} (x y : Fin N) : Int := wrap64 (rd sz (x.val : Int) - rd sz (y.val : Int))
def lineF (sz : List Int) : Nat → List Int
  | 0 => []
  | N + 1 => (Sort.insertionSort (Go.Proofs.ltOf (cfD sz)) (Array.ofFn fun i : Fin (N + 1) => i) 0 (N + 1)).toList.map fun i => (i.val : Int)
set_option maxHeartbeats 4000000 in
set_option maxRecDepth 100000 in
theorem stable_small {α : Type} [Inhabited α] (enc : α → Value) (hO : Go.Proofs.OneCell enc) (cf : α → α → Int) (g : Nat) (cb : Array Value) (blk cap : Nat) (d : Array α) (w : World)
    (eg : ∀ args w, (callFunc g args).run Tryd.prog w = .ok (.enter g args) w) (hcmp : Go.Proofs.CmpReads Tryd.prog g cb enc cf blk 0 d.size w) (hH : Sort.Holds enc w blk 0 d) (h20 : d.size < 20) :
    Calls Tryd.prog 63 #[.slice (some ⟨blk, 0, none⟩) d.size cap, .func (.func g) #[] cb] w fun e w' => e = .returned (.tuple #[]) ∧ ∃ n, w' = (Sort.putRow enc w blk 0 (Sort.insertionSort (Go.Proofs.ltOf cf) d 0 d.size)).drewN n := by
  have hins := Go.Proofs.Any.insertionSortCmpFunc_one insLaid enc hO cf g cb blk 0 cap 0 d.size d w eg hcmp hH (Nat.zero_le _) (Nat.le_refl _) (by omega)
  have HI : Aside0 (Calls Tryd.prog 84 #[.slice (some ⟨blk, 0, none⟩) d.size cap, .int .i64 0, .int .i64 (d.size : Int), .func (.func g) #[] cb] w fun e w' => e = .returned (.tuple #[]) ∧ ∃ n, w' = (Sort.putRow enc w blk 0 (Sort.insertionSort (Go.Proofs.ltOf cf) d 0 d.size)).drewN n) := ⟨hins⟩
  clear hins hcmp hH eg hO
  generalize Sort.insertionSort (Go.Proofs.ltOf cf) d 0 d.size = d' at HI ⊢
  obtain ⟨n, hn⟩ : ∃ n, d.size = n := ⟨_, rfl⟩
  rw [hn] at HI h20 ⊢
  clear hn
  have c1 : decide ((20 : Int) ≤ (n : Int)) = false := decide_eq_false (by omega)
  have c2 : decide (20 ≤ n) = false := decide_eq_false (by omega)
  have c3 : decide ((20 : Int) < (n : Int)) = false := decide_eq_false (by omega)
  have c4 : decide (20 < n) = false := decide_eq_false (by omega)
  have HS : Aside0 (Calls Tryd.prog 78 #[.slice (some ⟨blk, 0, none⟩) n cap, .int .i64 (n : Int), .func (.func g) #[] cb] w fun e w' => e = .returned (.tuple #[]) ∧ ∃ m, w' = (Sort.putRow enc w blk 0 d').drewN m) := ⟨by
    go_enter Tryd.func78, Tryd.ntmps78
    go_wp2
    refine wp_loop_rounds 1 ?_
    rw [rounds_succ]
    go_wp2_with (go_at_call 84; refine HI.out.mono ?_; rintro e w' ⟨rfl, m, hw⟩; have HW := Aside0.mk hw; clear hw)
    refine wp_loop_rounds 1 ?_
    rw [rounds_succ]
    go_wp2
    first | go_end0 | ((try simp only [Exit.inBlock, Exit.then]); refine bodyPost_ret (results_none rfl _ _ _) rfl ?_)
    exact ⟨rfl, m, HW.out⟩⟩
  go_enter Tryd.func63, Tryd.ntmps63
  go_wp2_with (go_at_call 78; refine HS.out.mono ?_; rintro e w' ⟨rfl, m, hw⟩; have HW := Aside0.mk hw; clear hw)
  first | go_end0 | ((try simp only [Exit.inBlock, Exit.then]); refine bodyPost_ret (results_none rfl _ _ _) rfl ?_)
  exact ⟨rfl, m, HW.out⟩
def impl_downsets.f (k : Nat) (l0 : List Int) : Option (List Int × Int) := (impl_converse.f k l0).bind fun below => if below.length = l0.length ∧ l0.length < 20 then (sizesF below).bind fun sz => (growD below (lineF sz l0.length) 0 [] false).bind fun r => if r.2.2 = true then some ([], 3) else if 0 < r.2.1.length ∧ r.2.1.length ≤ 4096 then some (asc r.2.1, 0) else none else none
theorem putRow_fin {N : Nat} (w : World) (b : Nat) (d : Array (Fin (N + 1))) : Sort.putRow (fun i : Fin (N + 1) => Value.int .i64 (i.val : Int)) w b 0 d = Sort.putRow (Value.int .i64) w b 0 ((d.toList.map fun i => (i.val : Int)).toArray) := by
  unfold Sort.putRow
  congr 1
  funext c
  unfold Sort.putCells
  congr 1
  funext k x
  have hs : ((d.toList.map fun i => (i.val : Int)).toArray).size = d.size := by simp
  rw [hs]
  by_cases h : 0 ≤ k ∧ k < 0 + d.size
  · rw [if_pos h, if_pos h]
    have h1 : k - 0 < d.size := by omega
    rw [getElem!_pos d _ h1, getElem!_pos _ _ (by rw [hs]; exact h1)]
    simp
  · rw [if_neg h, if_neg h]
theorem sortedR {W : World} {base : Nat} {ok : Nat → Prop} {g n : Nat} {os : Array Obj} {c : Nat} {l l' : List Int} (hl : l'.length = l.length) (h : Kd.R (Kd.int .i64) 2 W base ok (.slice (some ⟨g, 0, none⟩) l.length c) l) :
    Kd.R (Kd.int .i64) 2 (Sort.grow (Sort.putRow (Value.int .i64) (Sort.ahead W n) g 0 l'.toArray) os) base ok (.slice (some ⟨g, 0, none⟩) l.length c) l' := by
  have ho := Kd.own_of_R h
  rcases ho.2 with ⟨h0, _⟩ | ⟨g', cap, cur, he, hb, hh, h1, h2, h3, h4⟩
  · cases h0
  · injection he with ha _ hc
    injection ha with ha
    injection ha with ha
    subst ha
    subst hc
    have := ownsRow_sortedI (os := os) (n := n) (ss := l) (ts := l') hl hb hh h1 h2 h3
    rw [← hl] at this ⊢
    exact Kd.R_of_own this h.1
set_option maxHeartbeats 4000000 in
set_option maxRecDepth 100000 in
theorem stable_nil (A : Option Addr) (c g : Nat) (cb : Array Value) (w : World) :
    Calls Tryd.prog 63 #[.slice A 0 c, .func (.func g) #[] cb] w fun e w' => e = .returned (.tuple #[]) ∧ w' = w := by
  have HI : Aside0 (∀ w : World, Calls Tryd.prog 84 #[.slice A 0 c, .int .i64 0, .int .i64 0, .func (.func g) #[] cb] w fun e w' => e = .returned (.tuple #[]) ∧ w' = w) := ⟨fun w => by
    go_enter Tryd.func84, Tryd.ntmps84
    go_wp2
    refine wp_loop_rounds 1 ?_
    rw [rounds_succ]
    go_wp2
    first | go_end0 | ((try simp only [Exit.inBlock, Exit.then]); refine bodyPost_ret (results_none rfl _ _ _) rfl ?_)
    exact ⟨rfl, rfl⟩⟩
  have HS : Aside0 (Calls Tryd.prog 78 #[.slice A 0 c, .int .i64 0, .func (.func g) #[] cb] w fun e w' => e = .returned (.tuple #[]) ∧ w' = w) := ⟨by
    go_enter Tryd.func78, Tryd.ntmps78
    go_wp2
    refine wp_loop_rounds 1 ?_
    rw [rounds_succ]
    go_wp2_with (go_at_call 84; refine (HI.out _).mono ?_; rintro e w' ⟨rfl, rfl⟩)
    refine wp_loop_rounds 1 ?_
    rw [rounds_succ]
    go_wp2
    first | go_end0 | ((try simp only [Exit.inBlock, Exit.then]); refine bodyPost_ret (results_none rfl _ _ _) rfl ?_)
    exact ⟨rfl, rfl⟩⟩
  go_enter Tryd.func63, Tryd.ntmps63
  go_wp2_with (go_at_call 78; refine HS.out.mono ?_; rintro e w' ⟨rfl, rfl⟩)
  first | go_end0 | ((try simp only [Exit.inBlock, Exit.then]); refine bodyPost_ret (results_none rfl _ _ _) rfl ?_)
  exact ⟨rfl, rfl⟩
def numsI (n : Nat) : List Int := (List.range n).map fun i : Nat => (i : Int)
theorem numsI_length (n : Nat) : (numsI n).length = n := by simp [numsI]
theorem numsI_succ (n : Nat) : numsI (n + 1) = numsI n ++ [(n : Int)] := by simp [numsI, List.range_succ]
theorem insInner_size {α : Type} [Inhabited α] (lt : α → α → Bool) (a : Nat) : ∀ (j : Nat) (d : Array α), (Sort.insInner lt a j d).size = d.size
  | 0, d => rfl
  | j + 1, d => by
    unfold Sort.insInner
    split
    · rw [insInner_size lt a j]; simp [Sort.swp]
    · rfl
theorem insOuter_size {α : Type} [Inhabited α] (lt : α → α → Bool) (a b : Nat) : ∀ (m i : Nat) (d : Array α), b - i = m → (Sort.insOuter lt a b i d).size = d.size := by
  intro m
  induction m with
  | zero => intro i d h; rw [Sort.insOuter, if_neg (by omega)]
  | succ m ih => intro i d h; rw [Sort.insOuter, if_pos (by omega), ih _ _ (by omega), insInner_size]
theorem insertionSort_size {α : Type} [Inhabited α] (lt : α → α → Bool) (d : Array α) (a b : Nat) : (Sort.insertionSort lt d a b).size = d.size := insOuter_size lt a b _ _ _ rfl
theorem lineF_length (sz : List Int) (n : Nat) : (lineF sz n).length = n := by
  cases n with
  | zero => rfl
  | succ N => simp only [lineF, List.length_map, Array.length_toList]; rw [insertionSort_size]; simp
theorem sort_line (W : World) (gb : Nat) (Ab : Option Addr) (cb0 : Nat) (below sz : List Int) (base : Nat) (ok : Nat → Prop) (A : Option Addr) (c n : Nat) (hn : below.length = n) (hn20 : n < 20) (hz : sizesF below = some sz) (hR : Kd.R (Kd.int .i64) 2 W base ok (.slice A n c) (numsI n)) (hg : ∀ k, ok k → k ≠ gb) (hb : W.cell? ⟨gb, 0, none⟩ = some (.slice Ab below.length cb0)) (hC : ∀ W', (∀ k, ¬ ok k → k < W.heap.size → W'.heap[k]? = W.heap[k]?) → Kd.C (Kd.int .i64) W' Ab below.length below) :
    Calls Tryd.prog 63 #[.slice A n c, .func (.func 64) #[] #[.pointer (some ⟨gb, 0, none⟩)]] W fun e w' => e = .returned (.tuple #[]) ∧ Kd.R (Kd.int .i64) 2 w' base ok (.slice A n c) (lineF sz n) ∧ ∃ row : Option Nat, W.grownBy w' row ∧ ∀ k, row = some k → ok k := by
  cases n with
  | zero =>
    refine (stable_nil A c _ _ W).mono ?_
    rintro e w' ⟨rfl, rfl⟩
    exact ⟨rfl, hR, none, World.grownBy.refl _ _, fun k hk => by cases hk⟩
  | succ N =>
    obtain ⟨b, cap, e, h1, h2, cells, h3⟩ := Kd.R_form hR (by rw [numsI_length]; omega)
    rw [numsI_length] at e
    injection e with eA _ ec
    subst eA
    subst ec
    have hokb : ok b := hR.1 b (by simp [Value.ownBlock])
    have hne : b ≠ gb := hg b hokb
    -- the row as numbers below N + 1
    have hH : Sort.Holds (fun i : Fin (N + 1) => Value.int .i64 (i.val : Int)) W b 0 (Array.ofFn fun i : Fin (N + 1) => i) := by
      have ho := Kd.own_of_R hR
      rcases ho.2 with ⟨h0, _⟩ | ⟨g', cap', cur, he, hbb, hh, h1', h2', h3', h4'⟩
      · cases h0
      · injection he with ha _ hc
        injection ha with ha
        injection ha with ha
        subst ha
        have hi := holds_of_blockI hh (by rw [Nat.mul_one] at h4'; exact h4')
        intro j hj
        have hj' : j < N + 1 := by simpa using hj
        obtain ⟨q1, q2⟩ := hi j (by simpa [numsI] using hj')
        refine ⟨?_, q2⟩
        rw [q1, getElem!_pos _ j (by simpa [numsI] using hj'), getElem!_pos _ j hj]
        simp [numsI]
    have hcmp : Go.Proofs.CmpReads Tryd.prog 64 #[.pointer (some ⟨gb, 0, none⟩)] (fun i : Fin (N + 1) => Value.int .i64 (i.val : Int)) (cfD sz) b 0 (Array.ofFn fun i : Fin (N + 1) => i).size W := by
      intro m os dk hdk x y
      have hgb : gb < W.heap.size := World.block_lt_of_cell? W ⟨gb, 0, none⟩ hb
      have blk : ∀ q, q ≠ b → q < W.heap.size → (Go.Proofs.sortWorld (fun i : Fin (N + 1) => Value.int .i64 (i.val : Int)) W b 0 m dk os).heap[q]? = W.heap[q]? := by
        intro q hq hl
        unfold Go.Proofs.sortWorld
        rw [putRow_fin]
        exact (grownBy_sortedI (w := W) (n := m) (os := os) _).block q hl (fun e => hq (by injection e))
      have hb' : (Go.Proofs.sortWorld (fun i : Fin (N + 1) => Value.int .i64 (i.val : Int)) W b 0 m dk os).cell? ⟨gb, 0, none⟩ = some (.slice Ab below.length cb0) := by
        rw [← hb]
        unfold World.cell?
        rw [blk gb (Ne.symm hne) hgb]
      have hC' := hC (Go.Proofs.sortWorld (fun i : Fin (N + 1) => Value.int .i64 (i.val : Int)) W b 0 m dk os) (fun k hk hl => blk k (fun e => hk (e ▸ hokb)) hl)
      exact down_cmp _ gb Ab cb0 below x.val y.val _ _ hb' hC' (by omega) (by have := x.isLt; omega) (by omega) (by have := y.isLt; omega) (sizesF_get hz (by omega) (by have := x.isLt; omega)) (sizesF_get hz (by omega) (by have := y.isLt; omega))
    have hS := stable_small (fun i : Fin (N + 1) => Value.int .i64 (i.val : Int)) (fun _ => rfl) (cfD sz) 64 #[.pointer (some ⟨gb, 0, none⟩)] b c (Array.ofFn fun i : Fin (N + 1) => i) W (enters_of Tryd.func64 (by kernel_rfl) rfl) hcmp hH (by simpa using hn20)
    have es : (Array.ofFn fun i : Fin (N + 1) => i).size = N + 1 := by simp
    rw [es] at hS
    refine hS.mono ?_
    rintro e w' ⟨rfl, n, rfl⟩
    have ew : (Sort.putRow (fun i : Fin (N + 1) => Value.int .i64 (i.val : Int)) W b 0 (Sort.insertionSort (Go.Proofs.ltOf (cfD sz)) (Array.ofFn fun i : Fin (N + 1) => i) 0 (N + 1))).drewN n = Sort.grow (Sort.putRow (Value.int .i64) (Sort.ahead W n) b 0 (lineF sz (N + 1)).toArray) #[] := by
      rw [Sort.grow_empty, putRow_fin]
      rfl
    rw [ew]
    have hR2 := sortedR (W := W) (base := base) (ok := ok) (g := b) (c := c) (l := numsI (N + 1)) (n := n) (os := #[]) (l' := lineF sz (N + 1)) (by rw [lineF_length, numsI_length]) (by rw [numsI_length]; exact hR)
    rw [numsI_length] at hR2
    refine ⟨rfl, hR2, some b, grownBy_sortedI _, fun k hk => by injection hk with hk; subst hk; exact hokb⟩
set_option maxHeartbeats 8000000 in
set_option maxRecDepth 100000 in
theorem impl_downsets.calls (k : Nat) (A0 : Option Addr) (c0 : Nat) (l0 : List Int) (r1 : List Int) (r2 : Int) (w : World) (hr0 : Kd.C (Kd.int .i64) w A0 l0.length l0) (hc0 : l0.length ≤ c0) (hT : TabW w) (h : impl_downsets.f k l0 = some (r1, r2)) :
    Calls Tryd.prog 45 #[.slice A0 l0.length c0] w fun e w' => ∃ v0_ : Value, e = .returned (.tuple #[v0_, .int .i64 r2]) ∧ Kd.R (Kd.int .i64) 2 w' w.heap.size (fun _ => True) v0_ r1 ∧ Below w.heap.size w w' := by
  have hu := Tryd.underlying56
  have HT := Aside0.mk hT; have HR0 := Aside0.mk hr0; have HC0 := Aside0.mk hc0
  clear hT hr0 hc0
  unfold impl_downsets.f at h
  replace h := Option.bind_eq_some_iff.mp h; obtain ⟨below, hbel, h⟩ := h
  by_cases hn : below.length = l0.length ∧ l0.length < 20
  rotate_left
  · rw [if_neg hn] at h; cases h
  rw [if_pos hn] at h
  replace h := Option.bind_eq_some_iff.mp h; obtain ⟨sz, hsz, h⟩ := h
  replace h := Option.bind_eq_some_iff.mp h; obtain ⟨⟨q1, q2, q3⟩, hq, h⟩ := h
  have ABEL := Aside0.mk hbel; have ASZ := Aside0.mk hsz; have HN1 := Aside0.mk hn.1; have HN2 := Aside0.mk hn.2; have HH := Aside0.mk h
  clear hbel hsz hn h
  obtain ⟨line, hline⟩ : ∃ line, line = lineF sz l0.length := ⟨_, rfl⟩
  rw [← hline] at hq
  have AQ := Aside0.mk hq
  have HLL : Aside0 (line.length = l0.length) := ⟨by rw [hline, lineF_length]⟩
  have HLI : Aside0 (lineF sz line.length = line) := ⟨by rw [HLL.out]; exact hline.symm⟩
  clear hline hq
  go_enter Tryd.func45, Tryd.ntmps45
  go_upto_region 2 with (first
    | (go_at_call 52; (with_reducible refine (impl_converse.calls k A0 c0 l0 below _ ?s1 HC0.out HT.out ABEL.out).mono ?_); (case s1 => exact HR0.out); rintro e w2 ⟨v2, rfl, ho, hb⟩; obtain ⟨Ab, cb, rfl⟩ := Kd.R_slice ho; have HCB := Aside0.mk (Kd.R_reads' ho).2.1; have HBL := Aside0.mk (Kd.R_mono (Kd.R_bound ho) (ok' := fun j => j < w2.heap.size) (fun _ h => h.2.2.1)); have HB := Aside0.mk hb; have W12 := Aside0.mk hb.size; clear ho hb)
    | ((with_reducible refine gate_dst (N := 10) rfl ?_); refine Kd.R_lit (Kd.int .i64) _ 2 ?hg (N := 10) ?hd (xs := ([] : List Int)) (inner := []) (ok := fun _ => True) (okp := fun _ => True) ?hr ?hp (fun _ hk => hk) trivial (Below.refl _ _) (Nat.le_refl _) (by simp) ?_; (case hd => rfl); (case hg => rfl); (case hr => first | (go_simp; done) | (go_simp; rfl)); (case hp => exact (Reps.none _ _)); intro v3 w3 ho hb hg_ hnew_; clear hg_ hnew_; have HLN0 := Aside0.mk (Kd.R_mono (Kd.R_bound ho) (ok' := fun j => w2.heap.size ≤ j ∧ j < w3.heap.size) (fun _ h => ⟨h.2.1, h.2.2.1⟩)); have W23 := Aside0.mk hb.size; replace HBL := Aside0.mk (Kd.R_below HBL.out hb); replace HB := Aside0.mk (below_step HB.out hb); clear ho hb)
    | ((with_reducible refine gate_dst (N := 4) rfl ?_); refine box_event ?hg (N := 4) ?hd (cs := #[.slice none 0 0]) (t := 22) ?hr ?_; (case hd => rfl); (case hg => rfl); (case hr => first | (go_simp; done) | (go_simp; rfl)); intro g4 hg w4 hbox hb; have BX := Aside0.mk hbox; have GW : Aside0 (w.heap.size ≤ g4 ∧ w2.heap.size ≤ g4 ∧ w3.heap.size ≤ g4) := ⟨by rw [hg]; exact ⟨below_size HB.out, W23.out, Nat.le_refl _⟩⟩; replace HBL := Aside0.mk (Kd.R_below HBL.out hb); replace HLN0 := Aside0.mk (Kd.R_below HLN0.out hb); replace HB := Aside0.mk (below_step HB.out hb); clear hbox hb hg; have x0 : w4.cell? ⟨g4, 0, none⟩ = some (.slice none 0 0) := bc BX 0; have x1 := blk_frozen BX.out 0))
  have BX4 : Aside0 ((w4.setCell ⟨g4, 0, none⟩ (.slice Ab below.length cb)).heap[g4]? = some (.cells #[.slice Ab below.length cb] 22 (0, 0))) := ⟨blk_put BX.out 0 _ rfl⟩
  have HBL4 := Aside0.mk (Kd.R_far (p := ⟨g4, 0, none⟩) HBL.out (fun j hj => by have := GW.out; show j ≠ g4; omega) (.slice Ab below.length cb))
  have HLN4 := Aside0.mk (Kd.R_mono (ok' := fun j => w2.heap.size ≤ j ∧ j ≠ g4) (Kd.R_far (p := ⟨g4, 0, none⟩) HLN0.out (fun j hj => by have := GW.out; show j ≠ g4; omega) (.slice Ab below.length cb)) (fun j hj => ⟨hj.1, by have := GW.out; omega⟩))
  have HB4 := Aside0.mk (below_set (j := 0) (v := .slice Ab below.length cb) HB.out GW.out.1)
  clear x0 x1 BX HBL HLN0 HB W23
  generalize w4.setCell ⟨g4, 0, none⟩ (.slice Ab below.length cb) = w5 at BX4 HBL4 HLN4 HB4 ⊢
  have HBL5 := Aside0.mk (Kd.R_lower HBL4.out (Nat.le_refl _))
  clear HBL4
  go_wp2
  go_loopg [5, 13] l0.length (fun gq v5 v13 w' => ∃ i : Nat, v13 = .int .i64 (i : Int) ∧ Aside0 (i + gq = l0.length) ∧ Aside0 (Kd.R (Kd.int .i64) 2 w' w.heap.size (fun j => w2.heap.size ≤ j ∧ j ≠ g4) v5 (numsI i)) ∧ Aside0 (Below w.heap.size w w') ∧ Aside0 (w'.heap[g4]? = some (.cells #[.slice Ab below.length cb] 22 (0, 0))) ∧ Aside0 (Kd.R (Kd.int .i64) 2 w' w.heap.size (fun j => j < w2.heap.size) (.slice Ab below.length cb) below))
  case atStart => exact ⟨0, rfl, ⟨Nat.zero_add _⟩, ⟨Kd.R_lower HLN4.out W12.out⟩, HB4, BX4, HBL5⟩
  case round =>
    clear HLN4 HB4 BX4 HBL5
    obtain ⟨i, rfl, HI, HO, HB, BX, HBL⟩ := hrel
    cases gk with
    | succ k1 =>
      have d1 : decide ((i : Int) < (l0.length : Int)) = true := decide_eq_true (by have := HI.out; omega)
      have d2 : decide (i < l0.length) = true := decide_eq_true (by have := HI.out; omega)
      go_wp2_with (first
        | ((with_reducible refine gate_builtin (b := .append) (xs := #[.tmp 16, .tmp 18]) rfl ?_); at_builtin; refine Kd.R_append (Kd.int .i64) (w0 := w) w.heap.size rfl (.tmp 16) (.tmp 18) 22 2 (.int .i64 0) 8 rfl Tryd.underlying22 info2 rfl (by decide) (by omega) _ (numsI i) (i : Int) [.int .i64 (i : Int)] (fun j => w2.heap.size ≤ j ∧ j ≠ g4) (fun _ => False) rfl rfl ?aP (fun _ hk => hk.elim) ?aF ?aO ?aB ?aS ?aL ?_; (case aP => exact rfl); (case aF => exact fun j hj => ⟨by have := blk_lt BX.out; have := GW.out; omega, by have := blk_lt BX.out; omega⟩); (case aO => exact HO.out); (case aB => exact HB.out); (case aS => exact below_size HB.out); (case aL => have := HI.out; have := HN2.out; rw [numsI_length]; omega); intro v1 w6 ho hb hgr hat; rw [← numsI_succ] at ho; have HO6 := Aside0.mk ho; have HB6 := Aside0.mk hb; have BX6 := Aside0.mk (blk_grown BX.out hgr (fun e => (HO.out.1 g4 e.symm).2 rfl)); have HBL6 := Aside0.mk (Kd.R_grown HBL.out hgr (fun j hj e => by have := (HO.out.1 j e.symm).1; omega)); clear ho hb hgr hat))
      go_roundg k1
      case measure => omega
      case rel => exact ⟨i + 1, by have h1 := HI.out; have h2 := HN2.out; rw [show wrap64 ((i : Int) + 1) = ((i + 1 : Nat) : Int) by unfold wrap64; omega], ⟨by have := HI.out; omega⟩, HO6, HB6, BX6, HBL6⟩
    | zero =>
      have hi : i = l0.length := by have := HI.out; omega
      subst hi
      have d1 : decide ((l0.length : Int) < (l0.length : Int)) = false := decide_eq_false (by omega)
      obtain ⟨A5, c5, e5⟩ := Kd.R_slice HO.out
      rw [numsI_length] at e5
      subst e5
      rw [← HLL.out] at HO d1 ⊢
      have d3 : decide (line.length < line.length) = false := decide_eq_false (by omega)
      have hx4 : wr.cell? ⟨g4, 0, none⟩ = some (.slice Ab below.length cb) := bc BX 0
      go_upto_region 8 with (first
        | (go_at_call 63; (with_reducible refine (sort_line _ g4 Ab cb below sz w.heap.size (fun j => w2.heap.size ≤ j ∧ j ≠ g4) A5 c5 line.length ?s1 ?s2 ASZ.out HO.out (fun j hj => hj.2) ?s3 ?s4).mono ?_); (case s1 => rw [HN1.out, HLL.out]); (case s2 => rw [HLL.out]; exact HN2.out); (case s3 => exact bc BX 0); (case s4 => exact fun W' hW => (Kd.R_reads' (Kd.R_step HBL.out (fun j hj hl => hW j (fun hh => by have := hh.1; omega) hl))).2.2); rintro e w7 ⟨rfl, ho, row, hg, hrow⟩; rw [HLI.out] at ho; have HO7 := Aside0.mk ho; have HB7 := Aside0.mk (HB.out.grown hg HB.out.size (fun j hj => Nat.le_trans W12.out (hrow j hj).1)); have BX7 := Aside0.mk (blk_grown BX.out hg (fun e => (hrow g4 e.symm).2 rfl)); have HBL7 := Aside0.mk (Kd.R_grown HBL.out hg (fun j hj e => by have := (hrow j e.symm).1; omega)); clear ho hg hrow hx4))
      clear HO HB BX HBL
      have BOX : Aside0 (∀ W, Below w7.heap.size w7 W → Kd.C (Kd.int .i64) W Ab below.length below) := ⟨fun W hb => (Kd.R_reads' (Kd.R_below HBL7.out hb)).2.2⟩
      have hh := HH.out
      cases q3 with
      | true =>
        simp only [if_true] at hh
        injection hh with hh
        injection hh with e1 e2
        subst e1 e2
        go_wp2_with (first
          | ((with_reducible refine gate_dst (N := 25) rfl ?_); refine box_event ?hg (N := 25) ?hd (cs := #[.slice none 0 0, .bool false]) (t := 56) ?hr ?_; (case hd => rfl); (case hg => rfl); (case hr => first | (go_simp; done) | (go_simp; rfl)); intro gb hg w8 hbox hb; have HF : Aside0 (Fam w w8 w8 gb (.slice none 0 0) [] false) := ⟨hbox, Kd.R_nil _ _ _ _ _, KeepBut.refl _ _ _, below_step HB7.out hb, by rw [hg]; exact below_size HB7.out, blk_lt hbox⟩; have HNB : Aside0 (∀ W, KeepBut w8 W gb none → Kd.C (Kd.int .i64) W Ab below.length below) := ⟨Kd.C_foot_own (Kd.R_below (Kd.R_elderB HBL7.out gb (Nat.le_of_eq hg.symm)) hb) (fun _ h => h.2)⟩; have HNL : Aside0 (∀ W, KeepBut w8 W gb none → Kd.C (Kd.int .i64) W A5 line.length line) := ⟨Kd.C_foot_own (Kd.R_below (Kd.R_elderB HO7.out gb (Nat.le_of_eq hg.symm)) hb) (fun _ h => h.2)⟩; have BX8 := bb BX7 hb; clear hbox hb hg; have x4 : w8.cell? ⟨g4, 0, none⟩ = some (.slice Ab below.length cb) := bc BX8 0)
          | (go_at_call 66; (with_reducible refine (growD_any below Ab cb line A5 c5 0 [] false q1 q2 true w w8 _ gb (.slice none 0 0) HF.out HNB.out HCB.out HNL.out ?s5 AQ.out).mono ?_); (case s5 => exact (Kd.R_reads' HO7.out).2.1); rintro e w9 ⟨rfl, v9, hF9⟩; have HF9 := Aside0.mk hF9; clear hF9 x4)
          | (go_at_call 59; refine (sorted_full _ _ _ _ _ _ HF9.out).mono ?_; rintro e w10 ⟨rfl, rfl⟩))
        go_ret2
        exact ⟨_, rfl, Kd.R_nil _ _ _ _ _, HF9.out.low⟩
      | false =>
        simp only [Bool.false_eq_true, if_false] at hh
        by_cases hp : 0 < q2.length ∧ q2.length ≤ 4096
        rotate_left
        · rw [if_neg hp] at hh; cases hh
        rw [if_pos hp] at hh
        injection hh with hh
        injection hh with e1 e2
        subst e1 e2
        have HP := Aside0.mk hp.1; have HQ := Aside0.mk hp.2
        clear hp
        go_wp2_with (first
          | ((with_reducible refine gate_dst (N := 25) rfl ?_); refine box_event ?hg (N := 25) ?hd (cs := #[.slice none 0 0, .bool false]) (t := 56) ?hr ?_; (case hd => rfl); (case hg => rfl); (case hr => first | (go_simp; done) | (go_simp; rfl)); intro gb hg w8 hbox hb; have HF : Aside0 (Fam w w8 w8 gb (.slice none 0 0) [] false) := ⟨hbox, Kd.R_nil _ _ _ _ _, KeepBut.refl _ _ _, below_step HB7.out hb, by rw [hg]; exact below_size HB7.out, blk_lt hbox⟩; have HNB : Aside0 (∀ W, KeepBut w8 W gb none → Kd.C (Kd.int .i64) W Ab below.length below) := ⟨Kd.C_foot_own (Kd.R_below (Kd.R_elderB HBL7.out gb (Nat.le_of_eq hg.symm)) hb) (fun _ h => h.2)⟩; have HNL : Aside0 (∀ W, KeepBut w8 W gb none → Kd.C (Kd.int .i64) W A5 line.length line) := ⟨Kd.C_foot_own (Kd.R_below (Kd.R_elderB HO7.out gb (Nat.le_of_eq hg.symm)) hb) (fun _ h => h.2)⟩; have BX8 := bb BX7 hb; clear hbox hb hg; have x4 : w8.cell? ⟨g4, 0, none⟩ = some (.slice Ab below.length cb) := bc BX8 0)
          | (go_at_call 66; (with_reducible refine (growD_any below Ab cb line A5 c5 0 [] false q1 q2 false w w8 _ gb (.slice none 0 0) HF.out HNB.out HCB.out HNL.out ?s5 AQ.out).mono ?_); (case s5 => exact (Kd.R_reads' HO7.out).2.1); rintro e w9 ⟨rfl, v9, hF9⟩; have HF9 := Aside0.mk hF9; clear hF9 x4)
          | (go_at_call 59; refine (sorted_some _ _ _ _ _ _ HF9.out HP.out HQ.out).mono ?_; rintro e w10 ⟨v10, rfl, ho10, hb10⟩; have HO10 := Aside0.mk ho10; have HB10 := Aside0.mk hb10; clear ho10 hb10))
        go_ret2
        exact ⟨_, rfl, HO10.out, HB10.out⟩
def impl_DownsetsOf.f (k : Nat) (l0 : List Int) : Option (List Int × Int) := (impl_IsOrder.f k l0).bind fun t596 => (if t596 = true then ((impl_downsets.f k l0).bind fun bt597 => (some (bt597.1, bt597.2))) else (some (([] : List Int), 1)))
set_option maxHeartbeats 8000000 in
set_option maxRecDepth 100000 in
theorem impl_DownsetsOf.calls (k : Nat) (A0 : Option Addr) (c0 : Nat) (l0 : List Int) (r1 : List Int) (r2 : Int) (w : World) (hr0 : Kd.C (Kd.int .i64) w A0 l0.length l0) (hc0 : l0.length ≤ c0) (hT : TabW w) (h : impl_DownsetsOf.f k l0 = some (r1, r2)) :
  Calls Tryd.prog 22 #[.slice A0 l0.length c0] w fun e w' => ∃ v0_ : Value, e = .returned (.tuple #[v0_, .int .i64 r2]) ∧ Kd.R (Kd.int .i64) 2 w' w.heap.size (fun _ => True) v0_ r1 ∧ Below w.heap.size w w' := by
 have HT := Aside0.mk hT; clear hT; have HR0 := Aside0.mk hr0; have HC0 := Aside0.mk hc0; clear hr0 hc0; have HB := Aside0.mk (Below.refl w.heap.size w)
 have H : ((impl_IsOrder.f k l0).bind fun t596 => (if t596 = true then ((impl_downsets.f k l0).bind fun bt597 => (some (bt597.1, bt597.2))) else (some (([] : List Int), 1)))) = some (r1, r2) := h
 clear h; replace H := Option.bind_eq_some_iff.mp H; obtain ⟨t596, A20, H⟩ := H
 replace H : (if t596 = true then ((impl_downsets.f k l0).bind fun bt597 => (some (bt597.1, bt597.2))) else (some (([] : List Int), 1))) = some (r1, r2) := H
 have A2 := Aside0.mk A20; clear A20
 by_cases c3 : t596 = true
 ·subst c3
  have H1 : ((impl_downsets.f k l0).bind fun bt597 => (some (bt597.1, bt597.2))) = some (r1, r2) := by rw [if_pos rfl] at H; exact H
  clear H; have H := H1; clear H1; replace H := Option.bind_eq_some_iff.mp H
  obtain ⟨⟨t597, t598⟩, A40, H⟩ := H
  replace H : (some (t597, t598)) = some (r1, r2) := H
  have A4 := Aside0.mk A40; clear A40
  simp only [Option.some.injEq, Prod.mk.injEq] at H
  obtain ⟨rfl, rfl⟩ := H
  go_enter Tryd.func22, Tryd.ntmps22
  go_wp2_with (first | ((with_reducible refine gate_callee (f := 26) rfl ?_); refine goesL_ (some 5) rfl rfl Tryd.func26 (by kernel_rfl) rfl #[.slice A0 l0.length c0] rfl lz ?_; (with_reducible refine (impl_IsOrder.calls k _ _ l0 true _ ?side1 ?side2 ?side3 A2.out).mono ?_); (case side1 => have q_ := Aside0.mk HR0.out; exact cQ q_); (case side2 => exact HC0.out); (case side3 => exact TabW.below HT.out (beQ HB)); rintro e w5 ⟨rfl, hb⟩; refine ⟨_, rfl, ?_⟩; replace HB := Aside0.mk (below_step (beQ HB) hb); (try clear hb); (try clear hb2); (try clear hk); (try clear hi); (try clear hgw_)) | ((with_reducible refine gate_callee (f := 45) rfl ?_); refine goesL_ (some 8) rfl rfl Tryd.func45 (by kernel_rfl) rfl #[.slice A0 l0.length c0] rfl lz ?_; (with_reducible refine (impl_downsets.calls k _ _ l0 t597 t598 _ ?side1 ?side2 ?side3 A4.out).mono ?_); (case side1 => have q_ := Aside0.mk (Kd.C_below HR0.out HB.out); exact cQ q_); (case side2 => exact HC0.out); (case side3 => exact TabW.below HT.out (beQ HB)); rintro e w6 ⟨v599, rfl, ho0, hb⟩; refine ⟨_, rfl, ?_⟩; have HO600 := Aside0.mk (Kd.R_lower ho0 (below_size (beQ HB))); replace HB := Aside0.mk (below_step (beQ HB) hb); (try clear hb); (try clear hb2); (try clear hk); (try clear hi); (try clear hgw_); (try clear ho0)))
  go_ret2
  exact ⟨_, rz, kdQ HO600, beQ HB⟩
 ·replace c3 := Bool.eq_false_iff.mpr c3
  subst c3
  have H1 : (some (([] : List Int), 1)) = some (r1, r2) := by rw [if_neg (show ¬ (false = true) by decide)] at H; exact H
  clear H; have H := H1; clear H1
  simp only [Option.some.injEq, Prod.mk.injEq] at H
  obtain ⟨rfl, rfl⟩ := H
  go_enter Tryd.func22, Tryd.ntmps22
  go_wp2_with (first | ((with_reducible refine gate_callee (f := 26) rfl ?_); refine goesL_ (some 5) rfl rfl Tryd.func26 (by kernel_rfl) rfl #[.slice A0 l0.length c0] rfl lz ?_; (with_reducible refine (impl_IsOrder.calls k _ _ l0 false _ ?side1 ?side2 ?side3 A2.out).mono ?_); (case side1 => have q_ := Aside0.mk HR0.out; exact cQ q_); (case side2 => exact HC0.out); (case side3 => exact TabW.below HT.out (beQ HB)); rintro e w7 ⟨rfl, hb⟩; refine ⟨_, rfl, ?_⟩; replace HB := Aside0.mk (below_step (beQ HB) hb); (try clear hb); (try clear hb2); (try clear hk); (try clear hi); (try clear hgw_)))
  go_ret2
  exact ⟨_, rz, by first | exact Kd.R_nil _ _ _ _ _ | exact Kd.N_nil _ _ _ _ _ | exact Kd.V_nil _ _ _ _ _ | exact Kd.Q_nil _ _ _ _ _ | exact Kd.S_nil _ _ _ _ _, beQ HB⟩
end Go.Proofs.YtjckfnaohikmbaaDoor.G
