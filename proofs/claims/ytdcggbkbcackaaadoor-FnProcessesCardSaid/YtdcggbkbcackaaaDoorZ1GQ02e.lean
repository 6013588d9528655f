-- A copy, with what one law needs, of a text that print.sh or a program of ours wrote
import Derived.Test.YtdcggbkbcackaaaDoorZ1G0
import Derived.Test.YtdcggbkbcackaaaDoorZ1GQ01b
import Derived.Test.YtdcggbkbcackaaaDoorZ1GQ02d
namespace Go.Proofs.YtdcggbkbcackaaaDoor.G
open Go.RowKit Go.Proofs.YtdcggbkbcackaaaDoorW.PrintWords Go.Proofs.YtdcggbkbcackaaaDoorW.PrintLast Go.Proofs.YtdcggbkbcackaaaDoorW.PrintMore
attribute [local go_sem] max2_int min2_int max_two min_two max_three min_three max_four min_four   -- for this text's walks alone
set_option linter.unusedVariables false
set_option linter.unusedSimpArgs false
mutual
def impl_ofProcesses.l0 : Nat → List Int → Int → Int → Int → List Int → Option (Int × List Int)
 | 0, _, _, _, _, _ => none
 | k + 1, x12, x13, x14, x506000, x506001 => if x14 < x13 then (if 0 ≤ x14 then (if x14 < (x12.length : Int) then ((impl_members.f k (rd x12 x14)).bind fun t507 => (impl_ofProcesses.l1 k (rd x12 x14) x12 x13 x14 t507 (t507.length : Int) 0 x506000 x506001)) else (none)) else (none)) else (some (x506000, x506001))
def impl_ofProcesses.l1 : Nat → Int → List Int → Int → Int → List Int → Int → Int → Int → List Int → Option (Int × List Int)
 | 0, _, _, _, _, _, _, _, _, _ => none
 | k + 1, x7, x12, x13, x14, x19, x20, x21, x506000, x506001 => if x21 < x20 then (if 0 ≤ x21 then (if x21 < (x19.length : Int) then (if 0 ≤ (rd x19 x21) then (if (rd x19 x21) < (x506001.length : Int) then (impl_ofProcesses.l1 k x7 x12 x13 x14 x19 x20 (wrap64 (x21 + 1)) x506000 (x506001.set ((rd x19 x21) : Int).toNat (Go.bits .or .i64 (rd x506001 (rd x19 x21)) x7))) else (none)) else (none)) else (none)) else (none)) else (impl_ofProcesses.l0 k x12 x13 (wrap64 (x14 + 1)) x506000 x506001)
end
def impl_ofProcesses.f (k : Nat) (a0 : Int) (l1 : List Int) : Option (Int × List Int) := (impl_loose.f k a0).bind fun bt501 => (impl_ofProcesses.l0 k l1 (l1.length : Int) 0 bt501.1 bt501.2)
set_option maxHeartbeats 8000000 in
set_option maxRecDepth 100000 in
theorem impl_ofProcesses.calls (k : Nat) (a0 : Int) (A1 : Option Addr) (c1 : Nat) (l1 : List Int) (r1 : Int) (r2 : List Int) (w : World) (hr1 : Kd.C (Kd.int .i64) w A1 l1.length l1) (hc1 : l1.length ≤ c1) (hT : TabW w) (h : impl_ofProcesses.f k a0 l1 = some (r1, r2)) :
  Calls Tryd.prog 32 #[.int .i64 a0, .slice A1 l1.length c1] w fun e w' => ∃ v1_ : Value, e = .returned (.agg #[.int .i64 r1, v1_]) ∧ Kd.R (Kd.int .i64) 2 w' w.heap.size (fun _ => True) v1_ r2 ∧ Below w.heap.size w w' := by
 have hu28 := Tryd.underlying28; have HT := Aside0.mk hT; clear hT; have HR1 := Aside0.mk hr1; have HC1 := Aside0.mk hc1; clear hr1 hc1; have HB := Aside0.mk (Below.refl w.heap.size w)
 have H : ((impl_loose.f k a0).bind fun bt501 => (impl_ofProcesses.l0 k l1 (l1.length : Int) 0 bt501.1 bt501.2)) = some (r1, r2) := h
 clear h; replace H := Option.bind_eq_some_iff.mp H
 obtain ⟨⟨t501, t502⟩, A30, H⟩ := H
 replace H : (impl_ofProcesses.l0 k l1 (l1.length : Int) 0 t501 t502) = some (r1, r2) := H
 have A3 := Aside0.mk A30; clear A30
 have H' := Aside0.mk H
 clear H
 go_enter Tryd.func32, Tryd.ntmps32
 go_wp2_with (first | ((with_reducible refine gate_dst (N := 4) rfl ?_); refine box_event ?hg (N := 4) ?hd (cs := #[.int .i64 0, .slice none 0 0]) (t := 28) ?hr ?_; (case hd => rfl); (case hg => rfl); (case hr => first | (go_simp; done) | (go_simp; rfl)); intro gb500 hg w4 hbox hb; have BK500 := Aside0.mk (hbox); have GW500 := Aside0.mk ((by rw [hg]; exact (below_size (beQ HB)) : w.heap.size ≤ gb500)); have GE500 := Aside0.mk ((by rw [hg]; exact (below_size (beQ HB)) : w.heap.size ≤ gb500)); replace HB := Aside0.mk (below_step (beQ HB) hb); clear hb hbox hg) | ((with_reducible refine gate_callee (f := 52) rfl ?_); refine goesL_ (some 11) rfl rfl Tryd.func52 (by kernel_rfl) rfl #[.int .i64 a0] rfl lz ?_; (with_reducible refine (impl_loose.calls k a0 t501 t502 _ A3.out).mono ?_); rintro e w5 ⟨v503, rfl, ho0, hb⟩; refine ⟨_, rfl, ?_⟩; have HO504 := Aside0.mk (Kd.R_lower ho0 (below_size (beQ HB))); replace BK500 := bb BK500 hb; replace HB := Aside0.mk (below_step (beQ HB) hb); (try clear hb); (try clear hb2); (try clear hk); (try clear hi); (try clear hgw_); (try clear ho0)) | ((with_reducible refine gate_dst (N := 5) rfl ?_); refine box_event ?hg (N := 5) ?hd (cs := #[.int .i64 0, .slice none 0 0]) (t := 28) ?hr ?_; (case hd => rfl); (case hg => rfl); (case hr => first | (go_simp; done) | (go_simp; rfl)); intro gb505 hg w6 hbox hb; replace HO504 := kb HO504 hb; have BK505 := Aside0.mk (hbox); have GW505 := Aside0.mk ((by rw [hg]; exact (below_size (beQ HB)) : w.heap.size ≤ gb505)); have GE505 := Aside0.mk ((by rw [hg]; exact (below_size (beQ HB)) : w.heap.size ≤ gb505)); replace HB := Aside0.mk (below_step (beQ HB) hb); have NB500_505 := Aside0.mk ((by rw [hg]; exact Nat.ne_of_lt (blk_lt (blkQ BK500)) : gb500 ≠ gb505)); have NB505_500 := Aside0.mk ((by rw [hg]; exact Nat.ne_of_gt (blk_lt (blkQ BK500)) : gb505 ≠ gb500)); replace BK500 := bb BK500 hb; clear hb hbox hg; have hnb7 := NB505_500.out; have hnc7 := NB500_505.out; have hcz8_0 : w6.cell? ⟨gb505, 0, none⟩ = some (.int .i64 0) := bc BK505 0; have hcz8_1 : w6.cell? ⟨gb505, 1, none⟩ = some (.slice none 0 0) := bc BK505 1; have hfz8_0 := blk_frozen BK505.out 0; have hfz8_1 := blk_frozen BK505.out 1; obtain ⟨Ao9, co9, eo9⟩ := Kd.R_slice HO504.out; subst eo9))
 go_loopg [14] k (fun kq v14 w' => ∃ (x14_1 : Int) (x506001_1 : List Int) (u506001 : Value), v14 = .int .i64 x14_1 ∧ Aside0 (impl_ofProcesses.l0 kq l1 (l1.length : Int) x14_1 t501 x506001_1 = some (r1, r2)) ∧ Aside0 (kq ≤ k) ∧ Aside0 (Kd.R (Kd.int .i64) 2 w' w.heap.size (fun _ => True) u506001 x506001_1) ∧ Aside0 (w'.heap[gb500]? = some (.cells #[.int .i64 0, (.slice none 0 0)] 28 (0, 0))) ∧ Aside0 (w'.heap[gb505]? = some (.cells #[.int .i64 t501, u506001] 28 (0, 0))) ∧ Aside0 (Below w.heap.size w w'))
 case atStart => exact ⟨(0), (t502), (.slice Ao9 t502.length co9), sz, H', ⟨Nat.le_refl _⟩, ⟨by (with_reducible repeat (first | apply Kd.R_alloc | apply Kd.R_drewN | apply Kd.R_drew)); exact Kd.R_mono (Kd.R_far (p := ⟨gb505, 1, none⟩) (Kd.R_far (p := ⟨gb505, 0, none⟩) (Kd.R_types HO504.out BK505.out (by decide)) (fun _ hk => hk.2) (.int .i64 t501)) (fun _ hk => hk.2) (.slice Ao9 t502.length co9)) (fun _ hk => trivial)⟩, ⟨blkF BK500⟩, ⟨by (with_reducible repeat (first | refine blk_drewN ?_ _ | refine blk_drew ?_ | refine blk_alloc ?_ _)); refine blk_put (cs := #[.int .i64 t501, .slice none 0 0]) ?_ 1 _ rfl; (with_reducible repeat (first | refine blk_drewN ?_ _ | refine blk_drew ?_ | refine blk_alloc ?_ _)); refine blk_put (cs := #[.int .i64 0, .slice none 0 0]) ?_ 0 _ rfl; (with_reducible repeat (first | refine blk_drewN ?_ _ | refine blk_drew ?_ | refine blk_alloc ?_ _)); exact BK505.out⟩, ⟨beQ HB⟩⟩
 case round =>
  clear H'
  try clear c1
  try clear p2
  try clear c3
  try clear c5
  try clear c7
  try clear hcz8_0
  try clear hcz8_1
  try clear hfz8_0
  try clear hfz8_1
  obtain ⟨x14_1, x506001_1, u506001, rfl, HA, HK1, HO_506001, BK500, BK505, HB⟩ := hrel
  cases gk with
  | zero => exact absurd HA.out (by simp [impl_ofProcesses.l0])
  | succ k1 =>
   have H := HA.out; clear HA
   simp only [impl_ofProcesses.l0] at H
   by_cases c10 : x14_1 < (l1.length : Int)
   ·rw [if_pos c10] at H
    have c10b0 : decide (x14_1 < (l1.length : Int)) = true := decide_eq_true c10
    clear c10
    by_cases c11 : 0 ≤ x14_1
    ·rw [if_pos c11] at H
     have c11b0 : decide (0 ≤ x14_1) = true := decide_eq_true c11
     clear c11
     by_cases c12 : x14_1 < (l1.length : Int)
     ·rw [if_pos c12] at H
      have c12b0 : decide (x14_1 < (l1.length : Int)) = true := decide_eq_true c12
      clear c12; replace H := Option.bind_eq_some_iff.mp H; obtain ⟨t507, A130, H⟩ := H
      replace H : (impl_ofProcesses.l1 k1 (rd l1 x14_1) l1 (l1.length : Int) x14_1 t507 (t507.length : Int) 0 t501 x506001_1) = some (r1, r2) := H
      have A13 := Aside0.mk A130; clear A130
      have H' := Aside0.mk H
      clear H
      have p506 : 0 ≤ (x14_1 : Int) := of_decide_eq_true (by first | (with_reducible assumption) | assumption)
      have q506 : x14_1 < (l1.length : Int) := of_decide_eq_true (by first | (with_reducible assumption) | assumption)
      obtain ⟨ad506, e506, hx506_0⟩ := Kd.at_int HR1.out x14_1 p506 q506; cases e506; replace hx506_0 := (HB.out.cell (World.block_lt_of_cell? w _ hx506_0)).trans hx506_0; replace p506 := eq_true p506; replace q506 := eq_true q506
      go_wp2_with (first | ((with_reducible refine gate_callee (f := 53) rfl ?_); refine goesL_ (some 19) rfl rfl Tryd.func53 (by kernel_rfl) rfl #[.int .i64 (rd l1 x14_1)] rfl lz ?_; (with_reducible refine (impl_members.calls k1 (rd l1 x14_1) t507 _ ?side1 A13.out).mono ?_); (case side1 => exact TabW.below HT.out (beQ HB)); rintro e w14 ⟨v508, rfl, ho0, hb⟩; refine ⟨_, rfl, ?_⟩; have HO509 := Aside0.mk (Kd.R_lower (Kd.R_new' ho0 (Kd.R_lt (kdQ HO_506001))) (below_size (beQ HB))); replace HO_506001 := Aside0.mk (Kd.R_elder' (kdQ HO_506001) (Kd.R_base ho0) hb); replace BK500 := bb BK500 hb; replace BK505 := bb BK505 hb; replace HB := Aside0.mk (below_step (beQ HB) hb); (try clear hb); (try clear hb2); (try clear hk); (try clear hi); (try clear hgw_); (try clear ho0); obtain ⟨Ao15, co15, eo15⟩ := Kd.R_slice HO509.out; subst eo15))
      go_loopg [21] k1 (fun kq v21 w' => ∃ (x19_2 : List Int) (x21_2 : Int) (x506001_2 : List Int) (u506001 : Value), v21 = .int .i64 x21_2 ∧ Aside0 (impl_ofProcesses.l1 kq (rd l1 x14_1) l1 (l1.length : Int) x14_1 x19_2 (t507.length : Int) x21_2 t501 x506001_2 = some (r1, r2)) ∧ Aside0 (kq ≤ k1) ∧ Aside0 (Kd.R (Kd.int .i64) 2 w' w.heap.size (fun k_ => some k_ ≠ (u506001 : Value).ownBlock) (.slice Ao15 t507.length co15) x19_2) ∧ Aside0 (Kd.R (Kd.int .i64) 2 w' w.heap.size (fun k_ => some k_ ≠ ((.slice Ao15 t507.length co15) : Value).ownBlock) u506001 x506001_2) ∧ Aside0 (w'.heap[gb500]? = some (.cells #[.int .i64 0, (.slice none 0 0)] 28 (0, 0))) ∧ Aside0 (w'.heap[gb505]? = some (.cells #[.int .i64 t501, u506001] 28 (0, 0))) ∧ Aside0 (Below w.heap.size w w'))
      case atStart => exact ⟨(t507), (0), (x506001_1), (u506001), sz, H', ⟨Nat.le_refl _⟩, ⟨by (with_reducible repeat (first | apply Kd.R_alloc | apply Kd.R_drewN | apply Kd.R_drew)); exact Kd.R_mono HO509.out (fun _ hk => hk.2)⟩, ⟨by (with_reducible repeat (first | apply Kd.R_alloc | apply Kd.R_drewN | apply Kd.R_drew)); exact Kd.R_mono HO_506001.out (fun _ hk => hk.2)⟩, ⟨blkQ BK500⟩, ⟨blkQ BK505⟩, ⟨beQ HB⟩⟩
      case round =>
       clear H'
       try clear c1
       try clear p2
       try clear c3
       try clear c5
       try clear p5
       try clear q5
       try clear hx5
       try clear c7
       try clear c10
       try clear c10b0
       try clear c11
       try clear c11b0
       try clear c12
       try clear c12b0
       try clear hcz8_0
       try clear hcz8_1
       try clear hfz8_0
       try clear hfz8_1
       try clear hx506_0
       try clear p2
       try clear p506
       try clear q506
       obtain ⟨x19_2, x21_2, x506001_2, u506001, rfl, HA, HK2, HO_19, HO_506001, BK500, BK505, HB⟩ := hrel; have hl19_2 := (Kd.R_reads' HO_19.out).1; rw [hl19_2] at HO_19
       (try simp only [hl19_2])
       (try simp only [hl19_2] at BK500)
       (try simp only [hl19_2] at BK505)
       (try simp only [hl19_2] at HO_506001)
       cases gk with
       | zero => exact absurd HA.out (by simp [impl_ofProcesses.l1])
       | succ k2 =>
        have H := HA.out; clear HA
        simp only [impl_ofProcesses.l1] at H
        by_cases c16 : x21_2 < (t507.length : Int)
        ·rw [if_pos c16] at H
         have c16b0 : decide (x21_2 < (t507.length : Int)) = true := decide_eq_true c16
         (try simp only [hl19_2] at c16b0)
         clear c16
         by_cases c17 : 0 ≤ x21_2
         ·rw [if_pos c17] at H
          have c17b0 : decide (0 ≤ x21_2) = true := decide_eq_true c17
          clear c17
          by_cases c18 : x21_2 < (x19_2.length : Int)
          ·rw [if_pos c18] at H
           have c18b0 : decide (x21_2 < (x19_2.length : Int)) = true := decide_eq_true c18
           (try simp only [hl19_2] at c18b0)
           clear c18
           by_cases c19 : 0 ≤ (rd x19_2 x21_2)
           ·rw [if_pos c19] at H
            have c19b0 : decide (0 ≤ (rd x19_2 x21_2)) = true := decide_eq_true c19
            clear c19
            by_cases c20 : (rd x19_2 x21_2) < (x506001_2.length : Int)
            ·rw [if_pos c20] at H
             have c20b0 : decide ((rd x19_2 x21_2) < (x506001_2.length : Int)) = true := decide_eq_true c20
             (try simp only [hl19_2] at c20b0)
             clear c20
             obtain ⟨y512, hy512⟩ : ∃ y_ : List Int, y_ = (x506001_2.set ((rd x19_2 x21_2) : Int).toNat (Go.bits .or .i64 (rd x506001_2 (rd x19_2 x21_2)) (rd l1 x14_1))) := ⟨_, rfl⟩
             replace H : (impl_ofProcesses.l1 k2 (rd l1 x14_1) l1 (l1.length : Int) x14_1 x19_2 (t507.length : Int) (wrap64 (x21_2 + 1)) t501 y512) = some (r1, r2) := by first | (rw [hy512]; with_reducible exact H) | (have H2_ := (Option.bind_some _ _).symm.trans H; rw [hy512]; with_reducible exact H2_) | (have H2_ := (Option.bind_some _ _).symm.trans H; with_reducible exact H2_) | with_reducible exact H | (rw [hy512]; exact H) | exact H
             have Ny512 := Aside0.mk hy512; clear hy512
             have H' := Aside0.mk H
             clear H
             have p510 : 0 ≤ (x21_2 : Int) := of_decide_eq_true (by first | (with_reducible assumption) | assumption)
             have q510 : x21_2 < (x19_2.length : Int) := of_decide_eq_true (by first | (with_reducible assumption) | assumption)
             obtain ⟨ad510, e510, hx510_0⟩ := Kd.at_int (Kd.R_reads' HO_19.out).2.2 x21_2 p510 q510; cases e510; replace p510 := eq_true p510; replace q510 := eq_true q510; have hnb22 := NB505_500.out; have hnc22 := NB500_505.out
             have hcz23_0 : wr.cell? ⟨gb505, 0, none⟩ = some (.int .i64 t501) := bc BK505 0
             have hcz23_1 : wr.cell? ⟨gb505, 1, none⟩ = some (u506001) := bc BK505 1
             have hfz23_0 := blk_frozen BK505.out 0; have hfz23_1 := blk_frozen BK505.out 1; obtain ⟨Ao24, co24, eo24⟩ := Kd.R_slice HO_506001.out; subst eo24
             have p511 : 0 ≤ ((rd x19_2 x21_2) : Int) := of_decide_eq_true (by first | (with_reducible assumption) | assumption)
             have q511 : (rd x19_2 x21_2) < (x506001_2.length : Int) := of_decide_eq_true (by first | (with_reducible assumption) | assumption)
             obtain ⟨ad511, e511, hx511_0⟩ := Kd.at_int (Kd.R_reads' HO_506001.out).2.2 (rd x19_2 x21_2) p511 q511; cases e511; replace p511 := eq_true p511; replace q511 := eq_true q511
             have p21 : 0 ≤ ((rd x19_2 x21_2) : Int) := of_decide_eq_true (by first | (with_reducible assumption) | assumption)
             have q21 : ((rd x19_2 x21_2) : Int) < ((x506001_2.length : Int) : Int) := of_decide_eq_true (by first | (with_reducible assumption) | assumption)
             obtain ⟨go21, co21, eo21, gb21, gl21, cl21, HG21⟩ := Kd.R_form HO_506001.out (by omega)
             (first | cases eo21 | (injection eo21 with ea_ en_ ec_; (first | subst ea_ | (injection ea_ with ea_; subst ea_)); subst ec_; clear en_))
             have GB21 := Aside0.mk gb21; have GG21 := Aside0.mk HG21; clear gb21 gl21 HG21
             (first | simp only [add_plain] at hx511_0 | skip)
             obtain ⟨hx21_0, hf21_0⟩ := Kd.R_celln 0 HO_506001.out ((rd x19_2 x21_2) : Int) p21 q21; replace p21 := eq_true p21; replace q21 := eq_true q21; have HP25 := Kd.R_putg HO_506001.out ((rd x19_2 x21_2) : Int) (Go.bits .or .i64 (rd x506001_2 (rd x19_2 x21_2)) (rd l1 x14_1))
             go_wp2_with (first | ((with_reducible refine gate_store (t := 2) (p := 32) rfl ?_); refine store_event (t := 2) (p := 32) (v := ?vo_w26) (w1 := (wr.setCell ⟨go21, ((rd x19_2 x21_2) : Int).toNat, none⟩ (.int .i64 (Go.bits .or .i64 (rd x506001_2 (rd x19_2 x21_2)) (rd l1 x14_1))))) ?hg ?ho ?hn ?hr ?_; (case ho => rfl); (case hg => rfl); (case hn => rfl); (case hr => first | (go_simp; done) | (go_simp; rfl)); intro w26 hw; have hg : wr.grownBy w26 (some go21) := (by rw [hw]; exact HP25.2); have hp_ : Kd.R (Kd.int .i64) 2 w26 w.heap.size (fun k_ => some k_ ≠ (.slice (some ad510) x19_2.length co15 : Value).ownBlock) (.slice (some ⟨go21, 0, none⟩) x506001_2.length co24) y512 := (by rw [hw, Ny512.out]; exact HP25.1); clear HP25; replace HO_19 := Aside0.mk (Kd.R_after (v := (.slice (some ⟨go21, 0, none⟩) x506001_2.length co24)) (v1 := (.slice (some ⟨go21, 0, none⟩) x506001_2.length co24)) (ok := (fun _ => True)) (by (with_reducible repeat (first | apply Kd.R_alloc | apply Kd.R_drewN | apply Kd.R_drew)); exact Kd.R_mono HO_19.out (fun _ hk => ⟨trivial, hk⟩)) hg (.inl rfl)); replace BK500 := Aside0.mk (blk_grown (g := gb500) (o := .cells #[.int .i64 0, .slice none 0 0] 28 (0, 0)) (blkQ BK500) hg (Kd.R_ne HO_506001.out BK500.out (by decide))); replace BK505 := Aside0.mk (blk_grown (g := gb505) (o := .cells #[.int .i64 t501, .slice (some ⟨go21, 0, none⟩) x506001_2.length co24] 28 (0, 0)) (blkQ BK505) hg (Kd.R_ne HO_506001.out BK505.out (by decide))); replace HO_506001 := Aside0.mk (hp_); replace HB := Aside0.mk ((by rw [hw]; exact below_set (HB.out) GB21.out : Below w.heap.size w w26)); clear hg hw hp_))
             (try simp only [← hl19_2])
             go_roundg k2
             case measure => have := HK1.out; have := HK2.out; omega
             case rel => exact ⟨(x19_2), (wrap64 (x21_2 + 1)), (y512), (.slice (some ⟨go21, 0, none⟩) x506001_2.length co24), sz, H', ⟨by have := HK1.out; have := HK2.out; omega⟩, ⟨by (try simp only [hl19_2]); (with_reducible repeat (first | apply Kd.R_alloc | apply Kd.R_drewN | apply Kd.R_drew)); exact Kd.R_mono HO_19.out (fun _ hk => hk.2)⟩, ⟨by (try simp only [hl19_2]); (with_reducible repeat (first | apply Kd.R_alloc | apply Kd.R_drewN | apply Kd.R_drew)); exact HO_506001.out⟩, ⟨by (try simp only [hl19_2]); (with_reducible repeat (first | refine blk_drewN ?_ _ | refine blk_drew ?_ | refine blk_alloc ?_ _)); exact BK500.out⟩, ⟨by (try simp only [hl19_2]); (with_reducible repeat (first | refine blk_drewN ?_ _ | refine blk_drew ?_ | refine blk_alloc ?_ _)); exact BK505.out⟩, ⟨beQ HB⟩⟩
            ·rw [if_neg c20] at H
             exact absurd H (by simp)
           ·rw [if_neg c19] at H
            exact absurd H (by simp)
          ·rw [if_neg c18] at H
           exact absurd H (by simp)
         ·rw [if_neg c17] at H
          exact absurd H (by simp)
        ·rw [if_neg c16] at H
         have c16b0 : decide (x21_2 < (t507.length : Int)) = false := decide_eq_false c16
         (try simp only [hl19_2] at c16b0)
         clear c16
         have H' := Aside0.mk H
         clear H
         go_wp2
         (try simp only [← hl19_2])
         go_roundg k2
         case measure => have := HK1.out; have := HK2.out; omega
         case rel => exact ⟨(wrap64 (x14_1 + 1)), (x506001_2), (u506001), sz, H', ⟨by have := HK1.out; have := HK2.out; omega⟩, ⟨by (try simp only [hl19_2]); (with_reducible repeat (first | apply Kd.R_alloc | apply Kd.R_drewN | apply Kd.R_drew)); exact Kd.R_mono HO_506001.out (fun _ hk => trivial)⟩, ⟨by (try simp only [hl19_2]); (with_reducible repeat (first | refine blk_drewN ?_ _ | refine blk_drew ?_ | refine blk_alloc ?_ _)); exact BK500.out⟩, ⟨by (try simp only [hl19_2]); (with_reducible repeat (first | refine blk_drewN ?_ _ | refine blk_drew ?_ | refine blk_alloc ?_ _)); exact BK505.out⟩, ⟨beQ HB⟩⟩
     ·rw [if_neg c12] at H
      exact absurd H (by simp)
    ·rw [if_neg c11] at H
     exact absurd H (by simp)
   ·rw [if_neg c10] at H
    have c10b0 : decide (x14_1 < (l1.length : Int)) = false := decide_eq_false c10
    clear c10
    simp only [Option.some.injEq, Prod.mk.injEq] at H
    obtain ⟨rfl, rfl⟩ := H; have hnb27 := NB505_500.out; have hnc27 := NB500_505.out
    have hcz28_0 : wr.cell? ⟨gb505, 0, none⟩ = some (.int .i64 t501) := bc BK505 0
    have hcz28_1 : wr.cell? ⟨gb505, 1, none⟩ = some (u506001) := bc BK505 1
    have hfz28_0 := blk_frozen BK505.out 0; have hfz28_1 := blk_frozen BK505.out 1
    have hcz29_0 : wr.cell? ⟨gb500, 0, none⟩ = some (.int .i64 0) := bc BK500 0
    have hcz29_1 : wr.cell? ⟨gb500, 1, none⟩ = some (.slice none 0 0) := bc BK500 1
    have hfz29_0 := blk_frozen BK500.out 0; have hfz29_1 := blk_frozen BK500.out 1; obtain ⟨Ao30, co30, eo30⟩ := Kd.R_slice HO_506001.out; subst eo30
    go_wp2
    refine bodyPost_ret (results_cell_row rfl _ _ gb500 28 #[.int .i64 t501, .slice Ao30 x506001_1.length co30] (0, 0) _ rfl (by (with_reducible repeat (first | refine blk_drewN ?_ _ | refine blk_drew ?_ | refine blk_alloc ?_ _)); refine blk_put (cs := #[.int .i64 t501, .slice none 0 0]) ?_ 1 _ rfl; (with_reducible repeat (first | refine blk_drewN ?_ _ | refine blk_drew ?_ | refine blk_alloc ?_ _)); refine blk_put (cs := #[.int .i64 0, .slice none 0 0]) ?_ 0 _ rfl; (with_reducible repeat (first | refine blk_drewN ?_ _ | refine blk_drew ?_ | refine blk_alloc ?_ _)); exact BK500.out) Tryd.underlying28 rfl (by kernel_rfl)) rfl ?_
    exact ⟨_, rz, by (with_reducible repeat (first | apply Kd.R_alloc | apply Kd.R_drewN | apply Kd.R_drew)); exact Kd.R_mono (Kd.R_far (p := ⟨gb500, 1, none⟩) (Kd.R_far (p := ⟨gb500, 0, none⟩) (Kd.R_types HO_506001.out BK500.out (by decide)) (fun _ hk => hk.2) (.int .i64 t501)) (fun _ hk => hk.2) (.slice Ao30 x506001_1.length co30)) (fun _ hk => trivial), beQ HB⟩
def impl_AlphabetOfProcesses.f (k : Nat) (a0 : Int) (l1 : List Int) : Option (Int × List Int × Int) := (impl_checkProcesses.f k a0 l1).bind fun t514 => (if t514 = 0 then ((impl_ofProcesses.f k a0 l1).bind fun bt515 => (some (bt515.1, bt515.2, 0))) else (some (0, ([] : List Int), t514)))
set_option maxHeartbeats 8000000 in
set_option maxRecDepth 100000 in
theorem impl_AlphabetOfProcesses.calls (k : Nat) (a0 : Int) (A1 : Option Addr) (c1 : Nat) (l1 : List Int) (r1 : Int) (r2 : List Int) (r3 : Int) (w : World) (hr1 : Kd.C (Kd.int .i64) w A1 l1.length l1) (hc1 : l1.length ≤ c1) (hT : TabW w) (h : impl_AlphabetOfProcesses.f k a0 l1 = some (r1, r2, r3)) :
  Calls Tryd.prog 17 #[.int .i64 a0, .slice A1 l1.length c1] w fun e w' => ∃ v1_ : Value, e = .returned (.tuple #[.agg #[.int .i64 r1, v1_], .int .i64 r3]) ∧ Kd.R (Kd.int .i64) 2 w' w.heap.size (fun _ => True) v1_ r2 ∧ Below w.heap.size w w' := by
 have hu28 := Tryd.underlying28; have HT := Aside0.mk hT; clear hT; have HR1 := Aside0.mk hr1; have HC1 := Aside0.mk hc1; clear hr1 hc1; have HB := Aside0.mk (Below.refl w.heap.size w)
 have H : ((impl_checkProcesses.f k a0 l1).bind fun t514 => (if t514 = 0 then ((impl_ofProcesses.f k a0 l1).bind fun bt515 => (some (bt515.1, bt515.2, 0))) else (some (0, ([] : List Int), t514)))) = some (r1, r2, r3) := h
 clear h; replace H := Option.bind_eq_some_iff.mp H; obtain ⟨t514, A30, H⟩ := H
 replace H : (if t514 = 0 then ((impl_ofProcesses.f k a0 l1).bind fun bt515 => (some (bt515.1, bt515.2, 0))) else (some (0, ([] : List Int), t514))) = some (r1, r2, r3) := H
 have A3 := Aside0.mk A30; clear A30
 by_cases c4 : t514 = 0
 ·rw [if_pos c4] at H
  have c4b0 : (t514 == 0) = true := beq_iff_eq.mpr c4
  have c4b1 : (t514 != 0) = false := bne_eq_false_iff_eq.mpr c4
  clear c4; replace H := Option.bind_eq_some_iff.mp H
  obtain ⟨⟨t515, t516⟩, A50, H⟩ := H
  replace H : (some (t515, t516, 0)) = some (r1, r2, r3) := H
  have A5 := Aside0.mk A50; clear A50
  simp only [Option.some.injEq, Prod.mk.injEq] at H
  obtain ⟨rfl, rfl, rfl⟩ := H
  go_enter Tryd.func17, Tryd.ntmps17
  go_wp2_with (first | ((with_reducible refine gate_dst (N := 4) rfl ?_); refine box_event ?hg (N := 4) ?hd (cs := #[.int .i64 0, .slice none 0 0]) (t := 28) ?hr ?_; (case hd => rfl); (case hg => rfl); (case hr => first | (go_simp; done) | (go_simp; rfl)); intro gb513 hg w6 hbox hb; have BK513 := Aside0.mk (hbox); have GW513 := Aside0.mk ((by rw [hg]; exact (below_size (beQ HB)) : w.heap.size ≤ gb513)); have GE513 := Aside0.mk ((by rw [hg]; exact (below_size (beQ HB)) : w.heap.size ≤ gb513)); replace HB := Aside0.mk (below_step (beQ HB) hb); clear hb hbox hg) | ((with_reducible refine gate_callee (f := 31) rfl ?_); refine goesL_ (some 9) rfl rfl Tryd.func31 (by kernel_rfl) rfl #[.int .i64 a0, .slice A1 l1.length c1] rfl lz ?_; (with_reducible refine (impl_checkProcesses.calls k a0 _ _ l1 t514 _ ?side1 ?side2 A3.out).mono ?_); (case side1 => have q_ := Aside0.mk (Kd.C_below HR1.out HB.out); exact cQ q_); (case side2 => exact HC1.out); rintro e w7 ⟨rfl, hb⟩; refine ⟨_, rfl, ?_⟩; replace BK513 := bb BK513 hb; replace HB := Aside0.mk (below_step (beQ HB) hb); (try clear hb); (try clear hb2); (try clear hk); (try clear hi); (try clear hgw_)) | ((with_reducible refine gate_callee (f := 32) rfl ?_); refine goesL_ (some 16) rfl rfl Tryd.func32 (by kernel_rfl) rfl #[.int .i64 a0, .slice A1 l1.length c1] rfl lz ?_; (with_reducible refine (impl_ofProcesses.calls k a0 _ _ l1 t515 t516 _ ?side1 ?side2 ?side3 A5.out).mono ?_); (case side1 => have q_ := Aside0.mk (Kd.C_below HR1.out HB.out); exact cQ q_); (case side2 => exact HC1.out); (case side3 => exact TabW.below HT.out (beQ HB)); rintro e w8 ⟨v517, rfl, ho0, hb⟩; refine ⟨_, rfl, ?_⟩; have HO518 := Aside0.mk (Kd.R_lower ho0 (below_size (beQ HB))); replace BK513 := bb BK513 hb; replace HB := Aside0.mk (below_step (beQ HB) hb); (try clear hb); (try clear hb2); (try clear hk); (try clear hi); (try clear hgw_); (try clear ho0); have hcz9_0 : w8.cell? ⟨gb513, 0, none⟩ = some (.int .i64 0) := bc BK513 0; have hcz9_1 : w8.cell? ⟨gb513, 1, none⟩ = some (.slice none 0 0) := bc BK513 1; have hfz9_0 := blk_frozen BK513.out 0; have hfz9_1 := blk_frozen BK513.out 1; obtain ⟨Ao10, co10, eo10⟩ := Kd.R_slice HO518.out; subst eo10))
  refine bodyPost_ret (results_ct rfl _ _ gb513 28 #[.int .i64 t515, .slice Ao10 t516.length co10] (0, 0) _ rfl (by (with_reducible repeat (first | refine blk_drewN ?_ _ | refine blk_drew ?_ | refine blk_alloc ?_ _)); refine blk_put (cs := #[.int .i64 t515, .slice none 0 0]) ?_ 1 _ rfl; (with_reducible repeat (first | refine blk_drewN ?_ _ | refine blk_drew ?_ | refine blk_alloc ?_ _)); refine blk_put (cs := #[.int .i64 0, .slice none 0 0]) ?_ 0 _ rfl; (with_reducible repeat (first | refine blk_drewN ?_ _ | refine blk_drew ?_ | refine blk_alloc ?_ _)); exact BK513.out) Tryd.underlying28 rfl (by kernel_rfl)) rfl ?_
  exact ⟨_, rz, by (with_reducible repeat (first | apply Kd.R_alloc | apply Kd.R_drewN | apply Kd.R_drew)); exact Kd.R_mono (Kd.R_far (p := ⟨gb513, 1, none⟩) (Kd.R_far (p := ⟨gb513, 0, none⟩) (Kd.R_types HO518.out BK513.out (by decide)) (fun _ hk => hk.2) (.int .i64 t515)) (fun _ hk => hk.2) (.slice Ao10 t516.length co10)) (fun _ hk => trivial), beQ HB⟩
 ·rw [if_neg c4] at H
  have c4b0 : (t514 == 0) = false := beq_eq_false_iff_ne.mpr c4
  have c4b1 : (t514 != 0) = true := bne_iff_ne.mpr c4
  simp only [Option.some.injEq, Prod.mk.injEq] at H
  obtain ⟨rfl, rfl, rfl⟩ := H
  go_enter Tryd.func17, Tryd.ntmps17
  go_wp2_with (first | ((with_reducible refine gate_dst (N := 4) rfl ?_); refine box_event ?hg (N := 4) ?hd (cs := #[.int .i64 0, .slice none 0 0]) (t := 28) ?hr ?_; (case hd => rfl); (case hg => rfl); (case hr => first | (go_simp; done) | (go_simp; rfl)); intro gb513 hg w11 hbox hb; have BK513 := Aside0.mk (hbox); have GW513 := Aside0.mk ((by rw [hg]; exact (below_size (beQ HB)) : w.heap.size ≤ gb513)); have GE513 := Aside0.mk ((by rw [hg]; exact (below_size (beQ HB)) : w.heap.size ≤ gb513)); replace HB := Aside0.mk (below_step (beQ HB) hb); clear hb hbox hg) | ((with_reducible refine gate_callee (f := 31) rfl ?_); refine goesL_ (some 9) rfl rfl Tryd.func31 (by kernel_rfl) rfl #[.int .i64 a0, .slice A1 l1.length c1] rfl lz ?_; (with_reducible refine (impl_checkProcesses.calls k a0 _ _ l1 t514 _ ?side1 ?side2 A3.out).mono ?_); (case side1 => have q_ := Aside0.mk (Kd.C_below HR1.out HB.out); exact cQ q_); (case side2 => exact HC1.out); rintro e w12 ⟨rfl, hb⟩; refine ⟨_, rfl, ?_⟩; replace BK513 := bb BK513 hb; replace HB := Aside0.mk (below_step (beQ HB) hb); (try clear hb); (try clear hb2); (try clear hk); (try clear hi); (try clear hgw_); have hcz13_0 : w12.cell? ⟨gb513, 0, none⟩ = some (.int .i64 0) := bc BK513 0; have hcz13_1 : w12.cell? ⟨gb513, 1, none⟩ = some (.slice none 0 0) := bc BK513 1; have hfz13_0 := blk_frozen BK513.out 0; have hfz13_1 := blk_frozen BK513.out 1))
  refine bodyPost_ret (results_ct rfl _ _ gb513 28 #[.int .i64 0, .slice none 0 0] (0, 0) _ rfl (by (with_reducible repeat (first | refine blk_drewN ?_ _ | refine blk_drew ?_ | refine blk_alloc ?_ _)); refine blk_put (cs := #[.int .i64 0, .slice none 0 0]) ?_ 1 _ rfl; (with_reducible repeat (first | refine blk_drewN ?_ _ | refine blk_drew ?_ | refine blk_alloc ?_ _)); refine blk_put (cs := #[.int .i64 0, .slice none 0 0]) ?_ 0 _ rfl; (with_reducible repeat (first | refine blk_drewN ?_ _ | refine blk_drew ?_ | refine blk_alloc ?_ _)); exact BK513.out) Tryd.underlying28 rfl (by kernel_rfl)) rfl ?_
  exact ⟨_, rz, by first | exact Kd.R_nil _ _ _ _ _ | exact Kd.N_nil _ _ _ _ _ | exact Kd.V_nil _ _ _ _ _ | exact Kd.Q_nil _ _ _ _ _ | exact Kd.S_nil _ _ _ _ _, beQ HB⟩
mutual
def impl_domainsOf.l0 : Nat → List Int → List Int → Int → Int → Option (List Int)
 | 0, _, _, _, _ => none
 | k + 1, x5, x12, x13, x14 => if x14 < x13 then (if 0 ≤ x14 then (if x14 < (x12.length : Int) then ((impl_members.f k (rd x12 x14)).bind fun t523 => (impl_domainsOf.l1 k x5 x14 x12 x13 x14 t523 (t523.length : Int) 0)) else (none)) else (none)) else (some x5)
def impl_domainsOf.l1 : Nat → List Int → Int → List Int → Int → Int → List Int → Int → Int → Option (List Int)
 | 0, _, _, _, _, _, _, _, _ => none
 | k + 1, x5, x6, x12, x13, x14, x20, x21, x22 => if x22 < x21 then (if 0 ≤ x22 then (if x22 < (x20.length : Int) then (if 0 ≤ (rd x20 x22) then (if (rd x20 x22) < (x5.length : Int) then ((impl_one.f x6).bind fun t528 => (impl_domainsOf.l1 k (x5.set ((rd x20 x22) : Int).toNat (Go.bits .or .i64 (rd x5 (rd x20 x22)) t528)) x6 x12 x13 x14 x20 x21 (wrap64 (x22 + 1)))) else (none)) else (none)) else (none)) else (none)) else (impl_domainsOf.l0 k x5 x12 x13 (wrap64 (x14 + 1)))
end
def impl_domainsOf.f (k : Nat) (a0 : Int) (l1 : List Int) : Option (List Int) := if 0 ≤ a0 then (if (a0 : Int).toNat ≤ 35184372088832 then (impl_domainsOf.l0 k (List.replicate (a0 : Int).toNat 0) l1 (l1.length : Int) 0) else (none)) else (none)
def impl_domainsOf.T8 : Bool × List (List Nat × List Nat) := (true, [([], []), ([], []), ([0, 1], [0, 1]), ([2], [2]), ([], []), ([4], [4]), ([3, 5], [3, 5]), ([0, 1, 0, 1, 2, 3, 4, 5, 6], [0, 1]), ([7, 6, 5, 0, 1, 2, 3, 4, 5, 6], [6, 7])])
def impl_domainsOf.B8 : List Nat := [0, 0, 3, 7, 0, 16, 63, 127, 255]
theorem impl_domainsOf.tab8 : rtab .any (opsOf Tryd.f33 8) = impl_domainsOf.T8 := by kernel_rfl
theorem impl_domainsOf.bits8 : waitsOk impl_domainsOf.T8.2 impl_domainsOf.B8 = true := by kernel_rfl
set_option maxHeartbeats 8000000 in
set_option maxRecDepth 100000 in
theorem impl_domainsOf.calls (k : Nat) (a0 : Int) (A1 : Option Addr) (c1 : Nat) (l1 : List Int) (r : List Int) (w : World) (hr1 : Kd.C (Kd.int .i64) w A1 l1.length l1) (hc1 : l1.length ≤ c1) (hT : TabW w) (h : impl_domainsOf.f k a0 l1 = some r) :
  Calls Tryd.prog 33 #[.int .i64 a0, .slice A1 l1.length c1] w fun e w' => ∃ v0_ : Value, e = .returned (v0_) ∧ Kd.R (Kd.int .i64) 2 w' w.heap.size (fun _ => True) v0_ r ∧ Below w.heap.size w w' := by
 have HT := Aside0.mk hT; clear hT; have HR1 := Aside0.mk hr1; have HC1 := Aside0.mk hc1; clear hr1 hc1; have HB := Aside0.mk (Below.refl w.heap.size w)
 have H : (if 0 ≤ a0 then (if (a0 : Int).toNat ≤ 35184372088832 then (impl_domainsOf.l0 k (List.replicate (a0 : Int).toNat 0) l1 (l1.length : Int) 0) else (none)) else (none)) = some r := h
 clear h
 by_cases c3 : 0 ≤ a0
 ·rw [if_pos c3] at H
  have c3b0 := eq_true c3
  have c3b1 : decide (0 ≤ a0) = true := decide_eq_true c3
  clear c3
  by_cases c4 : (a0 : Int).toNat ≤ 35184372088832
  ·rw [if_pos c4] at H
   have c4b0 := eq_true c4
   have c4b1 : decide ((a0 : Int).toNat ≤ 35184372088832) = true := decide_eq_true c4
   clear c4
   obtain ⟨y519, hy519⟩ : ∃ y_ : List Int, y_ = (List.replicate (a0 : Int).toNat 0) := ⟨_, rfl⟩
   replace H : (impl_domainsOf.l0 k y519 l1 (l1.length : Int) 0) = some r := by first | (rw [hy519]; with_reducible exact H) | (have H2_ := (Option.bind_some _ _).symm.trans H; rw [hy519]; with_reducible exact H2_) | (have H2_ := (Option.bind_some _ _).symm.trans H; with_reducible exact H2_) | with_reducible exact H | (rw [hy519]; exact H) | exact H
   have Ny519 := Aside0.mk hy519; clear hy519
   have H' := Aside0.mk H
   clear H
   go_enter Tryd.func33, Tryd.ntmps33
   go_wp2_with (first | ((with_reducible refine gate_dst (N := 11) rfl ?_); refine Kd.R_make (Kd.int .i64) _ 2 rfl (N := 11) rfl 22 _ _ rfl a0 rfl rfl Tryd.underlying22 (.int .i64 0) 8 info2 rfl (by decide) (by omega) 0 (ok := fun _ => True) (okp := fun _ => True) rfl (fun _ hk => hk) trivial (of_decide_eq_true (by first | (with_reducible assumption) | assumption)) (Nat.le_trans (Nat.mul_le_mul_right _ (of_decide_eq_true (by first | (with_reducible assumption) | assumption) : a0.toNat ≤ 35184372088832)) (by omega)) (Below.refl _ _) (Nat.le_refl _) ?_; intro v520 w5 ho6 hb hg_ hnew_; clear hg_ hnew_; (first | rw [← Ny519.out] at ho6 | (simp only [Int.reduceToNat] at ho6; rw [← Ny519.out] at ho6)); have HO521 := Aside0.mk (Kd.R_lower ho6 (below_size (beQ HB))); replace HB := Aside0.mk (below_step (beQ HB) hb); clear hb ho6))
   go_loopg [14] k (fun kq v14 w' => ∃ (x5_1 : List Int) (x14_1 : Int), v14 = .int .i64 x14_1 ∧ Aside0 (impl_domainsOf.l0 kq x5_1 l1 (l1.length : Int) x14_1 = some r) ∧ Aside0 (kq ≤ k) ∧ Aside0 (Kd.R (Kd.int .i64) 2 w' w.heap.size (fun _ => True) v520 x5_1) ∧ Aside0 (Below w.heap.size w w'))
   case atStart => exact ⟨(y519), (0), sz, H', ⟨Nat.le_refl _⟩, ⟨kdQ HO521⟩, ⟨beQ HB⟩⟩
   case round =>
    clear H'
    try clear c1
    try clear p2
    try clear c3
    try clear c3b0
    try clear c3b1
    try clear c4
    try clear c4b0
    try clear c4b1
    obtain ⟨x5_1, x14_1, rfl, HA, HK1, HO_5, HB⟩ := hrel
    cases gk with
    | zero => exact absurd HA.out (by simp [impl_domainsOf.l0])
    | succ k1 =>
     have H := HA.out; clear HA
     simp only [impl_domainsOf.l0] at H
     by_cases c7 : x14_1 < (l1.length : Int)
     ·rw [if_pos c7] at H
      have c7b0 : decide (x14_1 < (l1.length : Int)) = true := decide_eq_true c7
      clear c7
      by_cases c8 : 0 ≤ x14_1
      ·rw [if_pos c8] at H
       have c8b0 : decide (0 ≤ x14_1) = true := decide_eq_true c8
       clear c8
       by_cases c9 : x14_1 < (l1.length : Int)
       ·rw [if_pos c9] at H
        have c9b0 : decide (x14_1 < (l1.length : Int)) = true := decide_eq_true c9
        clear c9; replace H := Option.bind_eq_some_iff.mp H; obtain ⟨t523, A100, H⟩ := H
        replace H : (impl_domainsOf.l1 k1 x5_1 x14_1 l1 (l1.length : Int) x14_1 t523 (t523.length : Int) 0) = some r := H
        have A10 := Aside0.mk A100; clear A100
        have H' := Aside0.mk H
        clear H
        have p522 : 0 ≤ (x14_1 : Int) := of_decide_eq_true (by first | (with_reducible assumption) | assumption)
        have q522 : x14_1 < (l1.length : Int) := of_decide_eq_true (by first | (with_reducible assumption) | assumption)
        obtain ⟨ad522, e522, hx522_0⟩ := Kd.at_int HR1.out x14_1 p522 q522; cases e522; replace hx522_0 := (HB.out.cell (World.block_lt_of_cell? w _ hx522_0)).trans hx522_0; replace p522 := eq_true p522; replace q522 := eq_true q522
        go_wp2_with (first | ((with_reducible refine gate_callee (f := 53) rfl ?_); refine goesL_ (some 20) rfl rfl Tryd.func53 (by kernel_rfl) rfl #[.int .i64 (rd l1 x14_1)] rfl lz ?_; (with_reducible refine (impl_members.calls k1 (rd l1 x14_1) t523 _ ?side1 A10.out).mono ?_); (case side1 => exact TabW.below HT.out (beQ HB)); rintro e w11 ⟨v524, rfl, ho0, hb⟩; refine ⟨_, rfl, ?_⟩; have HO525 := Aside0.mk (Kd.R_lower (Kd.R_new' ho0 (Kd.R_lt (kdQ HO_5))) (below_size (beQ HB))); replace HO_5 := Aside0.mk (Kd.R_elder' (kdQ HO_5) (Kd.R_base ho0) hb); replace HB := Aside0.mk (below_step (beQ HB) hb); (try clear hb); (try clear hb2); (try clear hk); (try clear hi); (try clear hgw_); (try clear ho0); obtain ⟨Ao12, co12, eo12⟩ := Kd.R_slice HO525.out; subst eo12))
        go_loopg [22] k1 (fun kq v22 w' => ∃ (x5_2 : List Int) (x22_2 : Int), v22 = .int .i64 x22_2 ∧ Aside0 (impl_domainsOf.l1 kq x5_2 x14_1 l1 (l1.length : Int) x14_1 t523 (t523.length : Int) x22_2 = some r) ∧ Aside0 (kq ≤ k1) ∧ Aside0 (Kd.R (Kd.int .i64) 2 w' w.heap.size (fun k_ => some k_ ≠ ((.slice Ao12 t523.length co12) : Value).ownBlock) v520 x5_2) ∧ Aside0 (Kd.R (Kd.int .i64) 2 w' w.heap.size (fun k_ => some k_ ≠ (v520 : Value).ownBlock) (.slice Ao12 t523.length co12) t523) ∧ Aside0 (Below w.heap.size w w'))
        case atStart => exact ⟨(x5_1), (0), sz, H', ⟨Nat.le_refl _⟩, ⟨by (with_reducible repeat (first | apply Kd.R_alloc | apply Kd.R_drewN | apply Kd.R_drew)); exact Kd.R_mono HO_5.out (fun _ hk => hk.2)⟩, ⟨by (with_reducible repeat (first | apply Kd.R_alloc | apply Kd.R_drewN | apply Kd.R_drew)); exact Kd.R_mono HO525.out (fun _ hk => hk.2)⟩, ⟨beQ HB⟩⟩
        case round =>
         clear H'
         try clear c1
         try clear p2
         try clear c3
         try clear c3b0
         try clear c3b1
         try clear c4
         try clear c4b0
         try clear c4b1
         try clear c5
         try clear p5
         try clear q5
         try clear hx5
         try clear c7
         try clear c7b0
         try clear c8
         try clear c8b0
         try clear c9
         try clear c9b0
         try clear hx522_0
         try clear p2
         try clear p522
         try clear q522
         obtain ⟨x5_2, x22_2, rfl, HA, HK2, HO_5, HO_20, HB⟩ := hrel
         cases gk with
         | zero => exact absurd HA.out (by simp [impl_domainsOf.l1])
         | succ k2 =>
          have H := HA.out; clear HA
          simp only [impl_domainsOf.l1] at H
          by_cases c13 : x22_2 < (t523.length : Int)
          ·rw [if_pos c13] at H
           have c13b0 : decide (x22_2 < (t523.length : Int)) = true := decide_eq_true c13
           clear c13
           by_cases c14 : 0 ≤ x22_2
           ·rw [if_pos c14] at H
            have c14b0 : decide (0 ≤ x22_2) = true := decide_eq_true c14
            clear c14
            by_cases c15 : x22_2 < (t523.length : Int)
            ·rw [if_pos c15] at H
             have c15b0 : decide (x22_2 < (t523.length : Int)) = true := decide_eq_true c15
             clear c15
             by_cases c16 : 0 ≤ (rd t523 x22_2)
             ·rw [if_pos c16] at H
              have c16b0 : decide (0 ≤ (rd t523 x22_2)) = true := decide_eq_true c16
              clear c16
              by_cases c17 : (rd t523 x22_2) < (x5_2.length : Int)
              ·rw [if_pos c17] at H
               have c17b0 : decide ((rd t523 x22_2) < (x5_2.length : Int)) = true := decide_eq_true c17
               clear c17; replace H := Option.bind_eq_some_iff.mp H; obtain ⟨t528, A180, H⟩ := H
               replace H : (impl_domainsOf.l1 k2 (x5_2.set ((rd t523 x22_2) : Int).toNat (Go.bits .or .i64 (rd x5_2 (rd t523 x22_2)) t528)) x14_1 l1 (l1.length : Int) x14_1 t523 (t523.length : Int) (wrap64 (x22_2 + 1))) = some r := H
               have A18 := Aside0.mk A180; clear A180
               obtain ⟨y529, hy529⟩ : ∃ y_ : List Int, y_ = (x5_2.set ((rd t523 x22_2) : Int).toNat (Go.bits .or .i64 (rd x5_2 (rd t523 x22_2)) t528)) := ⟨_, rfl⟩
               replace H : (impl_domainsOf.l1 k2 y529 x14_1 l1 (l1.length : Int) x14_1 t523 (t523.length : Int) (wrap64 (x22_2 + 1))) = some r := by first | (rw [hy529]; with_reducible exact H) | (have H2_ := (Option.bind_some _ _).symm.trans H; rw [hy529]; with_reducible exact H2_) | (have H2_ := (Option.bind_some _ _).symm.trans H; with_reducible exact H2_) | with_reducible exact H | (rw [hy529]; exact H) | exact H
               have Ny529 := Aside0.mk hy529; clear hy529
               have H' := Aside0.mk H
               clear H
               have p526 : 0 ≤ (x22_2 : Int) := of_decide_eq_true (by first | (with_reducible assumption) | assumption)
               have q526 : x22_2 < (t523.length : Int) := of_decide_eq_true (by first | (with_reducible assumption) | assumption)
               obtain ⟨ad526, e526, hx526_0⟩ := Kd.at_int (Kd.R_reads' HO_20.out).2.2 x22_2 p526 q526; cases e526; replace p526 := eq_true p526; replace q526 := eq_true q526
               try go_wp2
               replace HO_5 := Aside0.mk (Kd.R_drew HO_5.out); replace HO_20 := Aside0.mk (Kd.R_drew HO_20.out); replace HB := Aside0.mk (below_drew1 HB.out); obtain ⟨Ao21, co21, eo21⟩ := Kd.R_slice HO_5.out
               (first | subst eo21 | (injection eo21 with f1_ f2_ f3_; have f4_ := f1_.symm; have f5_ := f3_.symm; clear f1_ f2_ f3_; subst f4_; subst f5_))
               have p527 : 0 ≤ ((rd t523 x22_2) : Int) := of_decide_eq_true (by first | (with_reducible assumption) | assumption)
               have q527 : (rd t523 x22_2) < (x5_2.length : Int) := of_decide_eq_true (by first | (with_reducible assumption) | assumption)
               obtain ⟨ad527, e527, hx527_0⟩ := Kd.at_int (Kd.R_reads' HO_5.out).2.2 (rd t523 x22_2) p527 q527; cases e527; replace p527 := eq_true p527; replace q527 := eq_true q527
               refine start_ (n := 9) (S := fun w' => w'.cell? (ad527.add ((rd t523 x22_2)).toNat) = some (.int .i64 (rd x5_2 (rd t523 x22_2)))) (ds := [8]) #[false, false, false, false, false, false, false, false, false] (by kernel_rfl) rfl rfl (hx527_0) (fun hHeld => ?_); refine with_tabW impl_domainsOf.tab8 impl_domainsOf.bits8 (fun HT_ HW_ => ?_)
               generalize wr.drew = w20 at HO_5 HO_20 HB hx527_0 hHeld ⊢
               refine pure_ (i := 0) (N := some 26) (v := ?_) (a' := ?_) #[true, false, false, false, false, false, false, false, false] rfl rfl (any_of HT_.out (by kernel_rfl)) (fun _ _ _ h => h) (Or.inl ⟨by rfl, ?_⟩) ?_ ?_
               rotate_left
               ·intro w'
                go_simp
                with_reducible rfl
               rotate_left
               ·simp only [Act.put, s1, s2, s3, i64_w, i32_w]
                rfl
               refine pure_ (i := 1) (N := some 27) (v := ?_) (a' := ?_) #[true, true, false, false, false, false, false, false, false] rfl rfl (any_of HT_.out (by kernel_rfl)) (fun _ _ _ h => h) (Or.inl ⟨by rfl, ?_⟩) ?_ ?_
               rotate_left
               ·intro w'
                go_simp
                with_reducible rfl
               rotate_left
               ·simp only [Act.put, s1, s2, s3, i64_w, i32_w]
                rfl
               refine pure_ (i := 2) (N := some 28) (v := ?_) (a' := ?_) #[true, true, true, false, false, false, false, false, false] rfl rfl (any_of HT_.out (by kernel_rfl)) (fun _ _ _ h => h) (Or.inl ⟨by rfl, ?_⟩) ?_ ?_
               rotate_left
               ·intro w'
                go_simp
                with_reducible rfl
               rotate_left
               ·simp only [Act.put, s1, s2, s3, i64_w, i32_w]
                rfl
               refine pure_ (i := 4) (N := some 30) (v := ?_) (a' := ?_) #[true, true, true, false, true, false, false, false, false] rfl rfl (any_of HT_.out (by kernel_rfl)) (fun _ _ _ h => h) (Or.inl ⟨by rfl, ?_⟩) ?_ ?_
               rotate_left
               ·intro w'
                go_simp
                with_reducible rfl
               rotate_left
               ·simp only [Act.put, s1, s2, s3, i64_w, i32_w]
                rfl
               refine take_ (i := 3) (N := some 29) (v := ?_) (a' := ?_) #[true, true, true, true, true, false, false, false, false] rfl rfl (take_ofW HT_.out HW_.out (by kernel_rfl)) (fun _ _ _ h => h) (Or.inl ⟨by rfl, ?_⟩) hHeld ?_ ?_
               rotate_left
               ·intro w' s0
                go_simp
                with_reducible rfl
               rotate_left
               ·simp only [Act.put, s1, s2, s3, i64_w, i32_w]
                rfl
               refine one_ (i := 5) (N := some 31) #[true, true, true, true, true, true, false, false, false] rfl rfl (one_of HT_.out (by kernel_rfl)) (by decide) (fun K hK => ?_)
               refine goes_ Tryd.func51 (by kernel_rfl) rfl #[.int .i64 x14_1] (by rfl) rfl rfl lz ?_
               with_reducible refine (impl_one.calls x14_1 t528 _ A18.out).mono ?_
               rintro e w' ⟨rfl, ⟨nd, rfl⟩⟩
               refine ⟨_, rfl, ?_⟩
               have p19 : 0 ≤ ((rd t523 x22_2) : Int) := of_decide_eq_true (by first | (with_reducible assumption) | assumption)
               have q19 : ((rd t523 x22_2) : Int) < ((x5_2.length : Int) : Int) := of_decide_eq_true (by first | (with_reducible assumption) | assumption)
               obtain ⟨go19, co19, eo19, gb19, gl19, cl19, HG19⟩ := Kd.R_form HO_5.out (by omega)
               (first | cases eo19 | (injection eo19 with ea_ en_ ec_; (first | subst ea_ | (injection ea_ with ea_; subst ea_)); subst ec_; clear en_))
               have GB19 := Aside0.mk gb19; have GG19 := Aside0.mk HG19; clear gb19 gl19 HG19
               (first | simp only [add_plain] at hx527_0 | skip)
               obtain ⟨hx19_0, hf19_0⟩ := Kd.R_celln 0 HO_5.out ((rd t523 x22_2) : Int) p19 q19; replace p19 := eq_true p19; replace q19 := eq_true q19; have HP22 := Kd.R_putn HO_5.out ((rd t523 x22_2) : Int) (Go.bits .or .i64 (rd x5_2 (rd t523 x22_2)) t528); rw [← Ny529.out] at HP22; have HQ22 := Aside0.mk HP22; clear HP22
               refine hK.out _ _ (hHeld) (fun hHeld => ?_)
               clear hK K
               refine norm_ (a' := ?_) ?_ ?_
               rotate_left
               ·show Act.put _ (some 31) _ = _
                simp only [Act.put, s1, s2, s3, i64_w, i32_w]
                rfl
               refine pure_ (i := 6) (N := some 32) (v := ?_) (a' := ?_) #[true, true, true, true, true, true, true, false, false] rfl rfl (any_of HT_.out (by kernel_rfl)) (fun _ _ _ h => h) (Or.inl ⟨by rfl, ?_⟩) ?_ ?_
               rotate_left
               ·intro w'
                go_simp
                with_reducible rfl
               rotate_left
               ·simp only [Act.put, s1, s2, s3, i64_w, i32_w]
                rfl
               refine pure_ (i := 7) (N := some 33) (v := ?_) (a' := ?_) #[true, true, true, true, true, true, true, true, false] rfl rfl (any_of HT_.out (by kernel_rfl)) (fun _ _ _ h => h) (Or.inl ⟨by rfl, ?_⟩) ?_ ?_
               rotate_left
               ·intro w'
                go_simp
                with_reducible rfl
               rotate_left
               ·simp only [Act.put, s1, s2, s3, i64_w, i32_w]
                rfl
               refine last_ (i := 8) (N := none) #[true, true, true, true, true, true, true, true, true] rfl rfl (one_of HT_.out (by kernel_rfl)) (by decide) (fun K hK => ?_)
               refine skip_ (w1 := ?_) (by rfl) rfl ?_ ?_
               rotate_left
               ·go_simp
                rfl
               refine hK.out _ _ ?_
               clear hK K
               refine done_ (done_of HT_.out (by kernel_rfl)) ?_
               try go_wp2
               go_roundg k2
               case measure => have := HK1.out; have := HK2.out; omega
               case rel => exact ⟨(y529), (wrap64 (x22_2 + 1)), sz, H', ⟨by have := HK1.out; have := HK2.out; omega⟩, ⟨by (with_reducible repeat (first | apply Kd.R_alloc | apply Kd.R_drewN | apply Kd.R_drew)); exact HQ22.out⟩, ⟨by (with_reducible repeat (first | apply Kd.R_alloc | apply Kd.R_drewN | apply Kd.R_drew)); exact Kd.R_mono (Kd.R_far (p := ⟨go19, ((rd t523 x22_2) : Int).toNat, none⟩) (Kd.R_mono HO_20.out (fun k_ hk => (⟨hk, fun e_ => hk (by rw [e_]; rfl)⟩ : _ ∧ k_ ≠ go19))) (fun _ hk => hk.2) (.int .i64 (Go.bits .or .i64 (rd x5_2 (rd t523 x22_2)) t528))) (fun _ hk => hk.1)⟩, ⟨by repeat (first | (with_reducible first | exact HB.out | apply below_alloc | apply pw_below_drewN | apply below_drew1 | refine below_set ?_ GB19.out) | exact HB.out)⟩⟩
              ·rw [if_neg c17] at H
               exact absurd H (by simp)
             ·rw [if_neg c16] at H
              exact absurd H (by simp)
            ·rw [if_neg c15] at H
             exact absurd H (by simp)
           ·rw [if_neg c14] at H
            exact absurd H (by simp)
          ·rw [if_neg c13] at H
           have c13b0 : decide (x22_2 < (t523.length : Int)) = false := decide_eq_false c13
           clear c13
           have H' := Aside0.mk H
           clear H
           go_wp2
           go_roundg k2
           case measure => have := HK1.out; have := HK2.out; omega
           case rel => exact ⟨(x5_2), (wrap64 (x14_1 + 1)), sz, H', ⟨by have := HK1.out; have := HK2.out; omega⟩, ⟨by (with_reducible repeat (first | apply Kd.R_alloc | apply Kd.R_drewN | apply Kd.R_drew)); exact Kd.R_mono HO_5.out (fun _ hk => trivial)⟩, ⟨beQ HB⟩⟩
       ·rw [if_neg c9] at H
        exact absurd H (by simp)
      ·rw [if_neg c8] at H
       exact absurd H (by simp)
     ·rw [if_neg c7] at H
      have c7b0 : decide (x14_1 < (l1.length : Int)) = false := decide_eq_false c7
      clear c7
      obtain rfl := Option.some.inj H
      go_wp2
      go_ret
      exact ⟨_, rz, kdQ HO_5, beQ HB⟩
  ·rw [if_neg c4] at H
   exact absurd H (by simp)
 ·rw [if_neg c3] at H
  exact absurd H (by simp)
def impl_DomainsOf.f (k : Nat) (a0 : Int) (l1 : List Int) : Option (List Int × Int) := (impl_checkProcesses.f k a0 l1).bind fun t530 => (if t530 = 0 then ((impl_domainsOf.f k a0 l1).bind fun t531 => (some (t531, 0))) else (some (([] : List Int), t530)))
set_option maxHeartbeats 8000000 in
set_option maxRecDepth 100000 in
theorem impl_DomainsOf.calls (k : Nat) (a0 : Int) (A1 : Option Addr) (c1 : Nat) (l1 : List Int) (r1 : List Int) (r2 : Int) (w : World) (hr1 : Kd.C (Kd.int .i64) w A1 l1.length l1) (hc1 : l1.length ≤ c1) (hT : TabW w) (h : impl_DomainsOf.f k a0 l1 = some (r1, r2)) :
  Calls Tryd.prog 18 #[.int .i64 a0, .slice A1 l1.length c1] w fun e w' => ∃ v0_ : Value, e = .returned (.tuple #[v0_, .int .i64 r2]) ∧ Kd.R (Kd.int .i64) 2 w' w.heap.size (fun _ => True) v0_ r1 ∧ Below w.heap.size w w' := by
 have HT := Aside0.mk hT; clear hT; have HR1 := Aside0.mk hr1; have HC1 := Aside0.mk hc1; clear hr1 hc1; have HB := Aside0.mk (Below.refl w.heap.size w)
 have H : ((impl_checkProcesses.f k a0 l1).bind fun t530 => (if t530 = 0 then ((impl_domainsOf.f k a0 l1).bind fun t531 => (some (t531, 0))) else (some (([] : List Int), t530)))) = some (r1, r2) := h
 clear h; replace H := Option.bind_eq_some_iff.mp H; obtain ⟨t530, A30, H⟩ := H
 replace H : (if t530 = 0 then ((impl_domainsOf.f k a0 l1).bind fun t531 => (some (t531, 0))) else (some (([] : List Int), t530))) = some (r1, r2) := H
 have A3 := Aside0.mk A30; clear A30
 by_cases c4 : t530 = 0
 ·rw [if_pos c4] at H
  have c4b0 : (t530 == 0) = true := beq_iff_eq.mpr c4
  have c4b1 : (t530 != 0) = false := bne_eq_false_iff_eq.mpr c4
  clear c4; replace H := Option.bind_eq_some_iff.mp H; obtain ⟨t531, A50, H⟩ := H
  replace H : (some (t531, 0)) = some (r1, r2) := H
  have A5 := Aside0.mk A50; clear A50
  simp only [Option.some.injEq, Prod.mk.injEq] at H
  obtain ⟨rfl, rfl⟩ := H
  go_enter Tryd.func18, Tryd.ntmps18
  go_wp2_with (first | ((with_reducible refine gate_callee (f := 31) rfl ?_); refine goesL_ (some 9) rfl rfl Tryd.func31 (by kernel_rfl) rfl #[.int .i64 a0, .slice A1 l1.length c1] rfl lz ?_; (with_reducible refine (impl_checkProcesses.calls k a0 _ _ l1 t530 _ ?side1 ?side2 A3.out).mono ?_); (case side1 => have q_ := Aside0.mk HR1.out; exact cQ q_); (case side2 => exact HC1.out); rintro e w6 ⟨rfl, hb⟩; refine ⟨_, rfl, ?_⟩; replace HB := Aside0.mk (below_step (beQ HB) hb); (try clear hb); (try clear hb2); (try clear hk); (try clear hi); (try clear hgw_)) | ((with_reducible refine gate_callee (f := 33) rfl ?_); refine goesL_ (some 15) rfl rfl Tryd.func33 (by kernel_rfl) rfl #[.int .i64 a0, .slice A1 l1.length c1] rfl lz ?_; (with_reducible refine (impl_domainsOf.calls k a0 _ _ l1 t531 _ ?side1 ?side2 ?side3 A5.out).mono ?_); (case side1 => have q_ := Aside0.mk (Kd.C_below HR1.out HB.out); exact cQ q_); (case side2 => exact HC1.out); (case side3 => exact TabW.below HT.out (beQ HB)); rintro e w7 ⟨v532, rfl, ho0, hb⟩; refine ⟨_, rfl, ?_⟩; have HO533 := Aside0.mk (Kd.R_lower ho0 (below_size (beQ HB))); replace HB := Aside0.mk (below_step (beQ HB) hb); (try clear hb); (try clear hb2); (try clear hk); (try clear hi); (try clear hgw_); (try clear ho0)))
  go_ret2
  exact ⟨_, rz, kdQ HO533, beQ HB⟩
 ·rw [if_neg c4] at H
  have c4b0 : (t530 == 0) = false := beq_eq_false_iff_ne.mpr c4
  have c4b1 : (t530 != 0) = true := bne_iff_ne.mpr c4
  simp only [Option.some.injEq, Prod.mk.injEq] at H
  obtain ⟨rfl, rfl⟩ := H
  go_enter Tryd.func18, Tryd.ntmps18
  go_wp2_with (first | ((with_reducible refine gate_callee (f := 31) rfl ?_); refine goesL_ (some 9) rfl rfl Tryd.func31 (by kernel_rfl) rfl #[.int .i64 a0, .slice A1 l1.length c1] rfl lz ?_; (with_reducible refine (impl_checkProcesses.calls k a0 _ _ l1 t530 _ ?side1 ?side2 A3.out).mono ?_); (case side1 => have q_ := Aside0.mk HR1.out; exact cQ q_); (case side2 => exact HC1.out); rintro e w8 ⟨rfl, hb⟩; refine ⟨_, rfl, ?_⟩; replace HB := Aside0.mk (below_step (beQ HB) hb); (try clear hb); (try clear hb2); (try clear hk); (try clear hi); (try clear hgw_)))
  go_ret2
  exact ⟨_, rz, by first | exact Kd.R_nil _ _ _ _ _ | exact Kd.N_nil _ _ _ _ _ | exact Kd.V_nil _ _ _ _ _ | exact Kd.Q_nil _ _ _ _ _ | exact Kd.S_nil _ _ _ _ _, beQ HB⟩
end Go.Proofs.YtdcggbkbcackaaaDoor.G
