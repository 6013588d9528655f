-- A copy, with what one law needs, of a text that print.sh or a program of ours wrote
import Derived.Test.YtpgfmpmppnmmcaaDoorZ1G0
import Derived.Test.YtpgfmpmppnmmcaaDoorZ1GQ00a
import Derived.Test.YtpgfmpmppnmmcaaDoorZ1GQ00b
import Derived.Test.YtpgfmpmppnmmcaaDoorZ1GQ01c
import Derived.Test.YtpgfmpmppnmmcaaDoorZ1GQ01i
namespace Go.Proofs.YtpgfmpmppnmmcaaDoor.G
open Go.RowKit Go.Proofs.YtpgfmpmppnmmcaaDoorW.PrintWords Go.Proofs.YtpgfmpmppnmmcaaDoorW.PrintLast Go.Proofs.YtpgfmpmppnmmcaaDoorW.PrintMore
attribute [local go_sem] max2_int min2_int max_two min_two max_three min_three max_four min_four   -- for this text's walks alone
set_option linter.unusedVariables false
set_option linter.unusedSimpArgs false
structure laws_FnExactWordOfProjections.Facts (k : Nat) (n : Int) (l : List Int) (l1 : List (List Int)) (S : List Int) (c m1 m2 m : Int) (x' : List Int) (y' : List (List Int)) (G : List Int) : Prop where
  toA : laws_toAlphabet.f k n l = some (n,l)
  toW : laws_toInt64SS.f k l1 = some l1
  spec : spec_WordOfProjections.f k n l l1 = some (S,c)
  impl : impl_WordOfProjections.f k n l l1 = some (S,c)
  eqS : laws_eqInt64S.f k S S = some true
  eqA : laws_eqAlphabet.f k n l n l = some true
  eqW : laws_eqInt64SS.f k l1 l1 = some true
  markA : laws_markAlphabet.f k n l 1 = some (m1,x')
  markW : laws_markInt64SS.f k l1 m1 = some (m2,y')
  pos2 : ¬ m2 < 0
  markS : laws_markInt64S.f k S 1 = some (m,G)
  heldS : laws_heldInt64S.f k G 1 = some m
  pos : ¬ m < 0
def laws_FnExactWordOfProjections.f (k : Nat) (a0_0 : Int) (l0_1 : List Int) (l1 : List (List Int)) : Option Bool :=
  (laws_szAlphabet.f a0_0 l0_1 1048576).bind fun z=>if z < 0 then some true else (laws_szInt64SS.f k l1 z).bind fun y=>if y < 0 then some true else (spec_WordOfProjections.f k a0_0 l0_1 l1).bind fun s=>(laws_markAlphabet.f k a0_0 l0_1 1).bind fun a=>(laws_markInt64SS.f k l1 a.1).bind fun b=>(laws_markInt64S.f k s.1 1).bind fun m=>if laws_toAlphabet.f k a0_0 l0_1 = some (a0_0,l0_1)∧laws_toInt64SS.f k l1 = some l1∧impl_WordOfProjections.f k a0_0 l0_1 l1 = some s∧laws_eqInt64S.f k s.1 s.1 = some true∧laws_eqAlphabet.f k a0_0 l0_1 a0_0 l0_1 = some true∧laws_eqInt64SS.f k l1 l1 = some true∧¬ b.1 < 0∧laws_heldInt64S.f k m.2 1 = some m.1∧¬ m.1 < 0 then some true else none
theorem ex_R {w W W' : World} {v : Value} {l : List Int} (ho : Kd.R (Kd.int .i64) 2 W' W.heap.size (fun _=>True) v l) (hw : Below w.heap.size w W) : Kd.R (Kd.int .i64) 2 W' w.heap.size (fun k=>W.heap.size≤k∧k < W'.heap.size) v l :=
  Kd.R_lower (Kd.R_mono (Kd.R_bound ho) (fun _ h=>⟨h.2.1,h.2.2.1⟩)) (below_size hw)
theorem ex_put {W W2 : World} {g : Nat} {n : Int} {v : Value} (hb : Below W.heap.size W W2) (hg : g = W.heap.size) (hbox : W2.heap[g]? = some (.cells #[.int .i64 0,.slice none 0 0] 30 (0,0))) :
    Aside0 (((W2.setCell ⟨g,0,none⟩ (.int .i64 n)).setCell ⟨g,1,none⟩ v).heap[g]? = some (.cells #[.int .i64 n,v] 30 (0,0)))∧Below W.heap.size W ((W2.setCell ⟨g,0,none⟩ (.int .i64 n)).setCell ⟨g,1,none⟩ v):=by
  have hge : W.heap.size≤g:=Nat.le_of_eq hg.symm
  exact ⟨⟨blk_put (cs:=#[.int .i64 n,.slice none 0 0]) (blk_put hbox 0 _ rfl) 1 _ rfl⟩,below_set (below_set hb hge) hge⟩
theorem sQ {α : Type} {d : Kd α} {e base : Nat} {ok : Nat→Prop} {v : Value} {xs : List α} {W0 W : World} (_ : Aside0 (Kd.S d e W0 base ok v xs)) (h : Kd.S d e W base ok v xs:=by (with_reducible repeat (first|apply Kd.S_alloc|apply Kd.S_drewN|apply Kd.S_drew));exact Aside0.out (by assumption)) : Kd.S d e W base ok v xs:=h
theorem ex_SS {w W W' : World} {v : Value} {l : List (List Int)} (ho : Kd.S (Kd.slice 2 (Kd.int .i64)) 22 W' W.heap.size (fun _=>True) v l) (hw : Below w.heap.size w W) : Kd.S (Kd.slice 2 (Kd.int .i64)) 22 W' w.heap.size (fun k=>W.heap.size≤k∧k < W'.heap.size) v l :=
  Kd.S_lower (Kd.S_mono (Kd.S_bound ho) (fun _ h=>⟨h.2.1,h.2.2.1⟩)) (below_size hw)
set_option maxHeartbeats 8000000 in
set_option maxRecDepth 100000 in
theorem laws_FnExactWordOfProjections.main (k : Nat) (n : Int) (A : Option Addr) (c0 : Nat) (l : List Int) (A1 : Option Addr) (c1 : Nat) (l1 : List (List Int)) (z y : Int) (S : List Int) (c m1 m2 m : Int) (x' : List Int) (y' : List (List Int)) (G : List Int) (w : World) (hr0 : Kd.C (Kd.int .i64) w A l.length l) (hc0 : l.length≤c0) (hr1 : Kd.C (Kd.slice 2 (Kd.int .i64)) w A1 l1.length l1) (hc1 : l1.length≤c1) (hT : TabW w) (hz : laws_szAlphabet.f n l 1048576 = some z) (hz0 : ¬ z < 0) (hy : laws_szInt64SS.f k l1 z = some y) (hy0 : ¬ y < 0) (hF : laws_FnExactWordOfProjections.Facts k n l l1 S c m1 m2 m x' y' G) :
    Calls Tryd.prog 3 #[.agg #[.int .i64 n,.slice A l.length c0],.slice A1 l1.length c1] w fun e w'=>e = .returned (.bool true)∧Below w.heap.size w w':=by
  have hu:=Tryd.underlying30
  have hu2:=Tryd.underlying24
  have HT:=Aside0.mk hT;have HR:=Aside0.mk hr0;have HC:=Aside0.mk hc0;have HR1:=Aside0.mk hr1;have HC1:=Aside0.mk hc1;have HZ:=Aside0.mk hz;have HY:=Aside0.mk hy;have HF:=Aside0.mk hF
  clear hT hr0 hc0 hr1 hc1 hz hy hF
  have e3 : decide (z < 0) = false:=decide_eq_false hz0
  have e4 : decide (y < 0) = false:=decide_eq_false hy0
  clear hz0 hy0
  go_enter Tryd.func3,Tryd.ntmps3
  go_upto_region 8 with (first
   |((with_reducible refine gate_dst (N:=2) rfl ?_);refine box_event ?hg (N:=2) ?hd (cs:=#[.int .i64 n,.slice A l.length c0]) (t:=24) ?hr ?_;(case hd=>rfl);(case hg=>rfl);(case hr=>first|(go_simp;done)|(go_simp;rfl));intro g2 hg w1 hbox hb;have BX:=Aside0.mk hbox;have HB:=Aside0.mk hb;clear hbox hb hg;have x0:=bc BX 0;have x1:=bc BX 1)
   |(go_at_call 5;(with_reducible refine (laws_szAlphabet.calls n A c0 l 1048576 z _ ?s1 HC.out HZ.out).mono ?_);(case s1=>exact Kd.C_below HR.out HB.out);rintro e w2 ⟨rfl,hb⟩;replace HB:=Aside0.mk (below_step HB.out hb);replace BX:=bb BX hb;clear hb x0 x1;have x0:=bc BX 0;have x1:=bc BX 1)
   |(go_at_call 6;go_loud ((with_reducible refine (laws_szInt64SS.calls k A1 c1 l1 z y _ ?s1b HC1.out HY.out).mono ?_);(case s1b=>exact Kd.C_below HR1.out HB.out);rintro e w2b ⟨rfl,hd⟩;have hb:=hd.below;replace HB:=Aside0.mk (below_step HB.out hb);replace BX:=bb BX hb;clear hb hd x0 x1;have x0:=bc BX 0;have x1:=bc BX 1)))
  go_upto_region 9 with (first
   |(go_at_call 8;(with_reducible refine (laws_toAlphabet.calls k n A c0 l n l _ ?s2 HC.out HF.out.toA).mono ?_);(case s2=>exact Kd.C_below HR.out (beQ HB));rintro e w3 ⟨v3,rfl,ho,hb⟩;obtain ⟨E1,d1,rfl⟩:=Kd.R_slice ho;have HA:=Aside0.mk (Kd.R_reads' ho).2;replace HB:=Aside0.mk (below_step (beQ HB) hb);replace BX:=bb BX hb;clear ho hb x0 x1)
   |(go_at_call 9;(with_reducible refine (laws_toInt64SS.calls k A1 c1 l1 l1 _ ?s3 HC1.out HF.out.toW).mono ?_);(case s3=>exact Kd.C_below HR1.out (beQ HB));rintro e w4 ⟨v4,rfl,ho,hb⟩;obtain ⟨E2,d2,rfl⟩:=Kd.S_slice ho;have HA2:=Aside0.mk (Kd.S_reads' ho).2;replace HA:=Aside0.mk (And.intro HA.out.1 (Kd.C_below HA.out.2 hb));replace HB:=Aside0.mk (below_step (beQ HB) hb);replace BX:=bb BX hb;clear ho hb)
   |(go_at_call 7;(with_reducible refine (spec_WordOfProjections.calls k n E1 d1 l E2 d2 l1 S c _ ?s4 HA.out.1 ?s5 HA2.out.1 HF.out.spec).mono ?_);(case s4=>exact HA.out.2);(case s5=>exact HA2.out.2);rintro e w5 ⟨v5,rfl,ho,hb⟩;have HV:=Aside0.mk (ex_R ho HB.out);have Z2:=Aside0.mk (blk_lt BX.out);have L5:=Aside0.mk hb.size;replace HB:=Aside0.mk (below_step (beQ HB) hb);replace BX:=bb BX hb;clear ho hb HA HA2;have x0:=bc BX 0;have x1:=bc BX 1))
  obtain ⟨A5,c5,rfl⟩:=Kd.R_slice HV.out
  go_upto_region 10 with (first
   |(go_at_call 8;(with_reducible refine (laws_toAlphabet.calls k n A c0 l n l _ ?s6 HC.out HF.out.toA).mono ?_);(case s6=>exact Kd.C_below HR.out (beQ HB));rintro e w6 ⟨v6,rfl,ho,hb⟩;obtain ⟨A6,c6,rfl⟩:=Kd.R_slice ho;have HX0:=Aside0.mk (ex_R ho HB.out);have L6:=Aside0.mk hb.size;replace HB:=Aside0.mk (below_step (beQ HB) hb);replace BX:=bb BX hb;replace HV:=kb HV hb;clear ho hb x0 x1)
   |((with_reducible refine gate_dst (N:=8) rfl ?_);refine box_event ?hg (N:=8) ?hd (cs:=#[.int .i64 0,.slice none 0 0]) (t:=30) ?hr ?_;(case hd=>rfl);(case hg=>rfl);(case hr=>first|(go_simp;done)|(go_simp;rfl));intro g8 hg w7 hbox hb;have BP:=ex_put (n:=n) (v:=.slice A6 l.length c6) hb hg hbox;have HP:=BP.1;have HQ:=Aside0.mk BP.2;have G8:=Aside0.mk hg;clear BP hg hb;have z0 : w7.cell? ⟨g8,0,none⟩ = some (.int .i64 0):=(blk_cell hbox 0).trans rfl;have z1 : w7.cell? ⟨g8,1,none⟩ = some (.slice none 0 0):=(blk_cell hbox 1).trans rfl;have z2:=blk_frozen hbox 0;have z3:=blk_frozen hbox 1;clear hbox))
  (try simp only [drewN_set])
  generalize (w7.setCell ⟨g8,0,none⟩ (.int .i64 n)).setCell ⟨g8,1,none⟩ (.slice A6 l.length c6) = w8 at HP HQ ⊢
  clear z0 z1 z2 z3
  have hb:=HQ.out
  have BX8:=HP
  have L8 : Aside0 (w6.heap.size < w8.heap.size):=⟨by rw [← G8.out];exact blk_lt HP.out⟩
  replace HB:=Aside0.mk (below_step (beQ HB) hb);replace BX:=bb BX hb;replace HV:=kb HV hb;replace HX0:=kb HX0 hb
  clear hb HP HQ
  go_upto_region 11 with (first
   |(go_at_call 9;(with_reducible refine (laws_toInt64SS.calls k A1 c1 l1 l1 _ ?s7 HC1.out HF.out.toW).mono ?_);(case s7=>exact Kd.C_below HR1.out (beQ HB));rintro e w9 ⟨v9,rfl,ho,hb⟩;obtain ⟨A9,c9,rfl⟩:=Kd.S_slice ho;have HX1:=Aside0.mk (ex_SS ho HB.out);have L9:=Aside0.mk hb.size;replace HB:=Aside0.mk (below_step (beQ HB) hb);replace BX:=bb BX hb;replace BX8:=bb BX8 hb;replace HV:=kb HV hb;replace HX0:=kb HX0 hb;clear ho hb;have x0:=bc BX8 0;have x1:=bc BX8 1))
  go_upto_region 12 with (first
   |(go_at_call 10;(with_reducible refine (impl_WordOfProjections.calls k n A6 c6 l A9 c9 l1 S c _ ?s8 ?s9 ?s10 ?s10b ?s11 HF.out.impl).mono ?_);(case s8=>exact (Kd.R_reads' HX0.out).2.2);(case s9=>exact (Kd.R_reads' HX0.out).2.1);(case s10=>exact (Kd.S_reads' (sQ HX1)).2.2);(case s10b=>exact (Kd.S_reads' HX1.out).2.1);(case s11=>exact TabW.below HT.out HB.out);rintro e w10 ⟨v10,rfl,ho,hb⟩;obtain ⟨A10,c10,rfl⟩:=Kd.R_slice ho;have HG:=Aside0.mk (ex_R ho HB.out);have L10:=Aside0.mk hb.size;replace HB:=Aside0.mk (below_step (beQ HB) hb);replace BX:=bb BX hb;replace BX8:=bb BX8 hb;replace HV:=kb HV hb;replace HX0:=kb HX0 hb;replace HX1:=Aside0.mk (Kd.S_below (sQ HX1) hb);clear ho hb x0 x1))
  go_upto_region 14 with (first
   |(go_at_call 11;(with_reducible refine (laws_eqInt64S.calls k A10 c10 S A5 c5 S true _ ?s12 ?s13 ?s14 ?s15 HF.out.eqS).mono ?_);(case s12=>exact (Kd.R_reads' (kdQ HG)).2.2);(case s13=>exact (Kd.R_reads' HG.out).2.1);(case s14=>exact (Kd.R_reads' (kdQ HV)).2.2);(case s15=>exact (Kd.R_reads' HV.out).2.1);rintro e w11 ⟨rfl,hd⟩;have hb:=hd.below;replace HB:=Aside0.mk (below_step (beQ HB) hb);replace BX:=bb BX hb;replace BX8:=bb BX8 hb;replace HV:=kb HV hb;replace HX0:=kb HX0 hb;replace HX1:=Aside0.mk (Kd.S_below (sQ HX1) hb);replace HG:=kb HG hb;clear hb hd))
  have x0 : w11.cell? ⟨g8,0,none⟩ = some (.int .i64 n):=bc BX8 0
  have x1 : w11.cell? ⟨g8,1,none⟩ = some (.slice A6 l.length c6):=bc BX8 1
  have y0 : w11.cell? ⟨g2,0,none⟩ = some (.int .i64 n):=bc BX 0
  have y1 : w11.cell? ⟨g2,1,none⟩ = some (.slice A l.length c0):=bc BX 1
  go_region_held3 (fun w'=>w'.cell? ⟨g8,0,none⟩ = some (.int .i64 n)∧w'.cell? ⟨g8,1,none⟩ = some (.slice A6 l.length c6)∧w'.cell? ⟨g2,0,none⟩ = some (.int .i64 n)∧w'.cell? ⟨g2,1,none⟩ = some (.slice A l.length c0))
    (first|go_keep|exact ⟨bc BX8 0,bc BX8 1,bc BX 0,bc BX 1⟩)
    (first
   |(go_at_call 8;(with_reducible refine (laws_toAlphabet.calls k n A c0 l n l _ ?s20 HC.out HF.out.toA).mono ?_);(case s20=>exact Kd.C_below HR.out (beQ HB));rintro e w12 ⟨v12,rfl,ho,hb⟩;obtain ⟨A12,c12,rfl⟩:=Kd.R_slice ho;have HA:=Aside0.mk (Kd.R_reads' ho).2;replace HB:=Aside0.mk (below_step (beQ HB) hb);replace BX:=bb BX hb;replace BX8:=bb BX8 hb;replace HV:=kb HV hb;replace HX0:=kb HX0 hb;replace HX1:=Aside0.mk (Kd.S_below (sQ HX1) hb);replace HG:=kb HG hb;clear ho hb x0 x1 y0 y1)
   |(go_at_call 12;(with_reducible refine (laws_eqAlphabet.calls k n A6 c6 l n A12 c12 l true _ ?s21 ?s22 ?s23 HA.out.1 HF.out.eqA).mono ?_);(case s21=>exact (Kd.R_reads' (kdQ HX0)).2.2);(case s22=>exact (Kd.R_reads' HX0.out).2.1);(case s23=>exact HA.out.2);rintro e w13 ⟨rfl,hb⟩;replace HB:=Aside0.mk (below_step (beQ HB) hb);replace BX:=bb BX hb;replace BX8:=bb BX8 hb;replace HV:=kb HV hb;replace HX0:=kb HX0 hb;replace HX1:=Aside0.mk (Kd.S_below (sQ HX1) hb);replace HG:=kb HG hb;clear hb HA))
  go_upto_region 19 with (first
   |(go_at_call 9;(with_reducible refine (laws_toInt64SS.calls k A1 c1 l1 l1 _ ?s24 HC1.out HF.out.toW).mono ?_);(case s24=>exact Kd.C_below HR1.out (beQ HB));rintro e w14 ⟨v14,rfl,ho,hb⟩;obtain ⟨A14,c14,rfl⟩:=Kd.S_slice ho;have HA:=Aside0.mk (Kd.S_reads' ho).2;replace HB:=Aside0.mk (below_step (beQ HB) hb);replace BX:=bb BX hb;replace BX8:=bb BX8 hb;replace HV:=kb HV hb;replace HX0:=kb HX0 hb;replace HX1:=Aside0.mk (Kd.S_below (sQ HX1) hb);replace HG:=kb HG hb;clear ho hb)
   |(go_at_call 13;(with_reducible refine (laws_eqInt64SS.calls k A9 c9 l1 A14 c14 l1 true _ ?s25 ?s26 ?s27 HA.out.1 HF.out.eqW).mono ?_);(case s25=>exact (Kd.S_reads' (sQ HX1)).2.2);(case s26=>exact (Kd.S_reads' HX1.out).2.1);(case s27=>exact HA.out.2);rintro e w15 ⟨rfl,hd⟩;have hb:=hd.below;replace HB:=Aside0.mk (below_step (beQ HB) hb);replace BX:=bb BX hb;replace BX8:=bb BX8 hb;replace HV:=kb HV hb;replace HX0:=kb HX0 hb;replace HX1:=Aside0.mk (Kd.S_below (sQ HX1) hb);replace HG:=kb HG hb;clear hb hd HA;have x0:=bc BX8 0;have x1:=bc BX8 1))
  go_upto_region 21 with (first
   |(go_at_call 14;(with_reducible refine (laws_markAlphabet.calls k n (fun k=>w5.heap.size≤k∧k < w6.heap.size) _ l 1 m1 x' w _ HB.out HX0.out HF.out.markA).mono ?_);rintro e w16 ⟨rfl,_,hB,hK⟩;replace HB:=Aside0.mk hB;have n2 : ¬ (w5.heap.size≤g2∧g2 < w6.heap.size):=(by have:=Z2.out;have:=L5.out;omega);have n8 : ¬ (w5.heap.size≤g8∧g8 < w6.heap.size):=(by have:=G8.out;omega);replace BX:=Aside0.mk (blk_kept BX.out hK n2);replace BX8:=Aside0.mk (blk_kept BX8.out hK n8);replace HV:=Aside0.mk (Kd.R_kept HV.out hK (fun j hj hs=>(by have:=hj.2;have:=hs.1;omega)));replace HX1:=Aside0.mk (Kd.S_kept HX1.out hK (fun j hj hs=>(by have:=hj.1;have:=hs.2;have:=L8.out;omega)));replace HG:=Aside0.mk (Kd.R_kept HG.out hK (fun j hj hs=>(by have:=hj.1;have:=hs.2;have:=L8.out;have:=L9.out;omega)));clear hB hK HX0 n2 n8 x0 x1)
   |(go_at_call 15;(with_reducible refine (laws_markInt64SS.calls k (fun k=>w8.heap.size≤k∧k < w9.heap.size) _ l1 m1 m2 y' w _ HB.out HX1.out HF.out.markW).mono ?_);rintro e w17 ⟨rfl,_,hB,hK⟩;replace HB:=Aside0.mk hB;have n2 : ¬ (w8.heap.size≤g2∧g2 < w9.heap.size):=(by have:=Z2.out;have:=L5.out;have:=L6.out;have:=L8.out;omega);replace BX:=Aside0.mk (blk_kept BX.out hK n2);replace HV:=Aside0.mk (Kd.R_kept HV.out hK (fun j hj hs=>(by have:=hj.2;have:=hs.1;have:=L6.out;have:=L8.out;omega)));replace HG:=Aside0.mk (Kd.R_kept HG.out hK (fun j hj hs=>(by have:=hj.1;have:=hs.2;omega)));clear hB hK HX1 n2 BX8))
  have p2 : decide (m2 < 0) = false:=decide_eq_false HF.out.pos2
  go_upto_region 24 with (first
   |(go_at_call 11;(with_reducible refine (laws_eqInt64S.calls k A10 c10 S A5 c5 S true _ ?s28 ?s29 ?s30 ?s31 HF.out.eqS).mono ?_);(case s28=>exact (Kd.R_reads' (kdQ HG)).2.2);(case s29=>exact (Kd.R_reads' HG.out).2.1);(case s30=>exact (Kd.R_reads' (kdQ HV)).2.2);(case s31=>exact (Kd.R_reads' HV.out).2.1);rintro e w18 ⟨rfl,hd⟩;have hb:=hd.below;replace HB:=Aside0.mk (below_step (beQ HB) hb);replace BX:=bb BX hb;replace HV:=kb HV hb;replace HG:=kb HG hb;clear hb hd))
  clear p2
  have p1 : decide (m < 0) = false:=decide_eq_false HF.out.pos
  go_upto_region 25 with (first
   |(go_at_call 16;(with_reducible refine (laws_markInt64S.calls k (fun k=>w9.heap.size≤k∧k < w10.heap.size) _ S 1 m G w _ HB.out HG.out HF.out.markS).mono ?_);rintro e w19 ⟨rfl,ho,hB,hK⟩;have hn:=(Kd.R_reads' ho).1;replace HB:=Aside0.mk hB;have n2 : ¬ (w9.heap.size≤g2∧g2 < w10.heap.size):=(by have:=Z2.out;have:=L5.out;have:=L6.out;have:=L8.out;have:=L9.out;omega);replace BX:=Aside0.mk (blk_kept BX.out hK n2);replace HV:=Aside0.mk (Kd.R_kept HV.out hK (fun j hj hs=>(by have:=hj.2;have:=hs.1;have:=L6.out;have:=L8.out;have:=L9.out;omega)));replace HG:=Aside0.mk ho;have HN:=Aside0.mk hn;clear hB hK ho n2 hn))
  go_upto_region 31 with (first
   |(go_at_call 17;have hh:=laws_heldInt64S.calls k A10 c10 G 1 m w19 (Kd.R_reads' (kdQ HG)).2.2 (by have:=(Kd.R_reads' HG.out).2.1;have:=HN.out;omega) HF.out.heldS;rw [← HN.out] at hh;(with_reducible refine hh.mono ?_);rintro e w20 ⟨rfl,hd⟩;have hb:=hd.below;replace HB:=Aside0.mk (below_step (beQ HB) hb);replace BX:=bb BX hb;replace HV:=kb HV hb;replace HG:=kb HG hb;clear hb hd hh;have x0:=bc BX 0;have x1:=bc BX 1))
  go_upto_region 32 with (first
   |(go_at_call 8;(with_reducible refine (laws_toAlphabet.calls k n A c0 l n l _ ?s40 HC.out HF.out.toA).mono ?_);(case s40=>exact Kd.C_below HR.out (beQ HB));rintro e w21 ⟨v21,rfl,ho,hb⟩;obtain ⟨E1,d1,rfl⟩:=Kd.R_slice ho;have HA:=Aside0.mk (ex_R ho HB.out);replace HB:=Aside0.mk (below_step (beQ HB) hb);replace BX:=bb BX hb;replace HV:=kb HV hb;replace HG:=kb HG hb;clear ho hb x0 x1)
   |(go_at_call 9;(with_reducible refine (laws_toInt64SS.calls k A1 c1 l1 l1 _ ?s41 HC1.out HF.out.toW).mono ?_);(case s41=>exact Kd.C_below HR1.out (beQ HB));rintro e w22 ⟨v22,rfl,ho,hb⟩;obtain ⟨E2,d2,rfl⟩:=Kd.S_slice ho;have HA2:=Aside0.mk (ex_SS ho HB.out);replace HA:=kb HA hb;replace HB:=Aside0.mk (below_step (beQ HB) hb);replace BX:=bb BX hb;replace HV:=kb HV hb;replace HG:=kb HG hb;clear ho hb)
   |(go_at_call 10;(with_reducible refine (impl_WordOfProjections.calls k n E1 d1 l E2 d2 l1 S c _ ?s42 ?s43 ?s44 ?s44b ?s45 HF.out.impl).mono ?_);(case s42=>exact (Kd.R_reads' HA.out).2.2);(case s43=>exact (Kd.R_reads' HA.out).2.1);(case s44=>exact (Kd.S_reads' (sQ HA2)).2.2);(case s44b=>exact (Kd.S_reads' HA2.out).2.1);(case s45=>exact TabW.below HT.out HB.out);rintro e w23 ⟨v23,rfl,ho,hb⟩;obtain ⟨A23,c23,rfl⟩:=Kd.R_slice ho;have HH:=Aside0.mk (ex_R ho HB.out);replace HB:=Aside0.mk (below_step (beQ HB) hb);replace BX:=bb BX hb;replace HV:=kb HV hb;replace HG:=kb HG hb;clear ho hb HA HA2))
  go_upto_region 35 with (first
   |(go_at_call 11;(with_reducible refine (laws_eqInt64S.calls k A23 c23 S A5 c5 S true _ ?s46 ?s47 ?s48 ?s49 HF.out.eqS).mono ?_);(case s46=>exact (Kd.R_reads' (kdQ HH)).2.2);(case s47=>exact (Kd.R_reads' HH.out).2.1);(case s48=>exact (Kd.R_reads' (kdQ HV)).2.2);(case s49=>exact (Kd.R_reads' HV.out).2.1);rintro e w24 ⟨rfl,hd⟩;have hb:=hd.below;replace HB:=Aside0.mk (below_step (beQ HB) hb);replace HV:=kb HV hb;replace HG:=kb HG hb;clear hb hd))
  go_wp2_with (first
   |(go_at_call 17;have hh:=laws_heldInt64S.calls k A10 c10 G 1 m w24 (Kd.R_reads' (kdQ HG)).2.2 (by have:=(Kd.R_reads' HG.out).2.1;have:=HN.out;omega) HF.out.heldS;rw [← HN.out] at hh;(with_reducible refine hh.mono ?_);rintro e w25 ⟨rfl,hd⟩;have hb:=hd.below;replace HB:=Aside0.mk (below_step (beQ HB) hb);replace HG:=kb HG hb;clear hb hd hh))
  go_ret
  exact ⟨rfl,HB.out⟩
set_option maxHeartbeats 4000000 in
set_option maxRecDepth 100000 in
theorem laws_FnExactWordOfProjections.calls (k : Nat) (a0_0 : Int) (A0_1 : Option Addr) (c0_1 : Nat) (l0_1 : List Int) (A1 : Option Addr) (c1 : Nat) (l1 : List (List Int)) (r : Bool) (w : World) (hr0_1 : Kd.C (Kd.int .i64) w A0_1 l0_1.length l0_1) (hc0_1 : l0_1.length≤c0_1) (hr1 : Kd.C (Kd.slice 2 (Kd.int .i64)) w A1 l1.length l1) (hc1 : l1.length≤c1) (hT : TabW w) (h : laws_FnExactWordOfProjections.f k a0_0 l0_1 l1 = some r) :
    Calls Tryd.prog 3 #[.agg #[.int .i64 a0_0,.slice A0_1 l0_1.length c0_1],.slice A1 l1.length c1] w fun e w'=>e = .returned (.bool r)∧Below w.heap.size w w':=by
  unfold laws_FnExactWordOfProjections.f at h
  have hu2:=Tryd.underlying24
  replace h:=Option.bind_eq_some_iff.mp h
  obtain ⟨z,hz,h⟩:=h
  by_cases hz0 : z < 0
  · rw [if_pos hz0] at h
    obtain rfl:=Option.some.inj h
    have e3 : decide (z < 0) = true:=decide_eq_true hz0
    have HR:=Aside0.mk hr0_1;have HC:=Aside0.mk hc0_1;have HZ:=Aside0.mk hz
    clear hz0 h hr0_1 hc0_1 hr1 hc1 hT hz
    go_enter Tryd.func3,Tryd.ntmps3
    go_wp2_with (first
     |((with_reducible refine gate_dst (N:=2) rfl ?_);refine box_event ?hg (N:=2) ?hd (cs:=#[.int .i64 a0_0,.slice A0_1 l0_1.length c0_1]) (t:=24) ?hr ?_;(case hd=>rfl);(case hg=>rfl);(case hr=>first|(go_simp;done)|(go_simp;rfl));intro g2 hg w1 hbox hb;have BX:=Aside0.mk hbox;have HB:=Aside0.mk hb;clear hbox hb hg;have x0:=bc BX 0;have x1:=bc BX 1)
     |(go_at_call 5;(with_reducible refine (laws_szAlphabet.calls a0_0 A0_1 c0_1 l0_1 1048576 z _ ?s1 HC.out HZ.out).mono ?_);(case s1=>exact Kd.C_below HR.out HB.out);rintro e w2 ⟨rfl,hb⟩;replace HB:=Aside0.mk (below_step HB.out hb);clear hb x0 x1 BX))
    go_ret
    exact ⟨rfl,HB.out⟩
  · rw [if_neg hz0] at h
    replace h:=Option.bind_eq_some_iff.mp h
    obtain ⟨y,hy,h⟩:=h
    by_cases hy0 : y < 0
    · rw [if_pos hy0] at h
      obtain rfl:=Option.some.inj h
      have e3 : decide (z < 0) = false:=decide_eq_false hz0
      have e4 : decide (y < 0) = true:=decide_eq_true hy0
      have HR:=Aside0.mk hr0_1;have HC:=Aside0.mk hc0_1;have HR1:=Aside0.mk hr1;have HC1:=Aside0.mk hc1;have HZ:=Aside0.mk hz;have HY:=Aside0.mk hy
      clear hz0 hy0 h hr0_1 hc0_1 hr1 hc1 hT hz hy
      go_enter Tryd.func3,Tryd.ntmps3
      go_wp2_with (first
       |((with_reducible refine gate_dst (N:=2) rfl ?_);refine box_event ?hg (N:=2) ?hd (cs:=#[.int .i64 a0_0,.slice A0_1 l0_1.length c0_1]) (t:=24) ?hr ?_;(case hd=>rfl);(case hg=>rfl);(case hr=>first|(go_simp;done)|(go_simp;rfl));intro g2 hg w1 hbox hb;have BX:=Aside0.mk hbox;have HB:=Aside0.mk hb;clear hbox hb hg;have x0:=bc BX 0;have x1:=bc BX 1)
       |(go_at_call 5;(with_reducible refine (laws_szAlphabet.calls a0_0 A0_1 c0_1 l0_1 1048576 z _ ?s1 HC.out HZ.out).mono ?_);(case s1=>exact Kd.C_below HR.out HB.out);rintro e w2 ⟨rfl,hb⟩;replace HB:=Aside0.mk (below_step HB.out hb);clear hb x0 x1 BX)
       |(go_at_call 6;(with_reducible refine (laws_szInt64SS.calls k A1 c1 l1 z y _ ?s1b HC1.out HY.out).mono ?_);(case s1b=>exact Kd.C_below HR1.out HB.out);rintro e w2b ⟨rfl,hd⟩;have hb:=hd.below;replace HB:=Aside0.mk (below_step HB.out hb);clear hb hd))
      go_ret
      exact ⟨rfl,HB.out⟩
    · rw [if_neg hy0] at h
      replace h:=Option.bind_eq_some_iff.mp h
      obtain ⟨⟨S,c⟩,h1,h⟩:=h
      replace h:=Option.bind_eq_some_iff.mp h
      obtain ⟨⟨m1,x'⟩,h2,h⟩:=h
      replace h:=Option.bind_eq_some_iff.mp h
      obtain ⟨⟨m2,y'⟩,h3,h⟩:=h
      replace h:=Option.bind_eq_some_iff.mp h
      obtain ⟨⟨m,G⟩,h4,h⟩:=h
      split at h
      · rename_i hF
        obtain rfl:=Option.some.inj h
        obtain ⟨f1,f2,f3,f4,f5,f6,f7,f8,f9⟩:=hF
        exact laws_FnExactWordOfProjections.main k a0_0 A0_1 c0_1 l0_1 A1 c1 l1 z y S c m1 m2 m x' y' G w hr0_1 hc0_1 hr1 hc1 hT hz hz0 hy hy0 ⟨f1,f2,h1,f3,f4,f5,f6,h2,h3,f7,h4,f8,f9⟩
      · cases h
end Go.Proofs.YtpgfmpmppnmmcaaDoor.G
