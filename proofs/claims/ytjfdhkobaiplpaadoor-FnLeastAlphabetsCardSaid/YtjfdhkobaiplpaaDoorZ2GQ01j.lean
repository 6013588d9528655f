-- A copy, with what one law needs, of a text that print.sh or a program of ours wrote
import Derived.Test.YtjfdhkobaiplpaaDoorZ2G0
import Derived.Test.YtjfdhkobaiplpaaDoorZ2GQ01e
import Derived.Test.YtjfdhkobaiplpaaDoorZ2GQ01g
import Derived.Test.YtjfdhkobaiplpaaDoorZ2GQ01h
import Derived.Test.YtjfdhkobaiplpaaDoorZ2GQ01i
namespace Go.Proofs.YtjfdhkobaiplpaaDoor.G
open Go.RowKit Go.Proofs.YtjfdhkobaiplpaaDoorW.PrintWords Go.Proofs.YtjfdhkobaiplpaaDoorW.PrintLast Go.Proofs.YtjfdhkobaiplpaaDoorW.PrintMore
attribute [local go_sem] max2_int min2_int max_two min_two max_three min_three max_four min_four   -- for this text's walks alone
set_option linter.unusedVariables false
set_option linter.unusedSimpArgs false
def leastL (g : List Int→Int→List Int→Option (Int×List Int)) (n : Int) (L : List Int) : Nat→Int→Int→List Int→Option (Int×List Int)
 |0,_,_,_=>none
 |k + 1,a,bn,bD=>if a < n then ((slices_Contains_int64_int64.f k L a).bind fun t=>if t = true then leastL g n L k (wrap64 (a + 1)) bn bD else if L.length < 1000 then ((g (L ++ [a]) bn bD).bind fun r=>leastL g n L k (wrap64 (a + 1)) r.1 r.2) else none) else some (bn,bD)
def leastF : Nat→Int→List Int→List Int→Int→List Int→Option (Int×List Int)
 |0,_,_,_,_,_=>none
 |k + 1,n,D,L,bn,bD=>if (L.length : Int) = n then ((impl_arranged.f k n D L).bind fun y=>(slices_Compare_int64_int64.f k y.2 bD).bind fun c=>if c < 0 then some y else some (bn,bD)) else leastL (leastF k n D) n L k 0 bn bD
structure Best (w0 W : World) (g : Nat) (n : Int) (v : Value) (D : List Int) : Prop where
  blk : W.heap[g]? = some (.cells #[.int .i64 n,v] 26 (0,0))
  own : Kd.R (Kd.int .i64) 2 W w0.heap.size (fun k=>k ≠ g) v D
  low : Below w0.heap.size w0 W
  ge : w0.heap.size≤g
theorem Best.drewN {w0 W : World} {g : Nat} {n : Int} {v : Value} {D : List Int} (h : Best w0 W g n v D) (m : Nat) : Best w0 (W.drewN m) g n v D:=⟨h.blk,Kd.R_drewN h.own m,pw_below_drewN h.low m,h.ge⟩
theorem Best.drew {w0 W : World} {g : Nat} {n : Int} {v : Value} {D : List Int} (h : Best w0 W g n v D) : Best w0 W.drew g n v D:=⟨h.blk,Kd.R_drew h.own,below_drew1 h.low,h.ge⟩
theorem Best.below {w0 W W1 : World} {g : Nat} {n : Int} {v : Value} {D : List Int} (h : Best w0 W g n v D) (hb : Below W.heap.size W W1) : Best w0 W1 g n v D:=⟨blk_below h.blk hb,Kd.R_below h.own hb,below_step h.low hb,h.ge⟩
theorem best_bc {W : World} {g : Nat} {cs : Array Value} {t : TypeId} (h : W.heap[g]? = some (.cells cs t (0,0))) (j : Nat) {u : Value} (hu : cs[j]? = some u) : W.cell? ⟨g,j,none⟩ = some u:=(blk_cell h j).trans hu
theorem keep_below {w W W1 : World} {g : Nat} (h : KeepBut w W g none) (hb : Below W.heap.size W W1) : KeepBut w W1 g none :=
  ⟨Nat.le_trans h.1 hb.size,fun i hi hg hr=>(hb.block i (Nat.lt_of_lt_of_le hi h.1)).trans (h.2 i hi hg hr)⟩
theorem blk_keep {w W : World} {g b : Nat} {t : TypeId} {cs : Array Value} (h : w.heap[b]? = some (.cells cs t (0,0))) (hk : KeepBut w W g none) (hb : b ≠ g) : W.heap[b]? = some (.cells cs t (0,0)) :=
  (hk.2 b (blk_lt h) hb (by simp)).trans h
theorem blkx {w W : World} {b : Nat} {t : TypeId} {cs : Array Value} (h : Aside0 (w.heap[b]? = some (.cells cs t (0,0)))) (hb : Aside0 (Below w.heap.size w W)) : Aside0 (W.heap[b]? = some (.cells cs t (0,0))):=⟨blk_below h.out hb.out⟩
def impl_leastForm.T9 : Bool×List (List Nat×List Nat):=(true,[([],[]),([],[]),([1],[1]),([],[]),([3],[3]),([2,4,2],[2,4]),([],[]),([0,5,6,5],[0,5,6])])
def impl_leastForm.B9 : List Nat:=[0,0,2,0,8,30,0,127]
theorem impl_leastForm.tab9 : rtab .any (opsOf Tryd.f28 9) = impl_leastForm.T9:=by kernel_rfl
theorem impl_leastForm.bits9 : waitsOk impl_leastForm.T9.2 impl_leastForm.B9 = true:=by kernel_rfl
set_option maxHeartbeats 4000000 in
set_option maxRecDepth 100000 in
theorem least_any (k : Nat) : ∀ (n : Int) (A0 : Option Addr) (c0 : Nat) (D : List Int) (A : Option Addr) (c : Nat) (L : List Int) (bn : Int) (bD : List Int) (rn : Int) (rD : List Int) (w0 w : World) (g : Nat) (v : Value),Best w0 w g bn v bD→(∀ W,KeepBut w W g none→Kd.C (Kd.int .i64) W A0 D.length D)→(∀ W,KeepBut w W g none→Kd.C (Kd.int .i64) W A L.length L)→D.length≤c0→L.length≤c→leastF k n D L bn bD = some (rn,rD) →
    Calls Tryd.prog 28 #[.agg #[.int .i64 n,.slice A0 D.length c0],.slice A L.length c,.pointer (some ⟨g,0,none⟩)] w fun e w'=>e = .returned (.tuple #[])∧KeepBut w w' g none∧∃ v',Best w0 w' g rn v' rD:=by
  induction k with
 |zero=>intro n A0 c0 D A c L bn bD rn rD w0 w g v _ _ _ _ _ h;cases h
 |succ k ih =>
    intro n A0 c0 D A c L bn bD rn rD w0 w g v hB hD hL hc0 hc h
    have hu:=Tryd.underlying26
    obtain ⟨Ab,cb,rfl⟩:=Kd.R_slice hB.own
    have HB:=Aside0.mk hB
    have HD:=Aside0.mk hD
    have HL:=Aside0.mk hL
    have HC0:=Aside0.mk hc0
    have HC:=Aside0.mk hc
    have IH:=Aside0.mk ih
    clear hB hD hL hc0 hc ih
    unfold leastF at h
    by_cases h1 : (L.length : Int) = n
    · rw [if_pos h1] at h
      replace h:=Option.bind_eq_some_iff.mp h
      obtain ⟨⟨yn,yD⟩,hy,h⟩:=h
      replace h:=Option.bind_eq_some_iff.mp h
      obtain ⟨z,hz,h⟩:=h
      have e1 : ((L.length : Int) == n) = true:=beq_iff_eq.mpr h1
      have AY:=Aside0.mk hy
      have AZ:=Aside0.mk hz
      have AH:=Aside0.mk h
      clear hy hz h h1
      go_enter Tryd.func28,Tryd.ntmps28
      go_wp2_with (first
       |((with_reducible refine gate_dst (N:=3) rfl ?_);refine box_event ?hg (N:=3) ?hd (cs:=#[.int .i64 n,.slice A0 D.length c0]) (t:=26) ?hr ?_;(case hd=>rfl);(case hg=>rfl);(case hr=>first|(go_simp;done)|(go_simp;rfl));intro gx hg w1 hbox hb;have BX:=Aside0.mk hbox;have HB1:=Aside0.mk (HB.out.below hb);have HK1:=Aside0.mk (KeepBut.of_below hb g none);clear hb hbox hg;have hx0 : w1.cell? ⟨gx,0,none⟩ = some (.int .i64 n):=bc BX 0))
      go_region_held3 (fun w'=>w'.cell? ⟨gx,0,none⟩ = some (.int .i64 n))
        (first|go_keep|exact bc BX 0)
        (first|(go_at_call 57;(with_reducible refine (impl_length_int64.calls A c L (L.length : Int) _ ?s1 HC.out rfl).mono ?_);(case s1=>exact HL.out _ (by repeat (first|exact HK1.out|apply keep_drewN|apply keep_drew)));rintro e w' ⟨rfl,⟨n1,rfl⟩⟩))
      have BX2 : Aside0 ((w1.drewN (1 + n1)).heap[gx]? = some (.cells #[.int .i64 n,.slice A0 D.length c0] 26 (0,0))):=⟨BX.out⟩
      have HB2:=Aside0.mk (HB1.out.drewN (1 + n1))
      have HK2:=Aside0.mk (keep_drewN HK1.out (1 + n1))
      clear BX HB1 HK1 hx0
      generalize w1.drewN (1 + n1) = w2 at BX2 HB2 HK2 ⊢
      have hx0 : w2.cell? ⟨gx,0,none⟩ = some (.int .i64 n):=bc BX2 0
      have hx1 : w2.cell? ⟨gx,1,none⟩ = some (.slice A0 D.length c0):=bc BX2 1
      go_wp2_with (first
       |(go_at_call 60;go_loud (refine (impl_arranged.calls k n A0 c0 D A c L yn yD _ ?s1 HC0.out ?s2 HC.out AY.out).mono ?_;(case s1=>exact HD.out _ HK2.out);(case s2=>exact HL.out _ HK2.out);rintro e w3 ⟨v2,rfl,ho,hb⟩;obtain ⟨Ay,cy,ey,hcy,hCy⟩:=Kd.R_reads ho;subst ey;have HOY:=Aside0.mk (Kd.R_mono (ok':=fun k=>k ≠ g) (Kd.R_lower (Kd.R_newB ho HB2.out.blk) (below_size HB2.out.low)) (fun _ hk=>hk.2));have HCY:=Aside0.mk hcy;have HB3:=Aside0.mk (HB2.out.below hb);have HK3:=Aside0.mk (keep_below HK2.out hb);clear ho hb hcy hCy))
       |((with_reducible refine gate_dst (N:=6) rfl ?_);refine box_event ?hg (N:=6) ?hd (cs:=#[.int .i64 0,.slice none 0 0]) (t:=26) ?hr ?_;(case hd=>rfl);(case hg=>rfl);(case hr=>first|(go_simp;done)|(go_simp;rfl));intro gy hg w4 hbox hb;have BY0:=Aside0.mk hbox;have HB4:=Aside0.mk hb;have HGY:=Aside0.mk (Nat.le_of_eq hg.symm);clear hb hbox hg;have hy0 : w4.cell? ⟨gy,0,none⟩ = some (.int .i64 0):=bc BY0 0;have hy1 : w4.cell? ⟨gy,1,none⟩ = some (.slice none 0 0):=bc BY0 1;have fy0:=blk_frozen BY0.out 0;have fy1:=blk_frozen BY0.out 1))
      have BY : Aside0 (((w4.setCell ⟨gy,0,none⟩ (.int .i64 yn)).setCell ⟨gy,1,none⟩ (.slice Ay yD.length cy)).heap[gy]? = some (.cells #[.int .i64 yn,.slice Ay yD.length cy] 26 (0,0))):=⟨blk_put (blk_put BY0.out 0 _ rfl) 1 _ rfl⟩
      have hb5:=below_set (j:=1) (v:=.slice Ay yD.length cy) (below_set (j:=0) (v:=.int .i64 yn) HB4.out HGY.out) HGY.out
      have HB5:=Aside0.mk (HB3.out.below hb5)
      have HK5:=Aside0.mk (keep_below HK3.out hb5)
      have HOY5:=Aside0.mk (Kd.R_below HOY.out hb5)
      have HNE : Aside0 (gy ≠ g):=⟨fun e=>by have h1:=blk_lt HB3.out.blk;have h2:=HGY.out;omega⟩
      clear hy0 hy1 fy0 fy1 hb5 BY0 HB4
      (try simp only [drewN_set])
      generalize (w4.setCell ⟨gy,0,none⟩ (.int .i64 yn)).setCell ⟨gy,1,none⟩ (.slice Ay yD.length cy) = w5 at BY HB5 HK5 HOY5 ⊢
      have hy1 : w5.cell? ⟨gy,1,none⟩ = some (.slice Ay yD.length cy):=bc BY 1
      have hy2 : w5.drew.cell? ⟨gy,1,none⟩ = some (.slice Ay yD.length cy):=bc BY 1
      have hb1 : w5.cell? ⟨g,1,none⟩ = some (.slice Ab bD.length cb):=best_bc HB5.out.blk 1 rfl
      have hb2 : w5.drew.cell? ⟨g,1,none⟩ = some (.slice Ab bD.length cb):=best_bc HB5.out.blk 1 rfl
      go_region_held3 (fun w'=>w'.cell? ⟨gy,1,none⟩ = some (.slice Ay yD.length cy)∧w'.cell? ⟨g,1,none⟩ = some (.slice Ab bD.length cb))
        (first|go_keep|exact ⟨bc BY 1,best_bc HB5.out.blk 1 rfl⟩)
        (first|(go_at_call 49;(with_reducible refine (slices_Compare_int64_int64.calls k Ay cy yD Ab cb bD z _ ?s1 HCY.out ?s2 ?s3 AZ.out).mono ?_);(case s1=>exact (Kd.R_reads' (by repeat (first|exact HOY5.out|apply Kd.R_drewN|apply Kd.R_drew))).2.2);(case s2=>exact (Kd.R_reads' (by repeat (first|exact HB5.out.own|apply Kd.R_drewN|apply Kd.R_drew))).2.2);(case s3=>exact (Kd.R_reads' HB5.out.own).2.1);rintro e w' ⟨rfl,⟨n2,rfl⟩⟩))
      have BY6 : Aside0 ((w5.drewN (1 + n2)).heap[gy]? = some (.cells #[.int .i64 yn,.slice Ay yD.length cy] 26 (0,0))):=⟨BY.out⟩
      have HB6:=Aside0.mk (HB5.out.drewN (1 + n2))
      have HK6:=Aside0.mk (keep_drewN HK5.out (1 + n2))
      have HO6:=Aside0.mk (Kd.R_drewN HOY5.out (1 + n2))
      clear hy1 hy2 hb1 hb2 BY HB5 HK5 HOY5
      generalize w5.drewN (1 + n2) = w6 at BY6 HB6 HK6 HO6 ⊢
      have hy0 : w6.cell? ⟨gy,0,none⟩ = some (.int .i64 yn):=bc BY6 0
      have hy1 : w6.cell? ⟨gy,1,none⟩ = some (.slice Ay yD.length cy):=bc BY6 1
      have hb0 : w6.cell? ⟨g,0,none⟩ = some (.int .i64 bn):=best_bc HB6.out.blk 0 rfl
      have hb1 : w6.cell? ⟨g,1,none⟩ = some (.slice Ab bD.length cb):=best_bc HB6.out.blk 1 rfl
      have fb0:=blk_frozen HB6.out.blk 0
      have fb1:=blk_frozen HB6.out.blk 1
      have hh:=AH.out
      by_cases hz : z < 0
      · rw [if_pos hz] at hh
        cases hh
        rw [decide_eq_true hz]
        clear hz
        go_wp2
        first|go_end0|((try simp only [Exit.inBlock,Exit.then]);refine bodyPost_ret (results_none rfl _ _ _) rfl ?_)
        exact ⟨rfl,KeepBut.set_ (KeepBut.set_ HK6.out 0 _) 1 _,_,⟨blk_put (blk_put HB6.out.blk 0 _ rfl) 1 _ rfl,Kd.R_far (p:=⟨g,1,none⟩) (Kd.R_far (p:=⟨g,0,none⟩) HO6.out (fun _ hk=>hk) _) (fun _ hk=>hk) _,below_set (below_set HB6.out.low HB6.out.ge) HB6.out.ge,HB6.out.ge⟩⟩
      · rw [if_neg hz] at hh
        cases hh
        rw [decide_eq_false hz]
        clear hz
        go_wp2
        first|go_end0|((try simp only [Exit.inBlock,Exit.then]);refine bodyPost_ret (results_none rfl _ _ _) rfl ?_)
        exact ⟨rfl,HK6.out,_,HB6.out⟩
    · rw [if_neg h1] at h
      have e1 : ((L.length : Int) == n) = false:=beq_eq_false_iff_ne.mpr h1
      have AH:=Aside0.mk h
      clear h h1
      go_enter Tryd.func28,Tryd.ntmps28
      go_wp2_with (first
       |((with_reducible refine gate_dst (N:=3) rfl ?_);refine box_event ?hg (N:=3) ?hd (cs:=#[.int .i64 n,.slice A0 D.length c0]) (t:=26) ?hr ?_;(case hd=>rfl);(case hg=>rfl);(case hr=>first|(go_simp;done)|(go_simp;rfl));intro gx hg w1 hbox hb;have BX:=Aside0.mk hbox;have HB1:=Aside0.mk (HB.out.below hb);have HK1:=Aside0.mk (KeepBut.of_below hb g none);have HNE : Aside0 (gx ≠ g):=⟨by rw [hg];exact fun e=>by have:=blk_lt HB.out.blk;omega⟩;clear hb hbox hg;have hx0 : w1.cell? ⟨gx,0,none⟩ = some (.int .i64 n):=bc BX 0))
      go_region_held3 (fun w'=>w'.cell? ⟨gx,0,none⟩ = some (.int .i64 n))
        (first|go_keep|exact bc BX 0)
        (first|(go_at_call 57;(with_reducible refine (impl_length_int64.calls A c L (L.length : Int) _ ?s1 HC.out rfl).mono ?_);(case s1=>exact HL.out _ (by repeat (first|exact HK1.out|apply keep_drewN|apply keep_drew)));rintro e w' ⟨rfl,⟨n1,rfl⟩⟩))
      have BX2 : Aside0 ((w1.drewN (1 + n1)).heap[gx]? = some (.cells #[.int .i64 n,.slice A0 D.length c0] 26 (0,0))):=⟨BX.out⟩
      have HB2:=Aside0.mk (HB1.out.drewN (1 + n1))
      have HK2:=Aside0.mk (keep_drewN HK1.out (1 + n1))
      clear BX HB1 HK1 hx0 HB
      generalize w1.drewN (1 + n1) = w2 at BX2 HB2 HK2 ⊢
      have hx0 : w2.cell? ⟨gx,0,none⟩ = some (.int .i64 n):=bc BX2 0
      have hx1 : w2.cell? ⟨gx,1,none⟩ = some (.slice A0 D.length c0):=bc BX2 1
      go_wp2
      go_loopg [29] k (fun kq v29 w'=>∃ (a bn' : Int) (bD' : List Int) (v' : Value),v29 = .int .i64 a∧Aside0 (leastL (leastF k n D) n L kq a bn' bD' = some (rn,rD))∧Aside0 (Best w0 w' g bn' v' bD')∧Aside0 (KeepBut w w' g none)∧Aside0 (w'.heap[gx]? = some (.cells #[.int .i64 n,.slice A0 D.length c0] 26 (0,0))))
      case atStart=>exact ⟨0,bn,bD,_,rfl,AH,HB2,HK2,BX2⟩
      case round =>
        clear AH HB2 HK2 BX2 hx0 hx1
        obtain ⟨a,bn',bD',v',rfl,HR,HBr,HKr,HXr⟩:=hrel
        cases gk with
       |zero=>exact absurd HR.out (by simp [leastL])
       |succ k1 =>
          have H:=HR.out
          clear HR
          simp only [leastL] at H
          by_cases ha : a < n
          · rw [if_pos ha] at H
            have ca : decide (a < n) = true:=decide_eq_true ha
            clear ha
            replace H:=Option.bind_eq_some_iff.mp H
            obtain ⟨t,ht,H⟩:=H
            have AT:=Aside0.mk ht
            clear ht
            by_cases hc : t = true
            · rw [if_pos hc] at H
              subst hc
              have HH:=Aside0.mk H
              clear H
              go_wp2_with (first
               |(go_at_call 61;(with_reducible refine (slices_Contains_int64_int64.calls k1 A c L a true _ ?s1 HC.out AT.out).mono ?_);(case s1=>exact HL.out _ HKr.out);rintro e w' ⟨rfl,⟨n2,rfl⟩⟩))
              go_roundg k1
              case measure=>omega
              case rel=>exact ⟨_,bn',bD',v',rfl,HH,⟨HBr.out.drewN _⟩,⟨keep_drewN HKr.out _⟩,⟨HXr.out⟩⟩
            · rw [if_neg hc] at H
              obtain rfl : t = false:=by simpa using hc
              clear hc
              by_cases hl : L.length < 1000
              · rw [if_pos hl] at H
                replace H:=Option.bind_eq_some_iff.mp H
                obtain ⟨⟨tn,tD⟩,htD,H⟩:=H
                have AR:=Aside0.mk htD
                have HH:=Aside0.mk H
                have LL:=Aside0.mk hl
                have ACL : Aside0 (slices_Clone_int64_int64.f L = some L):=⟨by unfold slices_Clone_int64_int64.f;rw [if_pos (by omega)]⟩
                clear htD H hl
                go_wp2_with (first
                 |(go_at_call 61;(with_reducible refine (slices_Contains_int64_int64.calls k1 A c L a false _ ?s1 HC.out AT.out).mono ?_);(case s1=>exact HL.out _ HKr.out);rintro e w' ⟨rfl,⟨n2,rfl⟩⟩))
                have HB4 : Aside0 (Best w0 (wr.drewN n2).drew g bn' v' bD'):=⟨(HBr.out.drewN n2).drew⟩
                have HK4:=Aside0.mk (keep_drew (keep_drewN HKr.out n2))
                have HX4 : Aside0 ((wr.drewN n2).drew.heap[gx]? = some (.cells #[.int .i64 n,.slice A0 D.length c0] 26 (0,0))):=⟨HXr.out⟩
                clear HBr HKr HXr
                refine start_ (n:=8) (S:=fun w'=>w'.cell? ⟨gx,0,none⟩ = some (.int .i64 n)∧w'.cell? ⟨gx,1,none⟩ = some (.slice A0 D.length c0)) (ds:=[]) #[false,false,false,false,false,false,false,false] (by kernel_rfl) rfl rfl ⟨bc HX4 0,bc HX4 1⟩ (fun hHeld=>?_);refine with_tabW impl_leastForm.tab9 impl_leastForm.bits9 (fun HT_ HW_=>?_)
                generalize (wr.drewN n2).drew = w4 at HB4 HK4 HX4 hHeld ⊢
                have HB:=Aside0.mk (Below.refl w4.heap.size w4)
                refine pure_ (i:=1) (N:=some 37) (v:=?_) (a':=?_) #[false,true,false,false,false,false,false,false] rfl rfl (any_of HT_.out (by kernel_rfl)) (fun _ _ _ h=>h) (Or.inl ⟨by rfl,?_⟩) ?_ ?_
                rotate_left
                · intro w'
                  go_simp
                  with_reducible rfl
                rotate_left
                · simp only [Act.put,s1,s2,s3,i64_w,i32_w]
                  rfl
                refine pure_ (i:=3) (N:=some 39) (v:=?_) (a':=?_) #[false,true,false,true,false,false,false,false] rfl rfl (any_of HT_.out (by kernel_rfl)) (fun _ _ _ h=>h) (Or.inl ⟨by rfl,?_⟩) ?_ ?_
                rotate_left
                · intro w'
                  go_simp
                  with_reducible rfl
                rotate_left
                · simp only [Act.put,s1,s2,s3,i64_w,i32_w]
                  rfl
                refine take_ (i:=0) (N:=some 36) (v:=?_) (a':=?_) #[true,true,false,true,false,false,false,false] rfl rfl (take_ofW HT_.out HW_.out (by kernel_rfl)) (fun _ _ _ h=>h) (Or.inl ⟨by rfl,?_⟩) hHeld ?_ ?_
                rotate_left
                · rintro w' ⟨s0,s1⟩
                  go_simp
                  with_reducible rfl
                rotate_left
                · simp only [Act.put,s1,s2,s3,i64_w,i32_w]
                  rfl
                refine pure_ (i:=6) (N:=some 42) (v:=?_) (a':=?_) #[true,true,false,true,false,false,true,false] rfl rfl (any_of HT_.out (by kernel_rfl)) (fun _ _ _ h=>h) (Or.inl ⟨by rfl,?_⟩) ?_ ?_
                rotate_left
                · intro w'
                  go_simp
                  with_reducible rfl
                rotate_left
                · simp only [Act.put,s1,s2,s3,i64_w,i32_w]
                  rfl
                refine join_ (σ:=Value×Value) 2 #[true,true,true,true,true,false,true,false] (fun s_=>[(38,s_.1),(40,s_.2)]) (fun s_ w'=>(w'.cell? ⟨gx,0,none⟩ = some (.int .i64 n)∧w'.cell? ⟨gx,1,none⟩ = some (.slice A0 D.length c0))∧(Kd.R (Kd.int .i64) 2 w' w4.heap.size (fun k_=>(w4.heap.size≤k_)∧some k_ ≠ (s_.2 : Value).ownBlock) s_.1 L)∧(Kd.R (Kd.int .i64) 2 w' w4.heap.size (fun k_=>(w4.heap.size≤k_)∧some k_ ≠ (s_.1 : Value).ownBlock) s_.2 [a])∧(Below w4.heap.size w4 w')) ?_ ?_
                rotate_left
                · intro hCont
                  refine two_ (i:=2) (j:=4) (Ni:=some 38) (Nj:=some 40) #[true,true,true,true,false,false,true,false] #[true,true,false,true,true,false,true,false] rfl rfl rfl rfl (two_of HT_.out (by kernel_rfl)) (by decide) (by decide) (fun K hK=>?_) (fun K hK=>?_)
                  · skip
                    refine goes_ Tryd.func27 (by kernel_rfl) rfl #[.slice A L.length c] (by rfl) rfl rfl lz ?_
                    with_reducible refine (slices_Clone_int64_int64.calls A c L L _ ?side1 ?side2 ACL.out).mono ?_
                    (case side1=>exact HL.out _ (keep_below HK4.out HB.out))
                    (case side2=>exact HC.out)
                    rintro e w60 ⟨v1,rfl,ho0,hb⟩
                    refine ⟨_,rfl,?_⟩
                    have HO1:=Aside0.mk (Kd.R_lower (Kd.R_newM (M:=fun k_=>(w4.heap.size≤k_)) ho0 (below_size HB.out) (fun k_ h_=>h_)) (below_size HB.out));replace HB:=Aside0.mk (below_step HB.out hb);clear hb ho0
                    refine hK.out _ _ ⟨bc (blkx HX4 HB) 0,bc (blkx HX4 HB) 1⟩ (fun hHeld=>?_)
                    clear hK K
                    refine norm_ (a':=?_) ?_ ?_
                    rotate_left
                    · show Act.put _ (some 38) _ = _
                      simp only [Act.put,s1,s2,s3,i64_w,i32_w]
                      rfl
                    refine one_ (i:=4) (N:=some 40) #[true,true,true,true,true,false,true,false] rfl rfl (one_of HT_.out (by kernel_rfl)) (by decide) (fun K hK=>?_)
                    refine Kd.R_lit_step (Kd.int .i64) _ 2 ?hg (N:=40) ?hd (xs:=([a] : List Int)) (inner:=[.int .i64 a]) (ok:=fun _=>True) (okp:=fun _=>True) ?hr ?hp (fun _ hk=>hk) trivial (Below.refl _ _) (Nat.le_refl _) (by simp) ?_;(case hd=>rfl);(case hg=>rfl);(case hr=>first|(go_simp;done)|(go_simp;rfl));(case hp=>exact (Reps.one (show Kd.M (Kd.int .i64) _ _ _ a [.int .i64 a] from rfl) (Reps.none _ _)))
                    intro v2 w61 ho1 hb hg_ hnew_
                    clear hg_ hnew_
                    have HO2:=Aside0.mk (Kd.R_lower (Kd.R_new' (Kd.R_newM (M:=fun k_=>(w4.heap.size≤k_)) ho1 (below_size HB.out) (fun k_ h_=>h_)) (Kd.R_lt (kdQ HO1))) (below_size HB.out));replace HO1:=Aside0.mk (Kd.R_elder' (kdQ HO1) (Kd.R_base ho1) hb);replace HB:=Aside0.mk (below_step HB.out hb);clear hb ho1
                    refine hK.out _ _ ⟨bc (blkx HX4 HB) 0,bc (blkx HX4 HB) 1⟩ (fun hHeld=>?_)
                    clear hK K
                    refine norm_ (a':=?_) ?_ ?_
                    rotate_left
                    · show Act.put _ (some 40) _ = _
                      simp only [Act.put,s1,s2,s3,i64_w,i32_w]
                      rfl
                    exact norm_ (by simp only [putAll,Act.put,List.setIfInBounds_toArray,List.set_cons_zero,List.set_cons_succ]) (hCont (v1,v2) _ ⟨hHeld,Kd.R_mono HO1.out (fun _ hk=>⟨hk.1.1,hk.2⟩),Kd.R_mono HO2.out (fun _ hk=>⟨hk.1.1,hk.2⟩),HB.out⟩)
                  · skip
                    refine Kd.R_lit_step (Kd.int .i64) _ 2 ?hg (N:=40) ?hd (xs:=([a] : List Int)) (inner:=[.int .i64 a]) (ok:=fun _=>True) (okp:=fun _=>True) ?hr ?hp (fun _ hk=>hk) trivial (Below.refl _ _) (Nat.le_refl _) (by simp) ?_;(case hd=>rfl);(case hg=>rfl);(case hr=>first|(go_simp;done)|(go_simp;rfl));(case hp=>exact (Reps.one (show Kd.M (Kd.int .i64) _ _ _ a [.int .i64 a] from rfl) (Reps.none _ _)))
                    intro v2 w60 ho1 hb hg_ hnew_
                    clear hg_ hnew_
                    have HO2:=Aside0.mk (Kd.R_lower (Kd.R_newM (M:=fun k_=>(w4.heap.size≤k_)) ho1 (below_size HB.out) (fun k_ h_=>h_)) (below_size HB.out));replace HB:=Aside0.mk (below_step HB.out hb);clear hb ho1
                    refine hK.out _ _ ⟨bc (blkx HX4 HB) 0,bc (blkx HX4 HB) 1⟩ (fun hHeld=>?_)
                    clear hK K
                    refine norm_ (a':=?_) ?_ ?_
                    rotate_left
                    · show Act.put _ (some 40) _ = _
                      simp only [Act.put,s1,s2,s3,i64_w,i32_w]
                      rfl
                    refine one_ (i:=2) (N:=some 38) #[true,true,true,true,true,false,true,false] rfl rfl (one_of HT_.out (by kernel_rfl)) (by decide) (fun K hK=>?_)
                    refine goes_ Tryd.func27 (by kernel_rfl) rfl #[.slice A L.length c] (by rfl) rfl rfl lz ?_
                    with_reducible refine (slices_Clone_int64_int64.calls A c L L _ ?side1 ?side2 ACL.out).mono ?_
                    (case side1=>exact HL.out _ (keep_below HK4.out HB.out))
                    (case side2=>exact HC.out)
                    rintro e w62 ⟨v1,rfl,ho0,hb⟩
                    refine ⟨_,rfl,?_⟩
                    have HO1:=Aside0.mk (Kd.R_lower (Kd.R_new' (Kd.R_newM (M:=fun k_=>(w4.heap.size≤k_)) ho0 (below_size HB.out) (fun k_ h_=>h_)) (Kd.R_lt (kdQ HO2))) (below_size HB.out));replace HO2:=Aside0.mk (Kd.R_elder' (kdQ HO2) (Kd.R_base ho0) hb);replace HB:=Aside0.mk (below_step HB.out hb);clear hb ho0
                    refine hK.out _ _ ⟨bc (blkx HX4 HB) 0,bc (blkx HX4 HB) 1⟩ (fun hHeld=>?_)
                    clear hK K
                    refine norm_ (a':=?_) ?_ ?_
                    rotate_left
                    · show Act.put _ (some 38) _ = _
                      simp only [Act.put,s1,s2,s3,i64_w,i32_w]
                      rfl
                    exact norm_ (by simp only [putAll,Act.put,List.setIfInBounds_toArray,List.set_cons_zero,List.set_cons_succ]) (hCont (v1,v2) _ ⟨hHeld,Kd.R_mono HO1.out (fun _ hk=>⟨hk.1.1,hk.2⟩),Kd.R_mono HO2.out (fun _ hk=>⟨hk.1.1,hk.2⟩),HB.out⟩)
                rintro ⟨v1,v2⟩ w63 ⟨hS_,h0_,h1_,h2_⟩
                have HO1:=Aside0.mk h0_
                have HO2:=Aside0.mk h1_
                have HB6:=Aside0.mk h2_
                clear HB h0_ h1_ h2_
                have hHeld : w63.cell? ⟨gx,0,none⟩ = some (.int .i64 n)∧w63.cell? ⟨gx,1,none⟩ = some (.slice A0 D.length c0):=hS_
                obtain ⟨Ao65,co65,rfl⟩:=Kd.R_slice HO2.out
                refine norm_ (a':=?_) ?_ ?_
                rotate_left
                · simp only [putAll,Act.put,List.setIfInBounds_toArray,List.set_cons_zero,List.set_cons_succ]
                  rfl
                refine one_ (i:=5) (N:=some 41) #[true,true,true,true,true,true,true,false] rfl rfl (one_of HT_.out (by kernel_rfl)) (by decide) (fun K hK=>?_)
                refine Kd.R_append_rows_step (Kd.int .i64) (w0:=w4) w4.heap.size (by rfl) (.tmp 38) (.tmp 40) 22 2 (.int .i64 0) 8 rfl Tryd.underlying22 info2 rfl (by decide) (by omega) v1 L [a] _ _ _ (fun k_=>(w4.heap.size≤k_)∧some k_ ≠ (.slice Ao65 ([a] : List Int).length co65 : Value).ownBlock) (fun _=>False) rfl rfl ?aO ?aR (fun _ _ h=>h) (fun _ h=>h.elim) ?aF ?aB ?aS ?aL ?_
                (case aR=>exact (Kd.R_reads' HO2.out).2.2)
                (case aB=>exact HB6.out)
                (case aF=>exact (fun k_ hk=>⟨(Nat.le_trans (below_size HB6.out) hk),Kd.fresh' (Kd.R_lt (kdQ HO2)) k_ hk⟩))
                (case aO=>exact (kdQ HO1))
                (case aS=>exact (below_size HB6.out))
                (case aL=>have:=LL.out;simp only [List.length_cons,List.length_nil];omega)
                intro v3 w64 ho hb hg hat
                have HO3:=Aside0.mk ho
                have HB7:=Aside0.mk hb
                clear ho hb hg hat HO1 HO2 HB6
                obtain ⟨Ao66,co66,eo66⟩:=Kd.R_slice HO3.out
                subst eo66
                have HX7:=blkx HX4 HB7
                refine hK.out _ _ ⟨bc HX7 0,bc HX7 1⟩ (fun hHeld=>?_)
                clear hK K
                refine norm_ (a':=?_) ?_ ?_
                rotate_left
                · show Act.put _ (some 41) _ = _
                  simp only [Act.put,s1,s2,s3,i64_w,i32_w]
                  rfl
                refine one_ (i:=7) (N:=some 43) #[true,true,true,true,true,true,true,true] rfl rfl (one_of HT_.out (by kernel_rfl)) (by decide) (fun K hK=>?_)
                refine goes_ Tryd.func28 (by kernel_rfl) rfl #[.agg #[.int .i64 n,.slice A0 D.length c0],.slice Ao66 (L ++ [a]).length co66,.pointer (some ⟨g,0,none⟩)] (by rfl) rfl rfl lz ?_
                have HK7:=Aside0.mk (keep_below HK4.out HB7.out)
                have HLT:=Aside0.mk (blk_lt HB4.out.blk)
                with_reducible refine (IH.out n A0 c0 D Ao66 co66 (L ++ [a]) bn' bD' tn tD w0 w64 g v' ?side1 ?side2 ?side3 HC0.out ?side5 AR.out).mono ?_
                (case side1=>exact HB4.out.below HB7.out)
                (case side2=>exact Kd.C_foot_step HD.out HK7.out)
                (case side3=>exact Kd.C_foot_own HO3.out (fun k hk=>by have:=HLT.out;have:=hk.1;omega))
                (case side5=>exact (Kd.R_reads' HO3.out).2.1)
                rintro e w67 ⟨rfl,hk67,v67,hB67⟩
                refine ⟨_,rfl,?_⟩
                have HX8 : Aside0 (w67.heap[gx]? = some (.cells #[.int .i64 n,.slice A0 D.length c0] 26 (0,0))):=⟨blk_keep HX7.out hk67 HNE.out⟩
                have HK8:=Aside0.mk (KeepBut.trans HK7.out hk67 (.inl rfl))
                have HB8:=Aside0.mk hB67
                clear hk67 hB67 HX7 HX4 HK4 HB4 HK7 HO3 HB7
                refine hK.out _ _ ⟨bc HX8 0,bc HX8 1⟩ (fun hHeld=>?_)
                clear hK K
                refine norm_ (a':=?_) ?_ ?_
                rotate_left
                · show Act.put _ (some 43) _ = _
                  simp only [Act.put,s1,s2,s3,i64_w,i32_w]
                  rfl
                refine done_ (done_of HT_.out (by kernel_rfl)) ?_
                try go_wp2
                go_roundg k1
                case measure=>omega
                case rel=>exact ⟨_,tn,tD,v67,rfl,HH,HB8,HK8,HX8⟩
              · rw [if_neg hl] at H;cases H
          · rw [if_neg ha] at H
            have ca : decide (a < n) = false:=decide_eq_false ha
            clear ha
            cases H
            go_wp2
            first|go_end0|((try simp only [Exit.inBlock,Exit.then]);refine bodyPost_ret (results_none rfl _ _ _) rfl ?_)
            exact ⟨rfl,HKr.out,_,HBr.out⟩
def impl_LeastAlphabet.f (k : Nat) (a0_0 : Int) (l0_1 : List Int) : Option (Int×List Int×Int):=(impl_IsAlphabet.f k a0_0 l0_1).bind fun t=>if t = true then ((slices_Clone_int64_int64.f l0_1).bind fun b=>(leastF k a0_0 l0_1 [] a0_0 b).bind fun r=>some (r.1,r.2,0)) else some (0,[],1)
theorem below_two {w W W1 : World} (h : Below w.heap.size w W) (hb : Aside0 (Below W.heap.size W W1)) : Below w.heap.size w W1:=below_step h hb.out
def impl_LeastAlphabet.T3 : Bool×List (List Nat×List Nat):=(true,[([],[]),([0],[0]),([],[]),([2],[2]),([3],[3]),([1,4],[1,4]),([],[]),([6,5,4,0,1,2,3,4,5,6],[5,6])])
def impl_LeastAlphabet.B3 : List Nat:=[0,1,0,4,12,31,0,127]
theorem impl_LeastAlphabet.tab3 : rtab .any (opsOf Tryd.f8 3) = impl_LeastAlphabet.T3:=by kernel_rfl
theorem impl_LeastAlphabet.bits3 : waitsOk impl_LeastAlphabet.T3.2 impl_LeastAlphabet.B3 = true:=by kernel_rfl
set_option maxHeartbeats 4000000 in
set_option maxRecDepth 100000 in
theorem impl_LeastAlphabet.calls (k : Nat) (a0_0 : Int) (A0_1 : Option Addr) (c0_1 : Nat) (l0_1 : List Int) (r1 : Int) (r2 : List Int) (r3 : Int) (w : World) (hr0_1 : Kd.C (Kd.int .i64) w A0_1 l0_1.length l0_1) (hc0_1 : l0_1.length≤c0_1) (hT : TabW w) (h : impl_LeastAlphabet.f k a0_0 l0_1 = some (r1,r2,r3)) :
    Calls Tryd.prog 8 #[.agg #[.int .i64 a0_0,.slice A0_1 l0_1.length c0_1]] w fun e w'=>∃ v1_ : Value,e = .returned (.tuple #[.agg #[.int .i64 r1,v1_],.int .i64 r3])∧Kd.R (Kd.int .i64) 2 w' w.heap.size (fun _=>True) v1_ r2∧Below w.heap.size w w':=by
  have hu:=Tryd.underlying26
  have HT:=Aside0.mk hT
  have HR0:=Aside0.mk hr0_1
  have HC0:=Aside0.mk hc0_1
  have HB:=Aside0.mk (Below.refl w.heap.size w)
  clear hT hr0_1 hc0_1
  unfold impl_LeastAlphabet.f at h
  replace h:=Option.bind_eq_some_iff.mp h
  obtain ⟨t,ht,h⟩:=h
  have AT:=Aside0.mk ht
  clear ht
  cases t with
 |false =>
    rw [if_neg (by decide)] at h
    cases h
    go_enter Tryd.func8,Tryd.ntmps8
    go_wp2_with (first
     |((with_reducible refine gate_dst (N:=1) rfl ?_);refine box_event ?hg (N:=1) ?hd (cs:=#[.int .i64 a0_0,.slice A0_1 l0_1.length c0_1]) (t:=26) ?hr ?_;(case hd=>rfl);(case hg=>rfl);(case hr=>first|(go_simp;done)|(go_simp;rfl));intro gx hg w1 hbox hb;have BX:=Aside0.mk hbox;replace HB:=Aside0.mk (below_step HB.out hb);clear hb hbox hg)
     |((with_reducible refine gate_dst (N:=2) rfl ?_);refine box_event ?hg (N:=2) ?hd (cs:=#[.int .i64 0,.slice none 0 0]) (t:=26) ?hr ?_;(case hd=>rfl);(case hg=>rfl);(case hr=>first|(go_simp;done)|(go_simp;rfl));intro gr hg w2 hbox hb;have BR:=Aside0.mk hbox;have HGR : Aside0 (w.heap.size≤gr):=⟨by rw [hg];exact below_size HB.out⟩;replace HB:=Aside0.mk (below_step HB.out hb);replace BX:=bb BX hb;clear hb hbox hg;have hx0 : w2.cell? ⟨gx,0,none⟩ = some (.int .i64 a0_0):=bc BX 0;have hx1 : w2.cell? ⟨gx,1,none⟩ = some (.slice A0_1 l0_1.length c0_1):=bc BX 1)
     |(go_at_call 26;go_loud (refine (impl_IsAlphabet.calls k a0_0 A0_1 c0_1 l0_1 false _ ?s1 HC0.out ?s2 AT.out).mono ?_;(case s1=>exact Kd.C_below HR0.out HB.out);(case s2=>exact HT.out.below HB.out);rintro e w3 ⟨rfl,hb⟩;replace HB:=Aside0.mk (below_step HB.out hb);replace BX:=bb BX hb;replace BR:=bb BR hb;clear hb;have hr0 : w3.cell? ⟨gr,0,none⟩ = some (.int .i64 0):=bc BR 0;have hr1 : w3.cell? ⟨gr,1,none⟩ = some (.slice none 0 0):=bc BR 1;have fr0:=blk_frozen BR.out 0;have fr1:=blk_frozen BR.out 1)))
    refine bodyPost_ret (results_ct rfl _ _ gr 26 #[.int .i64 0,.slice none 0 0] (0,0) _ rfl (blk_put (cs:=#[.int .i64 0,.slice none 0 0]) (blk_put BR.out 0 _ rfl) 1 _ rfl) Tryd.underlying26 rfl (by kernel_rfl)) rfl ?_
    exact ⟨_,rfl,Kd.R_nil _ _ _ _ _,below_set (below_set HB.out HGR.out) HGR.out⟩
 |true =>
    rw [if_pos rfl] at h
    replace h:=Option.bind_eq_some_iff.mp h
    obtain ⟨b,hb,h⟩:=h
    replace h:=Option.bind_eq_some_iff.mp h
    obtain ⟨⟨q1,q2⟩,hq,h⟩:=h
    have eb : b = l0_1:=by
      unfold slices_Clone_int64_int64.f at hb
      split at hb
      · exact (Option.some.inj hb).symm
      · cases hb
    rw [eb] at hb hq
    clear eb
    cases h
    have ACL:=Aside0.mk hb
    have AQ:=Aside0.mk hq
    clear hb hq
    go_enter Tryd.func8,Tryd.ntmps8
    go_wp2_with (first
     |((with_reducible refine gate_dst (N:=1) rfl ?_);refine box_event ?hg (N:=1) ?hd (cs:=#[.int .i64 a0_0,.slice A0_1 l0_1.length c0_1]) (t:=26) ?hr ?_;(case hd=>rfl);(case hg=>rfl);(case hr=>first|(go_simp;done)|(go_simp;rfl));intro gx hg w1 hbox hb;have BX:=Aside0.mk hbox;replace HB:=Aside0.mk (below_step HB.out hb);clear hb hbox hg)
     |((with_reducible refine gate_dst (N:=2) rfl ?_);refine box_event ?hg (N:=2) ?hd (cs:=#[.int .i64 0,.slice none 0 0]) (t:=26) ?hr ?_;(case hd=>rfl);(case hg=>rfl);(case hr=>first|(go_simp;done)|(go_simp;rfl));intro gr hg w2 hbox hb;have BR:=Aside0.mk hbox;have HGR : Aside0 (w.heap.size≤gr):=⟨by rw [hg];exact below_size HB.out⟩;replace HB:=Aside0.mk (below_step HB.out hb);replace BX:=bb BX hb;clear hb hbox hg;have hx0 : w2.cell? ⟨gx,0,none⟩ = some (.int .i64 a0_0):=bc BX 0;have hx1 : w2.cell? ⟨gx,1,none⟩ = some (.slice A0_1 l0_1.length c0_1):=bc BX 1)
     |(go_at_call 26;go_loud (refine (impl_IsAlphabet.calls k a0_0 A0_1 c0_1 l0_1 true _ ?s1 HC0.out ?s2 AT.out).mono ?_;(case s1=>exact Kd.C_below HR0.out HB.out);(case s2=>exact HT.out.below HB.out);rintro e w3 ⟨rfl,hb⟩;replace HB:=Aside0.mk (below_step HB.out hb);replace BX:=bb BX hb;replace BR:=bb BR hb;clear hb;have hr0 : w3.cell? ⟨gr,0,none⟩ = some (.int .i64 0):=bc BR 0;have hr1 : w3.cell? ⟨gr,1,none⟩ = some (.slice none 0 0):=bc BR 1;have fr0:=blk_frozen BR.out 0;have fr1:=blk_frozen BR.out 1))
     |(go_at_call 27;go_loud (refine (slices_Clone_int64_int64.calls A0_1 c0_1 l0_1 l0_1 _ ?s1 HC0.out ACL.out).mono ?_;(case s1=>exact Kd.C_below HR0.out HB.out);rintro e w4 ⟨v4,rfl,ho,hb⟩;obtain ⟨A4,c4,e4⟩:=Kd.R_slice ho;subst e4;have HO4:=Aside0.mk (Kd.R_lower (Kd.R_newB ho BR.out) (below_size HB.out));replace HB:=Aside0.mk (below_step HB.out hb);replace BX:=bb BX hb;replace BR:=bb BR hb;clear ho hb)))
    replace HB:=Aside0.mk (below_drew1 HB.out);replace BX:=Aside0.mk (blk_drew BX.out);replace BR:=Aside0.mk (blk_drew BR.out)
    clear hr0 hr1 fr0 fr1 hx0 hx1
    refine start_ (n:=8) (S:=fun w'=>w'.cell? ⟨gx,0,none⟩ = some (.int .i64 a0_0)∧w'.cell? ⟨gx,1,none⟩ = some (.slice A0_1 l0_1.length c0_1)) (ds:=[]) #[false,false,false,false,false,false,false,false] (by kernel_rfl) rfl rfl ⟨bc BX 0,bc BX 1⟩ (fun hHeld=>?_);refine with_tabW impl_LeastAlphabet.tab3 impl_LeastAlphabet.bits3 (fun HT_ HW_=>?_)
    generalize w3.drew = w4 at HB BX BR hHeld ⊢
    have HL:=Aside0.mk (Below.refl w4.heap.size w4)
    refine pure_ (i:=0) (N:=some 9) (v:=?_) (a':=?_) #[true,false,false,false,false,false,false,false] rfl rfl (any_of HT_.out (by kernel_rfl)) (fun _ _ _ h=>h) (Or.inl ⟨by rfl,?_⟩) ?_ ?_
    rotate_left
    · intro w'
      go_simp
      with_reducible rfl
    rotate_left
    · simp only [Act.put,s1,s2,s3,i64_w,i32_w]
      rfl
    refine pure_ (i:=2) (N:=some 11) (v:=?_) (a':=?_) #[true,false,true,false,false,false,false,false] rfl rfl (any_of HT_.out (by kernel_rfl)) (fun _ _ _ h=>h) (Or.inl ⟨by rfl,?_⟩) ?_ ?_
    rotate_left
    · intro w'
      go_simp
      with_reducible rfl
    rotate_left
    · simp only [Act.put,s1,s2,s3,i64_w,i32_w]
      rfl
    refine take_ (i:=1) (N:=some 10) (v:=?_) (a':=?_) #[true,true,true,false,false,false,false,false] rfl rfl (take_ofW HT_.out HW_.out (by kernel_rfl)) (fun _ _ _ h=>h) (Or.inl ⟨by rfl,?_⟩) hHeld ?_ ?_
    rotate_left
    · rintro w' ⟨s0,s1⟩
      go_simp
      with_reducible rfl
    rotate_left
    · simp only [Act.put,s1,s2,s3,i64_w,i32_w]
      rfl
    refine take_ (i:=3) (N:=some 12) (v:=?_) (a':=?_) #[true,true,true,true,false,false,false,false] rfl rfl (take_ofW HT_.out HW_.out (by kernel_rfl)) (fun _ _ _ h=>h) (Or.inl ⟨by rfl,?_⟩) hHeld ?_ ?_
    rotate_left
    · rintro w' ⟨s0,s1⟩
      go_simp
      with_reducible rfl
    rotate_left
    · simp only [Act.put,s1,s2,s3,i64_w,i32_w]
      rfl
    refine join_ (σ:=Value×Nat) 1 #[true,true,true,true,true,true,true,false] (fun s_=>[(13,s_.1),(14,.agg #[.int .i64 a0_0,s_.1]),(4,.pointer (some ⟨s_.2,0,none⟩))]) (fun s_ w'=>(w'.cell? ⟨gx,0,none⟩ = some (.int .i64 a0_0)∧w'.cell? ⟨gx,1,none⟩ = some (.slice A0_1 l0_1.length c0_1))∧(Kd.R (Kd.int .i64) 2 w' w4.heap.size (fun k_=>k_ ≠ s_.2) s_.1 l0_1)∧(w'.heap[s_.2]? = some (.cells #[.int .i64 0,.slice none 0 0] 26 (0,0)))∧(w4.heap.size≤s_.2)∧(Below w4.heap.size w4 w')) ?_ ?_
    rotate_left
    · intro hCont
      refine two_ (i:=4) (j:=6) (Ni:=some 13) (Nj:=some 4) #[true,true,true,true,true,false,false,false] #[true,true,true,true,false,false,true,false] rfl rfl rfl rfl (two_of HT_.out (by kernel_rfl)) (by decide) (by decide) (fun K hK=>?_) (fun K hK=>?_)
      · skip
        refine goes_ Tryd.func27 (by kernel_rfl) rfl #[.slice A0_1 l0_1.length c0_1] (by rfl) rfl rfl lz ?_
        with_reducible refine (slices_Clone_int64_int64.calls A0_1 c0_1 l0_1 l0_1 _ ?side1 ?side2 ACL.out).mono ?_
        (case side1=>exact Kd.C_below HR0.out (below_two HB.out HL))
        (case side2=>exact HC0.out)
        rintro e w60 ⟨v1,rfl,ho0,hb⟩
        obtain ⟨Av,cv,rfl⟩:=Kd.R_slice ho0
        refine ⟨_,rfl,?_⟩
        have HO1:=Aside0.mk (Kd.R_lower (Kd.R_bound ho0) (below_size HL.out));replace HL:=Aside0.mk (below_step HL.out hb);clear hb ho0
        refine hK.out _ _ ⟨bc (blkx BX HL) 0,bc (blkx BX HL) 1⟩ (fun hHeld=>?_)
        clear hK K
        refine norm_ (a':=?_) ?_ ?_
        rotate_left
        · show Act.put _ (some 13) _ = _
          simp only [Act.put,s1,s2,s3,i64_w,i32_w]
          rfl
        refine pure_ (i:=5) (N:=some 14) (v:=?_) (a':=?_) #[true,true,true,true,true,true,false,false] rfl rfl (any_of HT_.out (by kernel_rfl)) (fun _ _ _ h=>h) (Or.inl ⟨by rfl,?_⟩) ?_ ?_
        rotate_left
        · intro w'
          go_simp
          with_reducible rfl
        rotate_left
        · simp only [Act.put,s1,s2,s3,i64_w,i32_w]
          rfl
        refine one_ (i:=6) (N:=some 4) #[true,true,true,true,true,true,true,false] rfl rfl (one_of HT_.out (by kernel_rfl)) (by decide) (fun K hK=>?_)
        refine box_step ?hg (N:=4) ?hd (cs:=#[.int .i64 0,.slice none 0 0]) (t:=26) ?hr ?_;(case hd=>rfl);(case hg=>rfl);(case hr=>first|(go_simp;done)|(go_simp;rfl))
        intro gb hg w61 hbox hb
        have HO2:=Aside0.mk (Kd.R_below HO1.out hb);have HGG : w4.heap.size≤gb:=by rw [hg];exact below_size HL.out
        replace HL:=Aside0.mk (below_step HL.out hb)
        refine hK.out _ _ ⟨bc (blkx BX HL) 0,bc (blkx BX HL) 1⟩ (fun hHeld=>?_)
        clear hK K
        refine norm_ (a':=?_) ?_ ?_
        rotate_left
        · show Act.put _ (some 4) _ = _
          simp only [Act.put,s1,s2,s3,i64_w,i32_w]
          rfl
        exact norm_ (by simp only [putAll,Act.put,List.setIfInBounds_toArray,List.set_cons_zero,List.set_cons_succ]) (hCont (.slice Av l0_1.length cv,gb) _ ⟨hHeld,Kd.R_mono HO2.out (fun k hk=>by have:=hk.2.2.1;omega),hbox,HGG,HL.out⟩)
      · skip
        refine box_step ?hg (N:=4) ?hd (cs:=#[.int .i64 0,.slice none 0 0]) (t:=26) ?hr ?_;(case hd=>rfl);(case hg=>rfl);(case hr=>first|(go_simp;done)|(go_simp;rfl))
        intro gb hg w60 hbox hb
        have HGG : w4.heap.size≤gb:=by rw [hg];exact below_size HL.out
        replace HL:=Aside0.mk (below_step HL.out hb);clear hb
        refine hK.out _ _ ⟨bc (blkx BX HL) 0,bc (blkx BX HL) 1⟩ (fun hHeld=>?_)
        clear hK K
        refine norm_ (a':=?_) ?_ ?_
        rotate_left
        · show Act.put _ (some 4) _ = _
          simp only [Act.put,s1,s2,s3,i64_w,i32_w]
          rfl
        refine one_ (i:=4) (N:=some 13) #[true,true,true,true,true,false,true,false] rfl rfl (one_of HT_.out (by kernel_rfl)) (by decide) (fun K hK=>?_)
        refine goes_ Tryd.func27 (by kernel_rfl) rfl #[.slice A0_1 l0_1.length c0_1] (by rfl) rfl rfl lz ?_
        with_reducible refine (slices_Clone_int64_int64.calls A0_1 c0_1 l0_1 l0_1 _ ?side1 ?side2 ACL.out).mono ?_
        (case side1=>exact Kd.C_below HR0.out (below_two HB.out HL))
        (case side2=>exact HC0.out)
        rintro e w61 ⟨v1,rfl,ho0,hb⟩
        obtain ⟨Av,cv,rfl⟩:=Kd.R_slice ho0
        refine ⟨_,rfl,?_⟩
        have HO2:=Aside0.mk (Kd.R_lower (Kd.R_newB ho0 hbox) (below_size HL.out));have hbox2:=blk_below hbox hb
        replace HL:=Aside0.mk (below_step HL.out hb)
        refine hK.out _ _ ⟨bc (blkx BX HL) 0,bc (blkx BX HL) 1⟩ (fun hHeld=>?_)
        clear hK K
        refine norm_ (a':=?_) ?_ ?_
        rotate_left
        · show Act.put _ (some 13) _ = _
          simp only [Act.put,s1,s2,s3,i64_w,i32_w]
          rfl
        refine pure_ (i:=5) (N:=some 14) (v:=?_) (a':=?_) #[true,true,true,true,true,true,true,false] rfl rfl (any_of HT_.out (by kernel_rfl)) (fun _ _ _ h=>h) (Or.inl ⟨by rfl,?_⟩) ?_ ?_
        rotate_left
        · intro w'
          go_simp
          with_reducible rfl
        rotate_left
        · simp only [Act.put,s1,s2,s3,i64_w,i32_w]
          rfl
        exact norm_ (by simp only [putAll,Act.put,List.setIfInBounds_toArray,List.set_cons_zero,List.set_cons_succ]) (hCont (.slice Av l0_1.length cv,gb) _ ⟨hHeld,Kd.R_mono HO2.out (fun k hk=>hk.2),hbox2,HGG,HL.out⟩)
    rintro ⟨v1,gb⟩ w63 ⟨hS_,h0_,h1_,h2_,h3_⟩
    have HO:=Aside0.mk h0_
    have BB:=Aside0.mk h1_
    have HGB:=Aside0.mk h2_
    have HL6:=Aside0.mk h3_
    clear HL h0_ h1_ h2_ h3_
    obtain ⟨Av,cv,rfl⟩:=Kd.R_slice HO.out
    have hHeld : w63.cell? ⟨gx,0,none⟩ = some (.int .i64 a0_0)∧w63.cell? ⟨gx,1,none⟩ = some (.slice A0_1 l0_1.length c0_1):=hS_
    refine norm_ (a':=?_) ?_ ?_
    rotate_left
    · simp only [putAll,Act.put,List.setIfInBounds_toArray,List.set_cons_zero,List.set_cons_succ]
      rfl
    refine one_ (i:=7) (N:=none) #[true,true,true,true,true,true,true,true] rfl rfl (one_of HT_.out (by kernel_rfl)) (by decide) (fun K hK=>?_)
    have hs0 : w63.cell? ⟨gb,0,none⟩ = some (.int .i64 0):=bc BB 0
    have hs1 : w63.cell? ⟨gb,1,none⟩ = some (.slice none 0 0):=bc BB 1
    have hf0:=blk_frozen BB.out 0
    have hf1:=blk_frozen BB.out 1
    refine skip_ (w1:=?_) (by rfl) rfl ?_ ?_
    rotate_left
    · go_simp
      rfl
    have HGE : Aside0 (w.heap.size≤gb):=⟨Nat.le_trans (below_size HB.out) HGB.out⟩
    have hxb : gx ≠ gb:=fun e=>by have h1:=blk_lt BX.out;have h2:=HGB.out;omega
    have hrb : gr ≠ gb:=fun e=>by have h1:=blk_lt BR.out;have h2:=HGB.out;omega
    have HRB:=Aside0.mk hrb
    have BX7 : Aside0 (((w63.setCell ⟨gb,0,none⟩ (.int .i64 a0_0)).setCell ⟨gb,1,none⟩ (.slice Av l0_1.length cv)).heap[gx]? = some (.cells #[.int .i64 a0_0,.slice A0_1 l0_1.length c0_1] 26 (0,0))):=⟨blk_far (p:=⟨gb,1,none⟩) (blk_far (p:=⟨gb,0,none⟩) (blk_below BX.out HL6.out) hxb _) hxb _⟩
    have BR7 : Aside0 (((w63.setCell ⟨gb,0,none⟩ (.int .i64 a0_0)).setCell ⟨gb,1,none⟩ (.slice Av l0_1.length cv)).heap[gr]? = some (.cells #[.int .i64 0,.slice none 0 0] 26 (0,0))):=⟨blk_far (p:=⟨gb,1,none⟩) (blk_far (p:=⟨gb,0,none⟩) (blk_below BR.out HL6.out) hrb _) hrb _⟩
    have HB7:=Aside0.mk (below_set (j:=1) (v:=.slice Av l0_1.length cv) (below_set (j:=0) (v:=.int .i64 a0_0) (below_two HB.out HL6) HGE.out) HGE.out)
    have HBE : Aside0 (Best w ((w63.setCell ⟨gb,0,none⟩ (.int .i64 a0_0)).setCell ⟨gb,1,none⟩ (.slice Av l0_1.length cv)) gb a0_0 (.slice Av l0_1.length cv) l0_1):=⟨⟨blk_put (blk_put BB.out 0 _ rfl) 1 _ rfl,Kd.R_lower (Kd.R_far (p:=⟨gb,1,none⟩) (Kd.R_far (p:=⟨gb,0,none⟩) HO.out (fun _ hk=>hk) _) (fun _ hk=>hk) _) (below_size HB.out),HB7.out,HGE.out⟩⟩
    clear hs0 hs1 hf0 hf1 HO BB HGB HL6 HB BX BR hxb hrb
    (try simp only [drewN_set])
    generalize (w63.setCell ⟨gb,0,none⟩ (.int .i64 a0_0)).setCell ⟨gb,1,none⟩ (.slice Av l0_1.length cv) = w7 at BX7 BR7 HB7 HBE ⊢
    refine hK.out _ _ ⟨bc BX7 0,bc BX7 1⟩ (fun hHeld=>?_)
    clear hK K
    refine done_ (done_of HT_.out (by kernel_rfl)) ?_
    have hx0 : w7.cell? ⟨gx,0,none⟩ = some (.int .i64 a0_0):=bc BX7 0
    have hx1 : w7.cell? ⟨gx,1,none⟩ = some (.slice A0_1 l0_1.length c0_1):=bc BX7 1
    go_wp2_with (first
     |(go_at_call 28;go_loud (refine (least_any k a0_0 A0_1 c0_1 l0_1 none 0 [] a0_0 l0_1 q1 q2 w w7 gb (.slice Av l0_1.length cv) HBE.out ?s1 Kd.C_foot_nil HC0.out (Nat.le_refl _) AQ.out).mono ?_;(case s1=>exact Kd.C_foot_came (Kd.heap_int _) HR0.out HB7.out HGE.out);rintro e w8 ⟨rfl,hk8,v8,hB8⟩;obtain ⟨A8,c8,rfl⟩:=Kd.R_slice hB8.own;have HB8:=Aside0.mk hB8;have BR8 : Aside0 (w8.heap[gr]? = some (.cells #[.int .i64 0,.slice none 0 0] 26 (0,0))):=⟨blk_keep BR7.out hk8 HRB.out⟩;clear hk8 hB8;have hb0 : w8.cell? ⟨gb,0,none⟩ = some (.int .i64 q1):=best_bc HB8.out.blk 0 rfl;have hb1 : w8.cell? ⟨gb,1,none⟩ = some (.slice A8 q2.length c8):=best_bc HB8.out.blk 1 rfl;have hr0 : w8.cell? ⟨gr,0,none⟩ = some (.int .i64 0):=bc BR8 0;have hr1 : w8.cell? ⟨gr,1,none⟩ = some (.slice none 0 0):=bc BR8 1;have fr0:=blk_frozen BR8.out 0;have fr1:=blk_frozen BR8.out 1)))
    have BR9 : Aside0 ((w8.setCell ⟨gr,0,none⟩ (.int .i64 q1)).heap[gr]? = some (.cells #[.int .i64 q1,.slice none 0 0] 26 (0,0))):=⟨blk_put BR8.out 0 _ rfl⟩
    refine bodyPost_ret (results_ct rfl _ _ gr 26 #[.int .i64 q1,.slice A8 q2.length c8] (0,0) _ rfl (blk_put BR9.out 1 _ rfl) Tryd.underlying26 rfl (by kernel_rfl)) rfl ?_
    exact ⟨_,rfl,Kd.R_mono (Kd.R_set (Kd.R_set HB8.out.own BR8.out (by decide) 0 _) BR9.out (by decide) 1 _) (fun _ _=>trivial),below_set (below_set HB8.out.low HGR.out) HGR.out⟩
end Go.Proofs.YtjfdhkobaiplpaaDoor.G
