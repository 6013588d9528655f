-- A copy, with what one law needs, of a text that print.sh or a program of ours wrote
import Derived.Test.YtpgfmpmppnmmcaaDoorZ2G0
import Derived.Test.YtpgfmpmppnmmcaaDoorZ2GQ01a
namespace Go.Proofs.YtpgfmpmppnmmcaaDoor.G
open Go.RowKit Go.Proofs.YtpgfmpmppnmmcaaDoorW.PrintWords Go.Proofs.YtpgfmpmppnmmcaaDoorW.PrintLast Go.Proofs.YtpgfmpmppnmmcaaDoorW.PrintMore
theorem zQ02ax0 {p : Prop} (h : p:=by repeat (first|(with_reducible first|exact HI0.out|apply IsS85.alloc|apply IsS85.drewN|apply IsS85.drew|apply IsS85.set_1|apply IsS85.set_2)|exact HI0.out)) : p:=h
theorem zQ02ax1 {p : Prop} (h : p:=by repeat (first|(with_reducible first|exact HB.out|apply below_alloc|apply pw_below_drewN|apply below_drew1|refine below_set ?_ (IsS85.ge HI0.out))|exact HB.out)) : p:=h
theorem zQ02ax2 {p : Prop} (h : p:=by repeat (first|(with_reducible first|exact HK.out|apply KeepBut.set_|apply keep_drewN|apply keep_drew|apply keep_alloc)|exact HK.out)) : p:=h
attribute [local go_sem] max2_int min2_int max_two min_two max_three min_three max_four min_four   -- for this text's walks alone
set_option linter.unusedVariables false
set_option linter.unusedSimpArgs false
def laws_big.f (l0 : List Int) : Option (Bool):=some (decide ((l0.length : Int) > 4096))
set_option maxHeartbeats 8000000 in
set_option maxRecDepth 100000 in
theorem laws_big.calls (A0 : Option Addr) (c0 : Nat) (l0 : List Int) (r : Bool) (w : World) (hr0 : Kd.C (Kd.int .u8) w A0 l0.length l0) (hc0 : l0.length≤c0) (h : laws_big.f l0 = some r) :
  Calls Tryd.prog 18 #[.slice A0 l0.length c0] w fun e w'=>e = .returned (.bool r)∧Drawn0 w w':=by
 have HR0:=Aside0.mk hr0;have HC0:=Aside0.mk hc0;clear hr0 hc0
 have H : (some (decide ((l0.length : Int) > 4096))) = some r:=h
 clear h
 obtain rfl:=Option.some.inj H
 go_enter Tryd.func18,Tryd.ntmps18
 go_wp2
 go_ret
 exact ⟨by first|rfl|(simp;done)|(simp [*];done),by repeat (first|exact Drawn0.refl _|apply Drawn0.step)⟩
def IsS85 (w0 W : World) (g : Nat) (f0 : List Int) (f1 : Int) (f2 : Int) : Prop:=∃ A0 c0,W.heap[g]? = some (.cells #[.slice A0 f0.length c0,.int .i64 f1,.int .u64 f2] 85 (0,0))∧w0.heap.size≤g∧Kd.C (Kd.int .u8) w0 A0 f0.length f0
theorem IsS85.grown {w0 W : World} {g : Nat} {f0 : List Int} {f1 : Int} {f2 : Int} {W1 : World} {row : Option Nat} (h : IsS85 w0 W g f0 f1 f2) (hw : W.grownBy W1 row) (hne : some g ≠ row) : IsS85 w0 W1 g f0 f1 f2:=by
 obtain ⟨A0,c0,hb,hg,hr0⟩:=h
 exact ⟨A0,c0,blk_grown hb hw hne,hg,hr0⟩
theorem IsS85.kept {w0 W : World} {g : Nat} {f0 : List Int} {f1 : Int} {f2 : Int} {W1 : World} {S : Nat→Prop} (h : IsS85 w0 W g f0 f1 f2) (hk : Kept W W1 S) (hne : ¬ S g) : IsS85 w0 W1 g f0 f1 f2:=by
 obtain ⟨A0,c0,hb,hg,hr0⟩:=h
 exact ⟨A0,c0,blk_kept hb hk hne,hg,hr0⟩
theorem IsS85.below {w0 W : World} {g : Nat} {f0 : List Int} {f1 : Int} {f2 : Int} {W1 : World} (h : IsS85 w0 W g f0 f1 f2) (hw : Below W.heap.size W W1) : IsS85 w0 W1 g f0 f1 f2:=h.grown (grown_of_below hw none) (by simp)
theorem IsS85.drewN {w0 W : World} {g : Nat} {f0 : List Int} {f1 : Int} {f2 : Int} (h : IsS85 w0 W g f0 f1 f2) (m : Nat) : IsS85 w0 (W.drewN m) g f0 f1 f2:=h
theorem IsS85.drew {w0 W : World} {g : Nat} {f0 : List Int} {f1 : Int} {f2 : Int} (h : IsS85 w0 W g f0 f1 f2) : IsS85 w0 W.drew g f0 f1 f2:=h
theorem IsS85.apart {w0 W : World} {g : Nat} {f0 : List Int} {f1 : Int} {f2 : Int} {α : Type} {d : Kd α} {e : Nat} {base : Nat} {ok : Nat→Prop} {v : Value} {xs : List α} (h : IsS85 w0 W g f0 f1 f2) (ho : d.R e W base ok v xs) (ht : ∀ q,q ∈ e :: d.E→q ≠ 85) : d.R e W base (fun k=>ok k∧k ≠ g) v xs:=by
 obtain ⟨A0,c0,hb,hg,hr0⟩:=h
 exact Kd.R_types ho hb ht
theorem IsS85.own_ne {w0 W : World} {g : Nat} {f0 : List Int} {f1 : Int} {f2 : Int} {α : Type} {d : Kd α} {e : Nat} {base : Nat} {ok : Nat→Prop} {v : Value} {xs : List α} (h : IsS85 w0 W g f0 f1 f2) (ho : d.R e W base ok v xs) (ht : e ≠ 85) : some g ≠ v.ownBlock:=by
 obtain ⟨A0,c0,hb,hg,hr0⟩:=h
 exact Kd.R_ne ho hb ht
theorem IsS85.apartS {w0 W : World} {g : Nat} {f0 : List Int} {f1 : Int} {f2 : Int} {α : Type} {d : Kd α} {e : Nat} {base : Nat} {ok : Nat→Prop} {v : Value} {xs : List α} (h : IsS85 w0 W g f0 f1 f2) (ho : d.S e W base ok v xs) (ht : ∀ q,q ∈ e :: d.E→q ≠ 85) : d.S e W base (fun k=>ok k∧k ≠ g) v xs:=by
 obtain ⟨A0,c0,hb,hg,hr0⟩:=h
 exact Kd.S_types ho hb ht
theorem IsS85.own_neS {w0 W : World} {g : Nat} {f0 : List Int} {f1 : Int} {f2 : Int} {α : Type} {d : Kd α} {e : Nat} {base : Nat} {ok : Nat→Prop} {v : Value} {xs : List α} (h : IsS85 w0 W g f0 f1 f2) (ho : d.S e W base ok v xs) (ht : e ≠ 85) : some g ≠ v.ownBlock:=by
 obtain ⟨A0,c0,hb,hg,hr0⟩:=h
 exact Kd.S_ne ho hb ht
theorem IsS85.lt {w0 W : World} {g : Nat} {f0 : List Int} {f1 : Int} {f2 : Int} (h : IsS85 w0 W g f0 f1 f2) : g < W.heap.size:=by
 obtain ⟨A0,c0,hb,hg,hr0⟩:=h
 exact blk_lt hb
theorem IsS85.ge {w0 W : World} {g : Nat} {f0 : List Int} {f1 : Int} {f2 : Int} (h : IsS85 w0 W g f0 f1 f2) : w0.heap.size≤g:=by
 obtain ⟨A0,c0,hb,hg,hr0⟩:=h
 exact hg
theorem IsS85.ne_blk {w0 W : World} {g : Nat} {f0 : List Int} {f1 : Int} {f2 : Int} {a : Nat} {cs : Array Value} {t : TypeId} {fr : Nat×Nat} (h : IsS85 w0 W g f0 f1 f2) (hb2 : W.heap[a]? = some (.cells cs t fr)) (ht : t ≠ 85) : g ≠ a:=by
 obtain ⟨A0,c0,hb,hg,hr0⟩:=h
 rintro rfl
 rw [hb] at hb2
 injection hb2 with hb2
 injection hb2 with _ ht2
 exact ht ht2.symm
theorem IsS85.far {w0 W : World} {g : Nat} {f0 : List Int} {f1 : Int} {f2 : Int} {p : Addr} (h : IsS85 w0 W g f0 f1 f2) (hne : g ≠ p.block) (u : Value) : IsS85 w0 (W.setCell p u) g f0 f1 f2:=by
 obtain ⟨A0,c0,hb,hg,hr0⟩:=h
 exact ⟨A0,c0,blk_far hb hne u,hg,hr0⟩
theorem cellS85_0 {W : World} {g : Nat} {A0 : Option Addr} {c0 : Nat} {f0 : List Int} {f1 : Int} {f2 : Int} (h : W.heap[g]? = some (.cells #[.slice A0 f0.length c0,.int .i64 f1,.int .u64 f2] 85 (0,0))) : W.cell? ⟨g,0,none⟩ = some (.slice A0 f0.length c0):=(blk_cell h 0).trans rfl
theorem cellS85_1 {W : World} {g : Nat} {A0 : Option Addr} {c0 : Nat} {f0 : List Int} {f1 : Int} {f2 : Int} (h : W.heap[g]? = some (.cells #[.slice A0 f0.length c0,.int .i64 f1,.int .u64 f2] 85 (0,0))) : W.cell? ⟨g,1,none⟩ = some (.int .i64 f1):=(blk_cell h 1).trans rfl
theorem IsS85.set_1 {w0 W : World} {g : Nat} {f0 : List Int} {f1 : Int} {f2 : Int} (h : IsS85 w0 W g f0 f1 f2) (x : Int) : IsS85 w0 (W.setCell ⟨g,1,none⟩ (.int .i64 x)) g f0 x f2:=by
 obtain ⟨A0,c0,hb,hg,hr0⟩:=h
 exact ⟨A0,c0,by simpa using blk_set hb 1 (.int .i64 x),hg,hr0⟩
theorem cellS85_2 {W : World} {g : Nat} {A0 : Option Addr} {c0 : Nat} {f0 : List Int} {f1 : Int} {f2 : Int} (h : W.heap[g]? = some (.cells #[.slice A0 f0.length c0,.int .i64 f1,.int .u64 f2] 85 (0,0))) : W.cell? ⟨g,2,none⟩ = some (.int .u64 f2):=(blk_cell h 2).trans rfl
theorem IsS85.set_2 {w0 W : World} {g : Nat} {f0 : List Int} {f1 : Int} {f2 : Int} (h : IsS85 w0 W g f0 f1 f2) (x : Int) : IsS85 w0 (W.setCell ⟨g,2,none⟩ (.int .u64 x)) g f0 f1 x:=by
 obtain ⟨A0,c0,hb,hg,hr0⟩:=h
 exact ⟨A0,c0,by simpa using blk_set hb 2 (.int .u64 x),hg,hr0⟩
def spec_l01Next.f (s0_0 : List Int) (s0_1 : Int) (s0_2 : Int) (a1 : Int) : Option (Int×Int×Int):=if a1 < 1 then (some (0,s0_1,s0_2)) else (if s0_1 < (s0_0.length : Int) then (if 0≤s0_1 then (if a1 = 0 then (none) else (some (Int.tmod (wrap64 ((wrap64 (Go.bits .and .u64 ((IntKind.u64.wrap ((IntKind.u64.wrap (s0_2 * 6364136223846793005)) + 1442695040888963407)) / 8589934592) 16777215)) + (wrap64 (rd s0_0 s0_1)))) a1,wrap64 (s0_1 + 1),IntKind.u64.wrap ((IntKind.u64.wrap (s0_2 * 6364136223846793005)) + 1442695040888963407)))) else (none)) else (if a1 = 0 then (none) else (some (Int.tmod (wrap64 (Go.bits .and .u64 ((IntKind.u64.wrap ((IntKind.u64.wrap (s0_2 * 6364136223846793005)) + 1442695040888963407)) / 8589934592) 16777215)) a1,s0_1,IntKind.u64.wrap ((IntKind.u64.wrap (s0_2 * 6364136223846793005)) + 1442695040888963407)))))
set_option maxHeartbeats 8000000 in
set_option maxRecDepth 100000 in
theorem spec_l01Next.calls (g : Nat) (s0_0 : List Int) (s0_1 : Int) (s0_2 : Int) (a1 : Int) (r1 : Int) (r2 : Int) (r3 : Int) (w0 w : World) (hI : IsS85 w0 w g s0_0 s0_1 s0_2) (hB : Below w0.heap.size w0 w) (h : spec_l01Next.f s0_0 s0_1 s0_2 a1 = some (r1,r2,r3)) :
  Calls Tryd.prog 58 #[.pointer (some ⟨g,0,none⟩),.int .i64 a1] w fun e w'=>e = .returned (.int .i64 r1)∧IsS85 w0 w' g s0_0 r2 r3∧Below w0.heap.size w0 w'∧KeepBut w w' g none:=by
 have HI0:=Aside0.mk hI;have HK:=Aside0.mk (KeepBut.refl w g none);have HL:=Aside0.mk hB.size;clear hI;have HW0:=Aside0.mk hB.size;have HB:=Aside0.mk hB;clear hB
 have H : (if a1 < 1 then (some (0,s0_1,s0_2)) else (if s0_1 < (s0_0.length : Int) then (if 0≤s0_1 then (if a1 = 0 then (none) else (some (Int.tmod (wrap64 ((wrap64 (Go.bits .and .u64 ((IntKind.u64.wrap ((IntKind.u64.wrap (s0_2 * 6364136223846793005)) + 1442695040888963407)) / 8589934592) 16777215)) + (wrap64 (rd s0_0 s0_1)))) a1,wrap64 (s0_1 + 1),IntKind.u64.wrap ((IntKind.u64.wrap (s0_2 * 6364136223846793005)) + 1442695040888963407)))) else (none)) else (if a1 = 0 then (none) else (some (Int.tmod (wrap64 (Go.bits .and .u64 ((IntKind.u64.wrap ((IntKind.u64.wrap (s0_2 * 6364136223846793005)) + 1442695040888963407)) / 8589934592) 16777215)) a1,s0_1,IntKind.u64.wrap ((IntKind.u64.wrap (s0_2 * 6364136223846793005)) + 1442695040888963407)))))) = some (r1,r2,r3):=h
 clear h
 by_cases c3 : a1 < 1
 ·rw [if_pos c3] at H
  have c3b0 : decide (a1 < 1) = true:=decide_eq_true c3
  clear c3
  simp only [Option.some.injEq,Prod.mk.injEq] at H
  obtain ⟨rfl,rfl,rfl⟩:=H
  go_enter Tryd.func58,Tryd.ntmps58
  go_wp2
  repeat (go_quiet (fail);try go_wp2)
  go_ret
  exact ⟨rz,zQ02ax0,zQ02ax1,zQ02ax2⟩
 ·rw [if_neg c3] at H
  have c3b0 : decide (a1 < 1) = false:=decide_eq_false c3
  clear c3
  by_cases c4 : s0_1 < (s0_0.length : Int)
  ·rw [if_pos c4] at H
   have c4b0 : decide (s0_1 < (s0_0.length : Int)) = true:=decide_eq_true c4
   clear c4
   by_cases c5 : 0≤s0_1
   ·rw [if_pos c5] at H
    have c5b0 : decide (0≤s0_1) = true:=decide_eq_true c5
    clear c5
    by_cases c6 : a1 = 0
    ·rw [if_pos c6] at H
     exact absurd H (by simp)
    ·rw [if_neg c6] at H
     have c6b0 : (a1 == 0) = false:=beq_eq_false_iff_ne.mpr c6
     have c6b1 : (a1 != 0) = true:=bne_iff_ne.mpr c6
     simp only [Option.some.injEq,Prod.mk.injEq] at H
     obtain ⟨rfl,rfl,rfl⟩:=H;obtain ⟨ASz7_0,cSz7_0,HGz7,hgz7,HSz7_0⟩:=HI0.out;have hcz7_0:=cellS85_0 HGz7;have hcz7_1:=cellS85_1 HGz7;have hcz7_2:=cellS85_2 HGz7;have hfz7_1:=blk_frozen HGz7 1;have hfz7_2:=blk_frozen HGz7 2;clear HGz7 hgz7
     have p325 : 0≤(s0_1 : Int):=oQ
     have q325 : s0_1 < (s0_0.length : Int):=oQ
     obtain ⟨ad325,e325,hx325_0⟩:=Kd.at_int HSz7_0 s0_1 p325 q325;cases e325
     have hn325_0 : ad325.block ≠ g:=Nat.ne_of_lt (Nat.lt_of_lt_of_le (by have:=World.block_lt_of_cell? _ _ hx325_0;first|rwa [add_block] at this|exact this) (IsS85.ge HI0.out))
     replace hx325_0:=pw_cell_below HB.out hx325_0
     replace hx325_0:=(cell_far (p:=⟨g,2,none⟩) (by first|(rw [add_block];exact hn325_0)|(show (Addr.add _ _).block ≠ _;rw [add_block];exact hn325_0)|exact hn325_0) (.int .u64 (IntKind.u64.wrap ((IntKind.u64.wrap (s0_2 * 6364136223846793005)) + 1442695040888963407)))).trans hx325_0
     (try have hy325_0:=fun (n_ : Nat)=>(show (((w.drewN n_).setCell ⟨g,2,none⟩ (.int .u64 (IntKind.u64.wrap ((IntKind.u64.wrap (s0_2 * 6364136223846793005)) + 1442695040888963407))))).cell? _ = some _ from hx325_0))
     clear hn325_0;replace p325:=eq_true p325;replace q325:=eq_true q325
     go_enter Tryd.func58,Tryd.ntmps58
     go_wp2
     repeat (go_quiet (fail);try go_wp2)
     go_ret
     exact ⟨rz,zQ02ax0,zQ02ax1,zQ02ax2⟩
   ·rw [if_neg c5] at H
    exact absurd H (by simp)
  ·rw [if_neg c4] at H
   have c4b0 : decide (s0_1 < (s0_0.length : Int)) = false:=decide_eq_false c4
   clear c4
   by_cases c8 : a1 = 0
   ·rw [if_pos c8] at H
    exact absurd H (by simp)
   ·rw [if_neg c8] at H
    have c8b0 : (a1 == 0) = false:=beq_eq_false_iff_ne.mpr c8
    have c8b1 : (a1 != 0) = true:=bne_iff_ne.mpr c8
    simp only [Option.some.injEq,Prod.mk.injEq] at H
    obtain ⟨rfl,rfl,rfl⟩:=H;obtain ⟨ASz9_0,cSz9_0,HGz9,hgz9,HSz9_0⟩:=HI0.out;have hcz9_0:=cellS85_0 HGz9;have hcz9_1:=cellS85_1 HGz9;have hcz9_2:=cellS85_2 HGz9;have hfz9_1:=blk_frozen HGz9 1;have hfz9_2:=blk_frozen HGz9 2;clear HGz9 hgz9
    go_enter Tryd.func58,Tryd.ntmps58
    go_wp2
    repeat (go_quiet (fail);try go_wp2)
    go_ret
    exact ⟨rz,zQ02ax0,zQ02ax1,zQ02ax2⟩
def spec_l01From.l0 : Nat→List Int→Int→List Int→Int→Int→Option (List Int×Int×Int)
|0,_,_,_,_,_=>none
|k + 1,x0,x4,x327000,x327001,x327002=>if x4 < (x0.length : Int) then (if x4 < 4096 then (if 0≤x4 then (spec_l01From.l0 k x0 (wrap64 (x4 + 1)) x327000 x327001 (IntKind.u64.wrap ((IntKind.u64.wrap ((IntKind.u64.wrap (x327002 * 1099511628211)) + (IntKind.u64.wrap (rd x0 x4)))) + 11))) else (none)) else (some (x327000,x327001,x327002))) else (some (x327000,x327001,x327002))
def spec_l01From.f (k : Nat) (l0 : List Int) : Option (List Int×Int×Int):=spec_l01From.l0 k l0 0 l0 0 (IntKind.u64.wrap (9341 + (IntKind.u64.wrap ((l0.length : Int)))))
def spec_l01From.T5 : Bool×List (List Nat×List Nat):=(true,[([],[]),([],[]),([1],[1]),([2],[2]),([3],[3]),([4],[4]),([],[]),([],[]),([6,7],[6,7]),([8],[8]),([9],[9]),([5,10],[5,10]),([11],[11]),([0,0,1,2,3,4,5,6,7,8,9,10,11,12],[0]),([13,0,1,2,3,4,5,6,7,8,9,10,11,12],[13]),([14,12,0,1,2,3,4,5,6,7,8,9,10,11,12],[12,14])])
def spec_l01From.B5 : List Nat:=[0,0,2,6,14,30,0,0,192,448,960,2046,4094,8191,16383,32767]
theorem spec_l01From.tab5 : rtab .any (opsOf Tryd.f76 5) = spec_l01From.T5:=by kernel_rfl
theorem spec_l01From.bits5 : waitsOk spec_l01From.T5.2 spec_l01From.B5 = true:=by kernel_rfl
set_option maxHeartbeats 8000000 in
set_option maxRecDepth 100000 in
theorem spec_l01From.calls (k : Nat) (A0 : Option Addr) (c0 : Nat) (l0 : List Int) (r1 : List Int) (r2 : Int) (r3 : Int) (w0 w : World) (hB : Below w0.heap.size w0 w) (hr0 : Kd.C (Kd.int .u8) w0 A0 l0.length l0) (hc0 : l0.length≤c0) (h : spec_l01From.f k l0 = some (r1,r2,r3)) :
  Calls Tryd.prog 76 #[.slice A0 l0.length c0] w fun e w'=>∃ g_ : Nat,e = .returned (.pointer (some ⟨g_,0,none⟩))∧IsS85 w0 w' g_ r1 r2 r3∧Below w0.heap.size w0 w'∧Below w.heap.size w w'∧w.heap.size≤g_:=by
 have hu85:=Tryd.underlying85;have HR0:=Aside0.mk hr0;have HC0:=Aside0.mk hc0;clear hr0 hc0;have HBW:=Aside0.mk (Below.refl w.heap.size w);have HW0:=Aside0.mk hB.size;have HB:=Aside0.mk hB;clear hB
 have H : (spec_l01From.l0 k l0 0 l0 0 (IntKind.u64.wrap (9341 + (IntKind.u64.wrap ((l0.length : Int)))))) = some (r1,r2,r3):=h
 clear h
 have H':=Aside0.mk H
 clear H
 go_enter Tryd.func76,Tryd.ntmps76
 go_wp2_with (first|((with_reducible refine gate_dst (N:=11) rfl ?_);refine box_event ?hg (N:=11) ?hd (cs:=#[.slice A0 l0.length c0,.int .i64 0,.int .u64 (IntKind.u64.wrap (9341 + (IntKind.u64.wrap ((l0.length : Int)))))]) (t:=85) ?hr ?_;(case hd=>rfl);(case hg=>rfl);(case hr=>first|(go_simp;done)|(go_simp;rfl));intro gb326 hg w2 hbox hb;replace HB:=Aside0.mk (below_step (beQ HB) hb);have BK326:=Aside0.mk (hbox);have GW326:=Aside0.mk ((by rw [hg];exact (below_size (beQ HBW)) : w.heap.size≤gb326));have GE326:=Aside0.mk ((Nat.le_trans HW0.out (by rw [hg];exact (below_size (beQ HBW)) : w.heap.size≤gb326) : w0.heap.size≤gb326));replace HBW:=Aside0.mk (below_step HBW.out hb);clear hb hbox hg))
 go_loopg [4] k (fun kq v4 w'=>∃ (x4_1 : Int) (x327002_1 : Int),v4 = .int .i64 x4_1∧Aside0 (spec_l01From.l0 kq l0 x4_1 l0 0 x327002_1 = some (r1,r2,r3))∧Aside0 (kq≤k)∧Aside0 (w'.heap[gb326]? = some (.cells #[(.slice A0 l0.length c0),.int .i64 0,.int .u64 x327002_1] 85 (0,0)))∧Aside0 (Below w0.heap.size w0 w')∧Aside0 (Below w.heap.size w w'))
 case atStart=>exact ⟨(0),(IntKind.u64.wrap (9341 + (IntKind.u64.wrap ((l0.length : Int))))),sz,H',⟨Nat.le_refl _⟩,⟨blkQ BK326⟩,⟨beQ HB⟩,⟨beQ HBW⟩⟩
 case round =>
  clear H'
  try clear p2
  obtain ⟨x4_1,x327002_1,rfl,HA,HK1,BK326,HB,HBW⟩:=hrel
  cases gk with
 |zero=>exact absurd HA.out (by simp [spec_l01From.l0])
 |succ k1 =>
   have H:=HA.out;clear HA
   simp only [spec_l01From.l0] at H
   by_cases c3 : x4_1 < (l0.length : Int)
   ·rw [if_pos c3] at H
    have c3b0 : decide (x4_1 < (l0.length : Int)) = true:=decide_eq_true c3
    clear c3
    by_cases c4 : x4_1 < 4096
    ·rw [if_pos c4] at H
     have c4b0 : decide (x4_1 < 4096) = true:=decide_eq_true c4
     clear c4
     by_cases c5 : 0≤x4_1
     ·rw [if_pos c5] at H
      have c5b0 : decide (0≤x4_1) = true:=decide_eq_true c5
      clear c5
      have H':=Aside0.mk H
      clear H
      try go_wp2
      replace BK326:=Aside0.mk (blk_drew BK326.out);replace HB:=Aside0.mk (below_drew1 HB.out)
      have p327 : 0≤(x4_1 : Int):=oQ
      have q327 : x4_1 < (l0.length : Int):=oQ
      obtain ⟨ad327,e327,hx327_0⟩:=Kd.at_int HR0.out x4_1 p327 q327;have hw327_0:=hx327_0;cases e327;replace hx327_0:=pw_cell_below HB.out hx327_0;replace p327:=eq_true p327;replace q327:=eq_true q327
      refine start_ (n:=16) (S:=fun w'=>w'.cell? ⟨gb326,0,none⟩ = some (.slice (some ad327) l0.length c0)∧w'.cell? ⟨gb326,1,none⟩ = some (.int .i64 0)∧w'.cell? ⟨gb326,2,none⟩ = some (.int .u64 x327002_1)∧w'.cell? (ad327.add (x4_1).toNat) = some (.int .u8 (rd l0 x4_1))) (ds:=[15]) #[fF,fF,fF,fF,fF,fF,fF,fF,fF,fF,fF,fF,fF,fF,fF,fF] (by kernel_rfl) rfl rfl ⟨bc BK326 0,bc BK326 1,bc BK326 2,((HB.out.cell (World.block_lt_of_cell? _ _ hw327_0)).trans hw327_0)⟩ (fun hHeld=>?_);refine with_tabW spec_l01From.tab5 spec_l01From.bits5 (fun HT_ HW_=>?_)
      replace HBW:=Aside0.mk (below_drew1 HBW.out)
      generalize wr.drew = w6 at BK326 HB hx327_0 HBW hHeld ⊢
      refine pure_ (i:=0) (N:=some 22) (v:=?_) (a':=?_) #[tT,fF,fF,fF,fF,fF,fF,fF,fF,fF,fF,fF,fF,fF,fF,fF] rfl rfl (any_of HT_.out (by kernel_rfl)) (fun _ _ _ h=>h) (Or.inl ⟨by rfl,?_⟩) ?_ ?_
      rotate_left
      ·intro w'
       go_simp
       with_reducible rfl
      rotate_left
      ·simp only [Act.put,s1,s2,s3,i64_w,i32_w]
       rfl
      refine pure_ (i:=1) (N:=some 23) (v:=?_) (a':=?_) #[tT,tT,fF,fF,fF,fF,fF,fF,fF,fF,fF,fF,fF,fF,fF,fF] rfl rfl (any_of HT_.out (by kernel_rfl)) (fun _ _ _ h=>h) (Or.inl ⟨by rfl,?_⟩) ?_ ?_
      rotate_left
      ·intro w'
       go_simp
       with_reducible rfl
      rotate_left
      ·simp only [Act.put,s1,s2,s3,i64_w,i32_w]
       rfl
      refine pure_ (i:=2) (N:=some 24) (v:=?_) (a':=?_) #[tT,tT,tT,fF,fF,fF,fF,fF,fF,fF,fF,fF,fF,fF,fF,fF] rfl rfl (any_of HT_.out (by kernel_rfl)) (fun _ _ _ h=>h) (Or.inl ⟨by rfl,?_⟩) ?_ ?_
      rotate_left
      ·intro w'
       go_simp
       with_reducible rfl
      rotate_left
      ·simp only [Act.put,s1,s2,s3,i64_w,i32_w]
       rfl
      refine pure_ (i:=3) (N:=some 25) (v:=?_) (a':=?_) #[tT,tT,tT,tT,fF,fF,fF,fF,fF,fF,fF,fF,fF,fF,fF,fF] rfl rfl (any_of HT_.out (by kernel_rfl)) (fun _ _ _ h=>h) (Or.inl ⟨by rfl,?_⟩) ?_ ?_
      rotate_left
      ·intro w'
       go_simp
       with_reducible rfl
      rotate_left
      ·simp only [Act.put,s1,s2,s3,i64_w,i32_w]
       rfl
      refine pure_ (i:=6) (N:=some 28) (v:=?_) (a':=?_) #[tT,tT,tT,tT,fF,fF,tT,fF,fF,fF,fF,fF,fF,fF,fF,fF] rfl rfl (any_of HT_.out (by kernel_rfl)) (fun _ _ _ h=>h) (Or.inl ⟨by rfl,?_⟩) ?_ ?_
      rotate_left
      ·intro w'
       go_simp
       with_reducible rfl
      rotate_left
      ·simp only [Act.put,s1,s2,s3,i64_w,i32_w]
       rfl
      refine pure_ (i:=7) (N:=some 29) (v:=?_) (a':=?_) #[tT,tT,tT,tT,fF,fF,tT,tT,fF,fF,fF,fF,fF,fF,fF,fF] rfl rfl (any_of HT_.out (by kernel_rfl)) (fun _ _ _ h=>h) (Or.inl ⟨by rfl,?_⟩) ?_ ?_
      rotate_left
      ·intro w'
       go_simp
       with_reducible rfl
      rotate_left
      ·simp only [Act.put,s1,s2,s3,i64_w,i32_w]
       rfl
      refine pure_ (i:=8) (N:=some 30) (v:=?_) (a':=?_) #[tT,tT,tT,tT,fF,fF,tT,tT,tT,fF,fF,fF,fF,fF,fF,fF] rfl rfl (any_of HT_.out (by kernel_rfl)) (fun _ _ _ h=>h) (Or.inl ⟨by rfl,?_⟩) ?_ ?_
      rotate_left
      ·intro w'
       go_simp
       with_reducible rfl
      rotate_left
      ·simp only [Act.put,s1,s2,s3,i64_w,i32_w]
       rfl
      refine take_ (i:=4) (N:=some 26) (v:=?_) (a':=?_) #[tT,tT,tT,tT,tT,fF,tT,tT,tT,fF,fF,fF,fF,fF,fF,fF] rfl rfl (take_ofW HT_.out HW_.out (by kernel_rfl)) (fun _ _ _ h=>h) (Or.inl ⟨by rfl,?_⟩) hHeld ?_ ?_
      rotate_left
      ·rintro w' ⟨s0,s1,s2,s3⟩
       go_simp
       with_reducible rfl
      rotate_left
      ·simp only [Act.put,s1,s2,s3,i64_w,i32_w]
       rfl
      refine pure_ (i:=5) (N:=some 27) (v:=?_) (a':=?_) #[tT,tT,tT,tT,tT,tT,tT,tT,tT,fF,fF,fF,fF,fF,fF,fF] rfl rfl (any_of HT_.out (by kernel_rfl)) (fun _ _ _ h=>h) (Or.inl ⟨by rfl,?_⟩) ?_ ?_
      rotate_left
      ·intro w'
       go_simp
       with_reducible rfl
      rotate_left
      ·simp only [Act.put,s1,s2,s3,i64_w,i32_w]
       rfl
      refine take_ (i:=9) (N:=some 31) (v:=?_) (a':=?_) #[tT,tT,tT,tT,tT,tT,tT,tT,tT,tT,fF,fF,fF,fF,fF,fF] rfl rfl (take_ofW HT_.out HW_.out (by kernel_rfl)) (fun _ _ _ h=>h) (Or.inl ⟨by rfl,?_⟩) hHeld ?_ ?_
      rotate_left
      ·rintro w' ⟨s0,s1,s2,s3⟩
       go_simp
       with_reducible rfl
      rotate_left
      ·simp only [Act.put,s1,s2,s3,i64_w,i32_w]
       rfl
      refine pure_ (i:=10) (N:=some 32) (v:=?_) (a':=?_) #[tT,tT,tT,tT,tT,tT,tT,tT,tT,tT,tT,fF,fF,fF,fF,fF] rfl rfl (any_of HT_.out (by kernel_rfl)) (fun _ _ _ h=>h) (Or.inl ⟨by rfl,?_⟩) ?_ ?_
      rotate_left
      ·intro w'
       go_simp
       with_reducible rfl
      rotate_left
      ·simp only [Act.put,s1,s2,s3,i64_w,i32_w]
       rfl
      refine pure_ (i:=11) (N:=some 33) (v:=?_) (a':=?_) #[tT,tT,tT,tT,tT,tT,tT,tT,tT,tT,tT,tT,fF,fF,fF,fF] rfl rfl (any_of HT_.out (by kernel_rfl)) (fun _ _ _ h=>h) (Or.inl ⟨by rfl,?_⟩) ?_ ?_
      rotate_left
      ·intro w'
       go_simp
       with_reducible rfl
      rotate_left
      ·simp only [Act.put,s1,s2,s3,i64_w,i32_w]
       rfl
      refine pure_ (i:=12) (N:=some 34) (v:=?_) (a':=?_) #[tT,tT,tT,tT,tT,tT,tT,tT,tT,tT,tT,tT,tT,fF,fF,fF] rfl rfl (any_of HT_.out (by kernel_rfl)) (fun _ _ _ h=>h) (Or.inl ⟨by rfl,?_⟩) ?_ ?_
      rotate_left
      ·intro w'
       go_simp
       with_reducible rfl
      rotate_left
      ·simp only [Act.put,s1,s2,s3,i64_w,i32_w]
       rfl
      refine pure_ (i:=13) (N:=some 35) (v:=?_) (a':=?_) #[tT,tT,tT,tT,tT,tT,tT,tT,tT,tT,tT,tT,tT,tT,fF,fF] rfl rfl (any_of HT_.out (by kernel_rfl)) (fun _ _ _ h=>h) (Or.inl ⟨by rfl,?_⟩) ?_ ?_
      rotate_left
      ·intro w'
       go_simp
       with_reducible rfl
      rotate_left
      ·simp only [Act.put,s1,s2,s3,i64_w,i32_w]
       rfl
      refine pure_ (i:=14) (N:=some 36) (v:=?_) (a':=?_) #[tT,tT,tT,tT,tT,tT,tT,tT,tT,tT,tT,tT,tT,tT,tT,fF] rfl rfl (any_of HT_.out (by kernel_rfl)) (fun _ _ _ h=>h) (Or.inl ⟨by rfl,?_⟩) ?_ ?_
      rotate_left
      ·intro w'
       go_simp
       with_reducible rfl
      rotate_left
      ·simp only [Act.put,s1,s2,s3,i64_w,i32_w]
       rfl
      refine last_ (i:=15) (N:=none) #[tT,tT,tT,tT,tT,tT,tT,tT,tT,tT,tT,tT,tT,tT,tT,tT] rfl rfl (one_of HT_.out (by kernel_rfl)) (by decide) (fun K hK=>?_)
      have hs7 : w6.cell? ⟨gb326,2,none⟩ = some (.int .u64 x327002_1):=bc BK326 2
      have hfs7:=blk_frozen BK326.out 2
      refine skip_ (w1:=?_) (by rfl) rfl ?_ ?_
      rotate_left
      ·go_simp
       rfl
      refine hK.out _ _ ?_
      clear hK K
      refine done_ (done_of HT_.out (by kernel_rfl)) ?_
      try go_wp2
      go_roundg k1
      case measure=>have:=HK1.out;omega
      case rel=>exact ⟨(wrap64 (x4_1 + 1)),(IntKind.u64.wrap ((IntKind.u64.wrap ((IntKind.u64.wrap (x327002_1 * 1099511628211)) + (IntKind.u64.wrap (rd l0 x4_1)))) + 11)),sz,H',⟨by have:=HK1.out;omega⟩,⟨by (with_reducible repeat (first|refine blk_drewN ?_ _|refine blk_drew ?_|refine blk_alloc ?_ _));refine blk_put (cs:=#[.slice (some ad327) l0.length c0,.int .i64 0,.int .u64 x327002_1]) ?_ 2 _ rfl;(with_reducible repeat (first|refine blk_drewN ?_ _|refine blk_drew ?_|refine blk_alloc ?_ _));exact BK326.out⟩,⟨beQ HB⟩,⟨beQ HBW⟩⟩
     ·rw [if_neg c5] at H
      exact absurd H (by simp)
    ·rw [if_neg c4] at H
     have c4b0 : decide (x4_1 < 4096) = false:=decide_eq_false c4
     clear c4
     simp only [Option.some.injEq,Prod.mk.injEq] at H
     obtain ⟨rfl,rfl,rfl⟩:=H
     go_wp2
     go_ret
     exact ⟨_,rfl,(show IsS85 w0 _ gb326 l0 0 x327002_1 from ⟨_,_,blkQ BK326,GE326.out,HR0.out⟩),beQ HB,beQ HBW,GW326.out⟩
   ·rw [if_neg c3] at H
    have c3b0 : decide (x4_1 < (l0.length : Int)) = false:=decide_eq_false c3
    clear c3
    simp only [Option.some.injEq,Prod.mk.injEq] at H
    obtain ⟨rfl,rfl,rfl⟩:=H
    go_wp2
    go_ret
    exact ⟨_,rfl,(show IsS85 w0 _ gb326 l0 0 x327002_1 from ⟨_,_,blkQ BK326,GE326.out,HR0.out⟩),beQ HB,beQ HBW,GW326.out⟩
def spec_l02Free.l0 : Nat→Int→Int→Int→List Int→Option (Int×List Int)
|0,_,_,_,_=>none
|k + 1,x0,x4,x333000,x333001=>if x4 < x0 then ((spec_l01One.f x4).bind fun t333=>(if x333001.length < 17592186044416 then (spec_l02Free.l0 k x0 (wrap64 (x4 + 1)) x333000 (x333001 ++ [t333])) else (none))) else (some (x333000,x333001))
def spec_l02Free.f (k : Nat) (a0 : Int) : Option (Int×List Int):=spec_l02Free.l0 k a0 0 a0 (([] : List Int))
def spec_l02Free.T5 : Bool×List (List Nat×List Nat):=(true,[([],[]),([0],[0]),([],[]),([2],[2]),([3],[3]),([1,4,3],[1,4]),([0,1,2,3,4,5],[]),([6,5,5,0,1,2,3,4,5],[5,6])])
def spec_l02Free.B5 : List Nat:=[0,1,0,4,12,31,63,127]
theorem spec_l02Free.tab5 : rtab .any (opsOf Tryd.f88 5) = spec_l02Free.T5:=by kernel_rfl
theorem spec_l02Free.bits5 : waitsOk spec_l02Free.T5.2 spec_l02Free.B5 = true:=by kernel_rfl
set_option maxHeartbeats 8000000 in
set_option maxRecDepth 100000 in
theorem spec_l02Free.calls (k : Nat) (a0 : Int) (r1 : Int) (r2 : List Int) (w : World) (h : spec_l02Free.f k a0 = some (r1,r2)) :
  Calls Tryd.prog 88 #[.int .i64 a0] w fun e w'=>∃ v1_ : Value,e = .returned (.agg #[.int .i64 r1,v1_])∧Kd.R (Kd.int .i64) 2 w' w.heap.size (fun _=>True) v1_ r2∧Below w.heap.size w w':=by
 have hu30:=Tryd.underlying30;have HB:=Aside0.mk (Below.refl w.heap.size w)
 have H : (spec_l02Free.l0 k a0 0 a0 (([] : List Int))) = some (r1,r2):=h
 clear h
 obtain ⟨y329,hy329⟩ : ∃ y_ : List Int,y_ = (([] : List Int)):=⟨_,rfl⟩
 replace H : (spec_l02Free.l0 k a0 0 a0 y329) = some (r1,r2):=by first|(rw [hy329];exact H)|exact H
 have Ny329:=Aside0.mk hy329;clear hy329
 have H':=Aside0.mk H
 clear H
 go_enter Tryd.func88,Tryd.ntmps88
 go_wp2_with (first|((with_reducible refine gate_dst (N:=2) rfl ?_);refine box_event ?hg (N:=2) ?hd (cs:=#[.int .i64 0,.slice none 0 0]) (t:=30) ?hr ?_;(case hd=>rfl);(case hg=>rfl);(case hr=>first|(go_simp;done)|(go_simp;rfl));intro gb328 hg w2 hbox hb;have BK328:=Aside0.mk (hbox);have GW328:=Aside0.mk ((by rw [hg];exact (below_size (beQ HB)) : w.heap.size≤gb328));have GE328:=Aside0.mk ((by rw [hg];exact (below_size (beQ HB)) : w.heap.size≤gb328));replace HB:=Aside0.mk (below_step (beQ HB) hb);clear hb hbox hg)|((with_reducible refine gate_dst (N:=6) rfl ?_);refine Kd.R_lit (Kd.int .i64) _ 2 ?hg (N:=6) ?hd (xs:=([] : List Int)) (inner:=[]) (ok:=fun _=>True) (okp:=fun _=>True) ?hr ?hp (fun _ hk=>hk) trivial (Below.refl _ _) (Nat.le_refl _) (by simp) ?_;(case hd=>rfl);(case hg=>rfl);(case hr=>first|(go_simp;done)|(go_simp;rfl));(case hp=>exact (Reps.none _ _));intro v330 w3 ho4 hb hg_ hnew_;clear hg_ hnew_;(first|rw [← Ny329.out] at ho4|(simp only [Int.reduceToNat] at ho4;rw [← Ny329.out] at ho4));have HO331:=Aside0.mk (Kd.R_lower ho4 (below_size (beQ HB)));replace BK328:=bb BK328 hb;replace HB:=Aside0.mk (below_step (beQ HB) hb);clear hb ho4;obtain ⟨Ao5,co5,eo5⟩:=Kd.R_slice HO331.out;subst eo5)|((with_reducible refine gate_dst (N:=3) rfl ?_);refine box_event ?hg (N:=3) ?hd (cs:=#[.int .i64 0,.slice none 0 0]) (t:=30) ?hr ?_;(case hd=>rfl);(case hg=>rfl);(case hr=>first|(go_simp;done)|(go_simp;rfl));intro gb332 hg w6 hbox hb;replace HO331:=kb HO331 hb;have BK332:=Aside0.mk (hbox);have GW332:=Aside0.mk ((by rw [hg];exact (below_size (beQ HB)) : w.heap.size≤gb332));have GE332:=Aside0.mk ((by rw [hg];exact (below_size (beQ HB)) : w.heap.size≤gb332));replace HB:=Aside0.mk (below_step (beQ HB) hb);have NB328_332:=Aside0.mk ((by rw [hg];exact Nat.ne_of_lt (blk_lt (blkQ BK328)) : gb328 ≠ gb332));have NB332_328:=Aside0.mk ((by rw [hg];exact Nat.ne_of_gt (blk_lt (blkQ BK328)) : gb332 ≠ gb328));replace BK328:=bb BK328 hb;clear hb hbox hg;have hnb7:=NB332_328.out;have hnc7:=NB328_332.out;have hcz8_0 : w6.cell? ⟨gb332,0,none⟩ = some (.int .i64 0):=bc BK332 0;have hcz8_1 : w6.cell? ⟨gb332,1,none⟩ = some (.slice none 0 0):=bc BK332 1;have hfz8_0:=blk_frozen BK332.out 0;have hfz8_1:=blk_frozen BK332.out 1))
 go_loopg [4] k (fun kq v4 w'=>∃ (x4_1 : Int) (x333001_1 : List Int) (u333001 : Value),v4 = .int .i64 x4_1∧Aside0 (spec_l02Free.l0 kq a0 x4_1 a0 x333001_1 = some (r1,r2))∧Aside0 (kq≤k)∧Aside0 (Kd.R (Kd.int .i64) 2 w' w.heap.size (fun _=>True) u333001 x333001_1)∧Aside0 (w'.heap[gb328]? = some (.cells #[.int .i64 0,(.slice none 0 0)] 30 (0,0)))∧Aside0 (w'.heap[gb332]? = some (.cells #[.int .i64 a0,u333001] 30 (0,0)))∧Aside0 (Below w.heap.size w w'))
 case atStart=>exact ⟨(0),(y329),(.slice Ao5 y329.length co5),sz,H',⟨Nat.le_refl _⟩,⟨by (with_reducible repeat (first|apply Kd.R_alloc|apply Kd.R_drewN|apply Kd.R_drew));exact Kd.R_mono (Kd.R_far (p:=⟨gb332,1,none⟩) (Kd.R_far (p:=⟨gb332,0,none⟩) (Kd.R_types HO331.out BK332.out (by decide)) (fun _ hk=>hk.2) (.int .i64 a0)) (fun _ hk=>hk.2) (.slice Ao5 y329.length co5)) (fun _ hk=>trivial)⟩,⟨blkF BK328⟩,⟨by (with_reducible repeat (first|refine blk_drewN ?_ _|refine blk_drew ?_|refine blk_alloc ?_ _));refine blk_put (cs:=#[.int .i64 a0,.slice none 0 0]) ?_ 1 _ rfl;(with_reducible repeat (first|refine blk_drewN ?_ _|refine blk_drew ?_|refine blk_alloc ?_ _));refine blk_put (cs:=#[.int .i64 0,.slice none 0 0]) ?_ 0 _ rfl;(with_reducible repeat (first|refine blk_drewN ?_ _|refine blk_drew ?_|refine blk_alloc ?_ _));exact BK332.out⟩,⟨beQ HB⟩⟩
 case round =>
  clear H'
  repeat (first|clear p2|clear c7|clear c8|clear hcz8_0|clear hcz8_1|clear hfz8_0|clear hfz8_1)
  obtain ⟨x4_1,x333001_1,u333001,rfl,HA,HK1,HO_333001,BK328,BK332,HB⟩:=hrel
  cases gk with
 |zero=>exact absurd HA.out (by simp [spec_l02Free.l0])
 |succ k1 =>
   have H:=HA.out;clear HA
   simp only [spec_l02Free.l0] at H
   by_cases c9 : x4_1 < a0
   ·rw [if_pos c9] at H
    have c9b0 : decide (x4_1 < a0) = true:=decide_eq_true c9
    clear c9;replace H:=Option.bind_eq_some_iff.mp H;obtain ⟨t333,A100,H⟩:=H
    try dsimp only at H
    have A10:=Aside0.mk A100;clear A100
    by_cases c11 : x333001_1.length < 17592186044416
    ·rw [if_pos c11] at H
     have LMc11:=Aside0.mk c11;clear c11
     obtain ⟨y334,hy334⟩ : ∃ y_ : List Int,y_ = (x333001_1 ++ [t333]):=⟨_,rfl⟩
     replace H : (spec_l02Free.l0 k1 a0 (wrap64 (x4_1 + 1)) a0 y334) = some (r1,r2):=by first|(rw [hy334];exact H)|exact H
     have Ny334:=Aside0.mk hy334;clear hy334
     have H':=Aside0.mk H
     clear H
     try go_wp2
     replace HO_333001:=Aside0.mk (Kd.R_drew HO_333001.out);replace BK328:=Aside0.mk (blk_drew BK328.out);replace BK332:=Aside0.mk (blk_drew BK332.out);replace HB:=Aside0.mk (below_drew1 HB.out)
     refine start_ (n:=8) (S:=fun w'=>w'.cell? ⟨gb332,0,none⟩ = some (.int .i64 a0)∧w'.cell? ⟨gb332,1,none⟩ = some (u333001)) (ds:=[7]) #[fF,fF,fF,fF,fF,fF,fF,fF] (by kernel_rfl) rfl rfl ⟨bc BK332 0,bc BK332 1⟩ (fun hHeld=>?_);refine with_tabW spec_l02Free.tab5 spec_l02Free.bits5 (fun HT_ HW_=>?_)
     generalize wr.drew = w12 at HO_333001 BK328 BK332 HB hHeld ⊢
     refine pure_ (i:=0) (N:=some 13) (v:=?_) (a':=?_) #[tT,fF,fF,fF,fF,fF,fF,fF] rfl rfl (any_of HT_.out (by kernel_rfl)) (fun _ _ _ h=>h) (Or.inl ⟨by rfl,?_⟩) ?_ ?_
     rotate_left
     ·intro w'
      go_simp
      with_reducible rfl
     rotate_left
     ·simp only [Act.put,s1,s2,s3,i64_w,i32_w]
      rfl
     refine pure_ (i:=2) (N:=some 15) (v:=?_) (a':=?_) #[tT,fF,tT,fF,fF,fF,fF,fF] rfl rfl (any_of HT_.out (by kernel_rfl)) (fun _ _ _ h=>h) (Or.inl ⟨by rfl,?_⟩) ?_ ?_
     rotate_left
     ·intro w'
      go_simp
      with_reducible rfl
     rotate_left
     ·simp only [Act.put,s1,s2,s3,i64_w,i32_w]
      rfl
     refine take_ (i:=1) (N:=some 14) (v:=?_) (a':=?_) #[tT,tT,tT,fF,fF,fF,fF,fF] rfl rfl (take_ofW HT_.out HW_.out (by kernel_rfl)) (fun _ _ _ h=>h) (Or.inl ⟨by rfl,?_⟩) hHeld ?_ ?_
     rotate_left
     ·rintro w' ⟨s0,s1⟩
      go_simp
      with_reducible rfl
     rotate_left
     ·simp only [Act.put,s1,s2,s3,i64_w,i32_w]
      rfl
     refine one_ (i:=3) (N:=some 16) #[tT,tT,tT,tT,fF,fF,fF,fF] rfl rfl (one_of HT_.out (by kernel_rfl)) (by decide) (fun K hK=>?_)
     refine goes_ Tryd.func64 (by kernel_rfl) rfl #[.int .i64 x4_1] (by rfl) rfl rfl lz ?_
     with_reducible refine (spec_l01One.calls x4_1 t333 _ A10.out).mono ?_
     rintro e w' ⟨rfl,⟨nd,rfl⟩⟩
     refine ⟨_,rfl,?_⟩
     refine hK.out _ _ ⟨bc BK332 0,bc BK332 1⟩ (fun hHeld=>?_)
     clear hK K
     refine norm_ (a':=?_) ?_ ?_
     rotate_left
     ·show Act.put _ (some 16) _ = _
      simp only [Act.put,s1,s2,s3,i64_w,i32_w]
      rfl
     refine one_ (i:=4) (N:=some 17) #[tT,tT,tT,tT,tT,fF,fF,fF] rfl rfl (one_of HT_.out (by kernel_rfl)) (by decide) (fun K hK=>?_)
     refine value_ (w1:=?_) (v:=?_) (by rfl) rfl ?_ ?_
     rotate_left 2
     ·go_simp
      constructor
      ·rfl
      ·rfl
     refine hK.out _ _ ⟨(blk_cell (blk_alloc BK332.out _) 0).trans rfl,(blk_cell (blk_alloc BK332.out _) 1).trans rfl⟩ (fun hHeld=>?_)
     clear hK K
     refine norm_ (a':=?_) ?_ ?_
     rotate_left
     ·show Act.put _ (some 17) _ = _
      simp only [Act.put,s1,s2,s3,i64_w,i32_w]
      rfl
     refine one_ (i:=5) (N:=some 18) #[tT,tT,tT,tT,tT,tT,fF,fF] rfl rfl (one_of HT_.out (by kernel_rfl)) (by decide) (fun K hK=>?_)
     refine Kd.R_append_step (Kd.int .i64) (w0:=w) w.heap.size (by rfl) (.tmp 14) (.tmp 17) 22 2 (.int .i64 0) 8 rfl Tryd.underlying22 info2 rfl (by decide) (by omega) u333001 x333001_1 t333 [.int .i64 t333] (fun _=>True) (fun _=>False) rfl rfl ?aP (fun _ hk=>hk.elim) ?aF ?aO ?aB ?aS ?aL ?_
     (case aP=>exact rfl)
     (case aB=>exact (beQ HB))
     (case aF=>exact (fun _ _=>trivial))
     (case aO=>exact (kdQ HO_333001))
     (case aS=>exact (below_size (beQ HB)))
     (case aL=>have:=LMc11.out;omega)
     intro v335 w13 ho hb hg hat
     rw [← Ny334.out] at ho
     have n0_:=Aside0.mk (blk_grown (g:=gb328) (o:=.cells #[.int .i64 0,.slice none 0 0] 30 (0,0)) (blkQ BK328) hg (Kd.R_ne HO_333001.out BK328.out (by decide)))
     have n1_:=Aside0.mk (blk_grown (g:=gb332) (o:=.cells #[.int .i64 a0,u333001] 30 (0,0)) (blkQ BK332) hg (Kd.R_ne HO_333001.out BK332.out (by decide)))
     have n2_:=Aside0.mk (hb);have n3_:=Aside0.mk (ho);clear BK328;clear BK332;clear HB;clear HO_333001;have BK328:=n0_;have BK332:=n1_;have HB:=n2_;have HO336:=n3_;clear n0_ n1_ n2_ n3_;clear ho hb hg hat;obtain ⟨Ao14,co14,eo14⟩:=Kd.R_slice HO336.out
     (first|subst eo14|(injection eo14 with f1_ f2_ f3_;have f4_:=f1_.symm;have f5_:=f3_.symm;clear f1_ f2_ f3_;subst f4_;subst f5_))
     refine hK.out _ _ ⟨bc BK332 0,bc BK332 1⟩ (fun hHeld=>?_)
     clear hK K
     refine norm_ (a':=?_) ?_ ?_
     rotate_left
     ·show Act.put _ (some 18) _ = _
      simp only [Act.put,s1,s2,s3,i64_w,i32_w]
      rfl
     refine pure_ (i:=6) (N:=some 19) (v:=?_) (a':=?_) #[tT,tT,tT,tT,tT,tT,tT,fF] rfl rfl (any_of HT_.out (by kernel_rfl)) (fun _ _ _ h=>h) (Or.inl ⟨by rfl,?_⟩) ?_ ?_
     rotate_left
     ·intro w'
      go_simp
      with_reducible rfl
     rotate_left
     ·simp only [Act.put,s1,s2,s3,i64_w,i32_w]
      rfl
     refine last_ (i:=7) (N:=none) #[tT,tT,tT,tT,tT,tT,tT,tT] rfl rfl (one_of HT_.out (by kernel_rfl)) (by decide) (fun K hK=>?_)
     have hs15 : w13.cell? ⟨gb332,1,none⟩ = some (u333001):=bc BK332 1
     have hfs15:=blk_frozen BK332.out 1;have hns15_0:=NB328_332.out;have hms15_0:=NB332_328.out
     refine skip_ (w1:=?_) (by rfl) rfl ?_ ?_
     rotate_left
     ·go_simp
      rfl
     refine hK.out _ _ ?_
     clear hK K
     refine done_ (done_of HT_.out (by kernel_rfl)) ?_
     try go_wp2
     go_roundg k1
     case measure=>have:=HK1.out;omega
     case rel=>exact ⟨(wrap64 (x4_1 + 1)),(y334),(.slice Ao14 y334.length co14),sz,H',⟨by have:=HK1.out;omega⟩,⟨by (with_reducible repeat (first|apply Kd.R_alloc|apply Kd.R_drewN|apply Kd.R_drew));exact Kd.R_mono (Kd.R_far (p:=⟨gb332,1,none⟩) (Kd.R_types HO336.out BK332.out (by decide)) (fun _ hk=>hk.2) (.slice Ao14 y334.length co14)) (fun _ hk=>trivial)⟩,⟨blkF BK328⟩,⟨by (with_reducible repeat (first|refine blk_drewN ?_ _|refine blk_drew ?_|refine blk_alloc ?_ _));refine blk_put (cs:=#[.int .i64 a0,u333001]) ?_ 1 _ rfl;(with_reducible repeat (first|refine blk_drewN ?_ _|refine blk_drew ?_|refine blk_alloc ?_ _));exact BK332.out⟩,⟨beQ HB⟩⟩
    ·rw [if_neg c11] at H
     exact absurd H (by simp)
   ·rw [if_neg c9] at H
    have c9b0 : decide (x4_1 < a0) = false:=decide_eq_false c9
    clear c9
    simp only [Option.some.injEq,Prod.mk.injEq] at H
    obtain ⟨rfl,rfl⟩:=H;have hnb16:=NB332_328.out;have hnc16:=NB328_332.out
    have hcz17_0 : wr.cell? ⟨gb332,0,none⟩ = some (.int .i64 a0):=bc BK332 0
    have hcz17_1 : wr.cell? ⟨gb332,1,none⟩ = some (u333001):=bc BK332 1
    have hfz17_0:=blk_frozen BK332.out 0;have hfz17_1:=blk_frozen BK332.out 1
    have hcz18_0 : wr.cell? ⟨gb328,0,none⟩ = some (.int .i64 0):=bc BK328 0
    have hcz18_1 : wr.cell? ⟨gb328,1,none⟩ = some (.slice none 0 0):=bc BK328 1
    have hfz18_0:=blk_frozen BK328.out 0;have hfz18_1:=blk_frozen BK328.out 1;obtain ⟨Ao19,co19,eo19⟩:=Kd.R_slice HO_333001.out;subst eo19
    go_wp2
    refine bodyPost_ret (results_cell_row rfl _ _ gb328 30 #[.int .i64 a0,.slice Ao19 x333001_1.length co19] (0,0) _ rfl (by (with_reducible repeat (first|refine blk_drewN ?_ _|refine blk_drew ?_|refine blk_alloc ?_ _));refine blk_put (cs:=#[.int .i64 a0,.slice none 0 0]) ?_ 1 _ rfl;(with_reducible repeat (first|refine blk_drewN ?_ _|refine blk_drew ?_|refine blk_alloc ?_ _));refine blk_put (cs:=#[.int .i64 0,.slice none 0 0]) ?_ 0 _ rfl;(with_reducible repeat (first|refine blk_drewN ?_ _|refine blk_drew ?_|refine blk_alloc ?_ _));exact BK328.out) Tryd.underlying30 rfl (by kernel_rfl)) rfl ?_
    exact ⟨_,rz,by (with_reducible repeat (first|apply Kd.R_alloc|apply Kd.R_drewN|apply Kd.R_drew));exact Kd.R_mono (Kd.R_far (p:=⟨gb328,1,none⟩) (Kd.R_far (p:=⟨gb328,0,none⟩) (Kd.R_types HO_333001.out BK328.out (by decide)) (fun _ hk=>hk.2) (.int .i64 a0)) (fun _ hk=>hk.2) (.slice Ao19 x333001_1.length co19)) (fun _ hk=>trivial),beQ HB⟩
def spec_l01Pick.f (s0_0 : List Int) (s0_1 : Int) (s0_2 : Int) (l1 : List Int) : Option (Int×Int×Int):=(spec_l01Next.f s0_0 s0_1 s0_2 (l1.length : Int)).bind fun bt337=>(if 0≤bt337.1 then (if bt337.1 < (l1.length : Int) then (some (rd l1 bt337.1,bt337.2.1,bt337.2.2)) else (none)) else (none))
set_option maxHeartbeats 8000000 in
set_option maxRecDepth 100000 in
theorem spec_l01Pick.calls (g : Nat) (s0_0 : List Int) (s0_1 : Int) (s0_2 : Int) (A1 : Option Addr) (c1 : Nat) (l1 : List Int) (r1 : Int) (r2 : Int) (r3 : Int) (w0 w : World) (hI : IsS85 w0 w g s0_0 s0_1 s0_2) (hB : Below w0.heap.size w0 w) (hr1 : Kd.C (Kd.int .i64) w A1 l1.length l1) (hc1 : l1.length≤c1) (hf1 : ∀ ad,A1 = some ad→0 < l1.length→ad.block ≠ g) (h : spec_l01Pick.f s0_0 s0_1 s0_2 l1 = some (r1,r2,r3)) :
  Calls Tryd.prog 89 #[.pointer (some ⟨g,0,none⟩),.slice A1 l1.length c1] w fun e w'=>e = .returned (.int .i64 r1)∧IsS85 w0 w' g s0_0 r2 r3∧Below w0.heap.size w0 w'∧KeepBut w w' g none:=by
 have HR1:=Aside0.mk hr1;have HC1:=Aside0.mk hc1;clear hr1 hc1;have HI0:=Aside0.mk hI;have HK:=Aside0.mk (KeepBut.refl w g none);have HL:=Aside0.mk hB.size;clear hI;have HW0:=Aside0.mk hB.size;have HB:=Aside0.mk hB;clear hB
 have H : ((spec_l01Next.f s0_0 s0_1 s0_2 (l1.length : Int)).bind fun bt337=>(if 0≤bt337.1 then (if bt337.1 < (l1.length : Int) then (some (rd l1 bt337.1,bt337.2.1,bt337.2.2)) else (none)) else (none))) = some (r1,r2,r3):=h
 clear h;replace H:=Option.bind_eq_some_iff.mp H
 obtain ⟨⟨t337,t338,t339⟩,A30,H⟩:=H
 try dsimp only at H
 have A3:=Aside0.mk A30;clear A30
 by_cases c4 : 0≤t337
 ·rw [if_pos c4] at H
  have c4b0 : decide (0≤t337) = true:=decide_eq_true c4
  clear c4
  by_cases c5 : t337 < (l1.length : Int)
  ·rw [if_pos c5] at H
   have c5b0 : decide (t337 < (l1.length : Int)) = true:=decide_eq_true c5
   clear c5
   simp only [Option.some.injEq,Prod.mk.injEq] at H
   obtain ⟨rfl,rfl,rfl⟩:=H
   go_enter Tryd.func89,Tryd.ntmps89
   go_wp2_with (first|((with_reducible refine gate_callee (f:=58) rfl ?_);refine goesL_ (some 9) rfl rfl Tryd.func58 (by kernel_rfl) rfl #[.pointer (some ⟨g,0,none⟩),.int .i64 (l1.length : Int)] rfl lz ?_;(with_reducible refine (spec_l01Next.calls g s0_0 s0_1 s0_2 (l1.length : Int) t337 t338 t339 w0 _ ?side1 ?side2 A3.out).mono ?_);(case side1=>exact zQ02ax0);(case side2=>exact zQ02ax1);rintro e w6 ⟨rfl,hi,hb,hk⟩;refine ⟨_,rfl,?_⟩;replace HK:=Aside0.mk (KeepBut.trans (zQ02ax2) hk (.inl rfl));replace HB:=Aside0.mk (hb);replace HI0:=Aside0.mk (hi);(repeat (first|clear hb|clear hb2|clear hk|clear hi|clear hgw_));have p340 : 0≤(t337 : Int):=oQ;have q340 : t337 < (l1.length : Int):=oQ;obtain ⟨ad340,e340,hx340_0⟩:=Kd.at_int HR1.out t337 p340 q340;cases e340;replace hx340_0:=keep_cell HK.out hx340_0 (by first|(rw [add_block];exact hf1 _ rfl (by omega))|exact hf1 _ rfl (by omega)|exact hf1 ad340 rfl (by omega));replace p340:=eq_true p340;replace q340:=eq_true q340))
   go_ret
   exact ⟨rz,zQ02ax0,zQ02ax1,zQ02ax2⟩
  ·rw [if_neg c5] at H
   exact absurd H (by simp)
 ·rw [if_neg c4] at H
  exact absurd H (by simp)
end Go.Proofs.YtpgfmpmppnmmcaaDoor.G
