-- A copy, with what one law needs, of a text that print.sh or a program of ours wrote
import Derived.Test.YtjfdhkobaiplpaaDoorZ2G0
import Derived.Test.YtjfdhkobaiplpaaDoorZ2GQ01e
namespace Go.Proofs.YtjfdhkobaiplpaaDoor.G
open Go.RowKit Go.Proofs.YtjfdhkobaiplpaaDoorW.PrintWords Go.Proofs.YtjfdhkobaiplpaaDoorW.PrintLast Go.Proofs.YtjfdhkobaiplpaaDoorW.PrintMore
theorem zQ02fx0 {p : Prop} (h : p:=by repeat (first|(with_reducible first|exact HI0.out|apply IsS59.alloc|apply IsS59.drewN|apply IsS59.drew|apply IsS59.set_1|apply IsS59.set_2)|exact HI0.out)) : p:=h
theorem zQ02fx1 {p : Prop} (h : p:=by repeat (first|(with_reducible first|exact HB.out|apply below_alloc|apply pw_below_drewN|apply below_drew1|refine below_set ?_ (IsS59.ge HI0.out))|exact HB.out)) : p:=h
theorem zQ02fx2 {p : Prop} (h : p:=by repeat (first|(with_reducible first|exact HK.out|apply KeepBut.set_|apply keep_drewN|apply keep_drew|apply keep_alloc)|exact HK.out)) : p:=h
attribute [local go_sem] max2_int min2_int max_two min_two max_three min_three max_four min_four   -- for this text's walks alone
set_option linter.unusedVariables false
set_option linter.unusedSimpArgs false
def IsS59 (w0 W : World) (g : Nat) (f0 : List Int) (f1 : Int) (f2 : Int) : Prop:=∃ A0 c0,W.heap[g]? = some (.cells #[.slice A0 f0.length c0,.int .i64 f1,.int .u64 f2] 59 (0,0))∧w0.heap.size≤g∧Kd.C (Kd.int .u8) w0 A0 f0.length f0
theorem IsS59.grown {w0 W : World} {g : Nat} {f0 : List Int} {f1 : Int} {f2 : Int} {W1 : World} {row : Option Nat} (h : IsS59 w0 W g f0 f1 f2) (hw : W.grownBy W1 row) (hne : some g ≠ row) : IsS59 w0 W1 g f0 f1 f2:=by
 obtain ⟨A0,c0,hb,hg,hr0⟩:=h
 exact ⟨A0,c0,blk_grown hb hw hne,hg,hr0⟩
theorem IsS59.below {w0 W : World} {g : Nat} {f0 : List Int} {f1 : Int} {f2 : Int} {W1 : World} (h : IsS59 w0 W g f0 f1 f2) (hw : Below W.heap.size W W1) : IsS59 w0 W1 g f0 f1 f2:=h.grown (grown_of_below hw none) (by simp)
theorem IsS59.drewN {w0 W : World} {g : Nat} {f0 : List Int} {f1 : Int} {f2 : Int} (h : IsS59 w0 W g f0 f1 f2) (m : Nat) : IsS59 w0 (W.drewN m) g f0 f1 f2:=h
theorem IsS59.drew {w0 W : World} {g : Nat} {f0 : List Int} {f1 : Int} {f2 : Int} (h : IsS59 w0 W g f0 f1 f2) : IsS59 w0 W.drew g f0 f1 f2:=h
theorem IsS59.lt {w0 W : World} {g : Nat} {f0 : List Int} {f1 : Int} {f2 : Int} (h : IsS59 w0 W g f0 f1 f2) : g < W.heap.size:=by
 obtain ⟨A0,c0,hb,hg,hr0⟩:=h
 exact blk_lt hb
theorem IsS59.ge {w0 W : World} {g : Nat} {f0 : List Int} {f1 : Int} {f2 : Int} (h : IsS59 w0 W g f0 f1 f2) : w0.heap.size≤g:=by
 obtain ⟨A0,c0,hb,hg,hr0⟩:=h
 exact hg
theorem cellS59_0 {W : World} {g : Nat} {A0 : Option Addr} {c0 : Nat} {f0 : List Int} {f1 : Int} {f2 : Int} (h : W.heap[g]? = some (.cells #[.slice A0 f0.length c0,.int .i64 f1,.int .u64 f2] 59 (0,0))) : W.cell? ⟨g,0,none⟩ = some (.slice A0 f0.length c0):=(blk_cell h 0).trans rfl
theorem cellS59_1 {W : World} {g : Nat} {A0 : Option Addr} {c0 : Nat} {f0 : List Int} {f1 : Int} {f2 : Int} (h : W.heap[g]? = some (.cells #[.slice A0 f0.length c0,.int .i64 f1,.int .u64 f2] 59 (0,0))) : W.cell? ⟨g,1,none⟩ = some (.int .i64 f1):=(blk_cell h 1).trans rfl
theorem IsS59.set_1 {w0 W : World} {g : Nat} {f0 : List Int} {f1 : Int} {f2 : Int} (h : IsS59 w0 W g f0 f1 f2) (x : Int) : IsS59 w0 (W.setCell ⟨g,1,none⟩ (.int .i64 x)) g f0 x f2:=by
 obtain ⟨A0,c0,hb,hg,hr0⟩:=h
 exact ⟨A0,c0,by simpa using blk_set hb 1 (.int .i64 x),hg,hr0⟩
theorem cellS59_2 {W : World} {g : Nat} {A0 : Option Addr} {c0 : Nat} {f0 : List Int} {f1 : Int} {f2 : Int} (h : W.heap[g]? = some (.cells #[.slice A0 f0.length c0,.int .i64 f1,.int .u64 f2] 59 (0,0))) : W.cell? ⟨g,2,none⟩ = some (.int .u64 f2):=(blk_cell h 2).trans rfl
theorem IsS59.set_2 {w0 W : World} {g : Nat} {f0 : List Int} {f1 : Int} {f2 : Int} (h : IsS59 w0 W g f0 f1 f2) (x : Int) : IsS59 w0 (W.setCell ⟨g,2,none⟩ (.int .u64 x)) g f0 f1 x:=by
 obtain ⟨A0,c0,hb,hg,hr0⟩:=h
 exact ⟨A0,c0,by simpa using blk_set hb 2 (.int .u64 x),hg,hr0⟩
def laws_roll.l0 : Nat→List Int→Int→List Int→Int→Int→Option (List Int×Int×Int)
|0,_,_,_,_,_=>none
|k + 1,x0,x6,x481000,x481001,x481002=>if x6 < (x0.length : Int) then (if 0≤x6 then (laws_roll.l0 k x0 (wrap64 (x6 + 1)) x481000 x481001 (IntKind.u64.wrap ((IntKind.u64.wrap ((IntKind.u64.wrap (x481002 * 1099511628211)) + (IntKind.u64.wrap (rd x0 x6)))) + 5))) else (none)) else (some (x481000,x481001,x481002))
def laws_roll.f (k : Nat) (l0 : List Int) (a1 : Int) : Option (List Int×Int×Int):=laws_roll.l0 k l0 0 l0 0 (IntKind.u64.wrap ((IntKind.u64.wrap (a1 * 7681)) + (IntKind.u64.wrap ((l0.length : Int)))))
def laws_roll.T5 : Bool×List (List Nat×List Nat):=(true,[([],[]),([],[]),([1],[1]),([2],[2]),([3],[3]),([4],[4]),([],[]),([],[]),([6,7],[6,7]),([8],[8]),([9],[9]),([5,10],[5,10]),([11],[11]),([0,0,1,2,3,4,5,6,7,8,9,10,11,12],[0]),([13,0,1,2,3,4,5,6,7,8,9,10,11,12],[13]),([14,12,0,1,2,3,4,5,6,7,8,9,10,11,12],[12,14])])
def laws_roll.B5 : List Nat:=[0,0,2,6,14,30,0,0,192,448,960,2046,4094,8191,16383,32767]
theorem laws_roll.tab5 : rtab .any (opsOf Tryd.f16 5) = laws_roll.T5:=by kernel_rfl
theorem laws_roll.bits5 : waitsOk laws_roll.T5.2 laws_roll.B5 = true:=by kernel_rfl
set_option maxHeartbeats 8000000 in
set_option maxRecDepth 100000 in
theorem laws_roll.calls (k : Nat) (A0 : Option Addr) (c0 : Nat) (l0 : List Int) (a1 : Int) (r1 : List Int) (r2 : Int) (r3 : Int) (w0 w : World) (hB : Below w0.heap.size w0 w) (hr0 : Kd.C (Kd.int .u8) w0 A0 l0.length l0) (hc0 : l0.length≤c0) (h : laws_roll.f k l0 a1 = some (r1,r2,r3)) :
  Calls Tryd.prog 16 #[.slice A0 l0.length c0,.int .u64 a1] w fun e w'=>∃ g_ : Nat,e = .returned (.pointer (some ⟨g_,0,none⟩))∧IsS59 w0 w' g_ r1 r2 r3∧Below w0.heap.size w0 w'∧Below w.heap.size w w'∧w.heap.size≤g_:=by
 have hu59:=Tryd.underlying59;have HR0:=Aside0.mk hr0;have HC0:=Aside0.mk hc0;clear hr0 hc0;have HBW:=Aside0.mk (Below.refl w.heap.size w);have HW0:=Aside0.mk hB.size;have HB:=Aside0.mk hB;clear hB
 have H : (laws_roll.l0 k l0 0 l0 0 (IntKind.u64.wrap ((IntKind.u64.wrap (a1 * 7681)) + (IntKind.u64.wrap ((l0.length : Int)))))) = some (r1,r2,r3):=h
 clear h
 have H':=Aside0.mk H
 clear H
 go_enter Tryd.func16,Tryd.ntmps16
 go_wp2_with (first|((with_reducible refine gate_dst (N:=15) rfl ?_);refine box_event ?hg (N:=15) ?hd (cs:=#[.slice A0 l0.length c0,.int .i64 0,.int .u64 (IntKind.u64.wrap ((IntKind.u64.wrap (a1 * 7681)) + (IntKind.u64.wrap ((l0.length : Int)))))]) (t:=59) ?hr ?_;(case hd=>rfl);(case hg=>rfl);(case hr=>first|(go_simp;done)|(go_simp;rfl));intro gb480 hg w3 hbox hb;replace HB:=Aside0.mk (below_step (beQ HB) hb);have BK480:=Aside0.mk (hbox);have GW480:=Aside0.mk ((by rw [hg];exact (below_size (beQ HBW)) : w.heap.size≤gb480));have GE480:=Aside0.mk ((Nat.le_trans HW0.out (by rw [hg];exact (below_size (beQ HBW)) : w.heap.size≤gb480) : w0.heap.size≤gb480));replace HBW:=Aside0.mk (below_step HBW.out hb);clear hb hbox hg))
 go_loopg [6] k (fun kq v6 w'=>∃ (x6_1 : Int) (x481002_1 : Int),v6 = .int .i64 x6_1∧Aside0 (laws_roll.l0 kq l0 x6_1 l0 0 x481002_1 = some (r1,r2,r3))∧Aside0 (kq≤k)∧Aside0 (w'.heap[gb480]? = some (.cells #[(.slice A0 l0.length c0),.int .i64 0,.int .u64 x481002_1] 59 (0,0)))∧Aside0 (Below w0.heap.size w0 w')∧Aside0 (Below w.heap.size w w'))
 case atStart=>exact ⟨(0),(IntKind.u64.wrap ((IntKind.u64.wrap (a1 * 7681)) + (IntKind.u64.wrap ((l0.length : Int))))),sz,H',⟨Nat.le_refl _⟩,⟨blkQ BK480⟩,⟨beQ HB⟩,⟨beQ HBW⟩⟩
 case round =>
  clear H'
  try clear c1
  try clear p2
  obtain ⟨x6_1,x481002_1,rfl,HA,HK1,BK480,HB,HBW⟩:=hrel
  cases gk with
 |zero=>exact absurd HA.out (by simp [laws_roll.l0])
 |succ k1 =>
   have H:=HA.out;clear HA
   simp only [laws_roll.l0] at H
   by_cases c4 : x6_1 < (l0.length : Int)
   ·rw [if_pos c4] at H
    have c4b0 : decide (x6_1 < (l0.length : Int)) = true:=decide_eq_true c4
    clear c4
    by_cases c5 : 0≤x6_1
    ·rw [if_pos c5] at H
     have c5b0 : decide (0≤x6_1) = true:=decide_eq_true c5
     clear c5
     have H':=Aside0.mk H
     clear H
     try go_wp2
     replace BK480:=Aside0.mk (blk_drew BK480.out);replace HB:=Aside0.mk (below_drew1 HB.out)
     have p481 : 0≤(x6_1 : Int):=of_decide_eq_true (by first|(with_reducible assumption)|assumption)
     have q481 : x6_1 < (l0.length : Int):=of_decide_eq_true (by first|(with_reducible assumption)|assumption)
     obtain ⟨ad481,e481,hx481_0⟩:=Kd.at_int HR0.out x6_1 p481 q481;have hw481_0:=hx481_0;cases e481;replace hx481_0:=pw_cell_below HB.out hx481_0;replace p481:=eq_true p481;replace q481:=eq_true q481
     refine start_ (n:=16) (S:=fun w'=>w'.cell? ⟨gb480,0,none⟩ = some (.slice (some ad481) l0.length c0)∧w'.cell? ⟨gb480,1,none⟩ = some (.int .i64 0)∧w'.cell? ⟨gb480,2,none⟩ = some (.int .u64 x481002_1)∧w'.cell? (ad481.add (x6_1).toNat) = some (.int .u8 (rd l0 x6_1))) (ds:=[15]) #[false,false,false,false,false,false,false,false,false,false,false,false,false,false,false,false] (by kernel_rfl) rfl rfl ⟨bc BK480 0,bc BK480 1,bc BK480 2,((HB.out.cell (World.block_lt_of_cell? _ _ hw481_0)).trans hw481_0)⟩ (fun hHeld=>?_);refine with_tabW laws_roll.tab5 laws_roll.bits5 (fun HT_ HW_=>?_)
     replace HBW:=Aside0.mk (below_drew1 HBW.out)
     generalize wr.drew = w6 at BK480 HB hx481_0 HBW hHeld ⊢
     refine pure_ (i:=0) (N:=some 22) (v:=?_) (a':=?_) #[true,false,false,false,false,false,false,false,false,false,false,false,false,false,false,false] rfl rfl (any_of HT_.out (by kernel_rfl)) (fun _ _ _ h=>h) (Or.inl ⟨by rfl,?_⟩) ?_ ?_
     rotate_left
     ·intro w'
      go_simp
      with_reducible rfl
     rotate_left
     ·simp only [Act.put,s1,s2,s3,i64_w,i32_w]
      rfl
     refine pure_ (i:=1) (N:=some 23) (v:=?_) (a':=?_) #[true,true,false,false,false,false,false,false,false,false,false,false,false,false,false,false] rfl rfl (any_of HT_.out (by kernel_rfl)) (fun _ _ _ h=>h) (Or.inl ⟨by rfl,?_⟩) ?_ ?_
     rotate_left
     ·intro w'
      go_simp
      with_reducible rfl
     rotate_left
     ·simp only [Act.put,s1,s2,s3,i64_w,i32_w]
      rfl
     refine pure_ (i:=2) (N:=some 24) (v:=?_) (a':=?_) #[true,true,true,false,false,false,false,false,false,false,false,false,false,false,false,false] rfl rfl (any_of HT_.out (by kernel_rfl)) (fun _ _ _ h=>h) (Or.inl ⟨by rfl,?_⟩) ?_ ?_
     rotate_left
     ·intro w'
      go_simp
      with_reducible rfl
     rotate_left
     ·simp only [Act.put,s1,s2,s3,i64_w,i32_w]
      rfl
     refine pure_ (i:=3) (N:=some 25) (v:=?_) (a':=?_) #[true,true,true,true,false,false,false,false,false,false,false,false,false,false,false,false] rfl rfl (any_of HT_.out (by kernel_rfl)) (fun _ _ _ h=>h) (Or.inl ⟨by rfl,?_⟩) ?_ ?_
     rotate_left
     ·intro w'
      go_simp
      with_reducible rfl
     rotate_left
     ·simp only [Act.put,s1,s2,s3,i64_w,i32_w]
      rfl
     refine pure_ (i:=6) (N:=some 28) (v:=?_) (a':=?_) #[true,true,true,true,false,false,true,false,false,false,false,false,false,false,false,false] rfl rfl (any_of HT_.out (by kernel_rfl)) (fun _ _ _ h=>h) (Or.inl ⟨by rfl,?_⟩) ?_ ?_
     rotate_left
     ·intro w'
      go_simp
      with_reducible rfl
     rotate_left
     ·simp only [Act.put,s1,s2,s3,i64_w,i32_w]
      rfl
     refine pure_ (i:=7) (N:=some 29) (v:=?_) (a':=?_) #[true,true,true,true,false,false,true,true,false,false,false,false,false,false,false,false] rfl rfl (any_of HT_.out (by kernel_rfl)) (fun _ _ _ h=>h) (Or.inl ⟨by rfl,?_⟩) ?_ ?_
     rotate_left
     ·intro w'
      go_simp
      with_reducible rfl
     rotate_left
     ·simp only [Act.put,s1,s2,s3,i64_w,i32_w]
      rfl
     refine pure_ (i:=8) (N:=some 30) (v:=?_) (a':=?_) #[true,true,true,true,false,false,true,true,true,false,false,false,false,false,false,false] rfl rfl (any_of HT_.out (by kernel_rfl)) (fun _ _ _ h=>h) (Or.inl ⟨by rfl,?_⟩) ?_ ?_
     rotate_left
     ·intro w'
      go_simp
      with_reducible rfl
     rotate_left
     ·simp only [Act.put,s1,s2,s3,i64_w,i32_w]
      rfl
     refine take_ (i:=4) (N:=some 26) (v:=?_) (a':=?_) #[true,true,true,true,true,false,true,true,true,false,false,false,false,false,false,false] rfl rfl (take_ofW HT_.out HW_.out (by kernel_rfl)) (fun _ _ _ h=>h) (Or.inl ⟨by rfl,?_⟩) hHeld ?_ ?_
     rotate_left
     ·rintro w' ⟨s0,s1,s2,s3⟩
      go_simp
      with_reducible rfl
     rotate_left
     ·simp only [Act.put,s1,s2,s3,i64_w,i32_w]
      rfl
     refine pure_ (i:=5) (N:=some 27) (v:=?_) (a':=?_) #[true,true,true,true,true,true,true,true,true,false,false,false,false,false,false,false] rfl rfl (any_of HT_.out (by kernel_rfl)) (fun _ _ _ h=>h) (Or.inl ⟨by rfl,?_⟩) ?_ ?_
     rotate_left
     ·intro w'
      go_simp
      with_reducible rfl
     rotate_left
     ·simp only [Act.put,s1,s2,s3,i64_w,i32_w]
      rfl
     refine take_ (i:=9) (N:=some 31) (v:=?_) (a':=?_) #[true,true,true,true,true,true,true,true,true,true,false,false,false,false,false,false] rfl rfl (take_ofW HT_.out HW_.out (by kernel_rfl)) (fun _ _ _ h=>h) (Or.inl ⟨by rfl,?_⟩) hHeld ?_ ?_
     rotate_left
     ·rintro w' ⟨s0,s1,s2,s3⟩
      go_simp
      with_reducible rfl
     rotate_left
     ·simp only [Act.put,s1,s2,s3,i64_w,i32_w]
      rfl
     refine pure_ (i:=10) (N:=some 32) (v:=?_) (a':=?_) #[true,true,true,true,true,true,true,true,true,true,true,false,false,false,false,false] rfl rfl (any_of HT_.out (by kernel_rfl)) (fun _ _ _ h=>h) (Or.inl ⟨by rfl,?_⟩) ?_ ?_
     rotate_left
     ·intro w'
      go_simp
      with_reducible rfl
     rotate_left
     ·simp only [Act.put,s1,s2,s3,i64_w,i32_w]
      rfl
     refine pure_ (i:=11) (N:=some 33) (v:=?_) (a':=?_) #[true,true,true,true,true,true,true,true,true,true,true,true,false,false,false,false] rfl rfl (any_of HT_.out (by kernel_rfl)) (fun _ _ _ h=>h) (Or.inl ⟨by rfl,?_⟩) ?_ ?_
     rotate_left
     ·intro w'
      go_simp
      with_reducible rfl
     rotate_left
     ·simp only [Act.put,s1,s2,s3,i64_w,i32_w]
      rfl
     refine pure_ (i:=12) (N:=some 34) (v:=?_) (a':=?_) #[true,true,true,true,true,true,true,true,true,true,true,true,true,false,false,false] rfl rfl (any_of HT_.out (by kernel_rfl)) (fun _ _ _ h=>h) (Or.inl ⟨by rfl,?_⟩) ?_ ?_
     rotate_left
     ·intro w'
      go_simp
      with_reducible rfl
     rotate_left
     ·simp only [Act.put,s1,s2,s3,i64_w,i32_w]
      rfl
     refine pure_ (i:=13) (N:=some 35) (v:=?_) (a':=?_) #[true,true,true,true,true,true,true,true,true,true,true,true,true,true,false,false] rfl rfl (any_of HT_.out (by kernel_rfl)) (fun _ _ _ h=>h) (Or.inl ⟨by rfl,?_⟩) ?_ ?_
     rotate_left
     ·intro w'
      go_simp
      with_reducible rfl
     rotate_left
     ·simp only [Act.put,s1,s2,s3,i64_w,i32_w]
      rfl
     refine pure_ (i:=14) (N:=some 36) (v:=?_) (a':=?_) #[true,true,true,true,true,true,true,true,true,true,true,true,true,true,true,false] rfl rfl (any_of HT_.out (by kernel_rfl)) (fun _ _ _ h=>h) (Or.inl ⟨by rfl,?_⟩) ?_ ?_
     rotate_left
     ·intro w'
      go_simp
      with_reducible rfl
     rotate_left
     ·simp only [Act.put,s1,s2,s3,i64_w,i32_w]
      rfl
     refine last_ (i:=15) (N:=none) #[true,true,true,true,true,true,true,true,true,true,true,true,true,true,true,true] rfl rfl (one_of HT_.out (by kernel_rfl)) (by decide) (fun K hK=>?_)
     have hs7 : w6.cell? ⟨gb480,2,none⟩ = some (.int .u64 x481002_1):=bc BK480 2
     have hfs7:=blk_frozen BK480.out 2
     refine skip_ (w1:=?_) (by rfl) rfl ?_ ?_
     rotate_left
     ·go_simp
      rfl
     refine hK.out _ _ ?_
     clear hK K
     refine done_ (done_of HT_.out (by kernel_rfl)) ?_
     try go_wp2
     go_roundg k1
     case measure=>have:=HK1.out;omega
     case rel=>exact ⟨(wrap64 (x6_1 + 1)),(IntKind.u64.wrap ((IntKind.u64.wrap ((IntKind.u64.wrap (x481002_1 * 1099511628211)) + (IntKind.u64.wrap (rd l0 x6_1)))) + 5)),sz,H',⟨by have:=HK1.out;omega⟩,⟨by (with_reducible repeat (first|refine blk_drewN ?_ _|refine blk_drew ?_|refine blk_alloc ?_ _));refine blk_put (cs:=#[.slice (some ad481) l0.length c0,.int .i64 0,.int .u64 x481002_1]) ?_ 2 _ rfl;(with_reducible repeat (first|refine blk_drewN ?_ _|refine blk_drew ?_|refine blk_alloc ?_ _));exact BK480.out⟩,⟨beQ HB⟩,⟨beQ HBW⟩⟩
    ·rw [if_neg c5] at H
     exact absurd H (by simp)
   ·rw [if_neg c4] at H
    have c4b0 : decide (x6_1 < (l0.length : Int)) = false:=decide_eq_false c4
    clear c4
    simp only [Option.some.injEq,Prod.mk.injEq] at H
    obtain ⟨rfl,rfl,rfl⟩:=H
    go_wp2
    go_ret
    exact ⟨_,rfl,(show IsS59 w0 _ gb480 l0 0 x481002_1 from ⟨_,_,blkQ BK480,GE480.out,HR0.out⟩),beQ HB,beQ HBW,GW480.out⟩
def laws_dice_below.f (s0_0 : List Int) (s0_1 : Int) (s0_2 : Int) (a1 : Int) : Option (Int×Int×Int):=if a1 < 1 then (some (0,s0_1,s0_2)) else (if s0_1 < (s0_0.length : Int) then (if 0≤s0_1 then (if a1 = 0 then (none) else (some (Int.tmod (wrap64 ((wrap64 (Go.bits .and .u64 ((IntKind.u64.wrap ((IntKind.u64.wrap (s0_2 * 6364136223846793005)) + 1442695040888963407)) / 8589934592) 16777215)) + (wrap64 (rd s0_0 s0_1)))) a1,wrap64 (s0_1 + 1),IntKind.u64.wrap ((IntKind.u64.wrap (s0_2 * 6364136223846793005)) + 1442695040888963407)))) else (none)) else (if a1 = 0 then (none) else (some (Int.tmod (wrap64 (Go.bits .and .u64 ((IntKind.u64.wrap ((IntKind.u64.wrap (s0_2 * 6364136223846793005)) + 1442695040888963407)) / 8589934592) 16777215)) a1,s0_1,IntKind.u64.wrap ((IntKind.u64.wrap (s0_2 * 6364136223846793005)) + 1442695040888963407)))))
set_option maxHeartbeats 8000000 in
set_option maxRecDepth 100000 in
theorem laws_dice_below.calls (g : Nat) (s0_0 : List Int) (s0_1 : Int) (s0_2 : Int) (a1 : Int) (r1 : Int) (r2 : Int) (r3 : Int) (w0 w : World) (hI : IsS59 w0 w g s0_0 s0_1 s0_2) (hB : Below w0.heap.size w0 w) (h : laws_dice_below.f s0_0 s0_1 s0_2 a1 = some (r1,r2,r3)) :
  Calls Tryd.prog 17 #[.pointer (some ⟨g,0,none⟩),.int .i64 a1] w fun e w'=>e = .returned (.int .i64 r1)∧IsS59 w0 w' g s0_0 r2 r3∧Below w0.heap.size w0 w'∧KeepBut w w' g none:=by
 have HI0:=Aside0.mk hI;have HK:=Aside0.mk (KeepBut.refl w g none);have HL:=Aside0.mk hB.size;clear hI;have HW0:=Aside0.mk hB.size;have HB:=Aside0.mk hB;clear hB
 have H : (if a1 < 1 then (some (0,s0_1,s0_2)) else (if s0_1 < (s0_0.length : Int) then (if 0≤s0_1 then (if a1 = 0 then (none) else (some (Int.tmod (wrap64 ((wrap64 (Go.bits .and .u64 ((IntKind.u64.wrap ((IntKind.u64.wrap (s0_2 * 6364136223846793005)) + 1442695040888963407)) / 8589934592) 16777215)) + (wrap64 (rd s0_0 s0_1)))) a1,wrap64 (s0_1 + 1),IntKind.u64.wrap ((IntKind.u64.wrap (s0_2 * 6364136223846793005)) + 1442695040888963407)))) else (none)) else (if a1 = 0 then (none) else (some (Int.tmod (wrap64 (Go.bits .and .u64 ((IntKind.u64.wrap ((IntKind.u64.wrap (s0_2 * 6364136223846793005)) + 1442695040888963407)) / 8589934592) 16777215)) a1,s0_1,IntKind.u64.wrap ((IntKind.u64.wrap (s0_2 * 6364136223846793005)) + 1442695040888963407)))))) = some (r1,r2,r3):=h
 clear h
 by_cases c3 : a1 < 1
 ·rw [if_pos c3] at H
  have c3b0 : decide (a1 < 1) = true:=decide_eq_true c3
  clear c3
  simp only [Option.some.injEq,Prod.mk.injEq] at H
  obtain ⟨rfl,rfl,rfl⟩:=H
  go_enter Tryd.func17,Tryd.ntmps17
  go_wp2
  repeat (go_quiet (fail);try go_wp2)
  go_ret
  exact ⟨rz,zQ02fx0,zQ02fx1,zQ02fx2⟩
 ·rw [if_neg c3] at H
  have c3b0 : decide (a1 < 1) = false:=decide_eq_false c3
  clear c3
  by_cases c4 : s0_1 < (s0_0.length : Int)
  ·rw [if_pos c4] at H
   have c4b0 : decide (s0_1 < (s0_0.length : Int)) = true:=decide_eq_true c4
   clear c4
   by_cases c5 : 0≤s0_1
   ·rw [if_pos c5] at H
    have c5b0 : decide (0≤s0_1) = true:=decide_eq_true c5
    clear c5
    by_cases c6 : a1 = 0
    ·rw [if_pos c6] at H
     exact absurd H (by simp)
    ·rw [if_neg c6] at H
     have c6b0 : (a1 == 0) = false:=beq_eq_false_iff_ne.mpr c6
     have c6b1 : (a1 != 0) = true:=bne_iff_ne.mpr c6
     simp only [Option.some.injEq,Prod.mk.injEq] at H
     obtain ⟨rfl,rfl,rfl⟩:=H;obtain ⟨ASz7_0,cSz7_0,HGz7,hgz7,HSz7_0⟩:=HI0.out;have hcz7_0:=cellS59_0 HGz7;have hcz7_1:=cellS59_1 HGz7;have hcz7_2:=cellS59_2 HGz7;have hfz7_1:=blk_frozen HGz7 1;have hfz7_2:=blk_frozen HGz7 2;clear HGz7 hgz7
     have p482 : 0≤(s0_1 : Int):=of_decide_eq_true (by first|(with_reducible assumption)|assumption)
     have q482 : s0_1 < (s0_0.length : Int):=of_decide_eq_true (by first|(with_reducible assumption)|assumption)
     obtain ⟨ad482,e482,hx482_0⟩:=Kd.at_int HSz7_0 s0_1 p482 q482;cases e482
     have hn482_0 : ad482.block ≠ g:=Nat.ne_of_lt (Nat.lt_of_lt_of_le (by have:=World.block_lt_of_cell? _ _ hx482_0;first|rwa [add_block] at this|exact this) (IsS59.ge HI0.out))
     replace hx482_0:=pw_cell_below HB.out hx482_0
     replace hx482_0:=(cell_far (p:=⟨g,2,none⟩) (by first|(rw [add_block];exact hn482_0)|(show (Addr.add _ _).block ≠ _;rw [add_block];exact hn482_0)|exact hn482_0) (.int .u64 (IntKind.u64.wrap ((IntKind.u64.wrap (s0_2 * 6364136223846793005)) + 1442695040888963407)))).trans hx482_0
     (try have hy482_0:=fun (n_ : Nat)=>(show (((w.drewN n_).setCell ⟨g,2,none⟩ (.int .u64 (IntKind.u64.wrap ((IntKind.u64.wrap (s0_2 * 6364136223846793005)) + 1442695040888963407))))).cell? _ = some _ from hx482_0))
     clear hn482_0;replace p482:=eq_true p482;replace q482:=eq_true q482
     go_enter Tryd.func17,Tryd.ntmps17
     go_wp2
     repeat (go_quiet (fail);try go_wp2)
     go_ret
     exact ⟨rz,zQ02fx0,zQ02fx1,zQ02fx2⟩
   ·rw [if_neg c5] at H
    exact absurd H (by simp)
  ·rw [if_neg c4] at H
   have c4b0 : decide (s0_1 < (s0_0.length : Int)) = false:=decide_eq_false c4
   clear c4
   by_cases c8 : a1 = 0
   ·rw [if_pos c8] at H
    exact absurd H (by simp)
   ·rw [if_neg c8] at H
    have c8b0 : (a1 == 0) = false:=beq_eq_false_iff_ne.mpr c8
    have c8b1 : (a1 != 0) = true:=bne_iff_ne.mpr c8
    simp only [Option.some.injEq,Prod.mk.injEq] at H
    obtain ⟨rfl,rfl,rfl⟩:=H;obtain ⟨ASz9_0,cSz9_0,HGz9,hgz9,HSz9_0⟩:=HI0.out;have hcz9_0:=cellS59_0 HGz9;have hcz9_1:=cellS59_1 HGz9;have hcz9_2:=cellS59_2 HGz9;have hfz9_1:=blk_frozen HGz9 1;have hfz9_2:=blk_frozen HGz9 2;clear HGz9 hgz9
    go_enter Tryd.func17,Tryd.ntmps17
    go_wp2
    repeat (go_quiet (fail);try go_wp2)
    go_ret
    exact ⟨rz,zQ02fx0,zQ02fx1,zQ02fx2⟩
def impl_allLetters.f (a0_0 : Int) (l0_1 : List Int) : Option (Int):=(impl_one.f a0_0).bind fun t484=>(some (wrap64 (t484 - 1)))
set_option maxHeartbeats 8000000 in
set_option maxRecDepth 100000 in
theorem impl_allLetters.calls (a0_0 : Int) (A0_1 : Option Addr) (c0_1 : Nat) (l0_1 : List Int) (r : Int) (w : World) (hr0_1 : Kd.C (Kd.int .i64) w A0_1 l0_1.length l0_1) (hc0_1 : l0_1.length≤c0_1) (h : impl_allLetters.f a0_0 l0_1 = some r) :
  Calls Tryd.prog 66 #[.agg #[.int .i64 a0_0,.slice A0_1 l0_1.length c0_1]] w fun e w'=>e = .returned (.int .i64 r)∧Below w.heap.size w w':=by
 have hu26:=Tryd.underlying26;have HR0_1:=Aside0.mk hr0_1;have HC0_1:=Aside0.mk hc0_1;clear hr0_1 hc0_1;have HB:=Aside0.mk (Below.refl w.heap.size w)
 have H : ((impl_one.f a0_0).bind fun t484=>(some (wrap64 (t484 - 1)))) = some r:=h
 clear h;replace H:=Option.bind_eq_some_iff.mp H;obtain ⟨t484,A20,H⟩:=H
 replace H : (some (wrap64 (t484 - 1))) = some r:=H
 have A2:=Aside0.mk A20;clear A20
 obtain rfl:=Option.some.inj H
 go_enter Tryd.func66,Tryd.ntmps66
 go_wp2_with (first|((with_reducible refine gate_dst (N:=1) rfl ?_);refine box_event ?hg (N:=1) ?hd (cs:=#[.int .i64 a0_0,.slice A0_1 l0_1.length c0_1]) (t:=26) ?hr ?_;(case hd=>rfl);(case hg=>rfl);(case hr=>first|(go_simp;done)|(go_simp;rfl));intro gb483 hg w3 hbox hb;have BK483:=Aside0.mk (hbox);have GW483:=Aside0.mk ((by rw [hg];exact (below_size (beQ HB)) : w.heap.size≤gb483));have GE483:=Aside0.mk ((by rw [hg];exact (below_size (beQ HB)) : w.heap.size≤gb483));replace HB:=Aside0.mk (below_step (beQ HB) hb);clear hb hbox hg;have hcz4_0 : w3.cell? ⟨gb483,0,none⟩ = some (.int .i64 a0_0):=bc BK483 0;have hcz4_1 : w3.cell? ⟨gb483,1,none⟩ = some (.slice A0_1 l0_1.length c0_1):=bc BK483 1;have hfz4_0:=blk_frozen BK483.out 0;have hfz4_1:=blk_frozen BK483.out 1)|((with_reducible refine gate_callee (f:=43) rfl ?_);refine goesL_ (some 5) rfl rfl Tryd.func43 (by kernel_rfl) rfl #[.int .i64 a0_0] rfl lz ?_;(with_reducible refine (impl_one.calls a0_0 t484 _ A2.out).mono ?_);rintro e w' ⟨rfl,⟨nd,rfl⟩⟩;refine ⟨_,rfl,?_⟩))
 go_ret
 exact ⟨rz,beQ HB⟩
def impl_complement.l0 : Nat→List Int→Int→Int→Int→List Int→Int→List Int→Option (Int×List Int)
|0,_,_,_,_,_,_,_=>none
|k + 1,x10,x11,x12,x486000,x486001,x488000,x488001=>if x12 < x11 then (if 0≤x12 then (if x12 < (x10.length : Int) then ((impl_allLetters.f x486000 x486001).bind fun t489=>((impl_one.f x12).bind fun t490=>(if x488001.length < 17592186044416 then (impl_complement.l0 k x10 x11 (wrap64 (x12 + 1)) x486000 x486001 x488000 (x488001 ++ [Go.bits .or .i64 (Go.bits .andNot .i64 t489 (rd x10 x12)) t490])) else (none)))) else (none)) else (none)) else (some (x488000,x488001))
def impl_complement.f (k : Nat) (a0_0 : Int) (l0_1 : List Int) : Option (Int×List Int):=impl_complement.l0 k l0_1 (l0_1.length : Int) 0 a0_0 l0_1 a0_0 ([] : List Int)
def impl_complement.T5 : Bool×List (List Nat×List Nat):=(true,[([],[]),([0],[0]),([],[]),([2],[2]),([],[]),([3,4],[3,4]),([],[]),([6,3],[6]),([5,7],[5,7]),([8],[8]),([1,9,7],[1,9]),([0,1,2,3,4,5,6,7,8,9,10],[]),([11,10,10,0,1,2,3,4,5,6,7,8,9,10],[10,11])])
def impl_complement.B5 : List Nat:=[0,1,0,4,0,28,0,76,252,508,1023,2047,4095]
theorem impl_complement.tab5 : rtab .any (opsOf Tryd.f39 5) = impl_complement.T5:=by kernel_rfl
theorem impl_complement.bits5 : waitsOk impl_complement.T5.2 impl_complement.B5 = true:=by kernel_rfl
set_option maxHeartbeats 8000000 in
set_option maxRecDepth 100000 in
theorem impl_complement.calls (k : Nat) (a0_0 : Int) (A0_1 : Option Addr) (c0_1 : Nat) (l0_1 : List Int) (r1 : Int) (r2 : List Int) (w : World) (hr0_1 : Kd.C (Kd.int .i64) w A0_1 l0_1.length l0_1) (hc0_1 : l0_1.length≤c0_1) (h : impl_complement.f k a0_0 l0_1 = some (r1,r2)) :
  Calls Tryd.prog 39 #[.agg #[.int .i64 a0_0,.slice A0_1 l0_1.length c0_1]] w fun e w'=>∃ v1_ : Value,e = .returned (.agg #[.int .i64 r1,v1_])∧Kd.R (Kd.int .i64) 2 w' w.heap.size (fun _=>True) v1_ r2∧Below w.heap.size w w':=by
 have hu26:=Tryd.underlying26;have HR0_1:=Aside0.mk hr0_1;have HC0_1:=Aside0.mk hc0_1;clear hr0_1 hc0_1;have HB:=Aside0.mk (Below.refl w.heap.size w)
 have H : (impl_complement.l0 k l0_1 (l0_1.length : Int) 0 a0_0 l0_1 a0_0 ([] : List Int)) = some (r1,r2):=h
 clear h
 have H':=Aside0.mk H
 clear H
 go_enter Tryd.func39,Tryd.ntmps39
 go_wp2_with (first|((with_reducible refine gate_dst (N:=1) rfl ?_);refine box_event ?hg (N:=1) ?hd (cs:=#[.int .i64 a0_0,.slice A0_1 l0_1.length c0_1]) (t:=26) ?hr ?_;(case hd=>rfl);(case hg=>rfl);(case hr=>first|(go_simp;done)|(go_simp;rfl));intro gb485 hg w2 hbox hb;have BK485:=Aside0.mk (hbox);have GW485:=Aside0.mk ((by rw [hg];exact (below_size (beQ HB)) : w.heap.size≤gb485));have GE485:=Aside0.mk ((by rw [hg];exact (below_size (beQ HB)) : w.heap.size≤gb485));replace HB:=Aside0.mk (below_step (beQ HB) hb);clear hb hbox hg)|((with_reducible refine gate_dst (N:=2) rfl ?_);refine box_event ?hg (N:=2) ?hd (cs:=#[.int .i64 0,.slice none 0 0]) (t:=26) ?hr ?_;(case hd=>rfl);(case hg=>rfl);(case hr=>first|(go_simp;done)|(go_simp;rfl));intro gb486 hg w3 hbox hb;have BK486:=Aside0.mk (hbox);have GW486:=Aside0.mk ((by rw [hg];exact (below_size (beQ HB)) : w.heap.size≤gb486));have GE486:=Aside0.mk ((by rw [hg];exact (below_size (beQ HB)) : w.heap.size≤gb486));replace HB:=Aside0.mk (below_step (beQ HB) hb);have NB485_486:=Aside0.mk ((by rw [hg];exact Nat.ne_of_lt (blk_lt (blkQ BK485)) : gb485 ≠ gb486));have NB486_485:=Aside0.mk ((by rw [hg];exact Nat.ne_of_gt (blk_lt (blkQ BK485)) : gb486 ≠ gb485));replace BK485:=bb BK485 hb;clear hb hbox hg;have hnb4:=NB485_486.out;have hnc4:=NB486_485.out;have hcz5_0 : w3.cell? ⟨gb485,0,none⟩ = some (.int .i64 a0_0):=bc BK485 0;have hcz5_1 : w3.cell? ⟨gb485,1,none⟩ = some (.slice A0_1 l0_1.length c0_1):=bc BK485 1;have hfz5_0:=blk_frozen BK485.out 0;have hfz5_1:=blk_frozen BK485.out 1)|((with_reducible refine gate_dst (N:=3) rfl ?_);refine box_event ?hg (N:=3) ?hd (cs:=#[.int .i64 0,.slice none 0 0]) (t:=26) ?hr ?_;(case hd=>rfl);(case hg=>rfl);(case hr=>first|(go_simp;done)|(go_simp;rfl));intro gb487 hg w6 hbox hb;have BK487:=Aside0.mk (hbox);have GW487:=Aside0.mk ((by rw [hg];exact (below_size (beQ HB)) : w.heap.size≤gb487));have GE487:=Aside0.mk ((by rw [hg];exact (below_size (beQ HB)) : w.heap.size≤gb487));replace HB:=Aside0.mk (below_step (beQ HB) hb);have NB485_487:=Aside0.mk ((by rw [hg];exact Nat.ne_of_lt (blk_lt (blkQ BK485)) : gb485 ≠ gb487));have NB487_485:=Aside0.mk ((by rw [hg];exact Nat.ne_of_gt (blk_lt (blkQ BK485)) : gb487 ≠ gb485));replace BK485:=bb BK485 hb;have NB486_487:=Aside0.mk ((by rw [hg];exact Nat.ne_of_lt (blk_lt (blkQ BK486)) : gb486 ≠ gb487));have NB487_486:=Aside0.mk ((by rw [hg];exact Nat.ne_of_gt (blk_lt (blkQ BK486)) : gb487 ≠ gb486));replace BK486:=bb BK486 hb;clear hb hbox hg;have hnb7:=NB487_485.out;have hnc7:=NB485_487.out;have hnb8:=NB487_486.out;have hnc8:=NB486_487.out;have hcz9_0 : w6.cell? ⟨gb487,0,none⟩ = some (.int .i64 0):=bc BK487 0;have hcz9_1 : w6.cell? ⟨gb487,1,none⟩ = some (.slice none 0 0):=bc BK487 1;have hfz9_0:=blk_frozen BK487.out 0;have hfz9_1:=blk_frozen BK487.out 1;have hcz10_0 : w6.cell? ⟨gb485,0,none⟩ = some (.int .i64 a0_0):=bc BK485 0;have hcz10_1 : w6.cell? ⟨gb485,1,none⟩ = some (.slice A0_1 l0_1.length c0_1):=bc BK485 1;have hfz10_0:=blk_frozen BK485.out 0;have hfz10_1:=blk_frozen BK485.out 1))
 go_loopg [12] k (fun kq v12 w'=>∃ (x12_1 : Int) (x488001_1 : List Int) (u488001 : Value),v12 = .int .i64 x12_1∧Aside0 (impl_complement.l0 kq l0_1 (l0_1.length : Int) x12_1 a0_0 l0_1 a0_0 x488001_1 = some (r1,r2))∧Aside0 (kq≤k)∧Aside0 (Kd.R (Kd.int .i64) 2 w' w.heap.size (fun _=>True) u488001 x488001_1)∧Aside0 (w'.heap[gb485]? = some (.cells #[.int .i64 a0_0,(.slice A0_1 l0_1.length c0_1)] 26 (0,0)))∧Aside0 (w'.heap[gb486]? = some (.cells #[.int .i64 0,(.slice none 0 0)] 26 (0,0)))∧Aside0 (w'.heap[gb487]? = some (.cells #[.int .i64 a0_0,u488001] 26 (0,0)))∧Aside0 (Below w.heap.size w w'))
 case atStart=>exact ⟨(0),(([] : List Int)),(.slice none 0 0),sz,H',⟨Nat.le_refl _⟩,⟨by first|exact Kd.R_nil _ _ _ _ _|exact Kd.N_nil _ _ _ _ _|exact Kd.V_nil _ _ _ _ _|exact Kd.Q_nil _ _ _ _ _|exact Kd.S_nil _ _ _ _ _⟩,⟨blkF BK485⟩,⟨blkF BK486⟩,⟨by (with_reducible repeat (first|refine blk_drewN ?_ _|refine blk_drew ?_|refine blk_alloc ?_ _));refine blk_put (cs:=#[.int .i64 a0_0,.slice none 0 0]) ?_ 1 _ rfl;(with_reducible repeat (first|refine blk_drewN ?_ _|refine blk_drew ?_|refine blk_alloc ?_ _));refine blk_put (cs:=#[.int .i64 0,.slice none 0 0]) ?_ 0 _ rfl;(with_reducible repeat (first|refine blk_drewN ?_ _|refine blk_drew ?_|refine blk_alloc ?_ _));exact BK487.out⟩,⟨beQ HB⟩⟩
 case round =>
  clear H'
  try clear p2
  try clear c3
  try clear c4
  try clear c7
  try clear c8
  try clear hcz10_0
  try clear hcz10_1
  try clear hcz5_0
  try clear hcz5_1
  try clear hcz9_0
  try clear hcz9_1
  try clear hfz10_0
  try clear hfz10_1
  try clear hfz5_0
  try clear hfz5_1
  try clear hfz9_0
  try clear hfz9_1
  obtain ⟨x12_1,x488001_1,u488001,rfl,HA,HK1,HO_488001,BK485,BK486,BK487,HB⟩:=hrel
  cases gk with
 |zero=>exact absurd HA.out (by simp [impl_complement.l0])
 |succ k1 =>
   have H:=HA.out;clear HA
   simp only [impl_complement.l0] at H
   by_cases c11 : x12_1 < (l0_1.length : Int)
   ·rw [if_pos c11] at H
    have c11b0 : decide (x12_1 < (l0_1.length : Int)) = true:=decide_eq_true c11
    clear c11
    by_cases c12 : 0≤x12_1
    ·rw [if_pos c12] at H
     have c12b0 : decide (0≤x12_1) = true:=decide_eq_true c12
     clear c12
     by_cases c13 : x12_1 < (l0_1.length : Int)
     ·rw [if_pos c13] at H
      have c13b0 : decide (x12_1 < (l0_1.length : Int)) = true:=decide_eq_true c13
      clear c13;replace H:=Option.bind_eq_some_iff.mp H;obtain ⟨t489,A140,H⟩:=H
      replace H : ((impl_one.f x12_1).bind fun t490=>(if x488001_1.length < 17592186044416 then (impl_complement.l0 k1 l0_1 (l0_1.length : Int) (wrap64 (x12_1 + 1)) a0_0 l0_1 a0_0 (x488001_1 ++ [Go.bits .or .i64 (Go.bits .andNot .i64 t489 (rd l0_1 x12_1)) t490])) else (none))) = some (r1,r2):=H
      have A14:=Aside0.mk A140;clear A140;replace H:=Option.bind_eq_some_iff.mp H;obtain ⟨t490,A150,H⟩:=H
      replace H : (if x488001_1.length < 17592186044416 then (impl_complement.l0 k1 l0_1 (l0_1.length : Int) (wrap64 (x12_1 + 1)) a0_0 l0_1 a0_0 (x488001_1 ++ [Go.bits .or .i64 (Go.bits .andNot .i64 t489 (rd l0_1 x12_1)) t490])) else (none)) = some (r1,r2):=H
      have A15:=Aside0.mk A150;clear A150
      by_cases c16 : x488001_1.length < 17592186044416
      ·rw [if_pos c16] at H
       have LMc16:=Aside0.mk c16;clear c16
       obtain ⟨y491,hy491⟩ : ∃ y_ : List Int,y_ = (x488001_1 ++ [Go.bits .or .i64 (Go.bits .andNot .i64 t489 (rd l0_1 x12_1)) t490]):=⟨_,rfl⟩
       replace H : (impl_complement.l0 k1 l0_1 (l0_1.length : Int) (wrap64 (x12_1 + 1)) a0_0 l0_1 a0_0 y491) = some (r1,r2):=by first|(rw [hy491];with_reducible exact H)|(have H2_:=(Option.bind_some _ _).symm.trans H;rw [hy491];with_reducible exact H2_)|(have H2_:=(Option.bind_some _ _).symm.trans H;with_reducible exact H2_)|with_reducible exact H|(rw [hy491];exact H)|exact H
       have Ny491:=Aside0.mk hy491;clear hy491
       have H':=Aside0.mk H
       clear H
       have p488 : 0≤(x12_1 : Int):=of_decide_eq_true (by first|(with_reducible assumption)|assumption)
       have q488 : x12_1 < (l0_1.length : Int):=of_decide_eq_true (by first|(with_reducible assumption)|assumption)
       obtain ⟨ad488,e488,hx488_0⟩:=Kd.at_int HR0_1.out x12_1 p488 q488;cases e488;replace hx488_0:=(HB.out.cell (World.block_lt_of_cell? w _ hx488_0)).trans hx488_0;replace p488:=eq_true p488;replace q488:=eq_true q488
       try go_wp2
       replace HO_488001:=Aside0.mk (Kd.R_drew HO_488001.out);replace BK485:=Aside0.mk (blk_drew BK485.out);replace BK486:=Aside0.mk (blk_drew BK486.out);replace BK487:=Aside0.mk (blk_drew BK487.out);replace HB:=Aside0.mk (below_drew1 HB.out)
       refine start_ (n:=13) (S:=fun w'=>w'.cell? ⟨gb487,0,none⟩ = some (.int .i64 a0_0)∧w'.cell? ⟨gb487,1,none⟩ = some (u488001)∧w'.cell? ⟨gb485,0,none⟩ = some (.int .i64 a0_0)∧w'.cell? ⟨gb485,1,none⟩ = some (.slice (some ad488) l0_1.length c0_1)) (ds:=[12]) #[false,false,false,false,false,false,false,false,false,false,false,false,false] (by kernel_rfl) rfl rfl ⟨bc BK487 0,bc BK487 1,bc BK485 0,bc BK485 1⟩ (fun hHeld=>?_);refine with_tabW impl_complement.tab5 impl_complement.bits5 (fun HT_ HW_=>?_)
       generalize wr.drew = w17 at HO_488001 BK485 BK486 BK487 HB hHeld ⊢
       refine pure_ (i:=0) (N:=some 17) (v:=?_) (a':=?_) #[true,false,false,false,false,false,false,false,false,false,false,false,false] rfl rfl (any_of HT_.out (by kernel_rfl)) (fun _ _ _ h=>h) (Or.inl ⟨by rfl,?_⟩) ?_ ?_
       rotate_left
       ·intro w'
        go_simp
        with_reducible rfl
       rotate_left
       ·simp only [Act.put,s1,s2,s3,i64_w,i32_w]
        rfl
       refine pure_ (i:=4) (N:=some 21) (v:=?_) (a':=?_) #[true,false,false,false,true,false,false,false,false,false,false,false,false] rfl rfl (any_of HT_.out (by kernel_rfl)) (fun _ _ _ h=>h) (Or.inl ⟨by rfl,?_⟩) ?_ ?_
       rotate_left
       ·intro w'
        go_simp
        with_reducible rfl
       rotate_left
       ·simp only [Act.put,s1,s2,s3,i64_w,i32_w]
        rfl
       refine pure_ (i:=6) (N:=some 23) (v:=?_) (a':=?_) #[true,false,false,false,true,false,true,false,false,false,false,false,false] rfl rfl (any_of HT_.out (by kernel_rfl)) (fun _ _ _ h=>h) (Or.inl ⟨by rfl,?_⟩) ?_ ?_
       rotate_left
       ·intro w'
        go_simp
        with_reducible rfl
       rotate_left
       ·simp only [Act.put,s1,s2,s3,i64_w,i32_w]
        rfl
       refine take_ (i:=1) (N:=some 18) (v:=?_) (a':=?_) #[true,true,false,false,true,false,true,false,false,false,false,false,false] rfl rfl (take_ofW HT_.out HW_.out (by kernel_rfl)) (fun _ _ _ h=>h) (Or.inl ⟨by rfl,?_⟩) hHeld ?_ ?_
       rotate_left
       ·rintro w' ⟨s0,s1,s2,s3⟩
        go_simp
        with_reducible rfl
       rotate_left
       ·simp only [Act.put,s1,s2,s3,i64_w,i32_w]
        rfl
       refine take_ (i:=2) (N:=some 19) (v:=?_) (a':=?_) #[true,true,true,false,true,false,true,false,false,false,false,false,false] rfl rfl (take_ofW HT_.out HW_.out (by kernel_rfl)) (fun _ _ _ h=>h) (Or.inl ⟨by rfl,?_⟩) hHeld ?_ ?_
       rotate_left
       ·rintro w' ⟨s0,s1,s2,s3⟩
        go_simp
        with_reducible rfl
       rotate_left
       ·simp only [Act.put,s1,s2,s3,i64_w,i32_w]
        rfl
       refine one_ (i:=3) (N:=some 20) #[true,true,true,true,true,false,true,false,false,false,false,false,false] rfl rfl (one_of HT_.out (by kernel_rfl)) (by decide) (fun K hK=>?_)
       refine goes_ Tryd.func66 (by kernel_rfl) rfl #[.agg #[.int .i64 a0_0,.slice (some ad488) l0_1.length c0_1]] (by rfl) rfl rfl lz ?_
       with_reducible refine (impl_allLetters.calls a0_0 _ _ l0_1 t489 _ ?side1 ?side2 A14.out).mono ?_
       (case side1=>have q_:=Aside0.mk (Kd.C_below HR0_1.out HB.out);exact cQ q_)
       (case side2=>exact HC0_1.out)
       rintro e w18 ⟨rfl,hb⟩
       refine ⟨_,rfl,?_⟩
       replace HO_488001:=kb HO_488001 hb;replace BK485:=bb BK485 hb;replace BK486:=bb BK486 hb;replace BK487:=bb BK487 hb;replace HB:=Aside0.mk (below_step (beQ HB) hb)
       (try clear hb)
       (try clear hb2)
       (try clear hk)
       (try clear hi)
       (try clear hgw_)
       refine hK.out _ _ ⟨bc BK487 0,bc BK487 1,bc BK485 0,bc BK485 1⟩ (fun hHeld=>?_)
       clear hK K
       refine norm_ (a':=?_) ?_ ?_
       rotate_left
       ·show Act.put _ (some 20) _ = _
        simp only [Act.put,s1,s2,s3,i64_w,i32_w]
        rfl
       refine pure_ (i:=5) (N:=some 22) (v:=?_) (a':=?_) #[true,true,true,true,true,true,true,false,false,false,false,false,false] rfl rfl (any_of HT_.out (by kernel_rfl)) (fun _ _ _ h=>h) (Or.inl ⟨by rfl,?_⟩) ?_ ?_
       rotate_left
       ·intro w'
        go_simp
        with_reducible rfl
       rotate_left
       ·simp only [Act.put,s1,s2,s3,i64_w,i32_w]
        rfl
       refine one_ (i:=7) (N:=some 24) #[true,true,true,true,true,true,true,true,false,false,false,false,false] rfl rfl (one_of HT_.out (by kernel_rfl)) (by decide) (fun K hK=>?_)
       refine goes_ Tryd.func43 (by kernel_rfl) rfl #[.int .i64 x12_1] (by rfl) rfl rfl lz ?_
       with_reducible refine (impl_one.calls x12_1 t490 _ A15.out).mono ?_
       rintro e w' ⟨rfl,⟨nd,rfl⟩⟩
       refine ⟨_,rfl,?_⟩
       refine hK.out _ _ ⟨bc BK487 0,bc BK487 1,bc BK485 0,bc BK485 1⟩ (fun hHeld=>?_)
       clear hK K
       refine norm_ (a':=?_) ?_ ?_
       rotate_left
       ·show Act.put _ (some 24) _ = _
        simp only [Act.put,s1,s2,s3,i64_w,i32_w]
        rfl
       refine pure_ (i:=8) (N:=some 25) (v:=?_) (a':=?_) #[true,true,true,true,true,true,true,true,true,false,false,false,false] rfl rfl (any_of HT_.out (by kernel_rfl)) (fun _ _ _ h=>h) (Or.inl ⟨by rfl,?_⟩) ?_ ?_
       rotate_left
       ·intro w'
        go_simp
        with_reducible rfl
       rotate_left
       ·simp only [Act.put,s1,s2,s3,i64_w,i32_w]
        rfl
       refine one_ (i:=9) (N:=some 26) #[true,true,true,true,true,true,true,true,true,true,false,false,false] rfl rfl (one_of HT_.out (by kernel_rfl)) (by decide) (fun K hK=>?_)
       refine value_ (w1:=?_) (v:=?_) (by rfl) rfl ?_ ?_
       rotate_left 2
       ·go_simp
        constructor
        ·rfl
        ·rfl
       refine hK.out _ _ ⟨(blk_cell (blk_alloc BK487.out _) 0).trans rfl,(blk_cell (blk_alloc BK487.out _) 1).trans rfl,(blk_cell (blk_alloc BK485.out _) 0).trans rfl,(blk_cell (blk_alloc BK485.out _) 1).trans rfl⟩ (fun hHeld=>?_)
       clear hK K
       refine norm_ (a':=?_) ?_ ?_
       rotate_left
       ·show Act.put _ (some 26) _ = _
        simp only [Act.put,s1,s2,s3,i64_w,i32_w]
        rfl
       refine one_ (i:=10) (N:=some 27) #[true,true,true,true,true,true,true,true,true,true,true,false,false] rfl rfl (one_of HT_.out (by kernel_rfl)) (by decide) (fun K hK=>?_)
       refine Kd.R_append_step (Kd.int .i64) (w0:=w) w.heap.size (by rfl) (.tmp 18) (.tmp 26) 22 2 (.int .i64 0) 8 rfl Tryd.underlying22 info2 rfl (by decide) (by omega) u488001 x488001_1 (Go.bits .or .i64 (Go.bits .andNot .i64 t489 (rd l0_1 x12_1)) t490) [.int .i64 (Go.bits .or .i64 (Go.bits .andNot .i64 t489 (rd l0_1 x12_1)) t490)] (fun _=>True) (fun _=>False) rfl rfl ?aP (fun _ hk=>hk.elim) ?aF ?aO ?aB ?aS ?aL ?_
       (case aP=>exact rfl)
       (case aB=>exact (beQ HB))
       (case aF=>exact (fun _ _=>trivial))
       (case aO=>exact (kdQ HO_488001))
       (case aS=>exact (below_size (beQ HB)))
       (case aL=>have:=LMc16.out;omega)
       intro v492 w19 ho hb hg hat
       rw [← Ny491.out] at ho
       have n0_:=Aside0.mk (blk_grown (g:=gb485) (o:=.cells #[.int .i64 a0_0,.slice (some ad488) l0_1.length c0_1] 26 (0,0)) (blkQ BK485) hg (Kd.R_ne HO_488001.out BK485.out (by decide)))
       have n1_:=Aside0.mk (blk_grown (g:=gb486) (o:=.cells #[.int .i64 0,.slice none 0 0] 26 (0,0)) (blkQ BK486) hg (Kd.R_ne HO_488001.out BK486.out (by decide)))
       have n2_:=Aside0.mk (blk_grown (g:=gb487) (o:=.cells #[.int .i64 a0_0,u488001] 26 (0,0)) (blkQ BK487) hg (Kd.R_ne HO_488001.out BK487.out (by decide)))
       have n3_:=Aside0.mk (hb);have n4_:=Aside0.mk (ho);clear BK485;clear BK486;clear BK487;clear HB;clear HO_488001;have BK485:=n0_;have BK486:=n1_;have BK487:=n2_;have HB:=n3_;have HO493:=n4_;clear n0_ n1_ n2_ n3_ n4_;clear ho hb hg hat;obtain ⟨Ao20,co20,eo20⟩:=Kd.R_slice HO493.out
       (first|subst eo20|(injection eo20 with f1_ f2_ f3_;have f4_:=f1_.symm;have f5_:=f3_.symm;clear f1_ f2_ f3_;subst f4_;subst f5_))
       refine hK.out _ _ ⟨bc BK487 0,bc BK487 1,bc BK485 0,bc BK485 1⟩ (fun hHeld=>?_)
       clear hK K
       refine norm_ (a':=?_) ?_ ?_
       rotate_left
       ·show Act.put _ (some 27) _ = _
        simp only [Act.put,s1,s2,s3,i64_w,i32_w]
        rfl
       refine pure_ (i:=11) (N:=some 28) (v:=?_) (a':=?_) #[true,true,true,true,true,true,true,true,true,true,true,true,false] rfl rfl (any_of HT_.out (by kernel_rfl)) (fun _ _ _ h=>h) (Or.inl ⟨by rfl,?_⟩) ?_ ?_
       rotate_left
       ·intro w'
        go_simp
        with_reducible rfl
       rotate_left
       ·simp only [Act.put,s1,s2,s3,i64_w,i32_w]
        rfl
       refine last_ (i:=12) (N:=none) #[true,true,true,true,true,true,true,true,true,true,true,true,true] rfl rfl (one_of HT_.out (by kernel_rfl)) (by decide) (fun K hK=>?_)
       have hs21 : w19.cell? ⟨gb487,1,none⟩ = some (u488001):=bc BK487 1
       have hfs21:=blk_frozen BK487.out 1;have hns21_0:=NB485_487.out;have hns21_1:=NB486_487.out;have hms21_0:=NB487_485.out;have hms21_1:=NB487_486.out
       refine skip_ (w1:=?_) (by rfl) rfl ?_ ?_
       rotate_left
       ·go_simp
        rfl
       refine hK.out _ _ ?_
       clear hK K
       refine done_ (done_of HT_.out (by kernel_rfl)) ?_
       try go_wp2
       go_roundg k1
       case measure=>have:=HK1.out;omega
       case rel=>exact ⟨(wrap64 (x12_1 + 1)),(y491),(.slice Ao20 y491.length co20),sz,H',⟨by have:=HK1.out;omega⟩,⟨by (with_reducible repeat (first|apply Kd.R_alloc|apply Kd.R_drewN|apply Kd.R_drew));exact Kd.R_mono (Kd.R_far (p:=⟨gb487,1,none⟩) (Kd.R_types HO493.out BK487.out (by decide)) (fun _ hk=>hk.2) (.slice Ao20 y491.length co20)) (fun _ hk=>trivial)⟩,⟨blkF BK485⟩,⟨blkF BK486⟩,⟨by (with_reducible repeat (first|refine blk_drewN ?_ _|refine blk_drew ?_|refine blk_alloc ?_ _));refine blk_put (cs:=#[.int .i64 a0_0,u488001]) ?_ 1 _ rfl;(with_reducible repeat (first|refine blk_drewN ?_ _|refine blk_drew ?_|refine blk_alloc ?_ _));exact BK487.out⟩,⟨beQ HB⟩⟩
      ·rw [if_neg c16] at H
       exact absurd H (by simp)
     ·rw [if_neg c13] at H
      exact absurd H (by simp)
    ·rw [if_neg c12] at H
     exact absurd H (by simp)
   ·rw [if_neg c11] at H
    have c11b0 : decide (x12_1 < (l0_1.length : Int)) = false:=decide_eq_false c11
    clear c11
    simp only [Option.some.injEq,Prod.mk.injEq] at H
    obtain ⟨rfl,rfl⟩:=H;have hnb22:=NB487_485.out;have hnc22:=NB485_487.out;have hnb23:=NB487_486.out;have hnc23:=NB486_487.out
    have hcz24_0 : wr.cell? ⟨gb487,0,none⟩ = some (.int .i64 a0_0):=bc BK487 0
    have hcz24_1 : wr.cell? ⟨gb487,1,none⟩ = some (u488001):=bc BK487 1
    have hfz24_0:=blk_frozen BK487.out 0;have hfz24_1:=blk_frozen BK487.out 1;have hnb25:=NB486_485.out;have hnc25:=NB485_486.out
    have hcz26_0 : wr.cell? ⟨gb486,0,none⟩ = some (.int .i64 0):=bc BK486 0
    have hcz26_1 : wr.cell? ⟨gb486,1,none⟩ = some (.slice none 0 0):=bc BK486 1
    have hfz26_0:=blk_frozen BK486.out 0;have hfz26_1:=blk_frozen BK486.out 1;obtain ⟨Ao27,co27,eo27⟩:=Kd.R_slice HO_488001.out;subst eo27
    go_wp2
    refine bodyPost_ret (results_cell_row rfl _ _ gb486 26 #[.int .i64 a0_0,.slice Ao27 x488001_1.length co27] (0,0) _ rfl (by (with_reducible repeat (first|refine blk_drewN ?_ _|refine blk_drew ?_|refine blk_alloc ?_ _));refine blk_put (cs:=#[.int .i64 a0_0,.slice none 0 0]) ?_ 1 _ rfl;(with_reducible repeat (first|refine blk_drewN ?_ _|refine blk_drew ?_|refine blk_alloc ?_ _));refine blk_put (cs:=#[.int .i64 0,.slice none 0 0]) ?_ 0 _ rfl;(with_reducible repeat (first|refine blk_drewN ?_ _|refine blk_drew ?_|refine blk_alloc ?_ _));exact BK486.out) Tryd.underlying26 rfl (by kernel_rfl)) rfl ?_
    exact ⟨_,rz,by (with_reducible repeat (first|apply Kd.R_alloc|apply Kd.R_drewN|apply Kd.R_drew));exact Kd.R_mono (Kd.R_far (p:=⟨gb486,1,none⟩) (Kd.R_far (p:=⟨gb486,0,none⟩) (Kd.R_types HO_488001.out BK486.out (by decide)) (fun _ hk=>hk.2) (.int .i64 a0_0)) (fun _ hk=>hk.2) (.slice Ao27 x488001_1.length co27)) (fun _ hk=>trivial),beQ HB⟩
end Go.Proofs.YtjfdhkobaiplpaaDoor.G
