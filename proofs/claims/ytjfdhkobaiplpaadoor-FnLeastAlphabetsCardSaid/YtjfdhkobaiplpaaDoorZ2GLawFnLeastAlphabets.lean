-- A copy, with what one law needs, of a text that print.sh or a program of ours wrote
import Derived.Test.YtjfdhkobaiplpaaDoorZ2G0
import Derived.Test.YtjfdhkobaiplpaaDoorZ2GQ01e
import Derived.Test.YtjfdhkobaiplpaaDoorZ2GQ01j
import Derived.Test.YtjfdhkobaiplpaaDoorZ2GQ02a
import Derived.Test.YtjfdhkobaiplpaaDoorZ2GQ02e
import Derived.Test.YtjfdhkobaiplpaaDoorZ2GQ02f
import Derived.Test.YtjfdhkobaiplpaaDoorZ2GQ02h
import Derived.Test.YtjfdhkobaiplpaaDoorZ2GQ02i
import Derived.Test.YtjfdhkobaiplpaaDoorZ2GQ02j
namespace Go.Proofs.YtjfdhkobaiplpaaDoor.G
open Go.RowKit Go.Proofs.YtjfdhkobaiplpaaDoorW.PrintWords Go.Proofs.YtjfdhkobaiplpaaDoorW.PrintLast Go.Proofs.YtjfdhkobaiplpaaDoorW.PrintMore
attribute [local go_sem] max2_int min2_int max_two min_two max_three min_three max_four min_four   -- for this text's walks alone
set_option linter.unusedVariables false
set_option linter.unusedSimpArgs false
def flPlace (code : List Int) (n : Int) : Nat→List Int→Int→Int→Int→Option (List Int)
 |0,_,_,_,_=>none
 |k + 1,p,a,i,s=>if a < n then (laws_dice_below.f code i s (wrap64 (a + 1))).bind fun b=>if 0≤b.1∧b.1≤(p.length : Int)∧p.length < 1000000 then flPlace code n k (p.take b.1.toNat ++ [a] ++ p.drop b.1.toNat) (wrap64 (a + 1)) b.2.1 b.2.2 else none else some p
def flTurn2 (n : Int) (D p : List Int) (a : Int) : Nat→Int→List Int→Option (List Int)
 |0,_,_=>none
 |k + 1,b,T=>if b < n then (if (0≤a∧a < (D.length : Int))∧0≤IntKind.u64.wrap b then (if Go.bits .and .i64 (shr .i64 (rd D a) (IntKind.u64.wrap b)) 1 = 1 then (if (a < (p.length : Int)∧0≤rd p a∧rd p a < (T.length : Int))∧(0≤b∧b < (p.length : Int))∧0≤IntKind.u64.wrap (rd p b) then flTurn2 n D p a k (wrap64 (b + 1)) (T.set (rd p a).toNat (Go.bits .or .i64 (rd T (rd p a)) (shl .i64 1 (IntKind.u64.wrap (rd p b))))) else none) else flTurn2 n D p a k (wrap64 (b + 1)) T) else none) else some T
def flTurn1 (n : Int) (D p : List Int) : Nat→Int→List Int→Option (List Int)
 |0,_,_=>none
 |k + 1,a,T=>if a < n then (flTurn2 n D p a k 0 T).bind fun T2=>flTurn1 n D p k (wrap64 (a + 1)) T2 else some T
def flAll (S : List S26) (n : Int) (L : List Int) : Nat→Bool→Int→Option Bool
 |0,_,_=>none
 |k + 1,t,i=>if i < (S.length : Int) then (if 0≤i then (if t = true then some true else laws_likeAlphabet5.f k (rd_T26 S i).f0 (rd_T26 S i).f1 n L).bind fun t2=>(if i > 0 then laws_less5.f k (rd_T26 S (wrap64 (i - 1))).f1 (rd_T26 S i).f1 else some true).bind fun c=>if c = true then flAll S n L k t2 (wrap64 (i + 1)) else none else none) else some t
def laws_FnLeastAlphabets.f (k : Nat) (l0 : List Int) : Option Bool :=
  if (l0.length : Int) > 4096 then some true else (spec_DrawHasTransitiveExchange.f k l0).bind fun x=>(spec_IsAlphabet.f k x.1 x.2).bind fun t=>if t = false∨x.1 > 5 then some true else (impl_LeastAlphabet.f k x.1 x.2).bind fun l=>(laws_roll.f k l0 503).bind fun d=>(flPlace l0 x.1 k [] 0 0 d.2.2).bind fun p=>(flTurn1 x.1 x.2 p k 0 (List.replicate x.1.toNat 0)).bind fun T=>(impl_HasTransitiveExchange.f k x.1 x.2).bind fun e=>if (spec_LeastAlphabet.f k x.1 x.2 = some (x.1,l.2.1,0)∧l.1 = x.1∧l.2.2 = 0)∧laws_likeAlphabet5.f k x.1 l.2.1 x.1 l.2.1 = some true∧impl_LeastAlphabet.f k x.1 l.2.1 = some (x.1,l.2.1,0)∧(d.1 = l0∧d.2.1 = 0)∧impl_LeastAlphabet.f k x.1 T = some (x.1,l.2.1,0)∧e.2 = 0∧impl_HasTransitiveExchange.f k x.1 T = some (e.1,0)∧0≤x.1 then (if x.1 > 4 then some true else (impl_AllAlphabets.f k x.1).bind fun all=>if all.2 = 0∧(all.1.length : Int) = [1,1,2,4,11].getD x.1.toNat 0∧flAll all.1 x.1 l.2.1 k false 0 = some true then some true else none) else none
def headIs (n : Nat) : Code→Bool
 |.region m _ _=>Nat.beq m n
 |.seq a _=>headIs n a
 |_=>false
def restAt (n : Nat) : Code→Option Code
 |.seq a b=>match headIs n a with
   |true=>some (.seq a b)
   |false=>match restAt n a with
     |some c=>some c
     |none=>restAt n b
 |.block _ c=>restAt n c
 |.loop c=>restAt n c
 |.scope c=>restAt n c
 |.cond _ a b=>match restAt n a with
   |some c=>some c
   |none=>restAt n b
 |_=>none
noncomputable def prodsCode (n : Nat) : Code:=((Tryd.f4.body.bind (restAt n)).getD .skip)
structure Boxed (W : World) (g : Nat) (n : Int) (A : Option Addr) (c : Nat) (l : List Int) : Prop where
  blk : W.heap[g]? = some (.cells #[.int .i64 n,.slice A l.length c] 26 (0,0))
  row : Kd.C (Kd.int .i64) W A l.length l
  cap : l.length≤c
theorem Boxed.below {W W' : World} {g : Nat} {n : Int} {A : Option Addr} {c : Nat} {l : List Int} (h : Boxed W g n A c l) (hb : Below W.heap.size W W') : Boxed W' g n A c l:=⟨blk_below h.blk hb,Kd.C_below h.row hb,h.cap⟩
theorem Boxed.c0 {W : World} {g : Nat} {n : Int} {A : Option Addr} {c : Nat} {l : List Int} (h : Boxed W g n A c l) : W.cell? ⟨g,0,none⟩ = some (.int .i64 n):=(blk_cell h.blk 0).trans rfl
theorem Boxed.c1 {W : World} {g : Nat} {n : Int} {A : Option Addr} {c : Nat} {l : List Int} (h : Boxed W g n A c l) : W.cell? ⟨g,1,none⟩ = some (.slice A l.length c):=(blk_cell h.blk 1).trans rfl
theorem Boxed.drewN {W : World} {g : Nat} {n : Int} {A : Option Addr} {c : Nat} {l : List Int} (h : Boxed W g n A c l) (m : Nat) : Boxed (W.drewN m) g n A c l:=h.below (pw_below_drewN (Below.refl _ _) m)
def laws_FnLeastAlphabets.T42 : Bool×List (List Nat×List Nat):=(true,[([],[]),([0],[0]),([1],[1]),([1],[1]),([2,3,1],[1,2,3]),([4,1],[1,4]),([1],[1]),([5,6,1,1],[1,5,6]),([1,7],[1,7]),([8,7,0,1,2,3,4,5,6,7,8],[0,8])])
def laws_FnLeastAlphabets.B42 : List Nat:=[0,1,3,3,15,31,3,127,255,511]
theorem laws_FnLeastAlphabets.tab42 : rtab .any (opsOf Tryd.f4 42) = laws_FnLeastAlphabets.T42:=by kernel_rfl
theorem laws_FnLeastAlphabets.bits42 : waitsOk laws_FnLeastAlphabets.T42.2 laws_FnLeastAlphabets.B42 = true:=by kernel_rfl
def laws_FnLeastAlphabets.T43 : Bool×List (List Nat×List Nat):=(true,[([],[]),([0],[0]),([1],[1]),([2],[2]),([2],[2]),([4,2],[2,4]),([3,5,2],[2,3,5]),([6,2],[2,6]),([7,2],[2,7]),([2],[2]),([2],[2]),([9,10,2],[2,9,10]),([11,2],[2,11]),([12,2],[2,12]),([8,13,2,2],[2,8,13]),([14,2],[2,14]),([2,15],[2,15])])
def laws_FnLeastAlphabets.B43 : List Nat:=[0,1,3,7,7,23,63,127,255,7,7,1543,3591,7687,16383,32767,65535]
theorem laws_FnLeastAlphabets.tab43 : rtab .any (opsOf Tryd.f4 43) = laws_FnLeastAlphabets.T43:=by kernel_rfl
theorem laws_FnLeastAlphabets.bits43 : waitsOk laws_FnLeastAlphabets.T43.2 laws_FnLeastAlphabets.B43 = true:=by kernel_rfl
theorem fl_wrap {i : Int} (h0 : 0≤i) (h : i≤1000) : wrap64 (i + 1) = i + 1:=by unfold wrap64;omega
set_option maxHeartbeats 4000000 in
set_option maxRecDepth 100000 in
theorem laws_FnLeastAlphabets.rest7 (k : Nat) (n : Int) (L : List Int) (S : List S26) (A1 A4 : Option Addr) (c1 c4 : Nat) (g4 : Nat) (w0 w : World) (u0 u1 u3 u5 u6 u7 u8 u9 u10 u11 u12 u13 u14 u15 u16 u17 u18 u19 u20 u21 u22 u24 u25 u26 u27 u28 u29 u30 u31 u32 u33 u34 u35 u36 u37 u38 u39 u40 u41 u42 u43 u44 u45 u46 u47 u48 u49 u50 u51 u52 u53 u54 u55 u56 u57 u58 u59 u60 u61 u62 u63 u64 u65 u66 u67 u68 u69 u70 u71 u72 u73 u74 u75 u76 u77 u78 u79 u80 u81 u82 u83 u84 u85 u86 u87 u88 u89 u90 u91 u92 u93 u94 u95 u96 u97 u98 u99 u100 u101 u102 u103 u104 u105 u106 u107 u108 u109 u110 u111 u112 u113 u114 u115 u116 u117 u118 u119 u120 u121 u122 u123 u124 u125 u126 u127 u128 u129 u130 u131 u132 u133 u134 u135 u136 u137 u138 u139 u140 u141 u142 u143 u144 u145 u146 u147 u148 u149 u150 u151 u152 u153 u154 u155 u156 u157 u158 u159 u160 u161 u162 u163 u164 u165 u166 u167 u168 u169 u170 u171 u172 u173 u174 u175 u176 u177 u178 u179 u180 u181 u182 u183 u184 u185 u186 u187 u188 u189 u190 u191 u192 u193 u194 u195 u196 u197 u198 u199 u200 u201 u202 u203 u204 u205 u206 u207 u208 u209 u210 u211 u212 u213 u214 u215 u216 u217 u218 u219 u220 u221 u222 u223 u224 u225 u226 u227 u228 u229 u230 u231 u232 u233 u234 u235 u236 u237 u238 u239 : Value) (hB : Below w0.heap.size w0 w) (hS : Kd.C k26 w A1 S.length S) (b4 : Boxed w g4 n A4 c4 L) (hl : S.length≤11)
    (h : flAll S n L k false 0 = some true) :
    Code.wp Tryd.prog (prodsCode 38) (bodyPost Tryd.prog Tryd.f4 fun e w'=>e = .returned (.bool true)∧Below w0.heap.size w0 w') ⟨#[u0,u1,.bool false,u3,.pointer (some ⟨g4,0,none⟩),u5,u6,u7,u8,u9,u10,u11,u12,u13,u14,u15,u16,u17,u18,u19,u20,u21,u22,.slice A1 S.length c1,u24,u25,u26,u27,u28,u29,u30,u31,u32,u33,u34,u35,u36,u37,u38,u39,u40,u41,u42,u43,u44,u45,u46,u47,u48,u49,u50,u51,u52,u53,u54,u55,u56,u57,u58,u59,u60,u61,u62,u63,u64,u65,u66,u67,u68,u69,u70,u71,u72,u73,u74,u75,u76,u77,u78,u79,u80,u81,u82,u83,u84,u85,u86,u87,u88,u89,u90,u91,u92,u93,u94,u95,u96,u97,u98,u99,u100,u101,u102,u103,u104,u105,u106,u107,u108,u109,u110,u111,u112,u113,u114,u115,u116,u117,u118,u119,u120,u121,u122,u123,u124,u125,u126,u127,u128,u129,u130,u131,u132,u133,u134,u135,u136,u137,u138,u139,u140,u141,u142,u143,u144,u145,u146,u147,u148,u149,u150,u151,u152,u153,u154,u155,u156,u157,u158,u159,u160,u161,u162,u163,u164,u165,u166,u167,u168,u169,u170,u171,u172,u173,u174,u175,u176,u177,u178,u179,u180,u181,u182,u183,u184,u185,u186,u187,u188,u189,u190,u191,u192,u193,u194,u195,u196,u197,u198,u199,u200,u201,u202,u203,u204,u205,u206,u207,u208,u209,u210,u211,u212,u213,u214,u215,u216,u217,u218,u219,u220,u221,u222,u223,u224,u225,u226,u227,u228,u229,u230,u231,u232,u233,u234,u235,u236,u237,u238,u239],[]⟩ w:=by
  have hu:=Tryd.underlying26
  have HB:=Aside0.mk hB;have HS:=Aside0.mk hS;have B4:=Aside0.mk b4;have HL:=Aside0.mk hl;have H0:=Aside0.mk h
  clear hB hS b4 hl h
  conv=>arg 2;whnf
  go_wp2
  go_loopg [26,27] k (fun kq v26 v27 w'=>∃ (t : Bool) (i : Int),v26 = .bool t∧v27 = .int .i64 i∧Aside0 (0≤i)∧Aside0 (flAll S n L kq t i = some true)∧Aside0 (Kd.C k26 w' A1 S.length S)∧Aside0 (Boxed w' g4 n A4 c4 L)∧Aside0 (Below w0.heap.size w0 w'))
  case atStart=>exact ⟨false,0,rfl,rfl,⟨by omega⟩,H0,HS,B4,HB⟩
  case round =>
    clear H0 HS B4 HB
    obtain ⟨t,i,rfl,rfl,HI,HR,HS,B4,HB⟩:=hrel
    cases gk with
   |zero=>exact absurd HR.out (by simp [flAll])
   |succ k1 =>
      have H:=HR.out
      clear HR
      simp only [flAll] at H
      by_cases hi : i < (S.length : Int)
      · rw [if_pos hi,if_pos HI.out] at H
        have e1 : decide (i < (S.length : Int)) = true:=decide_eq_true hi
        have QI:=Aside0.mk hi
        replace H:=Option.bind_eq_some_iff.mp H
        obtain ⟨t2,h1,H⟩:=H
        replace H:=Option.bind_eq_some_iff.mp H
        obtain ⟨c,h2,H⟩:=H
        by_cases hc : c = true
        rotate_left
        · rw [if_neg hc] at H;cases H
        subst hc
        rw [if_pos rfl] at H
        have HN:=Aside0.mk H
        have HE:=Aside0.mk h1
        have HG:=Aside0.mk h2
        clear H h1 h2 hi
        obtain ⟨ad,B1,d1,e,hx0,hx1,hd1,hr1⟩:=at_T26 HS.out i HI.out QI.out
        subst e
        have HD1:=Aside0.mk hd1;have HR1:=Aside0.mk hr1
        clear hd1 hr1
        have p1 : (0≤i) = True:=eq_true HI.out
        have p2 : (i < (S.length : Int)) = True:=eq_true QI.out
        have y0:=B4.out.c0
        have y1:=B4.out.c1
        have X0:=Aside0.mk hx0
        have X1:=Aside0.mk hx1
        cases t with
       |true =>
          obtain rfl : true = t2:=Option.some.inj HE.out
          clear HE hx0 hx1 y0 y1
          go_wp2
          refine start_ (n:=10) (S:=fun w'=>True) (ds:=[]) #[false,false,false,false,false,false,false,false,false,false] (by kernel_rfl) rfl rfl trivial (fun hHeld=>?_);refine with_tabW laws_FnLeastAlphabets.tab42 laws_FnLeastAlphabets.bits42 (fun HT_ HW_=>?_)
          refine pure_ (i:=0) (N:=some 213) (v:=?_) (a':=?_) #[true,false,false,false,false,false,false,false,false,false] rfl rfl (any_of HT_.out (by kernel_rfl)) (fun _ _ _ h=>h) (Or.inl ⟨by rfl,?_⟩) ?_ ?_
          rotate_left
          · intro w'
            go_simp
            with_reducible rfl
          rotate_left
          · simp only [Act.put,s1,s2,s3,i64_w,i32_w]
            rfl
          refine pure_ (i:=1) (N:=some 214) (v:=?_) (a':=?_) #[true,true,false,false,false,false,false,false,false,false] rfl rfl (any_of HT_.out (by kernel_rfl)) (fun _ _ _ h=>h) (Or.inl ⟨by rfl,?_⟩) ?_ ?_
          rotate_left
          · intro w'
            go_simp
            with_reducible rfl
          rotate_left
          · simp only [Act.put,s1,s2,s3,i64_w,i32_w]
            rfl
          refine pure_ (i:=2) (N:=some 215) (v:=undef) (a':=?_) #[true,true,true,false,false,false,false,false,false,false] rfl rfl (any_of HT_.out (by kernel_rfl)) (fun _ _ _ h=>h) (Or.inr ⟨by rfl,rfl⟩) ?_ ?_
          rotate_left
          · simp only [Act.put,s1,s2,s3,i64_w,i32_w]
            rfl
          refine pure_ (i:=3) (N:=some 216) (v:=undef) (a':=?_) #[true,true,true,true,false,false,false,false,false,false] rfl rfl (any_of HT_.out (by kernel_rfl)) (fun _ _ _ h=>h) (Or.inr ⟨by rfl,rfl⟩) ?_ ?_
          rotate_left
          · simp only [Act.put,s1,s2,s3,i64_w,i32_w]
            rfl
          refine pure_ (i:=4) (N:=some 217) (v:=undef) (a':=?_) #[true,true,true,true,true,false,false,false,false,false] rfl rfl (any_of HT_.out (by kernel_rfl)) (fun _ _ _ h=>h) (Or.inr ⟨by rfl,rfl⟩) ?_ ?_
          rotate_left
          · simp only [Act.put,s1,s2,s3,i64_w,i32_w]
            rfl
          refine pure_ (i:=5) (N:=some 218) (v:=undef) (a':=?_) #[true,true,true,true,true,true,false,false,false,false] rfl rfl (any_of HT_.out (by kernel_rfl)) (fun _ _ _ h=>h) (Or.inr ⟨by rfl,rfl⟩) ?_ ?_
          rotate_left
          · simp only [Act.put,s1,s2,s3,i64_w,i32_w]
            rfl
          refine pure_ (i:=6) (N:=some 219) (v:=undef) (a':=?_) #[true,true,true,true,true,true,true,false,false,false] rfl rfl (any_of HT_.out (by kernel_rfl)) (fun _ _ _ h=>h) (Or.inr ⟨by rfl,rfl⟩) ?_ ?_
          rotate_left
          · simp only [Act.put,s1,s2,s3,i64_w,i32_w]
            rfl
          refine pure_ (i:=7) (N:=some 220) (v:=undef) (a':=?_) #[true,true,true,true,true,true,true,true,false,false] rfl rfl (any_of HT_.out (by kernel_rfl)) (fun _ _ _ h=>h) (Or.inr ⟨by rfl,rfl⟩) ?_ ?_
          rotate_left
          · simp only [Act.put,s1,s2,s3,i64_w,i32_w]
            rfl
          refine pure_ (i:=8) (N:=some 221) (v:=?_) (a':=?_) #[true,true,true,true,true,true,true,true,true,false] rfl rfl (any_of HT_.out (by kernel_rfl)) (fun _ _ _ h=>h) (Or.inl ⟨by rfl,?_⟩) ?_ ?_
          rotate_left
          · intro w'
            go_simp
            with_reducible rfl
          rotate_left
          · simp only [Act.put,s1,s2,s3,i64_w,i32_w]
            rfl
          refine pure_ (i:=9) (N:=some 26) (v:=?_) (a':=?_) #[true,true,true,true,true,true,true,true,true,true] rfl rfl (any_of HT_.out (by kernel_rfl)) (fun _ _ _ h=>h) (Or.inl ⟨by rfl,?_⟩) ?_ ?_
          rotate_left
          · intro w'
            go_simp
            with_reducible rfl
          rotate_left
          · simp only [Act.put,s1,s2,s3,i64_w,i32_w]
            rfl
          refine done_ (done_of HT_.out (by kernel_rfl)) ?_
          replace HS:=Aside0.mk (Kd.C_drew HS.out)
          replace B4:=Aside0.mk (B4.out.below (below_drew1 (Below.refl _ _)))
          replace HB:=Aside0.mk (below_drew1 HB.out)
          clear X0 X1 HR1 HD1
          generalize wr.drew = w1 at HS B4 HB ⊢
          by_cases h0 : i > 0
          · rw [if_pos h0] at HG
            have e2 : decide (0 < i) = true:=decide_eq_true h0
            obtain ⟨j,hj⟩ : ∃ j,wrap64 (i - 1) = j:=⟨_,rfl⟩
            rw [hj] at HG
            have hj0 : 0≤j:=by unfold wrap64 at hj;have:=QI.out;have:=HL.out;omega
            have hj1 : j < (S.length : Int):=by unfold wrap64 at hj;have:=QI.out;have:=HL.out;omega
            have hjw : IntKind.i64.wrap (i - 1) = j:=(i64_w _).trans hj
            obtain ⟨ad2,B2,d2,e,hz0,hz1,hd2,hr2⟩:=at_T26 HS.out j hj0 hj1
            obtain rfl : ad = ad2:=by injection e
            obtain ⟨ad3,B3,d3,e',hy0,hy1,hd3,hr3⟩:=at_T26 HS.out i HI.out QI.out
            obtain rfl : ad = ad3:=by injection e'
            have HD2:=Aside0.mk hd2;have HR2:=Aside0.mk hr2;have HD3:=Aside0.mk hd3;have HR3:=Aside0.mk hr3
            have Z0:=Aside0.mk hz0;have Z1:=Aside0.mk hz1;have Y0:=Aside0.mk hy0;have Y1:=Aside0.mk hy1
            have p3 : (0≤j) = True:=eq_true hj0
            have p4 : (j < (S.length : Int)) = True:=eq_true hj1
            clear hd2 hr2 hd3 hr3 hj h0 hj0 hj1 e e'
            go_wp2
            go_region_held3 (fun w'=>w'.cell? (ad.add (j.toNat * 2)) = some (.int .i64 (rd_T26 S j).f0)∧w'.cell? ⟨(ad.add (j.toNat * 2)).block,(ad.add (j.toNat * 2)).off + 1,none⟩ = some (.slice B2 (rd_T26 S j).f1.length d2)∧w'.cell? (ad.add (i.toNat * 2)) = some (.int .i64 (rd_T26 S i).f0)∧w'.cell? ⟨(ad.add (i.toNat * 2)).block,(ad.add (i.toNat * 2)).off + 1,none⟩ = some (.slice B3 (rd_T26 S i).f1.length d3)) (first|exact ⟨Z0.out,Z1.out,Y0.out,Y1.out⟩|go_keep)
              (first|(go_at_call 20;go_loud ((with_reducible refine (laws_less5.calls k1 B2 d2 (rd_T26 S j).f1 B3 d3 (rd_T26 S i).f1 true _ ?s3 HD2.out ?s4 HD3.out HG.out).mono ?_);(case s3=>exact Kd.C_drew HR2.out);(case s4=>exact Kd.C_drew HR3.out);rintro e w2 ⟨rfl,⟨nd,rfl⟩⟩)))
            go_wp2
            go_roundg k1
            case measure=>omega
            case rel=>exact ⟨true,wrap64 (i + 1),rfl,sz,⟨by have:=QI.out;have:=HL.out;have:=HI.out;rw [fl_wrap (by omega) (by omega)];omega⟩,HN,⟨Kd.C_drewN HS.out _⟩,⟨B4.out.drewN _⟩,⟨pw_below_drewN HB.out _⟩⟩
          · rw [if_neg h0] at HG
            have e2 : decide (0 < i) = false:=decide_eq_false h0
            clear h0
            go_wp2
            refine start_ (n:=17) (S:=fun w'=>True) (ds:=[]) #[false,false,false,false,false,false,false,false,false,false,false,false,false,false,false,false,false] (by kernel_rfl) rfl rfl trivial (fun hHeld=>?_);refine with_tabW laws_FnLeastAlphabets.tab43 laws_FnLeastAlphabets.bits43 (fun HT_ HW_=>?_)
            refine pure_ (i:=0) (N:=some 222) (v:=?_) (a':=?_) #[true,false,false,false,false,false,false,false,false,false,false,false,false,false,false,false,false] rfl rfl (any_of HT_.out (by kernel_rfl)) (fun _ _ _ h=>h) (Or.inl ⟨by rfl,?_⟩) ?_ ?_
            rotate_left
            · intro w'
              go_simp
              with_reducible rfl
            rotate_left
            · simp only [Act.put,s1,s2,s3,i64_w,i32_w]
              rfl
            refine pure_ (i:=1) (N:=some 223) (v:=?_) (a':=?_) #[true,true,false,false,false,false,false,false,false,false,false,false,false,false,false,false,false] rfl rfl (any_of HT_.out (by kernel_rfl)) (fun _ _ _ h=>h) (Or.inl ⟨by rfl,?_⟩) ?_ ?_
            rotate_left
            · intro w'
              go_simp
              with_reducible rfl
            rotate_left
            · simp only [Act.put,s1,s2,s3,i64_w,i32_w]
              rfl
            refine pure_ (i:=2) (N:=some 224) (v:=?_) (a':=?_) #[true,true,true,false,false,false,false,false,false,false,false,false,false,false,false,false,false] rfl rfl (any_of HT_.out (by kernel_rfl)) (fun _ _ _ h=>h) (Or.inl ⟨by rfl,?_⟩) ?_ ?_
            rotate_left
            · intro w'
              go_simp
              with_reducible rfl
            rotate_left
            · simp only [Act.put,s1,s2,s3,i64_w,i32_w]
              rfl
            refine pure_ (i:=3) (N:=some 225) (v:=undef) (a':=?_) #[true,true,true,true,false,false,false,false,false,false,false,false,false,false,false,false,false] rfl rfl (any_of HT_.out (by kernel_rfl)) (fun _ _ _ h=>h) (Or.inr ⟨by rfl,rfl⟩) ?_ ?_
            rotate_left
            · simp only [Act.put,s1,s2,s3,i64_w,i32_w]
              rfl
            refine pure_ (i:=4) (N:=some 226) (v:=undef) (a':=?_) #[true,true,true,true,true,false,false,false,false,false,false,false,false,false,false,false,false] rfl rfl (any_of HT_.out (by kernel_rfl)) (fun _ _ _ h=>h) (Or.inr ⟨by rfl,rfl⟩) ?_ ?_
            rotate_left
            · simp only [Act.put,s1,s2,s3,i64_w,i32_w]
              rfl
            refine pure_ (i:=5) (N:=some 227) (v:=undef) (a':=?_) #[true,true,true,true,true,true,false,false,false,false,false,false,false,false,false,false,false] rfl rfl (any_of HT_.out (by kernel_rfl)) (fun _ _ _ h=>h) (Or.inr ⟨by rfl,rfl⟩) ?_ ?_
            rotate_left
            · simp only [Act.put,s1,s2,s3,i64_w,i32_w]
              rfl
            refine pure_ (i:=6) (N:=some 228) (v:=undef) (a':=?_) #[true,true,true,true,true,true,true,false,false,false,false,false,false,false,false,false,false] rfl rfl (any_of HT_.out (by kernel_rfl)) (fun _ _ _ h=>h) (Or.inr ⟨by rfl,rfl⟩) ?_ ?_
            rotate_left
            · simp only [Act.put,s1,s2,s3,i64_w,i32_w]
              rfl
            refine pure_ (i:=7) (N:=some 229) (v:=undef) (a':=?_) #[true,true,true,true,true,true,true,true,false,false,false,false,false,false,false,false,false] rfl rfl (any_of HT_.out (by kernel_rfl)) (fun _ _ _ h=>h) (Or.inr ⟨by rfl,rfl⟩) ?_ ?_
            rotate_left
            · simp only [Act.put,s1,s2,s3,i64_w,i32_w]
              rfl
            refine pure_ (i:=8) (N:=some 230) (v:=undef) (a':=?_) #[true,true,true,true,true,true,true,true,true,false,false,false,false,false,false,false,false] rfl rfl (any_of HT_.out (by kernel_rfl)) (fun _ _ _ h=>h) (Or.inr ⟨by rfl,rfl⟩) ?_ ?_
            rotate_left
            · simp only [Act.put,s1,s2,s3,i64_w,i32_w]
              rfl
            refine pure_ (i:=9) (N:=some 231) (v:=undef) (a':=?_) #[true,true,true,true,true,true,true,true,true,true,false,false,false,false,false,false,false] rfl rfl (any_of HT_.out (by kernel_rfl)) (fun _ _ _ h=>h) (Or.inr ⟨by rfl,rfl⟩) ?_ ?_
            rotate_left
            · simp only [Act.put,s1,s2,s3,i64_w,i32_w]
              rfl
            refine pure_ (i:=10) (N:=some 232) (v:=undef) (a':=?_) #[true,true,true,true,true,true,true,true,true,true,true,false,false,false,false,false,false] rfl rfl (any_of HT_.out (by kernel_rfl)) (fun _ _ _ h=>h) (Or.inr ⟨by rfl,rfl⟩) ?_ ?_
            rotate_left
            · simp only [Act.put,s1,s2,s3,i64_w,i32_w]
              rfl
            refine pure_ (i:=11) (N:=some 233) (v:=undef) (a':=?_) #[true,true,true,true,true,true,true,true,true,true,true,true,false,false,false,false,false] rfl rfl (any_of HT_.out (by kernel_rfl)) (fun _ _ _ h=>h) (Or.inr ⟨by rfl,rfl⟩) ?_ ?_
            rotate_left
            · simp only [Act.put,s1,s2,s3,i64_w,i32_w]
              rfl
            refine pure_ (i:=12) (N:=some 234) (v:=undef) (a':=?_) #[true,true,true,true,true,true,true,true,true,true,true,true,true,false,false,false,false] rfl rfl (any_of HT_.out (by kernel_rfl)) (fun _ _ _ h=>h) (Or.inr ⟨by rfl,rfl⟩) ?_ ?_
            rotate_left
            · simp only [Act.put,s1,s2,s3,i64_w,i32_w]
              rfl
            refine pure_ (i:=13) (N:=some 235) (v:=undef) (a':=?_) #[true,true,true,true,true,true,true,true,true,true,true,true,true,true,false,false,false] rfl rfl (any_of HT_.out (by kernel_rfl)) (fun _ _ _ h=>h) (Or.inr ⟨by rfl,rfl⟩) ?_ ?_
            rotate_left
            · simp only [Act.put,s1,s2,s3,i64_w,i32_w]
              rfl
            refine pure_ (i:=14) (N:=some 236) (v:=undef) (a':=?_) #[true,true,true,true,true,true,true,true,true,true,true,true,true,true,true,false,false] rfl rfl (any_of HT_.out (by kernel_rfl)) (fun _ _ _ h=>h) (Or.inr ⟨by rfl,rfl⟩) ?_ ?_
            rotate_left
            · simp only [Act.put,s1,s2,s3,i64_w,i32_w]
              rfl
            refine pure_ (i:=15) (N:=some 237) (v:=undef) (a':=?_) #[true,true,true,true,true,true,true,true,true,true,true,true,true,true,true,true,false] rfl rfl (any_of HT_.out (by kernel_rfl)) (fun _ _ _ h=>h) (Or.inr ⟨by rfl,rfl⟩) ?_ ?_
            rotate_left
            · simp only [Act.put,s1,s2,s3,i64_w,i32_w]
              rfl
            refine pure_ (i:=16) (N:=some 238) (v:=?_) (a':=?_) #[true,true,true,true,true,true,true,true,true,true,true,true,true,true,true,true,true] rfl rfl (any_of HT_.out (by kernel_rfl)) (fun _ _ _ h=>h) (Or.inl ⟨by rfl,?_⟩) ?_ ?_
            rotate_left
            · intro w'
              go_simp
              with_reducible rfl
            rotate_left
            · simp only [Act.put,s1,s2,s3,i64_w,i32_w]
              rfl
            refine done_ (done_of HT_.out (by kernel_rfl)) ?_
            go_wp2
            go_roundg k1
            case measure=>omega
            case rel=>exact ⟨true,wrap64 (i + 1),rfl,sz,⟨by have:=QI.out;have:=HL.out;have:=HI.out;rw [fl_wrap (by omega) (by omega)];omega⟩,HN,⟨Kd.C_drew HS.out⟩,⟨B4.out.below (below_drew1 (Below.refl _ _))⟩,⟨below_drew1 HB.out⟩⟩
       |false =>
          rw [if_neg (by decide)] at HE
          go_wp2
          go_region_held3 (fun w'=>w'.cell? (ad.add (i.toNat * 2)) = some (.int .i64 (rd_T26 S i).f0)∧w'.cell? ⟨(ad.add (i.toNat * 2)).block,(ad.add (i.toNat * 2)).off + 1,none⟩ = some (.slice B1 (rd_T26 S i).f1.length d1)∧w'.cell? ⟨g4,0,none⟩ = some (.int .i64 n)∧w'.cell? ⟨g4,1,none⟩ = some (.slice A4 L.length c4))
            (first|go_keep|exact ⟨X0.out,X1.out,B4.out.c0,B4.out.c1⟩)
            (first|(go_at_call 15;go_loud ((with_reducible refine (laws_likeAlphabet5.calls k1 (rd_T26 S i).f0 B1 d1 (rd_T26 S i).f1 n A4 c4 L t2 _ ?s1 HD1.out ?s2 B4.out.cap HE.out).mono ?_);(case s1=>exact Kd.C_drew HR1.out);(case s2=>exact Kd.C_drew B4.out.row);rintro e w1 ⟨rfl,hb0⟩;have hb : Below wr.heap.size wr w1:=below_step (below_drew1 (Below.refl _ _)) hb0;clear hb0;replace X0:=Aside0.mk ((hb.cell (World.block_lt_of_cell? _ _ X0.out)).trans X0.out);replace X1:=Aside0.mk ((hb.cell (World.block_lt_of_cell? _ _ X1.out)).trans X1.out);replace HS:=Aside0.mk (Kd.C_below HS.out hb);replace B4:=Aside0.mk (B4.out.below hb);replace HB:=Aside0.mk (below_step HB.out hb);clear hb)))
          (try clear hx0 hx1 y0 y1)
          clear X0 X1 HR1 HD1 HE
          by_cases h0 : i > 0
          · rw [if_pos h0] at HG
            have e2 : decide (0 < i) = true:=decide_eq_true h0
            obtain ⟨j,hj⟩ : ∃ j,wrap64 (i - 1) = j:=⟨_,rfl⟩
            rw [hj] at HG
            have hj0 : 0≤j:=by unfold wrap64 at hj;have:=QI.out;have:=HL.out;omega
            have hj1 : j < (S.length : Int):=by unfold wrap64 at hj;have:=QI.out;have:=HL.out;omega
            have hjw : IntKind.i64.wrap (i - 1) = j:=(i64_w _).trans hj
            obtain ⟨ad2,B2,d2,e,hz0,hz1,hd2,hr2⟩:=at_T26 HS.out j hj0 hj1
            obtain rfl : ad = ad2:=by injection e
            obtain ⟨ad3,B3,d3,e',hy0,hy1,hd3,hr3⟩:=at_T26 HS.out i HI.out QI.out
            obtain rfl : ad = ad3:=by injection e'
            have HD2:=Aside0.mk hd2;have HR2:=Aside0.mk hr2;have HD3:=Aside0.mk hd3;have HR3:=Aside0.mk hr3
            have Z0:=Aside0.mk hz0;have Z1:=Aside0.mk hz1;have Y0:=Aside0.mk hy0;have Y1:=Aside0.mk hy1
            have p3 : (0≤j) = True:=eq_true hj0
            have p4 : (j < (S.length : Int)) = True:=eq_true hj1
            clear hd2 hr2 hd3 hr3 hj h0 hj0 hj1 e e'
            go_wp2
            go_region_held3 (fun w'=>w'.cell? (ad.add (j.toNat * 2)) = some (.int .i64 (rd_T26 S j).f0)∧w'.cell? ⟨(ad.add (j.toNat * 2)).block,(ad.add (j.toNat * 2)).off + 1,none⟩ = some (.slice B2 (rd_T26 S j).f1.length d2)∧w'.cell? (ad.add (i.toNat * 2)) = some (.int .i64 (rd_T26 S i).f0)∧w'.cell? ⟨(ad.add (i.toNat * 2)).block,(ad.add (i.toNat * 2)).off + 1,none⟩ = some (.slice B3 (rd_T26 S i).f1.length d3)) (first|exact ⟨Z0.out,Z1.out,Y0.out,Y1.out⟩|go_keep)
              (first|(go_at_call 20;go_loud ((with_reducible refine (laws_less5.calls k1 B2 d2 (rd_T26 S j).f1 B3 d3 (rd_T26 S i).f1 true _ ?s3 HD2.out ?s4 HD3.out HG.out).mono ?_);(case s3=>exact Kd.C_drew HR2.out);(case s4=>exact Kd.C_drew HR3.out);rintro e w2 ⟨rfl,⟨nd,rfl⟩⟩)))
            go_wp2
            go_roundg k1
            case measure=>omega
            case rel=>exact ⟨t2,wrap64 (i + 1),rfl,sz,⟨by have:=QI.out;have:=HL.out;have:=HI.out;rw [fl_wrap (by omega) (by omega)];omega⟩,HN,⟨Kd.C_drewN HS.out _⟩,⟨B4.out.drewN _⟩,⟨pw_below_drewN HB.out _⟩⟩
          · rw [if_neg h0] at HG
            have e2 : decide (0 < i) = false:=decide_eq_false h0
            clear h0
            go_wp2
            refine start_ (n:=17) (S:=fun w'=>True) (ds:=[]) #[false,false,false,false,false,false,false,false,false,false,false,false,false,false,false,false,false] (by kernel_rfl) rfl rfl trivial (fun hHeld=>?_);refine with_tabW laws_FnLeastAlphabets.tab43 laws_FnLeastAlphabets.bits43 (fun HT_ HW_=>?_)
            refine pure_ (i:=0) (N:=some 222) (v:=?_) (a':=?_) #[true,false,false,false,false,false,false,false,false,false,false,false,false,false,false,false,false] rfl rfl (any_of HT_.out (by kernel_rfl)) (fun _ _ _ h=>h) (Or.inl ⟨by rfl,?_⟩) ?_ ?_
            rotate_left
            · intro w'
              go_simp
              with_reducible rfl
            rotate_left
            · simp only [Act.put,s1,s2,s3,i64_w,i32_w]
              rfl
            refine pure_ (i:=1) (N:=some 223) (v:=?_) (a':=?_) #[true,true,false,false,false,false,false,false,false,false,false,false,false,false,false,false,false] rfl rfl (any_of HT_.out (by kernel_rfl)) (fun _ _ _ h=>h) (Or.inl ⟨by rfl,?_⟩) ?_ ?_
            rotate_left
            · intro w'
              go_simp
              with_reducible rfl
            rotate_left
            · simp only [Act.put,s1,s2,s3,i64_w,i32_w]
              rfl
            refine pure_ (i:=2) (N:=some 224) (v:=?_) (a':=?_) #[true,true,true,false,false,false,false,false,false,false,false,false,false,false,false,false,false] rfl rfl (any_of HT_.out (by kernel_rfl)) (fun _ _ _ h=>h) (Or.inl ⟨by rfl,?_⟩) ?_ ?_
            rotate_left
            · intro w'
              go_simp
              with_reducible rfl
            rotate_left
            · simp only [Act.put,s1,s2,s3,i64_w,i32_w]
              rfl
            refine pure_ (i:=3) (N:=some 225) (v:=undef) (a':=?_) #[true,true,true,true,false,false,false,false,false,false,false,false,false,false,false,false,false] rfl rfl (any_of HT_.out (by kernel_rfl)) (fun _ _ _ h=>h) (Or.inr ⟨by rfl,rfl⟩) ?_ ?_
            rotate_left
            · simp only [Act.put,s1,s2,s3,i64_w,i32_w]
              rfl
            refine pure_ (i:=4) (N:=some 226) (v:=undef) (a':=?_) #[true,true,true,true,true,false,false,false,false,false,false,false,false,false,false,false,false] rfl rfl (any_of HT_.out (by kernel_rfl)) (fun _ _ _ h=>h) (Or.inr ⟨by rfl,rfl⟩) ?_ ?_
            rotate_left
            · simp only [Act.put,s1,s2,s3,i64_w,i32_w]
              rfl
            refine pure_ (i:=5) (N:=some 227) (v:=undef) (a':=?_) #[true,true,true,true,true,true,false,false,false,false,false,false,false,false,false,false,false] rfl rfl (any_of HT_.out (by kernel_rfl)) (fun _ _ _ h=>h) (Or.inr ⟨by rfl,rfl⟩) ?_ ?_
            rotate_left
            · simp only [Act.put,s1,s2,s3,i64_w,i32_w]
              rfl
            refine pure_ (i:=6) (N:=some 228) (v:=undef) (a':=?_) #[true,true,true,true,true,true,true,false,false,false,false,false,false,false,false,false,false] rfl rfl (any_of HT_.out (by kernel_rfl)) (fun _ _ _ h=>h) (Or.inr ⟨by rfl,rfl⟩) ?_ ?_
            rotate_left
            · simp only [Act.put,s1,s2,s3,i64_w,i32_w]
              rfl
            refine pure_ (i:=7) (N:=some 229) (v:=undef) (a':=?_) #[true,true,true,true,true,true,true,true,false,false,false,false,false,false,false,false,false] rfl rfl (any_of HT_.out (by kernel_rfl)) (fun _ _ _ h=>h) (Or.inr ⟨by rfl,rfl⟩) ?_ ?_
            rotate_left
            · simp only [Act.put,s1,s2,s3,i64_w,i32_w]
              rfl
            refine pure_ (i:=8) (N:=some 230) (v:=undef) (a':=?_) #[true,true,true,true,true,true,true,true,true,false,false,false,false,false,false,false,false] rfl rfl (any_of HT_.out (by kernel_rfl)) (fun _ _ _ h=>h) (Or.inr ⟨by rfl,rfl⟩) ?_ ?_
            rotate_left
            · simp only [Act.put,s1,s2,s3,i64_w,i32_w]
              rfl
            refine pure_ (i:=9) (N:=some 231) (v:=undef) (a':=?_) #[true,true,true,true,true,true,true,true,true,true,false,false,false,false,false,false,false] rfl rfl (any_of HT_.out (by kernel_rfl)) (fun _ _ _ h=>h) (Or.inr ⟨by rfl,rfl⟩) ?_ ?_
            rotate_left
            · simp only [Act.put,s1,s2,s3,i64_w,i32_w]
              rfl
            refine pure_ (i:=10) (N:=some 232) (v:=undef) (a':=?_) #[true,true,true,true,true,true,true,true,true,true,true,false,false,false,false,false,false] rfl rfl (any_of HT_.out (by kernel_rfl)) (fun _ _ _ h=>h) (Or.inr ⟨by rfl,rfl⟩) ?_ ?_
            rotate_left
            · simp only [Act.put,s1,s2,s3,i64_w,i32_w]
              rfl
            refine pure_ (i:=11) (N:=some 233) (v:=undef) (a':=?_) #[true,true,true,true,true,true,true,true,true,true,true,true,false,false,false,false,false] rfl rfl (any_of HT_.out (by kernel_rfl)) (fun _ _ _ h=>h) (Or.inr ⟨by rfl,rfl⟩) ?_ ?_
            rotate_left
            · simp only [Act.put,s1,s2,s3,i64_w,i32_w]
              rfl
            refine pure_ (i:=12) (N:=some 234) (v:=undef) (a':=?_) #[true,true,true,true,true,true,true,true,true,true,true,true,true,false,false,false,false] rfl rfl (any_of HT_.out (by kernel_rfl)) (fun _ _ _ h=>h) (Or.inr ⟨by rfl,rfl⟩) ?_ ?_
            rotate_left
            · simp only [Act.put,s1,s2,s3,i64_w,i32_w]
              rfl
            refine pure_ (i:=13) (N:=some 235) (v:=undef) (a':=?_) #[true,true,true,true,true,true,true,true,true,true,true,true,true,true,false,false,false] rfl rfl (any_of HT_.out (by kernel_rfl)) (fun _ _ _ h=>h) (Or.inr ⟨by rfl,rfl⟩) ?_ ?_
            rotate_left
            · simp only [Act.put,s1,s2,s3,i64_w,i32_w]
              rfl
            refine pure_ (i:=14) (N:=some 236) (v:=undef) (a':=?_) #[true,true,true,true,true,true,true,true,true,true,true,true,true,true,true,false,false] rfl rfl (any_of HT_.out (by kernel_rfl)) (fun _ _ _ h=>h) (Or.inr ⟨by rfl,rfl⟩) ?_ ?_
            rotate_left
            · simp only [Act.put,s1,s2,s3,i64_w,i32_w]
              rfl
            refine pure_ (i:=15) (N:=some 237) (v:=undef) (a':=?_) #[true,true,true,true,true,true,true,true,true,true,true,true,true,true,true,true,false] rfl rfl (any_of HT_.out (by kernel_rfl)) (fun _ _ _ h=>h) (Or.inr ⟨by rfl,rfl⟩) ?_ ?_
            rotate_left
            · simp only [Act.put,s1,s2,s3,i64_w,i32_w]
              rfl
            refine pure_ (i:=16) (N:=some 238) (v:=?_) (a':=?_) #[true,true,true,true,true,true,true,true,true,true,true,true,true,true,true,true,true] rfl rfl (any_of HT_.out (by kernel_rfl)) (fun _ _ _ h=>h) (Or.inl ⟨by rfl,?_⟩) ?_ ?_
            rotate_left
            · intro w'
              go_simp
              with_reducible rfl
            rotate_left
            · simp only [Act.put,s1,s2,s3,i64_w,i32_w]
              rfl
            refine done_ (done_of HT_.out (by kernel_rfl)) ?_
            go_wp2
            go_roundg k1
            case measure=>omega
            case rel=>exact ⟨t2,wrap64 (i + 1),rfl,sz,⟨by have:=QI.out;have:=HL.out;have:=HI.out;rw [fl_wrap (by omega) (by omega)];omega⟩,HN,⟨Kd.C_drew HS.out⟩,⟨B4.out.below (below_drew1 (Below.refl _ _))⟩,⟨below_drew1 HB.out⟩⟩
      · rw [if_neg hi] at H
        have e1 : decide (i < (S.length : Int)) = false:=decide_eq_false hi
        obtain rfl:=Option.some.inj H
        clear hi H
        go_wp2
        go_ret
        exact ⟨rfl,HB.out⟩
set_option maxHeartbeats 4000000 in
set_option maxRecDepth 100000 in
theorem laws_FnLeastAlphabets.rest6 (k : Nat) (n : Int) (D L : List Int) (S : List S26) (A1 A3 A4 : Option Addr) (c1 c3 c4 : Nat) (g3 g4 gc capc : Nat) (w0 w : World) (u0 u1 u5 u6 u7 u8 u9 u10 u11 u12 u13 u14 u15 u16 u17 u18 u19 u20 u21 u22 u26 u27 u28 u29 u30 u31 u32 u33 u34 u35 u36 u37 u38 u39 u40 u41 u42 u43 u44 u45 u46 u47 u48 u49 u50 u51 u52 u53 u54 u55 u56 u57 u58 u59 u60 u61 u62 u63 u64 u65 u66 u67 u68 u69 u70 u71 u72 u73 u74 u75 u76 u77 u78 u79 u80 u81 u82 u83 u84 u85 u86 u87 u88 u89 u90 u91 u92 u93 u94 u95 u96 u97 u98 u99 u100 u101 u102 u103 u104 u105 u106 u107 u108 u109 u110 u111 u112 u113 u114 u115 u116 u117 u118 u119 u120 u121 u122 u123 u124 u125 u126 u127 u128 u129 u130 u131 u132 u133 u134 u135 u136 u137 u138 u139 u140 u141 u142 u143 u144 u145 u146 u147 u148 u149 u150 u151 u152 u153 u154 u155 u156 u157 u158 u159 u160 u161 u162 u163 u164 u165 u166 u167 u168 u169 u170 u171 u172 u173 u174 u175 u176 u177 u178 u179 u180 u181 u182 u183 u184 u185 u186 u187 u188 u189 u190 u191 u192 u193 u194 u195 u196 u197 u198 u199 u200 u201 u202 u203 u204 u205 u206 u207 u208 u209 u210 u211 u212 u213 u214 u215 u216 u217 u218 u219 u220 u221 u222 u223 u224 u225 u226 u227 u228 u229 u230 u231 u232 u233 u234 u235 u236 u237 u238 u239 : Value) (hB : Below w0.heap.size w0 w) (hS : Kd.C k26 w A1 S.length S) (b3 : Boxed w g3 n A3 c3 D) (b4 : Boxed w g4 n A4 c4 L) (hl : S.length≤11) (n0 : 0≤n) (n5 : n < 5)
    (hx : w.cell? ⟨gc,n.toNat,none⟩ = some (.int .i64 (S.length : Int))) (h : flAll S n L k false 0 = some true) :
    Code.wp Tryd.prog (prodsCode 36) (bodyPost Tryd.prog Tryd.f4 fun e w'=>e = .returned (.bool true)∧Below w0.heap.size w0 w') ⟨#[u0,u1,.bool false,.pointer (some ⟨g3,0,none⟩),.pointer (some ⟨g4,0,none⟩),u5,u6,u7,u8,u9,u10,u11,u12,u13,u14,u15,u16,u17,u18,u19,u20,u21,u22,.slice A1 S.length c1,.int .i64 0,.slice (some ⟨gc,0,none⟩) 5 capc,u26,u27,u28,u29,u30,u31,u32,u33,u34,u35,u36,u37,u38,u39,u40,u41,u42,u43,u44,u45,u46,u47,u48,u49,u50,u51,u52,u53,u54,u55,u56,u57,u58,u59,u60,u61,u62,u63,u64,u65,u66,u67,u68,u69,u70,u71,u72,u73,u74,u75,u76,u77,u78,u79,u80,u81,u82,u83,u84,u85,u86,u87,u88,u89,u90,u91,u92,u93,u94,u95,u96,u97,u98,u99,u100,u101,u102,u103,u104,u105,u106,u107,u108,u109,u110,u111,u112,u113,u114,u115,u116,u117,u118,u119,u120,u121,u122,u123,u124,u125,u126,u127,u128,u129,u130,u131,u132,u133,u134,u135,u136,u137,u138,u139,u140,u141,u142,u143,u144,u145,u146,u147,u148,u149,u150,u151,u152,u153,u154,u155,u156,u157,u158,u159,u160,u161,u162,u163,u164,u165,u166,u167,u168,u169,u170,u171,u172,u173,u174,u175,u176,u177,u178,u179,u180,u181,u182,u183,u184,u185,u186,u187,u188,u189,u190,u191,u192,u193,u194,u195,u196,u197,u198,u199,u200,u201,u202,u203,u204,u205,u206,u207,u208,u209,u210,u211,u212,u213,u214,u215,u216,u217,u218,u219,u220,u221,u222,u223,u224,u225,u226,u227,u228,u229,u230,u231,u232,u233,u234,u235,u236,u237,u238,u239],[]⟩ w:=by
  have B3:=Aside0.mk b3;have B4:=Aside0.mk b4;have HB:=Aside0.mk hB;have HS:=Aside0.mk hS;have HL:=Aside0.mk hl;have H:=Aside0.mk h
  clear b3 b4 hB hS hl h
  have x0:=B3.out.c0
  have d1 : decide (n < 5) = true:=decide_eq_true n5
  have d2 : decide (0≤n) = true:=decide_eq_true n0
  have d3:=eq_true n5
  have d4:=eq_true n0
  clear n0 n5
  conv=>arg 2;whnf
  iterate 39 go_step
  exact laws_FnLeastAlphabets.rest7 k n L S A1 A4 c1 c4 g4 w0 w _ _ _ _ _ _ _ _ _ _ _ _ _ _ _ _ _ _ _ _ _ _ _ _ _ _ _ _ _ _ _ _ _ _ _ _ _ _ _ _ _ _ _ _ _ _ _ _ _ _ _ _ _ _ _ _ _ _ _ _ _ _ _ _ _ _ _ _ _ _ _ _ _ _ _ _ _ _ _ _ _ _ _ _ _ _ _ _ _ _ _ _ _ _ _ _ _ _ _ _ _ _ _ _ _ _ _ _ _ _ _ _ _ _ _ _ _ _ _ _ _ _ _ _ _ _ _ _ _ _ _ _ _ _ _ _ _ _ _ _ _ _ _ _ _ _ _ _ _ _ _ _ _ _ _ _ _ _ _ _ _ _ _ _ _ _ _ _ _ _ _ _ _ _ _ _ _ _ _ _ _ _ _ _ _ _ _ _ _ _ _ _ _ _ _ _ _ _ _ _ _ _ _ _ _ _ _ _ _ _ _ _ _ _ _ _ _ _ _ _ _ _ _ _ _ _ _ _ _ _ _ _ _ _ _ _ _  HB.out HS.out B4.out HL.out H.out
set_option maxHeartbeats 4000000 in
set_option maxRecDepth 100000 in
theorem laws_FnLeastAlphabets.rest5 (k : Nat) (n : Int) (D L : List Int) (A3 A4 : Option Addr) (c3 c4 : Nat) (g3 g4 : Nat) (w0 w : World) (u0 u1 u5 u6 u7 u8 u9 u10 u11 u12 u13 u14 u15 u16 u17 u18 u19 u20 u21 u22 u23 u24 u25 u26 u27 u28 u29 u30 u31 u32 u33 u34 u35 u36 u37 u38 u39 u40 u41 u42 u43 u44 u45 u46 u47 u48 u49 u50 u51 u52 u53 u54 u55 u56 u57 u58 u59 u60 u61 u62 u63 u64 u65 u66 u67 u68 u69 u70 u71 u72 u73 u74 u75 u76 u77 u78 u79 u80 u81 u82 u83 u84 u85 u86 u87 u88 u89 u90 u91 u92 u93 u94 u95 u96 u97 u98 u99 u100 u101 u102 u103 u104 u105 u106 u107 u108 u109 u110 u111 u112 u113 u114 u115 u116 u117 u118 u119 u120 u121 u122 u123 u124 u125 u126 u127 u128 u129 u130 u131 u132 u133 u134 u135 u136 u137 u138 u139 u140 u141 u142 u143 u144 u145 u146 u147 u148 u149 u150 u151 u152 u153 u154 u155 u156 u157 u158 u159 u160 u161 u162 u163 u164 u165 u166 u167 u168 u169 u170 u171 u172 u173 u174 u175 u176 u177 u178 u179 u180 u181 u182 u183 u184 u185 u186 u187 u188 u189 u190 u191 u192 u193 u194 u195 u196 u197 u198 u199 u200 u201 u202 u203 u204 u205 u206 u207 u208 u209 u210 u211 u212 u213 u214 u215 u216 u217 u218 u219 u220 u221 u222 u223 u224 u225 u226 u227 u228 u229 u230 u231 u232 u233 u234 u235 u236 u237 u238 u239 : Value) (hB : Below w0.heap.size w0 w) (hT : TabW w) (b3 : Boxed w g3 n A3 c3 D) (b4 : Boxed w g4 n A4 c4 L) (n0 : 0≤n)
    (h : (if n > 4 then some true else (impl_AllAlphabets.f k n).bind fun all=>if all.2 = 0∧(all.1.length : Int) = [1,1,2,4,11].getD n.toNat 0∧flAll all.1 n L k false 0 = some true then some true else none) = some true) :
    Code.wp Tryd.prog (prodsCode 32) (bodyPost Tryd.prog Tryd.f4 fun e w'=>e = .returned (.bool true)∧Below w0.heap.size w0 w') ⟨#[u0,u1,.bool false,.pointer (some ⟨g3,0,none⟩),.pointer (some ⟨g4,0,none⟩),u5,u6,u7,u8,u9,u10,u11,u12,u13,u14,u15,u16,u17,u18,u19,u20,u21,u22,u23,u24,u25,u26,u27,u28,u29,u30,u31,u32,u33,u34,u35,u36,u37,u38,u39,u40,u41,u42,u43,u44,u45,u46,u47,u48,u49,u50,u51,u52,u53,u54,u55,u56,u57,u58,u59,u60,u61,u62,u63,u64,u65,u66,u67,u68,u69,u70,u71,u72,u73,u74,u75,u76,u77,u78,u79,u80,u81,u82,u83,u84,u85,u86,u87,u88,u89,u90,u91,u92,u93,u94,u95,u96,u97,u98,u99,u100,u101,u102,u103,u104,u105,u106,u107,u108,u109,u110,u111,u112,u113,u114,u115,u116,u117,u118,u119,u120,u121,u122,u123,u124,u125,u126,u127,u128,u129,u130,u131,u132,u133,u134,u135,u136,u137,u138,u139,u140,u141,u142,u143,u144,u145,u146,u147,u148,u149,u150,u151,u152,u153,u154,u155,u156,u157,u158,u159,u160,u161,u162,u163,u164,u165,u166,u167,u168,u169,u170,u171,u172,u173,u174,u175,u176,u177,u178,u179,u180,u181,u182,u183,u184,u185,u186,u187,u188,u189,u190,u191,u192,u193,u194,u195,u196,u197,u198,u199,u200,u201,u202,u203,u204,u205,u206,u207,u208,u209,u210,u211,u212,u213,u214,u215,u216,u217,u218,u219,u220,u221,u222,u223,u224,u225,u226,u227,u228,u229,u230,u231,u232,u233,u234,u235,u236,u237,u238,u239],[]⟩ w:=by
  have HB:=Aside0.mk hB;have HT:=Aside0.mk hT;have B3:=Aside0.mk b3;have B4:=Aside0.mk b4
  clear hB hT b3 b4
  have x0:=B3.out.c0
  by_cases h4 : n > 4
  · have e1 : decide (4 < n) = true:=decide_eq_true h4
    clear h4 h
    conv=>arg 2;whnf
    go_wp2
    go_ret
    exact ⟨rfl,HB.out⟩
  · rw [if_neg h4] at h
    replace h:=Option.bind_eq_some_iff.mp h
    obtain ⟨⟨S,c⟩,h1,h⟩:=h
    split at h
    rotate_left
    · cases h
    rename_i hF
    obtain ⟨f1,f2,f3⟩:=hF
    dsimp only at f1 f2 f3
    subst f1
    have e1 : decide (4 < n) = false:=decide_eq_false h4
    have H1:=Aside0.mk h1;have F2:=Aside0.mk f2;have F3:=Aside0.mk f3
    clear h h1 f2 f3
    conv=>arg 2;whnf
    go_upto_region 35 with (go_at_call 19;go_loud ((with_reducible refine (impl_AllAlphabets.calls k n S 0 _ ?s1 H1.out).mono ?_);(case s1=>exact TabW.below HT.out (Below.refl _ _));rintro e w1 ⟨v1,rfl,ho,hb⟩;obtain ⟨A1,c1,rfl⟩:=Kd.S_slice ho;have HS:=Aside0.mk ho;replace HB:=Aside0.mk (below_step HB.out hb);replace B3:=Aside0.mk (B3.out.below hb);replace B4:=Aside0.mk (B4.out.below hb);clear ho hb x0))
    iterate 1 go_step
    ((with_reducible refine gate_dst (N:=194) rfl ?_);go_loud (refine Kd.R_lit (Kd.int .i64) _ 2 ?hg (N:=194) ?hd (xs:=([1,1,2,4,11] : List Int)) (inner:=[.int .i64 1,.int .i64 1,.int .i64 2,.int .i64 4,.int .i64 11]) (ok:=fun _=>True) (okp:=fun _=>True) ?hr ?hp (fun _ hk=>hk) trivial (Below.refl _ _) (Nat.le_refl _) (by simp) ?_;(case hd=>rfl);(case hg=>rfl);(case hr=>first|(go_simp;done)|(go_simp;rfl));(case hp=>exact (Reps.one (show Kd.M (Kd.int .i64) _ _ _ 1 [.int .i64 1] from rfl) (Reps.one (show Kd.M (Kd.int .i64) _ _ _ 1 [.int .i64 1] from rfl) (Reps.one (show Kd.M (Kd.int .i64) _ _ _ 2 [.int .i64 2] from rfl) (Reps.one (show Kd.M (Kd.int .i64) _ _ _ 4 [.int .i64 4] from rfl) (Reps.one (show Kd.M (Kd.int .i64) _ _ _ 11 [.int .i64 11] from rfl) (Reps.none _ _)))))));intro v2 w2 ho hb hg_ hnew_;clear hg_ hnew_;have HC:=Aside0.mk ho;replace HB:=Aside0.mk (below_step (beQ HB) hb);replace HS:=Aside0.mk (Kd.S_below HS.out hb);replace B3:=Aside0.mk (B3.out.below hb);replace B4:=Aside0.mk (B4.out.below hb);clear hb ho))
    iterate 6 go_step
    have nn : n < 5:=by omega
    obtain ⟨gc,capc,rfl,-⟩:=Kd.R_form HC.out (by decide)
    have e5 : ([1,1,2,4,11] : List Int).length = 5:=rfl
    rw [e5]
    clear e5
    have hx : w2.cell? ⟨gc,n.toNat,none⟩ = some (.int .i64 (S.length : Int)):=by
      have:=(Kd.R_celln 0 HC.out n n0 nn).1
      rw [F2.out]
      exact this
    have hl : S.length≤11:=by
      have:=F2.out
      have e : n.toNat = 0∨n.toNat = 1∨n.toNat = 2∨n.toNat = 3∨n.toNat = 4:=by omega
      rcases e with e|e|e|e|e <;> rw [e] at this <;> simp at this <;> omega
    have HL:=Aside0.mk hl
    have N0:=Aside0.mk n0
    have NN:=Aside0.mk nn
    have HX:=Aside0.mk hx
    clear HC F2 hl n0 nn hx h4
    exact laws_FnLeastAlphabets.rest6 k n D L S A1 A3 A4 c1 c3 c4 g3 g4 gc capc w0 w2 _ _ _ _ _ _ _ _ _ _ _ _ _ _ _ _ _ _ _ _ _ _ _ _ _ _ _ _ _ _ _ _ _ _ _ _ _ _ _ _ _ _ _ _ _ _ _ _ _ _ _ _ _ _ _ _ _ _ _ _ _ _ _ _ _ _ _ _ _ _ _ _ _ _ _ _ _ _ _ _ _ _ _ _ _ _ _ _ _ _ _ _ _ _ _ _ _ _ _ _ _ _ _ _ _ _ _ _ _ _ _ _ _ _ _ _ _ _ _ _ _ _ _ _ _ _ _ _ _ _ _ _ _ _ _ _ _ _ _ _ _ _ _ _ _ _ _ _ _ _ _ _ _ _ _ _ _ _ _ _ _ _ _ _ _ _ _ _ _ _ _ _ _ _ _ _ _ _ _ _ _ _ _ _ _ _ _ _ _ _ _ _ _ _ _ _ _ _ _ _ _ _ _ _ _ _ _ _ _ _ _ _ _ _ _ _ _ _ _ _ _ _ _ _ _ _ _ _ _ _ _ _ _ _  HB.out (Kd.S_reads' HS.out).2.2 B3.out B4.out HL.out N0.out NN.out HX.out F3.out
theorem boxed_newC {W0 W1 W2 : World} {g : Nat} {n : Int} {A : Option Addr} {c : Nat} {l : List Int} (hr : Kd.C (Kd.int .i64) W1 A l.length l) (hc : l.length≤c) (h1 : Below W0.heap.size W0 W1) (h2 : Below W1.heap.size W1 W2) (hg : g = W1.heap.size) (hb : W2.heap[g]? = some (.cells #[.int .i64 0,.slice none 0 0] 26 (0,0))) :
    Boxed ((W2.setCell ⟨g,0,none⟩ (.int .i64 n)).setCell ⟨g,1,none⟩ (.slice A l.length c)) g n A c l∧Below W0.heap.size W0 ((W2.setCell ⟨g,0,none⟩ (.int .i64 n)).setCell ⟨g,1,none⟩ (.slice A l.length c)):=by
  have hge : W1.heap.size≤g:=Nat.le_of_eq hg.symm
  have hB2 : Below W1.heap.size W1 ((W2.setCell ⟨g,0,none⟩ (.int .i64 n)).setCell ⟨g,1,none⟩ (.slice A l.length c)):=below_set (below_set h2 hge) hge
  exact ⟨⟨blk_put (cs:=#[.int .i64 n,.slice none 0 0]) (blk_put hb 0 _ rfl) 1 _ rfl,Kd.C_below hr hB2,hc⟩,below_step h1 hB2⟩
set_option maxHeartbeats 4000000 in
set_option maxRecDepth 100000 in
theorem laws_FnLeastAlphabets.rest4 (k : Nat) (n : Int) (D L T : List Int) (t : Bool) (A3 A4 A8 A14 : Option Addr) (c3 c4 c8 c14 : Nat) (g3 g4 g8 g14 : Nat) (w0 w : World) (u0 u1 u5 u6 u7 u10 u11 u12 u13 u15 u16 u17 u18 u19 u20 u21 u22 u23 u24 u25 u26 u27 u28 u29 u30 u31 u32 u33 u34 u35 u36 u37 u38 u39 u40 u41 u42 u43 u44 u45 u46 u47 u48 u49 u50 u51 u52 u53 u54 u55 u56 u57 u58 u59 u60 u61 u62 u63 u64 u65 u66 u67 u68 u69 u70 u71 u72 u73 u74 u75 u76 u77 u78 u79 u80 u81 u82 u83 u84 u85 u86 u87 u88 u89 u90 u91 u92 u93 u94 u95 u96 u97 u98 u99 u100 u101 u102 u103 u104 u105 u106 u107 u108 u109 u110 u111 u112 u113 u114 u115 u116 u117 u118 u119 u120 u121 u122 u123 u124 u125 u126 u127 u128 u129 u130 u131 u132 u133 u134 u135 u136 u137 u138 u139 u140 u141 u142 u143 u144 u145 u146 u147 u148 u149 u150 u151 u152 u153 u154 u155 u156 u157 u158 u159 u160 u161 u162 u163 u164 u165 u166 u167 u168 u169 u170 u171 u172 u173 u174 u175 u176 u177 u178 u179 u180 u181 u182 u183 u184 u185 u186 u187 u188 u189 u190 u191 u192 u193 u194 u195 u196 u197 u198 u199 u200 u201 u202 u203 u204 u205 u206 u207 u208 u209 u210 u211 u212 u213 u214 u215 u216 u217 u218 u219 u220 u221 u222 u223 u224 u225 u226 u227 u228 u229 u230 u231 u232 u233 u234 u235 u236 u237 u238 u239 : Value) (hB : Below w0.heap.size w0 w) (hT : TabW w) (b3 : Boxed w g3 n A3 c3 D) (b4 : Boxed w g4 n A4 c4 L) (b8 : Boxed w g8 n A8 c8 L) (b14 : Boxed w g14 n A14 c14 T) (n0 : 0≤n)
    (o1 : impl_LeastAlphabet.f k n T = some (n,L,0)) (o2 : impl_HasTransitiveExchange.f k n D = some (t,0)) (o3 : impl_HasTransitiveExchange.f k n T = some (t,0)) (o4 : laws_likeAlphabet5.f k n L n L = some true)
    (h : (if n > 4 then some true else (impl_AllAlphabets.f k n).bind fun all=>if all.2 = 0∧(all.1.length : Int) = [1,1,2,4,11].getD n.toNat 0∧flAll all.1 n L k false 0 = some true then some true else none) = some true) :
    Code.wp Tryd.prog (prodsCode 27) (bodyPost Tryd.prog Tryd.f4 fun e w'=>e = .returned (.bool true)∧Below w0.heap.size w0 w') ⟨#[u0,u1,.bool false,.pointer (some ⟨g3,0,none⟩),.pointer (some ⟨g4,0,none⟩),u5,u6,u7,.pointer (some ⟨g8,0,none⟩),.int .i64 0,u10,u11,u12,u13,.pointer (some ⟨g14,0,none⟩),u15,u16,u17,u18,u19,u20,u21,u22,u23,u24,u25,u26,u27,u28,u29,u30,u31,u32,u33,u34,u35,u36,u37,u38,u39,u40,u41,u42,u43,u44,u45,u46,u47,u48,u49,u50,u51,u52,u53,u54,u55,u56,u57,u58,u59,u60,u61,u62,u63,u64,u65,u66,u67,u68,u69,u70,u71,u72,u73,u74,u75,u76,u77,u78,u79,u80,u81,u82,u83,u84,u85,u86,u87,u88,u89,u90,u91,u92,u93,u94,u95,u96,u97,u98,u99,u100,u101,u102,u103,u104,u105,u106,u107,u108,u109,u110,u111,u112,u113,u114,u115,u116,u117,u118,u119,u120,u121,u122,u123,u124,u125,u126,u127,u128,u129,u130,u131,u132,u133,u134,u135,u136,u137,u138,u139,u140,u141,u142,u143,u144,u145,u146,u147,u148,u149,u150,u151,u152,u153,u154,u155,u156,u157,u158,u159,u160,u161,u162,u163,u164,u165,u166,u167,u168,u169,u170,u171,u172,u173,u174,u175,u176,u177,u178,u179,u180,u181,u182,u183,u184,u185,u186,u187,u188,u189,u190,u191,u192,u193,u194,u195,u196,u197,u198,u199,u200,u201,u202,u203,u204,u205,u206,u207,u208,u209,u210,u211,u212,u213,u214,u215,u216,u217,u218,u219,u220,u221,u222,u223,u224,u225,u226,u227,u228,u229,u230,u231,u232,u233,u234,u235,u236,u237,u238,u239],[]⟩ w:=by
  have hu:=Tryd.underlying26
  have HB:=Aside0.mk hB;have HT:=Aside0.mk hT;have B3:=Aside0.mk b3;have B4:=Aside0.mk b4;have B8:=Aside0.mk b8;have B14:=Aside0.mk b14;have N0:=Aside0.mk n0;have O1:=Aside0.mk o1;have O2:=Aside0.mk o2;have O3:=Aside0.mk o3;have O4:=Aside0.mk o4;have H:=Aside0.mk h
  clear hB hT b3 b4 b8 b14 n0 o1 o2 o3 o4 h
  have x0:=B14.out.c0;have x1:=B14.out.c1
  have ht : (t != t) = false:=by simp
  have HQ:=Aside0.mk ht
  clear ht
  conv=>arg 2;whnf
  go_upto_region 28 with (first
   |(go_at_call 8;((with_reducible refine (impl_LeastAlphabet.calls k n A14 c14 T n L 0 _ ?s1 B14.out.cap ?s2 O1.out).mono ?_);(case s1=>exact B14.out.row);(case s2=>exact HT.out);rintro e w1 ⟨v1,rfl,ho1,hb1⟩;have HO1:=Aside0.mk ho1;have HB1:=Aside0.mk hb1;clear ho1 hb1 x0 x1))
   |((with_reducible refine gate_dst (N:=17) rfl ?_);refine box_event ?hg (N:=17) ?hd (cs:=#[.int .i64 0,.slice none 0 0]) (t:=26) ?hr ?_;(case hd=>rfl);(case hg=>rfl);(case hr=>first|(go_simp;done)|(go_simp;rfl));intro g17 hg w2 hbox hb;obtain ⟨A17,c17,rfl⟩:=Kd.R_slice HO1.out;have bn:=boxed_newC (n:=n) (c:=c17) (Kd.R_reads' HO1.out).2.2 (Kd.R_reads' HO1.out).2.1 HB1.out hb hg hbox;have B17:=Aside0.mk bn.1;have HB2:=Aside0.mk bn.2;clear bn hg hb;have z0 : w2.cell? ⟨g17,0,none⟩ = some (.int .i64 0):=(blk_cell hbox 0).trans rfl;have z1 : w2.cell? ⟨g17,1,none⟩ = some (.slice none 0 0):=(blk_cell hbox 1).trans rfl;have z2:=blk_frozen hbox 0;have z3:=blk_frozen hbox 1;clear hbox))
  replace B3:=Aside0.mk (B3.out.below HB2.out);replace B4:=Aside0.mk (B4.out.below HB2.out);replace B8:=Aside0.mk (B8.out.below HB2.out);replace B14:=Aside0.mk (B14.out.below HB2.out);replace HT:=Aside0.mk (TabW.below HT.out HB2.out);replace HB:=Aside0.mk (below_step HB.out HB2.out)
  clear z0 z1 z2 z3 HB1 HB2 HO1
  (try simp only [drewN_set])
  generalize (w2.setCell ⟨g17,0,none⟩ (.int .i64 n)).setCell ⟨g17,1,none⟩ (.slice A17 L.length c17) = w3 at B3 B4 B8 B14 B17 HT HB ⊢
  have x0:=B3.out.c0;have x1:=B3.out.c1
  go_upto_region 29 with (first
   |(go_at_call 18;((with_reducible refine (impl_HasTransitiveExchange.calls k n A3 c3 D t 0 _ ?s3 B3.out.cap ?s4 O2.out).mono ?_);(case s3=>exact B3.out.row);(case s4=>exact HT.out);rintro e w4 ⟨rfl,hb⟩;replace B3:=Aside0.mk (B3.out.below hb);replace B4:=Aside0.mk (B4.out.below hb);replace B8:=Aside0.mk (B8.out.below hb);replace B14:=Aside0.mk (B14.out.below hb);replace B17:=Aside0.mk (B17.out.below hb);replace HT:=Aside0.mk (TabW.below HT.out hb);replace HB:=Aside0.mk (below_step HB.out hb);clear hb x0 x1)))
  have x0:=B14.out.c0;have x1:=B14.out.c1
  go_upto_region 30 with (first
   |(go_at_call 18;((with_reducible refine (impl_HasTransitiveExchange.calls k n A14 c14 T t 0 _ ?s5 B14.out.cap ?s6 O3.out).mono ?_);(case s5=>exact B14.out.row);(case s6=>exact HT.out);rintro e w5 ⟨rfl,hb⟩;replace B3:=Aside0.mk (B3.out.below hb);replace B4:=Aside0.mk (B4.out.below hb);replace B8:=Aside0.mk (B8.out.below hb);replace B17:=Aside0.mk (B17.out.below hb);replace HT:=Aside0.mk (TabW.below HT.out hb);replace HB:=Aside0.mk (below_step HB.out hb);clear hb x0 x1 B14)))
  have x0:=B4.out.c0;have x1:=B4.out.c1;have y0:=B8.out.c0;have y1:=B8.out.c1
  have ht:=HQ.out
  go_upto_if 184 with (first
   |(go_at_call 15;((with_reducible refine (laws_likeAlphabet5.calls k n A8 c8 L n A4 c4 L true _ ?s7 B8.out.cap ?s8 B4.out.cap O4.out).mono ?_);(case s7=>exact B8.out.row);(case s8=>exact B4.out.row);rintro e w6 ⟨rfl,hb⟩;replace B3:=Aside0.mk (B3.out.below hb);replace B4:=Aside0.mk (B4.out.below hb);replace B17:=Aside0.mk (B17.out.below hb);replace HT:=Aside0.mk (TabW.below HT.out hb);replace HB:=Aside0.mk (below_step HB.out hb);clear hb x0 x1 y0 y1 B8;have x0:=B4.out.c0;have x1:=B4.out.c1;have y0:=B17.out.c0;have y1:=B17.out.c1))
   |(go_at_call 15;((with_reducible refine (laws_likeAlphabet5.calls k n A17 c17 L n A4 c4 L true _ ?s9 B17.out.cap ?s10 B4.out.cap O4.out).mono ?_);(case s9=>exact B17.out.row);(case s10=>exact B4.out.row);rintro e w7 ⟨rfl,hb⟩;replace B3:=Aside0.mk (B3.out.below hb);replace B4:=Aside0.mk (B4.out.below hb);replace HT:=Aside0.mk (TabW.below HT.out hb);replace HB:=Aside0.mk (below_step HB.out hb);clear hb x0 x1 y0 y1 B17)))
  clear ht HQ
  refine wp_cond_false rfl ?_
  go_step
  go_step
  go_step
  exact laws_FnLeastAlphabets.rest5 k n D L A3 A4 c3 c4 g3 g4 w0 _ _ _ _ _ _ _ _ _ _ _ _ _ _ _ _ _ _ _ _ _ _ _ _ _ _ _ _ _ _ _ _ _ _ _ _ _ _ _ _ _ _ _ _ _ _ _ _ _ _ _ _ _ _ _ _ _ _ _ _ _ _ _ _ _ _ _ _ _ _ _ _ _ _ _ _ _ _ _ _ _ _ _ _ _ _ _ _ _ _ _ _ _ _ _ _ _ _ _ _ _ _ _ _ _ _ _ _ _ _ _ _ _ _ _ _ _ _ _ _ _ _ _ _ _ _ _ _ _ _ _ _ _ _ _ _ _ _ _ _ _ _ _ _ _ _ _ _ _ _ _ _ _ _ _ _ _ _ _ _ _ _ _ _ _ _ _ _ _ _ _ _ _ _ _ _ _ _ _ _ _ _ _ _ _ _ _ _ _ _ _ _ _ _ _ _ _ _ _ _ _ _ _ _ _ _ _ _ _ _ _ _ _ _ _ _ _ _ _ _ _ _ _ _ _ _ _ _ _ _ _ _ _ _ _ _ _ _  HB.out HT.out B3.out B4.out N0.out H.out
structure Turned (b : Nat) (W : World) (g : Nat) (n : Int) (A : Option Addr) (c N : Nat) (T : List Int) : Prop where
  blk : W.heap[g]? = some (.cells #[.int .i64 n,.slice A N c] 26 (0,0))
  own : Kd.R (Kd.int .i64) 2 W b (fun _=>True) (.slice A N c) T
theorem Turned.drew {b : Nat} {W : World} {g : Nat} {n : Int} {A : Option Addr} {c N : Nat} {T : List Int} (h : Turned b W g n A c N T) : Turned b W.drew g n A c N T:=⟨blk_drew h.blk,Kd.R_drew h.own⟩
theorem Turned.put {b : Nat} {W : World} {g go : Nat} {n : Int} {c N : Nat} {T : List Int} (h : Turned b W g n (some ⟨go,0,none⟩) c N T) (hne : g ≠ go) (i x : Int) : Turned b (W.setCell ⟨go,i.toNat,none⟩ (.int .i64 x)) g n (some ⟨go,0,none⟩) c N (T.set i.toNat x) :=
  ⟨blk_far h.blk hne _,Kd.R_putn h.own i x⟩
theorem Turned.boxed {b : Nat} {W : World} {g : Nat} {n : Int} {A : Option Addr} {c N : Nat} {T : List Int} (h : Turned b W g n A c N T) : Boxed W g n A c T:=by
  have e:=(Kd.R_reads' h.own).1
  subst e
  exact ⟨h.blk,(Kd.R_reads' h.own).2.2,(Kd.R_reads' h.own).2.1⟩
def laws_FnLeastAlphabets.T26 : Bool×List (List Nat×List Nat):=(true,[([],[]),([0],[0]),([],[]),([],[]),([2,3],[2,3]),([4],[4]),([],[]),([6],[6]),([],[]),([],[]),([8,9],[8,9]),([10],[10]),([7,11],[7,11]),([12],[12]),([],[]),([],[]),([14,15],[14,15]),([16],[16]),([17],[17]),([18],[18]),([13,19],[13,19]),([1,5,0,1,2,3,4,5,6,7,8,9,10,11,12,13,14,15,16,17,18,19,20],[1,5]),([21,20,0,1,2,3,4,5,6,7,8,9,10,11,12,13,14,15,16,17,18,19,20],[20,21])])
def laws_FnLeastAlphabets.B26 : List Nat:=[0,1,0,0,12,28,0,64,0,0,768,1792,4032,8128,0,0,49152,114688,245760,507904,1048512,2097151,4194303]
theorem laws_FnLeastAlphabets.tab26 : rtab .any (opsOf Tryd.f4 26) = laws_FnLeastAlphabets.T26:=by kernel_rfl
theorem laws_FnLeastAlphabets.bits26 : waitsOk laws_FnLeastAlphabets.T26.2 laws_FnLeastAlphabets.B26 = true:=by kernel_rfl
set_option maxHeartbeats 8000000 in
set_option maxRecDepth 100000 in
theorem laws_FnLeastAlphabets.rest3b (k : Nat) (n : Int) (D L p T0 Tf : List Int) (t : Bool) (A3 A4 A8 A11 A14 : Option Addr) (c3 c4 c8 c11 c14 N : Nat) (g3 g4 g8 g14 : Nat) (w0 w1 w : World) (u0 u1 u5 u6 u7 u10 u12 u13 u15 u16 u17 u18 u19 u20 u21 u22 u23 u24 u25 u26 u27 u28 u29 u30 u31 u32 u33 u34 u35 u36 u37 u38 u39 u40 u41 u42 u43 u44 u45 u46 u47 u48 u49 u50 u51 u52 u53 u54 u55 u56 u57 u58 u59 u60 u61 u62 u63 u64 u65 u66 u67 u68 u69 u70 u71 u72 u73 u74 u75 u76 u77 u78 u79 u80 u81 u82 u83 u84 u85 u86 u87 u88 u89 u90 u91 u92 u93 u94 u95 u96 u97 u98 u99 u100 u101 u102 u103 u104 u105 u106 u107 u108 u109 u110 u111 u112 u113 u114 u115 u116 u117 u118 u119 u120 u121 u122 u123 u124 u125 u126 u127 u128 u129 u130 u131 u132 u133 u134 u135 u136 u137 u138 u139 u140 u141 u142 u143 u144 u145 u146 u147 u148 u149 u150 u151 u152 u153 u154 u155 u156 u157 u158 u159 u160 u161 u162 u163 u164 u165 u166 u167 u168 u169 u170 u171 u172 u173 u174 u175 u176 u177 u178 u179 u180 u181 u182 u183 u184 u185 u186 u187 u188 u189 u190 u191 u192 u193 u194 u195 u196 u197 u198 u199 u200 u201 u202 u203 u204 u205 u206 u207 u208 u209 u210 u211 u212 u213 u214 u215 u216 u217 u218 u219 u220 u221 u222 u223 u224 u225 u226 u227 u228 u229 u230 u231 u232 u233 u234 u235 u236 u237 u238 u239 : Value) (hB : Below w0.heap.size w0 w1) (hT : TabW w1) (b3 : Boxed w1 g3 n A3 c3 D) (b4 : Boxed w1 g4 n A4 c4 L) (b8 : Boxed w1 g8 n A8 c8 L) (hp : Kd.C (Kd.int .i64) w1 A11 p.length p)
    (hw : Below w1.heap.size w1 w) (tn : Turned w1.heap.size w g14 n A14 c14 N T0) (h0 : flTurn1 n D p k 0 T0 = some Tf) (n0 : 0≤n) (n5 : n≤5)
    (o1 : impl_LeastAlphabet.f k n Tf = some (n,L,0)) (o2 : impl_HasTransitiveExchange.f k n D = some (t,0)) (o3 : impl_HasTransitiveExchange.f k n Tf = some (t,0)) (o4 : laws_likeAlphabet5.f k n L n L = some true)
    (h : (if n > 4 then some true else (impl_AllAlphabets.f k n).bind fun all=>if all.2 = 0∧(all.1.length : Int) = [1,1,2,4,11].getD n.toNat 0∧flAll all.1 n L k false 0 = some true then some true else none) = some true) :
    Code.wp Tryd.prog (prodsCode 19) (bodyPost Tryd.prog Tryd.f4 fun e w'=>e = .returned (.bool true)∧Below w0.heap.size w0 w') ⟨#[u0,u1,.bool false,.pointer (some ⟨g3,0,none⟩),.pointer (some ⟨g4,0,none⟩),u5,u6,u7,.pointer (some ⟨g8,0,none⟩),.int .i64 0,u10,.slice A11 p.length c11,u12,u13,.pointer (some ⟨g14,0,none⟩),u15,u16,u17,u18,u19,u20,u21,u22,u23,u24,u25,u26,u27,u28,u29,u30,u31,u32,u33,u34,u35,u36,u37,u38,u39,u40,u41,u42,u43,u44,u45,u46,u47,u48,u49,u50,u51,u52,u53,u54,u55,u56,u57,u58,u59,u60,u61,u62,u63,u64,u65,u66,u67,u68,u69,u70,u71,u72,u73,u74,u75,u76,u77,u78,u79,u80,u81,u82,u83,u84,u85,u86,u87,u88,u89,u90,u91,u92,u93,u94,u95,u96,u97,u98,u99,u100,u101,u102,u103,u104,u105,u106,u107,u108,u109,u110,u111,u112,u113,u114,u115,u116,u117,u118,u119,u120,u121,u122,u123,u124,u125,u126,u127,u128,u129,u130,u131,u132,u133,u134,u135,u136,u137,u138,u139,u140,u141,u142,u143,u144,u145,u146,u147,u148,u149,u150,u151,u152,u153,u154,u155,u156,u157,u158,u159,u160,u161,u162,u163,u164,u165,u166,u167,u168,u169,u170,u171,u172,u173,u174,u175,u176,u177,u178,u179,u180,u181,u182,u183,u184,u185,u186,u187,u188,u189,u190,u191,u192,u193,u194,u195,u196,u197,u198,u199,u200,u201,u202,u203,u204,u205,u206,u207,u208,u209,u210,u211,u212,u213,u214,u215,u216,u217,u218,u219,u220,u221,u222,u223,u224,u225,u226,u227,u228,u229,u230,u231,u232,u233,u234,u235,u236,u237,u238,u239],[]⟩ w:=by
  have hu:=Tryd.underlying26
  have HB:=Aside0.mk hB;have HT:=Aside0.mk hT;have B3:=Aside0.mk b3;have B4:=Aside0.mk b4;have B8:=Aside0.mk b8;have HP:=Aside0.mk hp;have HW:=Aside0.mk hw;have TN:=Aside0.mk tn;have H0:=Aside0.mk h0;have N0:=Aside0.mk n0;have N5:=Aside0.mk n5;have O1:=Aside0.mk o1;have O2:=Aside0.mk o2;have O3:=Aside0.mk o3;have O4:=Aside0.mk o4;have H:=Aside0.mk h
  clear hB hT b3 b4 b8 hp hw tn h0 n0 n5 o1 o2 o3 o4 h
  conv=>arg 2;whnf
  go_wp2
  go_loopg [15] k (fun kq v15 w'=>∃ (a : Int) (T : List Int),v15 = .int .i64 a∧Aside0 (flTurn1 n D p kq a T = some Tf)∧Aside0 (kq≤k)∧Aside0 (Below w1.heap.size w1 w')∧Aside0 (Turned w1.heap.size w' g14 n A14 c14 N T))
  case atStart=>exact ⟨0,T0,rfl,H0,⟨Nat.le_refl _⟩,HW,TN⟩
  case round =>
    clear H0 HW TN
    obtain ⟨a,T,rfl,HR,HK,HW,TN⟩:=hrel
    cases gk with
   |zero=>exact absurd HR.out (by simp [flTurn1])
   |succ k1 =>
      have G:=HR.out
      clear HR
      simp only [flTurn1] at G
      have x0:=(B3.out.below HW.out).c0
      by_cases ha : a < n
      · rw [if_pos ha] at G
        replace G:=Option.bind_eq_some_iff.mp G
        obtain ⟨T2,h2,G⟩:=G
        have e1 : decide (a < n) = true:=decide_eq_true ha
        have AN:=Aside0.mk ha
        have H2:=Aside0.mk h2
        have HN:=Aside0.mk G
        clear h2 G ha
        go_wp2
        go_loopg [16] k1 (fun kq v16 w'=>∃ (b : Int) (T : List Int),v16 = .int .i64 b∧Aside0 (flTurn2 n D p a kq b T = some T2)∧Aside0 (kq≤k1)∧Aside0 (Below w1.heap.size w1 w')∧Aside0 (Turned w1.heap.size w' g14 n A14 c14 N T))
        case atStart=>exact ⟨0,T,rfl,H2,⟨Nat.le_refl _⟩,HW,TN⟩
        case round =>
          clear H2 HW TN x0 e1
          obtain ⟨b,T,rfl,HR,HK2,HW,TN⟩:=hrel
          cases gk with
         |zero=>exact absurd HR.out (by simp [flTurn2])
         |succ k2 =>
            have G:=HR.out
            clear HR
            simp only [flTurn2] at G
            by_cases hb : b < n
            · rw [if_pos hb] at G
              have e1 : decide (b < n) = true:=decide_eq_true hb
              have BN:=Aside0.mk hb
              obtain ⟨j,hj⟩ : ∃ j,IntKind.u64.wrap b = j:=⟨_,rfl⟩
              rw [hj] at G
              by_cases hc : (0≤a∧a < (D.length : Int))∧0≤j
              rotate_left
              · rw [if_neg hc] at G;cases G
              rw [if_pos hc] at G
              obtain ⟨⟨ca,cd⟩,cj⟩:=hc
              have B3':=Aside0.mk (B3.out.below HW.out)
              obtain ⟨ad3,e3,y0⟩:=Kd.at_int B3'.out.row a ca cd
              subst e3
              have x0:=B3'.out.c0;have x1:=B3'.out.c1
              have p1:=eq_true ca;have p2:=eq_true cd
              have p3:=eq_true cj
              have p3d : decide (0≤j) = true:=decide_eq_true cj
              obtain ⟨s,hs⟩ : ∃ s,shr .i64 (rd D a) j = s:=⟨_,rfl⟩
              rw [hs] at G
              have hs_ : (rd D a / 2 ^ min j.toNat 64) = s:=hs
              have hsz : j≤64→(rd D a / 2 ^ j.toNat) = s:=shr_small hs
              clear hs hb
              by_cases hq : Go.bits .and .i64 s 1 = 1
              · rw [if_pos hq] at G
                have q0 : (Go.bits .and .i64 s 1 == 1) = true:=beq_iff_eq.mpr hq
                obtain ⟨m,hm⟩ : ∃ m,IntKind.u64.wrap (rd p b) = m:=⟨_,rfl⟩
                rw [hm] at G
                by_cases hd : (a < (p.length : Int)∧0≤rd p a∧rd p a < (T.length : Int))∧(0≤b∧b < (p.length : Int))∧0≤m
                rotate_left
                · rw [if_neg hd] at G;cases G
                rw [if_pos hd] at G
                obtain ⟨⟨d1,d2,d3⟩,⟨d4,d5⟩,d6⟩:=hd
                obtain ⟨z,hz⟩ : ∃ z,shl .i64 1 m = z:=⟨_,rfl⟩
                rw [hz] at G
                have G':=Aside0.mk G
                clear G hq
                have lN:=(Kd.R_reads' TN.out.own).1
                have LN:=Aside0.mk lN
                obtain ⟨go,cg,eg,gb,gl,cl,hg⟩:=Kd.R_form TN.out.own (by omega)
                injection eg with eg1 eg2 eg3
                subst eg1
                clear eg2 eg3
                have GB:=Aside0.mk gb
                have NE : Aside0 (g14 ≠ go):=⟨blk_ne TN.out.blk hg (by decide)⟩
                clear gb gl hg lN
                have HP':=Aside0.mk (Kd.C_below HP.out HW.out)
                obtain ⟨ad,e11,u0⟩:=Kd.at_int HP'.out a ca d1
                subst e11
                obtain ⟨ad',e11',u1⟩:=Kd.at_int HP'.out b d4 d5
                obtain rfl : ad = ad':=by injection e11'
                have d3N : rd p a < (N : Int):=by have:=LN.out;omega
                have u2:=Kd.R_celln 0 TN.out.own (rd p a) d2 d3N
                have u3:=u2.1
                have u4:=u2.2
                have p4:=eq_true d1;have p5:=eq_true d2;have p6:=eq_true d3N;have p7:=eq_true d4;have p8:=eq_true d5;have p9:=eq_true d6
                have p9d : decide (0≤m) = true:=decide_eq_true d6
                have z_ : (IntKind.i64.wrap (1 * 2 ^ min m.toNat 64)) = z:=hz
                have zz : m≤64→(IntKind.i64.wrap (1 * 2 ^ m.toNat)) = z:=shl_small hz
                have zu : (IntKind.i64.wrap (2 ^ min m.toNat 64)) = z:=by have h_:=z_;rw [Int.one_mul] at h_;exact h_
                have zv : m≤64→(IntKind.i64.wrap (2 ^ m.toNat)) = z:=fun hle_=>by have h_:=zz hle_;rw [Int.one_mul] at h_;exact h_
                have zy : (wrap64 (1 * 2 ^ min m.toNat 64)) = z:=(i64_w _).symm.trans z_
                have zx : m≤64→(wrap64 (1 * 2 ^ m.toNat)) = z:=fun h_=>(i64_w _).symm.trans (zz h_)
                have x2 : wr.cell? ⟨g14,0,none⟩ = some (.int .i64 n):=(blk_cell TN.out.blk 0).trans rfl
                have x3 : wr.cell? ⟨g14,1,none⟩ = some (.slice (some ⟨go,0,none⟩) N c14):=(blk_cell TN.out.blk 1).trans rfl
                clear hz d1 d2 d3 d4 d5 d6 d3N u2 e11' ca cd cj
                go_wp2
                refine start_ (n:=23) (S:=fun w'=>w'.cell? ⟨g14,0,none⟩ = some (.int .i64 n)∧w'.cell? ⟨g14,1,none⟩ = some (.slice (some ⟨go,0,none⟩) N c14)∧w'.cell? (ad.add a.toNat) = some (.int .i64 (rd p a))∧w'.cell? (ad.add a.toNat) = some (.int .i64 (rd p a))∧w'.cell? ⟨go,(rd p a).toNat,none⟩ = some (.int .i64 (rd T (rd p a)))∧w'.cell? (ad.add b.toNat) = some (.int .i64 (rd p b))) (ds:=[22]) #[false,false,false,false,false,false,false,false,false,false,false,false,false,false,false,false,false,false,false,false,false,false,false] (by kernel_rfl) rfl rfl ⟨x2,x3,u0,u0,u3,u1⟩ (fun hHeld=>?_);refine with_tabW laws_FnLeastAlphabets.tab26 laws_FnLeastAlphabets.bits26 (fun HT_ HW_=>?_)
                replace HW:=Aside0.mk (below_drew1 HW.out)
                replace TN:=Aside0.mk TN.out.drew
                replace u3 : wr.drew.cell? ⟨go,(rd p a).toNat,none⟩ = some (.int .i64 (rd T (rd p a))):=u3
                replace u4 : wr.drew.frozen? ⟨go,(rd p a).toNat,none⟩ = false:=u4
                clear x0 x1 x2 x3 u0 u1 y0 B3' HP'
                generalize wr.drew = w4 at HW TN u3 u4 hHeld ⊢
                refine pure_ (i:=0) (N:=some 117) (v:=?_) (a':=?_) #[true,false,false,false,false,false,false,false,false,false,false,false,false,false,false,false,false,false,false,false,false,false,false] rfl rfl (any_of HT_.out (by kernel_rfl)) (fun _ _ _ h=>h) (Or.inl ⟨by rfl,?_⟩) ?_ ?_
                rotate_left
                · intro w'
                  go_simp
                  with_reducible rfl
                rotate_left
                · simp only [Act.put,s1,s2,s3,i64_w,i32_w]
                  rfl
                refine pure_ (i:=2) (N:=some 119) (v:=?_) (a':=?_) #[true,false,true,false,false,false,false,false,false,false,false,false,false,false,false,false,false,false,false,false,false,false,false] rfl rfl (any_of HT_.out (by kernel_rfl)) (fun _ _ _ h=>h) (Or.inl ⟨by rfl,?_⟩) ?_ ?_
                rotate_left
                · intro w'
                  go_simp
                  with_reducible rfl
                rotate_left
                · simp only [Act.put,s1,s2,s3,i64_w,i32_w]
                  rfl
                refine pure_ (i:=3) (N:=some 120) (v:=?_) (a':=?_) #[true,false,true,true,false,false,false,false,false,false,false,false,false,false,false,false,false,false,false,false,false,false,false] rfl rfl (any_of HT_.out (by kernel_rfl)) (fun _ _ _ h=>h) (Or.inl ⟨by rfl,?_⟩) ?_ ?_
                rotate_left
                · intro w'
                  go_simp
                  with_reducible rfl
                rotate_left
                · simp only [Act.put,s1,s2,s3,i64_w,i32_w]
                  rfl
                refine pure_ (i:=4) (N:=some 121) (v:=?_) (a':=?_) #[true,false,true,true,true,false,false,false,false,false,false,false,false,false,false,false,false,false,false,false,false,false,false] rfl rfl (any_of HT_.out (by kernel_rfl)) (fun _ _ _ h=>h) (Or.inl ⟨by rfl,?_⟩) ?_ ?_
                rotate_left
                · intro w'
                  go_simp
                  with_reducible rfl
                rotate_left
                · simp only [Act.put,s1,s2,s3,i64_w,i32_w]
                  rfl
                refine pure_ (i:=6) (N:=some 123) (v:=?_) (a':=?_) #[true,false,true,true,true,false,true,false,false,false,false,false,false,false,false,false,false,false,false,false,false,false,false] rfl rfl (any_of HT_.out (by kernel_rfl)) (fun _ _ _ h=>h) (Or.inl ⟨by rfl,?_⟩) ?_ ?_
                rotate_left
                · intro w'
                  go_simp
                  with_reducible rfl
                rotate_left
                · simp only [Act.put,s1,s2,s3,i64_w,i32_w]
                  rfl
                refine pure_ (i:=8) (N:=some 125) (v:=?_) (a':=?_) #[true,false,true,true,true,false,true,false,true,false,false,false,false,false,false,false,false,false,false,false,false,false,false] rfl rfl (any_of HT_.out (by kernel_rfl)) (fun _ _ _ h=>h) (Or.inl ⟨by rfl,?_⟩) ?_ ?_
                rotate_left
                · intro w'
                  go_simp
                  with_reducible rfl
                rotate_left
                · simp only [Act.put,s1,s2,s3,i64_w,i32_w]
                  rfl
                refine pure_ (i:=9) (N:=some 126) (v:=?_) (a':=?_) #[true,false,true,true,true,false,true,false,true,true,false,false,false,false,false,false,false,false,false,false,false,false,false] rfl rfl (any_of HT_.out (by kernel_rfl)) (fun _ _ _ h=>h) (Or.inl ⟨by rfl,?_⟩) ?_ ?_
                rotate_left
                · intro w'
                  go_simp
                  with_reducible rfl
                rotate_left
                · simp only [Act.put,s1,s2,s3,i64_w,i32_w]
                  rfl
                refine pure_ (i:=10) (N:=some 127) (v:=?_) (a':=?_) #[true,false,true,true,true,false,true,false,true,true,true,false,false,false,false,false,false,false,false,false,false,false,false] rfl rfl (any_of HT_.out (by kernel_rfl)) (fun _ _ _ h=>h) (Or.inl ⟨by rfl,?_⟩) ?_ ?_
                rotate_left
                · intro w'
                  go_simp
                  with_reducible rfl
                rotate_left
                · simp only [Act.put,s1,s2,s3,i64_w,i32_w]
                  rfl
                refine pure_ (i:=14) (N:=some 131) (v:=?_) (a':=?_) #[true,false,true,true,true,false,true,false,true,true,true,false,false,false,true,false,false,false,false,false,false,false,false] rfl rfl (any_of HT_.out (by kernel_rfl)) (fun _ _ _ h=>h) (Or.inl ⟨by rfl,?_⟩) ?_ ?_
                rotate_left
                · intro w'
                  go_simp
                  with_reducible rfl
                rotate_left
                · simp only [Act.put,s1,s2,s3,i64_w,i32_w]
                  rfl
                refine pure_ (i:=15) (N:=some 132) (v:=?_) (a':=?_) #[true,false,true,true,true,false,true,false,true,true,true,false,false,false,true,true,false,false,false,false,false,false,false] rfl rfl (any_of HT_.out (by kernel_rfl)) (fun _ _ _ h=>h) (Or.inl ⟨by rfl,?_⟩) ?_ ?_
                rotate_left
                · intro w'
                  go_simp
                  with_reducible rfl
                rotate_left
                · simp only [Act.put,s1,s2,s3,i64_w,i32_w]
                  rfl
                refine pure_ (i:=16) (N:=some 133) (v:=?_) (a':=?_) #[true,false,true,true,true,false,true,false,true,true,true,false,false,false,true,true,true,false,false,false,false,false,false] rfl rfl (any_of HT_.out (by kernel_rfl)) (fun _ _ _ h=>h) (Or.inl ⟨by rfl,?_⟩) ?_ ?_
                rotate_left
                · intro w'
                  go_simp
                  with_reducible rfl
                rotate_left
                · simp only [Act.put,s1,s2,s3,i64_w,i32_w]
                  rfl
                refine take_ (i:=1) (N:=some 118) (v:=?_) (a':=?_) #[true,true,true,true,true,false,true,false,true,true,true,false,false,false,true,true,true,false,false,false,false,false,false] rfl rfl (take_ofW HT_.out HW_.out (by kernel_rfl)) (fun _ _ _ h=>h) (Or.inl ⟨by rfl,?_⟩) hHeld ?_ ?_
                rotate_left
                · rintro w' ⟨s0,s1,s2,s3,s4,s5⟩
                  go_simp
                  with_reducible rfl
                rotate_left
                · simp only [Act.put,s1,s2,s3,i64_w,i32_w]
                  rfl
                refine take_ (i:=5) (N:=some 122) (v:=?_) (a':=?_) #[true,true,true,true,true,true,true,false,true,true,true,false,false,false,true,true,true,false,false,false,false,false,false] rfl rfl (take_ofW HT_.out HW_.out (by kernel_rfl)) (fun _ _ _ h=>h) (Or.inl ⟨by rfl,?_⟩) hHeld ?_ ?_
                rotate_left
                · rintro w' ⟨s0,s1,s2,s3,s4,s5⟩
                  go_simp
                  with_reducible rfl
                rotate_left
                · simp only [Act.put,s1,s2,s3,i64_w,i32_w]
                  rfl
                refine take_ (i:=7) (N:=some 124) (v:=?_) (a':=?_) #[true,true,true,true,true,true,true,true,true,true,true,false,false,false,true,true,true,false,false,false,false,false,false] rfl rfl (take_ofW HT_.out HW_.out (by kernel_rfl)) (fun _ _ _ h=>h) (Or.inl ⟨by rfl,?_⟩) hHeld ?_ ?_
                rotate_left
                · rintro w' ⟨s0,s1,s2,s3,s4,s5⟩
                  go_simp
                  with_reducible rfl
                rotate_left
                · simp only [Act.put,s1,s2,s3,i64_w,i32_w]
                  rfl
                refine take_ (i:=11) (N:=some 128) (v:=?_) (a':=?_) #[true,true,true,true,true,true,true,true,true,true,true,true,false,false,true,true,true,false,false,false,false,false,false] rfl rfl (take_ofW HT_.out HW_.out (by kernel_rfl)) (fun _ _ _ h=>h) (Or.inl ⟨by rfl,?_⟩) hHeld ?_ ?_
                rotate_left
                · rintro w' ⟨s0,s1,s2,s3,s4,s5⟩
                  go_simp
                  with_reducible rfl
                rotate_left
                · simp only [Act.put,s1,s2,s3,i64_w,i32_w]
                  rfl
                refine pure_ (i:=12) (N:=some 129) (v:=?_) (a':=?_) #[true,true,true,true,true,true,true,true,true,true,true,true,true,false,true,true,true,false,false,false,false,false,false] rfl rfl (any_of HT_.out (by kernel_rfl)) (fun _ _ _ h=>h) (Or.inl ⟨by rfl,?_⟩) ?_ ?_
                rotate_left
                · intro w'
                  go_simp
                  with_reducible rfl
                rotate_left
                · simp only [Act.put,s1,s2,s3,i64_w,i32_w]
                  rfl
                refine take_ (i:=13) (N:=some 130) (v:=?_) (a':=?_) #[true,true,true,true,true,true,true,true,true,true,true,true,true,true,true,true,true,false,false,false,false,false,false] rfl rfl (take_ofW HT_.out HW_.out (by kernel_rfl)) (fun _ _ _ h=>h) (Or.inl ⟨by rfl,?_⟩) hHeld ?_ ?_
                rotate_left
                · rintro w' ⟨s0,s1,s2,s3,s4,s5⟩
                  go_simp
                  with_reducible rfl
                rotate_left
                · simp only [Act.put,s1,s2,s3,i64_w,i32_w]
                  rfl
                refine take_ (i:=17) (N:=some 134) (v:=?_) (a':=?_) #[true,true,true,true,true,true,true,true,true,true,true,true,true,true,true,true,true,true,false,false,false,false,false] rfl rfl (take_ofW HT_.out HW_.out (by kernel_rfl)) (fun _ _ _ h=>h) (Or.inl ⟨by rfl,?_⟩) hHeld ?_ ?_
                rotate_left
                · rintro w' ⟨s0,s1,s2,s3,s4,s5⟩
                  go_simp
                  with_reducible rfl
                rotate_left
                · simp only [Act.put,s1,s2,s3,i64_w,i32_w]
                  rfl
                refine pure_ (i:=18) (N:=some 135) (v:=?_) (a':=?_) #[true,true,true,true,true,true,true,true,true,true,true,true,true,true,true,true,true,true,true,false,false,false,false] rfl rfl (any_of HT_.out (by kernel_rfl)) (fun _ _ _ h=>h) (Or.inl ⟨by rfl,?_⟩) ?_ ?_
                rotate_left
                · intro w'
                  go_simp
                  with_reducible rfl
                rotate_left
                · simp only [Act.put,s1,s2,s3,i64_w,i32_w]
                  rfl
                refine pure_ (i:=19) (N:=some 136) (v:=?_) (a':=?_) #[true,true,true,true,true,true,true,true,true,true,true,true,true,true,true,true,true,true,true,true,false,false,false] rfl rfl (any_of HT_.out (by kernel_rfl)) (fun _ _ _ h=>h) (Or.inl ⟨by rfl,?_⟩) ?_ ?_
                rotate_left
                · intro w'
                  go_simp
                  with_reducible rfl
                rotate_left
                · simp only [Act.put,s1,s2,s3,i64_w,i32_w]
                  rfl
                refine pure_ (i:=20) (N:=some 137) (v:=?_) (a':=?_) #[true,true,true,true,true,true,true,true,true,true,true,true,true,true,true,true,true,true,true,true,true,false,false] rfl rfl (any_of HT_.out (by kernel_rfl)) (fun _ _ _ h=>h) (Or.inl ⟨by rfl,?_⟩) ?_ ?_
                rotate_left
                · intro w'
                  go_simp
                  with_reducible rfl
                rotate_left
                · simp only [Act.put,s1,s2,s3,i64_w,i32_w]
                  rfl
                refine pure_ (i:=21) (N:=some 138) (v:=?_) (a':=?_) #[true,true,true,true,true,true,true,true,true,true,true,true,true,true,true,true,true,true,true,true,true,true,false] rfl rfl (any_of HT_.out (by kernel_rfl)) (fun _ _ _ h=>h) (Or.inl ⟨by rfl,?_⟩) ?_ ?_
                rotate_left
                · intro w'
                  go_simp
                  with_reducible rfl
                rotate_left
                · simp only [Act.put,s1,s2,s3,i64_w,i32_w]
                  rfl
                refine last_ (i:=22) (N:=none) #[true,true,true,true,true,true,true,true,true,true,true,true,true,true,true,true,true,true,true,true,true,true,true] rfl rfl (one_of HT_.out (by kernel_rfl)) (by decide) (fun K hK=>?_)
                refine skip_ (w1:=?_) (by rfl) rfl ?_ ?_
                rotate_left
                · go_simp
                  rfl
                refine hK.out _ _ ?_
                clear hK K
                refine done_ (done_of HT_.out (by kernel_rfl)) ?_
                try go_wp2
                go_roundg k2
                case measure=>omega
                case rel=>exact ⟨wrap64 (b + 1),_,sz,G',⟨by have:=HK2.out;omega⟩,⟨below_set HW.out GB.out⟩,⟨TN.out.put NE.out _ _⟩⟩
              · rw [if_neg hq] at G
                have q0 : (Go.bits .and .i64 s 1 == 1) = false:=beq_eq_false_iff_ne.mpr hq
                have G':=Aside0.mk G
                clear G hq ca cd cj
                go_wp2
                go_roundg k2
                case measure=>omega
                case rel=>exact ⟨wrap64 (b + 1),T,sz,G',⟨by have:=HK2.out;omega⟩,HW,TN⟩
            · rw [if_neg hb] at G
              have e1 : decide (b < n) = false:=decide_eq_false hb
              obtain rfl:=Option.some.inj G
              clear G hb
              have x0:=(B3.out.below HW.out).c0
              go_wp2
              go_roundg k1
              case measure=>omega
              case rel=>exact ⟨wrap64 (a + 1),T,sz,HN,⟨by have:=HK.out;omega⟩,HW,TN⟩
      · rw [if_neg ha] at G
        have e1 : decide (a < n) = false:=decide_eq_false ha
        obtain rfl:=Option.some.inj G
        clear G ha
        have x0:=(B3.out.below HW.out).c0
        iterate 22 go_step
        exact laws_FnLeastAlphabets.rest4 k n D L T t A3 A4 A8 A14 c3 c4 c8 c14 g3 g4 g8 g14 w0 wr _ _ _ _ _ _ _ _ _ _ _ _ _ _ _ _ _ _ _ _ _ _ _ _ _ _ _ _ _ _ _ _ _ _ _ _ _ _ _ _ _ _ _ _ _ _ _ _ _ _ _ _ _ _ _ _ _ _ _ _ _ _ _ _ _ _ _ _ _ _ _ _ _ _ _ _ _ _ _ _ _ _ _ _ _ _ _ _ _ _ _ _ _ _ _ _ _ _ _ _ _ _ _ _ _ _ _ _ _ _ _ _ _ _ _ _ _ _ _ _ _ _ _ _ _ _ _ _ _ _ _ _ _ _ _ _ _ _ _ _ _ _ _ _ _ _ _ _ _ _ _ _ _ _ _ _ _ _ _ _ _ _ _ _ _ _ _ _ _ _ _ _ _ _ _ _ _ _ _ _ _ _ _ _ _ _ _ _ _ _ _ _ _ _ _ _ _ _ _ _ _ _ _ _ _ _ _ _ _ _ _ _ _ _ _ _ _ _ _ _ _ _ _ _ _ _ _ _ _ _ _ _ _ _  (below_step HB.out HW.out) (TabW.below HT.out HW.out) (B3.out.below HW.out) (B4.out.below HW.out) (B8.out.below HW.out) TN.out.boxed N0.out O1.out O2.out O3.out O4.out H.out
def laws_FnLeastAlphabets.T18 : Bool×List (List Nat×List Nat):=(true,[([],[]),([0],[0]),([],[]),([2],[2]),([3,3],[3]),([1,4],[1,4]),([],[]),([6,5,0,1,2,3,4,5,6],[5,6])])
def laws_FnLeastAlphabets.B18 : List Nat:=[0,1,0,4,12,31,0,127]
theorem laws_FnLeastAlphabets.tab18 : rtab .any (opsOf Tryd.f4 18) = laws_FnLeastAlphabets.T18:=by kernel_rfl
theorem laws_FnLeastAlphabets.bits18 : waitsOk laws_FnLeastAlphabets.T18.2 laws_FnLeastAlphabets.B18 = true:=by kernel_rfl
set_option maxHeartbeats 8000000 in
set_option maxRecDepth 100000 in
theorem laws_FnLeastAlphabets.rest3 (k : Nat) (n : Int) (D L p Tf : List Int) (t : Bool) (A3 A4 A8 A11 : Option Addr) (c3 c4 c8 c11 : Nat) (g3 g4 g8 : Nat) (w0 w : World) (u0 u1 u5 u6 u7 u10 u12 u13 u14 u15 u16 u17 u18 u19 u20 u21 u22 u23 u24 u25 u26 u27 u28 u29 u30 u31 u32 u33 u34 u35 u36 u37 u38 u39 u40 u41 u42 u43 u44 u45 u46 u47 u48 u49 u50 u51 u52 u53 u54 u55 u56 u57 u58 u59 u60 u61 u62 u63 u64 u65 u66 u67 u68 u69 u70 u71 u72 u73 u74 u75 u76 u77 u78 u79 u80 u81 u82 u83 u84 u85 u86 u87 u88 u89 u90 u91 u92 u93 u94 u95 u96 u97 u98 u99 u100 u101 u102 u103 u104 u105 u106 u107 u108 u109 u110 u111 u112 u113 u114 u115 u116 u117 u118 u119 u120 u121 u122 u123 u124 u125 u126 u127 u128 u129 u130 u131 u132 u133 u134 u135 u136 u137 u138 u139 u140 u141 u142 u143 u144 u145 u146 u147 u148 u149 u150 u151 u152 u153 u154 u155 u156 u157 u158 u159 u160 u161 u162 u163 u164 u165 u166 u167 u168 u169 u170 u171 u172 u173 u174 u175 u176 u177 u178 u179 u180 u181 u182 u183 u184 u185 u186 u187 u188 u189 u190 u191 u192 u193 u194 u195 u196 u197 u198 u199 u200 u201 u202 u203 u204 u205 u206 u207 u208 u209 u210 u211 u212 u213 u214 u215 u216 u217 u218 u219 u220 u221 u222 u223 u224 u225 u226 u227 u228 u229 u230 u231 u232 u233 u234 u235 u236 u237 u238 u239 : Value) (hB : Below w0.heap.size w0 w) (hT : TabW w) (b3 : Boxed w g3 n A3 c3 D) (b4 : Boxed w g4 n A4 c4 L) (b8 : Boxed w g8 n A8 c8 L) (hp : Kd.C (Kd.int .i64) w A11 p.length p)
    (h0 : flTurn1 n D p k 0 (List.replicate n.toNat 0) = some Tf) (n0 : 0≤n) (n5 : n≤5)
    (o1 : impl_LeastAlphabet.f k n Tf = some (n,L,0)) (o2 : impl_HasTransitiveExchange.f k n D = some (t,0)) (o3 : impl_HasTransitiveExchange.f k n Tf = some (t,0)) (o4 : laws_likeAlphabet5.f k n L n L = some true)
    (h : (if n > 4 then some true else (impl_AllAlphabets.f k n).bind fun all=>if all.2 = 0∧(all.1.length : Int) = [1,1,2,4,11].getD n.toNat 0∧flAll all.1 n L k false 0 = some true then some true else none) = some true) :
    Code.wp Tryd.prog (prodsCode 18) (bodyPost Tryd.prog Tryd.f4 fun e w'=>e = .returned (.bool true)∧Below w0.heap.size w0 w') ⟨#[u0,u1,.bool false,.pointer (some ⟨g3,0,none⟩),.pointer (some ⟨g4,0,none⟩),u5,u6,u7,.pointer (some ⟨g8,0,none⟩),.int .i64 0,u10,.slice A11 p.length c11,u12,u13,u14,u15,u16,u17,u18,u19,u20,u21,u22,u23,u24,u25,u26,u27,u28,u29,u30,u31,u32,u33,u34,u35,u36,u37,u38,u39,u40,u41,u42,u43,u44,u45,u46,u47,u48,u49,u50,u51,u52,u53,u54,u55,u56,u57,u58,u59,u60,u61,u62,u63,u64,u65,u66,u67,u68,u69,u70,u71,u72,u73,u74,u75,u76,u77,u78,u79,u80,u81,u82,u83,u84,u85,u86,u87,u88,u89,u90,u91,u92,u93,u94,u95,u96,u97,u98,u99,u100,u101,u102,u103,u104,u105,u106,u107,u108,u109,u110,u111,u112,u113,u114,u115,u116,u117,u118,u119,u120,u121,u122,u123,u124,u125,u126,u127,u128,u129,u130,u131,u132,u133,u134,u135,u136,u137,u138,u139,u140,u141,u142,u143,u144,u145,u146,u147,u148,u149,u150,u151,u152,u153,u154,u155,u156,u157,u158,u159,u160,u161,u162,u163,u164,u165,u166,u167,u168,u169,u170,u171,u172,u173,u174,u175,u176,u177,u178,u179,u180,u181,u182,u183,u184,u185,u186,u187,u188,u189,u190,u191,u192,u193,u194,u195,u196,u197,u198,u199,u200,u201,u202,u203,u204,u205,u206,u207,u208,u209,u210,u211,u212,u213,u214,u215,u216,u217,u218,u219,u220,u221,u222,u223,u224,u225,u226,u227,u228,u229,u230,u231,u232,u233,u234,u235,u236,u237,u238,u239],[]⟩ w:=by
  have hu:=Tryd.underlying26
  have HB:=Aside0.mk hB;have HT:=Aside0.mk hT;have B3:=Aside0.mk b3;have B3W:=Aside0.mk b3;have B4:=Aside0.mk b4;have B8:=Aside0.mk b8;have HP:=Aside0.mk hp;have H0:=Aside0.mk h0;have N0:=Aside0.mk n0;have N5:=Aside0.mk n5;have O1:=Aside0.mk o1;have O2:=Aside0.mk o2;have O3:=Aside0.mk o3;have O4:=Aside0.mk o4;have H:=Aside0.mk h
  clear hB hT b3 b4 b8 hp h0 n0 n5 o1 o2 o3 o4 h
  have x0:=B3.out.c0;have x1:=B3.out.c1
  obtain ⟨y,hy⟩ : ∃ y,y = List.replicate n.toNat (0 : Int):=⟨_,rfl⟩
  rw [← hy] at H0
  have NY:=Aside0.mk hy
  clear hy
  have p0:=eq_true N0.out
  have p0d : decide (0≤n) = true:=decide_eq_true N0.out
  conv=>arg 2;whnf
  go_wp2
  refine start_ (n:=8) (S:=fun w'=>w'.cell? ⟨g3,0,none⟩ = some (.int .i64 n)∧w'.cell? ⟨g3,1,none⟩ = some (.slice A3 D.length c3)) (ds:=[]) #[false,false,false,false,false,false,false,false] (by kernel_rfl) rfl rfl ⟨B3.out.c0,B3.out.c1⟩ (fun hHeld=>?_);refine with_tabW laws_FnLeastAlphabets.tab18 laws_FnLeastAlphabets.bits18 (fun HT_ HW_=>?_)
  have HW:=Aside0.mk (below_drew1 (Below.refl w.heap.size w))
  replace B3:=Aside0.mk (B3.out.below HW.out)
  clear x0 x1
  generalize w.drew = w4 at HW B3 hHeld ⊢
  refine pure_ (i:=0) (N:=some 89) (v:=?_) (a':=?_) #[true,false,false,false,false,false,false,false] rfl rfl (any_of HT_.out (by kernel_rfl)) (fun _ _ _ h=>h) (Or.inl ⟨by rfl,?_⟩) ?_ ?_
  rotate_left
  · intro w'
    go_simp
    with_reducible rfl
  rotate_left
  · simp only [Act.put,s1,s2,s3,i64_w,i32_w]
    rfl
  refine pure_ (i:=2) (N:=some 91) (v:=?_) (a':=?_) #[true,false,true,false,false,false,false,false] rfl rfl (any_of HT_.out (by kernel_rfl)) (fun _ _ _ h=>h) (Or.inl ⟨by rfl,?_⟩) ?_ ?_
  rotate_left
  · intro w'
    go_simp
    with_reducible rfl
  rotate_left
  · simp only [Act.put,s1,s2,s3,i64_w,i32_w]
    rfl
  refine take_ (i:=1) (N:=some 90) (v:=?_) (a':=?_) #[true,true,true,false,false,false,false,false] rfl rfl (take_ofW HT_.out HW_.out (by kernel_rfl)) (fun _ _ _ h=>h) (Or.inl ⟨by rfl,?_⟩) hHeld ?_ ?_
  rotate_left
  · rintro w' ⟨s0,s1⟩
    go_simp
    with_reducible rfl
  rotate_left
  · simp only [Act.put,s1,s2,s3,i64_w,i32_w]
    rfl
  refine take_ (i:=3) (N:=some 92) (v:=?_) (a':=?_) #[true,true,true,true,false,false,false,false] rfl rfl (take_ofW HT_.out HW_.out (by kernel_rfl)) (fun _ _ _ h=>h) (Or.inl ⟨by rfl,?_⟩) hHeld ?_ ?_
  rotate_left
  · rintro w' ⟨s0,s1⟩
    go_simp
    with_reducible rfl
  rotate_left
  · simp only [Act.put,s1,s2,s3,i64_w,i32_w]
    rfl
  refine join_ (σ:=Value×Nat) 1 #[true,true,true,true,true,true,true,false] (fun s_=>[(93,s_.1),(14,.pointer (some ⟨s_.2,0,none⟩)),(94,.agg #[.int .i64 n,s_.1])]) (fun s_ w'=>(w'.cell? ⟨g3,0,none⟩ = some (.int .i64 n)∧w'.cell? ⟨g3,1,none⟩ = some (.slice A3 D.length c3))∧Kd.R (Kd.int .i64) 2 w' w.heap.size (fun _=>True) s_.1 y∧w'.heap[s_.2]? = some (.cells #[.int .i64 0,.slice none 0 0] 26 (0,0))∧w.heap.size≤s_.2∧Below w.heap.size w w') ?_ ?_
  rotate_left
  · intro hCont
    refine two_ (i:=4) (j:=6) (Ni:=some 93) (Nj:=some 14) #[true,true,true,true,true,false,false,false] #[true,true,true,true,false,false,true,false] rfl rfl rfl rfl (two_of HT_.out (by kernel_rfl)) (by decide) (by decide) (fun K hK=>?_) (fun K hK=>?_)
    · skip
      refine Kd.R_make_step (Kd.int .i64) _ 2 (by rfl) (N:=93) rfl 22 _ _ rfl n rfl rfl Tryd.underlying22 (.int .i64 0) 8 info2 rfl (by decide) (by omega) 0 (ok:=fun _=>True) (okp:=fun _=>True) rfl (fun _ hk=>hk) trivial N0.out (by have:=N5.out;omega) (Below.refl _ _) (Nat.le_refl _) ?_
      intro v1 w5 ho hb hg_ hnew_
      clear hg_ hnew_
      rw [← NY.out] at ho
      have HO:=Aside0.mk (Kd.R_lower ho (below_size HW.out));replace B3:=Aside0.mk (B3.out.below hb);replace HW:=Aside0.mk (below_step HW.out hb);clear ho hb
      obtain ⟨Ao,co,rfl⟩:=Kd.R_slice HO.out
      refine hK.out _ _ ⟨B3.out.c0,B3.out.c1⟩ (fun hHeld=>?_)
      clear hK K
      refine norm_ (a':=?_) ?_ ?_
      rotate_left
      · show Act.put _ (some 93) _ = _
        simp only [Act.put,s1,s2,s3,i64_w,i32_w]
        rfl
      refine pure_ (i:=5) (N:=some 94) (v:=?_) (a':=?_) #[true,true,true,true,true,true,false,false] rfl rfl (any_of HT_.out (by kernel_rfl)) (fun _ _ _ h=>h) (Or.inl ⟨by rfl,?_⟩) ?_ ?_
      rotate_left
      · intro w'
        go_simp
        with_reducible rfl
      rotate_left
      · simp only [Act.put,s1,s2,s3,i64_w,i32_w]
        rfl
      refine one_ (i:=6) (N:=some 14) #[true,true,true,true,true,true,true,false] rfl rfl (one_of HT_.out (by kernel_rfl)) (by decide) (fun K hK=>?_)
      refine box_step ?hg (N:=14) ?hd (cs:=#[.int .i64 0,.slice none 0 0]) (t:=26) ?hr ?_;(case hd=>rfl);(case hg=>rfl);(case hr=>first|(go_simp;done)|(go_simp;rfl))
      intro g hg w6 hbox hb
      have HG : Aside0 (w.heap.size≤g):=⟨by rw [hg];exact below_size HW.out⟩
      replace HO:=kb HO hb;replace B3:=Aside0.mk (B3.out.below hb);replace HW:=Aside0.mk (below_step HW.out hb);have BX:=Aside0.mk hbox;clear hg hbox hb
      refine hK.out _ _ ⟨B3.out.c0,B3.out.c1⟩ (fun hHeld=>?_)
      clear hK K
      refine norm_ (a':=?_) ?_ ?_
      rotate_left
      · show Act.put _ (some 14) _ = _
        simp only [Act.put,s1,s2,s3,i64_w,i32_w]
        rfl
      exact norm_ (by simp only [putAll,Act.put,List.setIfInBounds_toArray,List.set_cons_zero,List.set_cons_succ]) (hCont (.slice Ao y.length co,g) _ ⟨hHeld,HO.out,BX.out,HG.out,HW.out⟩)
    · skip
      refine box_step ?hg (N:=14) ?hd (cs:=#[.int .i64 0,.slice none 0 0]) (t:=26) ?hr ?_;(case hd=>rfl);(case hg=>rfl);(case hr=>first|(go_simp;done)|(go_simp;rfl))
      intro g hg w5 hbox hb
      have HG : Aside0 (w.heap.size≤g):=⟨by rw [hg];exact below_size HW.out⟩
      replace B3:=Aside0.mk (B3.out.below hb);replace HW:=Aside0.mk (below_step HW.out hb);have BX:=Aside0.mk hbox;clear hg hbox hb
      refine hK.out _ _ ⟨B3.out.c0,B3.out.c1⟩ (fun hHeld=>?_)
      clear hK K
      refine norm_ (a':=?_) ?_ ?_
      rotate_left
      · show Act.put _ (some 14) _ = _
        simp only [Act.put,s1,s2,s3,i64_w,i32_w]
        rfl
      refine one_ (i:=4) (N:=some 93) #[true,true,true,true,true,false,true,false] rfl rfl (one_of HT_.out (by kernel_rfl)) (by decide) (fun K hK=>?_)
      refine Kd.R_make_step (Kd.int .i64) _ 2 (by rfl) (N:=93) rfl 22 _ _ rfl n rfl rfl Tryd.underlying22 (.int .i64 0) 8 info2 rfl (by decide) (by omega) 0 (ok:=fun _=>True) (okp:=fun _=>True) rfl (fun _ hk=>hk) trivial N0.out (by have:=N5.out;omega) (Below.refl _ _) (Nat.le_refl _) ?_
      intro v1 w6 ho hb hg_ hnew_
      clear hg_ hnew_
      rw [← NY.out] at ho
      have HO:=Aside0.mk (Kd.R_lower ho (below_size HW.out));replace B3:=Aside0.mk (B3.out.below hb);replace BX:=bb BX hb;replace HW:=Aside0.mk (below_step HW.out hb);clear ho hb
      obtain ⟨Ao,co,rfl⟩:=Kd.R_slice HO.out
      refine hK.out _ _ ⟨B3.out.c0,B3.out.c1⟩ (fun hHeld=>?_)
      clear hK K
      refine norm_ (a':=?_) ?_ ?_
      rotate_left
      · show Act.put _ (some 93) _ = _
        simp only [Act.put,s1,s2,s3,i64_w,i32_w]
        rfl
      refine pure_ (i:=5) (N:=some 94) (v:=?_) (a':=?_) #[true,true,true,true,true,true,true,false] rfl rfl (any_of HT_.out (by kernel_rfl)) (fun _ _ _ h=>h) (Or.inl ⟨by rfl,?_⟩) ?_ ?_
      rotate_left
      · intro w'
        go_simp
        with_reducible rfl
      rotate_left
      · simp only [Act.put,s1,s2,s3,i64_w,i32_w]
        rfl
      exact norm_ (by simp only [putAll,Act.put,List.setIfInBounds_toArray,List.set_cons_zero,List.set_cons_succ]) (hCont (.slice Ao y.length co,g) _ ⟨hHeld,HO.out,BX.out,HG.out,HW.out⟩)
  rintro ⟨v1,g⟩ w7 ⟨hS_,h0_,h1_,h2_,h3_⟩
  have hHeld : w7.cell? ⟨g3,0,none⟩ = some (.int .i64 n)∧w7.cell? ⟨g3,1,none⟩ = some (.slice A3 D.length c3):=hS_
  replace h0_ : Kd.R (Kd.int .i64) 2 w7 w.heap.size (fun _=>True) v1 y:=h0_
  replace h1_ : w7.heap[g]? = some (.cells #[.int .i64 0,.slice none 0 0] 26 (0,0)):=h1_
  replace h2_ : w.heap.size≤g:=h2_
  obtain ⟨Ao,co,rfl⟩:=Kd.R_slice h0_
  have NE : Aside0 (g3 ≠ g):=⟨fun e=>by have:=blk_lt B3W.out.blk;omega⟩
  have HO:=Aside0.mk h0_;have BX:=Aside0.mk h1_;have HG:=Aside0.mk h2_;replace HW:=Aside0.mk h3_
  clear h0_ h1_ h2_ h3_ hS_ B3
  refine norm_ (a':=?_) ?_ ?_
  rotate_left
  · simp only [putAll,Act.put,List.setIfInBounds_toArray,List.set_cons_zero,List.set_cons_succ]
    rfl
  refine one_ (i:=7) (N:=none) #[true,true,true,true,true,true,true,true] rfl rfl (one_of HT_.out (by kernel_rfl)) (by decide) (fun K hK=>?_)
  have z0 : w7.cell? ⟨g,0,none⟩ = some (.int .i64 0):=bc BX 0
  have z1 : w7.cell? ⟨g,1,none⟩ = some (.slice none 0 0):=bc BX 1
  have z2:=blk_frozen BX.out 0;have z3:=blk_frozen BX.out 1
  refine skip_ (w1:=?_) (by rfl) rfl ?_ ?_
  rotate_left
  · go_simp
    rfl
  refine hK.out _ _ ⟨(cell_far (p:=⟨g,_,none⟩) NE.out _).trans ((cell_far (p:=⟨g,_,none⟩) NE.out _).trans hHeld.1),(cell_far (p:=⟨g,_,none⟩) NE.out _).trans ((cell_far (p:=⟨g,_,none⟩) NE.out _).trans hHeld.2)⟩ (fun hHeld=>?_)
  clear hK K
  refine done_ (done_of HT_.out (by kernel_rfl)) ?_
  have HT2 : Aside0 (Turned w.heap.size ((w7.setCell ⟨g,0,none⟩ (.int .i64 n)).setCell ⟨g,1,none⟩ (.slice Ao y.length co)) g n Ao co y.length y):=⟨⟨blk_put (cs:=#[.int .i64 n,.slice none 0 0]) (blk_put BX.out 0 _ rfl) 1 _ rfl,Kd.R_mono (Kd.R_far (p:=⟨g,1,none⟩) (Kd.R_far (p:=⟨g,0,none⟩) (Kd.R_types HO.out BX.out (by decide)) (fun _ hk=>hk.2) _) (fun _ hk=>hk.2) _) (fun _ hk=>trivial)⟩⟩
  have HW2:=Aside0.mk (below_set (j:=1) (v:=.slice Ao y.length co) (below_set (j:=0) (v:=.int .i64 n) HW.out HG.out) HG.out)
  clear hHeld z0 z1 z2 z3 HO BX HW
  (try simp only [drewN_set])
  generalize (w7.setCell ⟨g,0,none⟩ (.int .i64 n)).setCell ⟨g,1,none⟩ (.slice Ao y.length co) = w8 at HT2 HW2 ⊢
  iterate 2 go_step
  exact laws_FnLeastAlphabets.rest3b k n D L p y Tf t A3 A4 A8 A11 Ao c3 c4 c8 c11 co y.length g3 g4 g8 g w0 w w8 _ _ _ _ _ _ _ _ _ _ _ _ _ _ _ _ _ _ _ _ _ _ _ _ _ _ _ _ _ _ _ _ _ _ _ _ _ _ _ _ _ _ _ _ _ _ _ _ _ _ _ _ _ _ _ _ _ _ _ _ _ _ _ _ _ _ _ _ _ _ _ _ _ _ _ _ _ _ _ _ _ _ _ _ _ _ _ _ _ _ _ _ _ _ _ _ _ _ _ _ _ _ _ _ _ _ _ _ _ _ _ _ _ _ _ _ _ _ _ _ _ _ _ _ _ _ _ _ _ _ _ _ _ _ _ _ _ _ _ _ _ _ _ _ _ _ _ _ _ _ _ _ _ _ _ _ _ _ _ _ _ _ _ _ _ _ _ _ _ _ _ _ _ _ _ _ _ _ _ _ _ _ _ _ _ _ _ _ _ _ _ _ _ _ _ _ _ _ _ _ _ _ _ _ _ _ _ _ _ _ _ _ _ _ _ _ _ _ _ _ _ _ _ _ _ _ _ _ _ _ _ _ _  HB.out HT.out B3W.out B4.out B8.out HP.out HW2.out HT2.out H0.out N0.out N5.out O1.out O2.out O3.out O4.out H.out
def laws_FnLeastAlphabets.T17 : Bool×List (List Nat×List Nat):=(true,[([],[]),([],[]),([],[]),([1,2],[1,2]),([0,3],[0,3]),([],[]),([5],[5]),([4,6,4],[4,6]),([],[]),([],[]),([8,9],[8,9]),([7,10,7],[7,10]),([11,11,0,1,2,3,4,5,6,7,8,9,10,11],[1,8,11])])
def laws_FnLeastAlphabets.B17 : List Nat:=[0,0,0,6,15,0,32,127,0,0,768,2047,4095]
theorem laws_FnLeastAlphabets.tab17 : rtab .any (opsOf Tryd.f4 17) = laws_FnLeastAlphabets.T17:=by kernel_rfl
theorem laws_FnLeastAlphabets.bits17 : waitsOk laws_FnLeastAlphabets.T17.2 laws_FnLeastAlphabets.B17 = true:=by kernel_rfl
set_option maxHeartbeats 8000000 in
set_option maxRecDepth 100000 in
theorem laws_FnLeastAlphabets.rest2 (k : Nat) (l0 : List Int) (n : Int) (D L P Tf : List Int) (t : Bool) (i0 s0 : Int) (A3 A4 A8 : Option Addr) (c3 c4 c8 : Nat) (g3 g4 g8 g10 : Nat) (w0 wd w : World) (u0 u1 u5 u6 u7 u11 u12 u13 u14 u15 u16 u17 u18 u19 u20 u21 u22 u23 u24 u25 u26 u27 u28 u29 u30 u31 u32 u33 u34 u35 u36 u37 u38 u39 u40 u41 u42 u43 u44 u45 u46 u47 u48 u49 u50 u51 u52 u53 u54 u55 u56 u57 u58 u59 u60 u61 u62 u63 u64 u65 u66 u67 u68 u69 u70 u71 u72 u73 u74 u75 u76 u77 u78 u79 u80 u81 u82 u83 u84 u85 u86 u87 u88 u89 u90 u91 u92 u93 u94 u95 u96 u97 u98 u99 u100 u101 u102 u103 u104 u105 u106 u107 u108 u109 u110 u111 u112 u113 u114 u115 u116 u117 u118 u119 u120 u121 u122 u123 u124 u125 u126 u127 u128 u129 u130 u131 u132 u133 u134 u135 u136 u137 u138 u139 u140 u141 u142 u143 u144 u145 u146 u147 u148 u149 u150 u151 u152 u153 u154 u155 u156 u157 u158 u159 u160 u161 u162 u163 u164 u165 u166 u167 u168 u169 u170 u171 u172 u173 u174 u175 u176 u177 u178 u179 u180 u181 u182 u183 u184 u185 u186 u187 u188 u189 u190 u191 u192 u193 u194 u195 u196 u197 u198 u199 u200 u201 u202 u203 u204 u205 u206 u207 u208 u209 u210 u211 u212 u213 u214 u215 u216 u217 u218 u219 u220 u221 u222 u223 u224 u225 u226 u227 u228 u229 u230 u231 u232 u233 u234 u235 u236 u237 u238 u239 : Value) (hB : Below w0.heap.size w0 wd) (hT : TabW wd) (b3 : Boxed wd g3 n A3 c3 D) (b4 : Boxed wd g4 n A4 c4 L) (b8 : Boxed wd g8 n A8 c8 L)
    (hw : Below wd.heap.size wd w) (hi : IsS59 w0 w g10 l0 i0 s0) (hg : wd.heap.size≤g10) (hp : flPlace l0 n k [] 0 i0 s0 = some P)
    (h0 : flTurn1 n D P k 0 (List.replicate n.toNat 0) = some Tf) (n0 : 0≤n) (n5 : n≤5)
    (o1 : impl_LeastAlphabet.f k n Tf = some (n,L,0)) (o2 : impl_HasTransitiveExchange.f k n D = some (t,0)) (o3 : impl_HasTransitiveExchange.f k n Tf = some (t,0)) (o4 : laws_likeAlphabet5.f k n L n L = some true)
    (h : (if n > 4 then some true else (impl_AllAlphabets.f k n).bind fun all=>if all.2 = 0∧(all.1.length : Int) = [1,1,2,4,11].getD n.toNat 0∧flAll all.1 n L k false 0 = some true then some true else none) = some true) :
    Code.wp Tryd.prog (prodsCode 12) (bodyPost Tryd.prog Tryd.f4 fun e w'=>e = .returned (.bool true)∧Below w0.heap.size w0 w') ⟨#[u0,u1,.bool false,.pointer (some ⟨g3,0,none⟩),.pointer (some ⟨g4,0,none⟩),u5,u6,u7,.pointer (some ⟨g8,0,none⟩),.int .i64 0,.pointer (some ⟨g10,0,none⟩),u11,u12,u13,u14,u15,u16,u17,u18,u19,u20,u21,u22,u23,u24,u25,u26,u27,u28,u29,u30,u31,u32,u33,u34,u35,u36,u37,u38,u39,u40,u41,u42,u43,u44,u45,u46,u47,u48,u49,u50,u51,u52,u53,u54,u55,u56,u57,u58,u59,u60,u61,u62,u63,u64,u65,u66,u67,u68,u69,u70,u71,u72,u73,u74,u75,u76,u77,u78,u79,u80,u81,u82,u83,u84,u85,u86,u87,u88,u89,u90,u91,u92,u93,u94,u95,u96,u97,u98,u99,u100,u101,u102,u103,u104,u105,u106,u107,u108,u109,u110,u111,u112,u113,u114,u115,u116,u117,u118,u119,u120,u121,u122,u123,u124,u125,u126,u127,u128,u129,u130,u131,u132,u133,u134,u135,u136,u137,u138,u139,u140,u141,u142,u143,u144,u145,u146,u147,u148,u149,u150,u151,u152,u153,u154,u155,u156,u157,u158,u159,u160,u161,u162,u163,u164,u165,u166,u167,u168,u169,u170,u171,u172,u173,u174,u175,u176,u177,u178,u179,u180,u181,u182,u183,u184,u185,u186,u187,u188,u189,u190,u191,u192,u193,u194,u195,u196,u197,u198,u199,u200,u201,u202,u203,u204,u205,u206,u207,u208,u209,u210,u211,u212,u213,u214,u215,u216,u217,u218,u219,u220,u221,u222,u223,u224,u225,u226,u227,u228,u229,u230,u231,u232,u233,u234,u235,u236,u237,u238,u239],[]⟩ w:=by
  have hu:=Tryd.underlying26
  have HB:=Aside0.mk hB;have HT:=Aside0.mk hT;have B3:=Aside0.mk b3;have B4:=Aside0.mk b4;have B8:=Aside0.mk b8;have HW:=Aside0.mk hw;have HI:=Aside0.mk hi;have HG:=Aside0.mk hg;have HP:=Aside0.mk hp;have H0:=Aside0.mk h0;have N0:=Aside0.mk n0;have N5:=Aside0.mk n5;have O1:=Aside0.mk o1;have O2:=Aside0.mk o2;have O3:=Aside0.mk o3;have O4:=Aside0.mk o4;have H:=Aside0.mk h
  clear hB hT b3 b4 b8 hw hi hg hp h0 n0 n5 o1 o2 o3 o4 h
  obtain ⟨e0,he0⟩ : ∃ e0 : List Int,e0 = []:=⟨_,rfl⟩
  have NE0:=Aside0.mk he0
  clear he0
  conv=>arg 2;whnf
  go_upto_region 13 with (((with_reducible refine gate_dst (N:=66) rfl ?_);refine Kd.R_lit (Kd.int .i64) _ 2 ?hg (N:=66) ?hd (xs:=([] : List Int)) (inner:=[]) (ok:=fun _=>True) (okp:=fun _=>True) ?hr ?hp (fun _ hk=>hk) trivial (Below.refl _ _) (Nat.le_refl _) (by simp) ?_;(case hd=>rfl);(case hg=>rfl);(case hr=>first|(go_simp;done)|(go_simp;rfl));(case hp=>exact (Reps.none _ _));intro v2 w2 ho hb hg_ hnew_;clear hg_ hnew_;have HO:=Aside0.mk (Kd.R_lower (Kd.R_mono (Kd.R_bound ho) (fun k_ h_=>(by have:=h_.2.1;have:=HI.out.lt;omega : k_ ≠ g10))) (below_size HW.out));replace HI:=Aside0.mk (HI.out.below hb);replace HW:=Aside0.mk (below_step HW.out hb);clear hb ho))
  go_wp2
  go_loopg [11,12] k (fun kq v11 v12 w'=>∃ (p : List Int) (a i s : Int),v12 = .int .i64 a∧Aside0 (flPlace l0 n kq p a i s = some P)∧Aside0 (kq≤k)∧Aside0 (Kd.R (Kd.int .i64) 2 w' wd.heap.size (fun k_=>k_ ≠ g10) v11 p)∧Aside0 (IsS59 w0 w' g10 l0 i s)∧Aside0 (Below wd.heap.size wd w'))
  case atStart=>exact ⟨[],0,i0,s0,rfl,HP,⟨Nat.le_refl _⟩,HO,HI,HW⟩
  case round =>
    clear HP HO HI HW
    obtain ⟨p,a,i,s,rfl,HR,HK,HO,HI,HW⟩:=hrel
    cases gk with
   |zero=>exact absurd HR.out (by simp [flPlace])
   |succ k1 =>
      have G:=HR.out
      clear HR
      simp only [flPlace] at G
      have x0:=(B3.out.below HW.out).c0
      by_cases ha : a < n
      · rw [if_pos ha] at G
        replace G:=Option.bind_eq_some_iff.mp G
        obtain ⟨⟨b,i',s'⟩,hd,G⟩:=G
        dsimp only at G
        by_cases hc : 0≤b∧b≤(p.length : Int)∧p.length < 1000000
        rotate_left
        · rw [if_neg hc] at G;cases G
        · rw [if_pos hc] at G
          obtain ⟨c1,c2,c3'⟩:=hc
          have e1 : decide (a < n) = true:=decide_eq_true ha
          have DB:=Aside0.mk hd
          obtain ⟨yt,hyt⟩ : ∃ y,y = p.take b.toNat:=⟨_,rfl⟩
          obtain ⟨yr,hyr⟩ : ∃ y,y = p.drop b.toNat:=⟨_,rfl⟩
          obtain ⟨sa,hsa⟩ : ∃ y,y = [a]:=⟨_,rfl⟩
          obtain ⟨yc,hyc⟩ : ∃ y,y = e0 ++ yt:=⟨_,rfl⟩
          obtain ⟨yd,hyd⟩ : ∃ y,y = yc ++ sa:=⟨_,rfl⟩
          obtain ⟨ye,hye⟩ : ∃ y,y = yd ++ yr:=⟨_,rfl⟩
          have hyy : ye = p.take b.toNat ++ [a] ++ p.drop b.toNat:=by rw [hye,hyd,hyc,hyt,hyr,hsa,NE0.out,List.nil_append]
          rw [← hyy] at G
          have G':=Aside0.mk G
          have lt : yt.length = b.toNat:=by rw [hyt,List.length_take];omega
          have lr : yr.length = p.length - b.toNat:=by rw [hyr,List.length_drop]
          have ls : sa.length = 1:=by rw [hsa];rfl
          have le0 : e0.length = 0:=by rw [NE0.out];rfl
          have lc : yc.length = yt.length:=by rw [hyc,NE0.out,List.nil_append]
          have ld : yd.length = yc.length + 1:=by rw [hyd,List.length_append,ls]
          have LM1 : Aside0 ((e0.length + yt.length) * 8≤140737488355328):=⟨by omega⟩
          have LM2 : Aside0 ((yc.length + sa.length) * 8≤140737488355328):=⟨by omega⟩
          have LM3 : Aside0 ((yd.length + yr.length) * 8≤140737488355328):=⟨by omega⟩
          have NYC:=Aside0.mk hyc;have NYD:=Aside0.mk hyd;have NYE:=Aside0.mk hye;have NSA:=Aside0.mk hsa;have NYT:=Aside0.mk hyt;have NYR:=Aside0.mk hyr;have LT:=Aside0.mk lt;have LR:=Aside0.mk lr;have C1:=Aside0.mk c1;have C2:=Aside0.mk c2
          clear hyc hyd hye hsa hyt hyr hyy G lt lr ls le0 lc ld hd ha c1 c2 c3'
          go_upto_region 17 with (first|(go_at_call 17;go_loud ((with_reducible refine (laws_dice_below.calls g10 l0 i s (wrap64 (a + 1)) b i' s' w0 _ HI.out ?s1 DB.out).mono ?_);(case s1=>exact below_step HB.out HW.out);rintro e w5 ⟨rfl,hi,hb,hk⟩;replace HO:=Aside0.mk (Kd.R_keep HO.out hk (fun _ h=>h));replace HW:=Aside0.mk (below_keepW HB.out HW.out hb hk HG.out);replace HI:=Aside0.mk hi;clear hi hb hk x0)))
          obtain ⟨A11,c11,rfl⟩:=Kd.R_slice HO.out
          have q1:=C2.out
          obtain ⟨i0_,hi0_,_,hsz_,_⟩:=info_parts info2
          have hcut1:=cut_to (P:=Tryd.prog) 22 2 .i64 Tryd.underlying22 hi0_ A11 p.length c11 b C1.out q1 (Kd.R_reads' HO.out).2.1
          have hcut2:=cut_from (P:=Tryd.prog) 22 2 .i64 Tryd.underlying22 hi0_ 1 hsz_ A11 p.length c11 b C1.out q1
          have hr1:=Kd.C_take (m:=b.toNat) (Kd.R_reads' HO.out).2.2 (by have:=C1.out;omega)
          have hr2:=Kd.C_drop (m:=b.toNat) (c:=c11) (Kd.R_reads' HO.out).2.2 (by have:=C1.out;omega) (Kd.R_reads' HO.out).2.1
          obtain ⟨AD,hAD⟩ : ∃ A1,A1 = (if c11 = b.toNat then A11 else (A11 : Option Addr).map (·.add (b.toNat * 1))):=⟨_,rfl⟩
          obtain ⟨cd,hcd⟩ : ∃ c1,c1 = c11 - b.toNat:=⟨_,rfl⟩
          rw [← NYT.out] at hr1
          rw [← NYR.out] at hr2
          rw [← LT.out] at hcut1
          replace hr2 : Kd.C (Kd.int .i64) _ AD yr.length yr:=(by rw [hAD];first|exact hr2|(rw [LR.out];exact hr2))
          rw [← LR.out,← hAD,← hcd] at hcut2
          have HRT:=Aside0.mk hr1;have HRD:=Aside0.mk hr2
          clear hr1 hr2 hAD hcd hi0_ hsz_ q1
          have q1:=eq_true C1.out;have q2:=eq_true C2.out
          refine start_ (n:=13) (S:=fun w'=>True) (ds:=[]) #[false,false,false,false,false,false,false,false,false,false,false,false,false] (by kernel_rfl) rfl rfl trivial (fun hHeld=>?_);refine with_tabW laws_FnLeastAlphabets.tab17 laws_FnLeastAlphabets.bits17 (fun HT_ HW_=>?_)
          replace HW:=Aside0.mk (below_drew1 HW.out);replace HI:=Aside0.mk (IsS59.drew HI.out);replace HRT:=Aside0.mk (Kd.C_drew HRT.out);replace HRD:=Aside0.mk (Kd.C_drew HRD.out)
          generalize w5.drew = w4 at HW HI HRT HRD hHeld ⊢
          have HB4:=Aside0.mk (Below.refl w4.heap.size w4)
          refine pure_ (i:=1) (N:=some 78) (v:=?_) (a':=?_) #[false,true,false,false,false,false,false,false,false,false,false,false,false] rfl rfl (any_of HT_.out (by kernel_rfl)) (fun _ _ _ h=>h) (Or.inl ⟨by rfl,?_⟩) ?_ ?_
          rotate_left
          · intro w'
            go_simp
            with_reducible rfl
          rotate_left
          · simp only [Act.put,s1,s2,s3,i64_w,i32_w]
            rfl
          refine pure_ (i:=2) (N:=some 79) (v:=?_) (a':=?_) #[false,true,true,false,false,false,false,false,false,false,false,false,false] rfl rfl (any_of HT_.out (by kernel_rfl)) (fun _ _ _ h=>h) (Or.inl ⟨by rfl,?_⟩) ?_ ?_
          rotate_left
          · intro w'
            go_simp
            with_reducible rfl
          rotate_left
          · simp only [Act.put,s1,s2,s3,i64_w,i32_w]
            rfl
          refine pure_ (i:=3) (N:=some 80) (v:=?_) (a':=?_) #[false,true,true,true,false,false,false,false,false,false,false,false,false] rfl rfl (any_of HT_.out (by kernel_rfl)) (fun _ _ _ h=>h) (Or.inl ⟨by rfl,?_⟩) ?_ ?_
          rotate_left
          · intro w'
            go_simp
            with_reducible rfl
          rotate_left
          · simp only [Act.put,s1,s2,s3,i64_w,i32_w]
            rfl
          refine pure_ (i:=5) (N:=some 82) (v:=?_) (a':=?_) #[false,true,true,true,false,true,false,false,false,false,false,false,false] rfl rfl (any_of HT_.out (by kernel_rfl)) (fun _ _ _ h=>h) (Or.inl ⟨by rfl,?_⟩) ?_ ?_
          rotate_left
          · intro w'
            go_simp
            with_reducible rfl
          rotate_left
          · simp only [Act.put,s1,s2,s3,i64_w,i32_w]
            rfl
          refine pure_ (i:=8) (N:=some 85) (v:=?_) (a':=?_) #[false,true,true,true,false,true,false,false,true,false,false,false,false] rfl rfl (any_of HT_.out (by kernel_rfl)) (fun _ _ _ h=>h) (Or.inl ⟨by rfl,?_⟩) ?_ ?_
          rotate_left
          · intro w'
            go_simp
            with_reducible rfl
          rotate_left
          · simp only [Act.put,s1,s2,s3,i64_w,i32_w]
            rfl
          refine pure_ (i:=9) (N:=some 86) (v:=?_) (a':=?_) #[false,true,true,true,false,true,false,false,true,true,false,false,false] rfl rfl (any_of HT_.out (by kernel_rfl)) (fun _ _ _ h=>h) (Or.inl ⟨by rfl,?_⟩) ?_ ?_
          rotate_left
          · intro w'
            go_simp
            with_reducible rfl
          rotate_left
          · simp only [Act.put,s1,s2,s3,i64_w,i32_w]
            rfl
          refine pure_ (i:=10) (N:=some 87) (v:=?_) (a':=?_) #[false,true,true,true,false,true,false,false,true,true,true,false,false] rfl rfl (any_of HT_.out (by kernel_rfl)) (fun _ _ _ h=>h) (Or.inl ⟨by rfl,?_⟩) ?_ ?_
          rotate_left
          · intro w'
            go_simp
            with_reducible rfl
          rotate_left
          · simp only [Act.put,s1,s2,s3,i64_w,i32_w]
            rfl
          refine join_ (σ:=Value×Value×Value) 3 #[true,true,true,true,true,true,true,false,true,true,true,false,false] (fun s_=>[(77,s_.1),(81,s_.2.1),(83,s_.2.2)]) (fun s_ w'=>Kd.R (Kd.int .i64) 2 w' w4.heap.size (fun k_=>some k_ ≠ (s_.2.2 : Value).ownBlock) s_.2.1 yc∧Kd.R (Kd.int .i64) 2 w' w4.heap.size (fun k_=>some k_ ≠ (s_.2.1 : Value).ownBlock) s_.2.2 sa∧Below w4.heap.size w4 w') ?_ ?_
          rotate_left
          · intro hCont
            refine two_ (i:=0) (j:=6) (Ni:=some 77) (Nj:=some 83) #[true,true,true,true,false,true,false,false,true,true,true,false,false] #[false,true,true,true,false,true,true,false,true,true,true,false,false] rfl rfl rfl rfl (two_of HT_.out (by kernel_rfl)) (by decide) (by decide) (fun K hK=>?_) (fun K hK=>?_)
            · skip
              refine Kd.R_lit_step (Kd.int .i64) _ 2 ?hg (N:=77) ?hd (xs:=([] : List Int)) (inner:=[]) (ok:=fun _=>True) (okp:=fun _=>True) ?hr ?hp (fun _ hk=>hk) trivial (Below.refl _ _) (Nat.le_refl _) (by simp) ?_;(case hd=>rfl);(case hg=>rfl);(case hr=>first|(go_simp;done)|(go_simp;rfl));(case hp=>exact (Reps.none _ _))
              intro v77 w6 ho hb hg_ hnew_
              clear hg_ hnew_
              rw [← NE0.out] at ho
              have HO77:=Aside0.mk (Kd.R_lower ho (below_size HB4.out));replace HB4:=Aside0.mk (below_step HB4.out hb);clear hb ho
              refine hK.out _ _ trivial (fun hHeld=>?_)
              clear hK K
              refine norm_ (a':=?_) ?_ ?_
              rotate_left
              · show Act.put _ (some 77) _ = _
                simp only [Act.put,s1,s2,s3,i64_w,i32_w]
                rfl
              refine two_ (i:=4) (j:=6) (Ni:=some 81) (Nj:=some 83) #[true,true,true,true,true,true,false,false,true,true,true,false,false] #[true,true,true,true,false,true,true,false,true,true,true,false,false] rfl rfl rfl rfl (two_of HT_.out (by kernel_rfl)) (by decide) (by decide) (fun K hK=>?_) (fun K hK=>?_)
              · skip
                refine Kd.R_append_rows_step (Kd.int .i64) (w0:=w4) w4.heap.size (by rfl) (.tmp 77) (.tmp 80) 22 2 (.int .i64 0) 8 rfl Tryd.underlying22 info2 rfl (by decide) (by omega) v77 e0 yt _ _ _ (fun _=>True) (fun _=>False) rfl rfl ?aO ?aR (fun _ _ h=>h) (fun _ h=>h.elim) ?aF ?aB ?aS ?aL ?_
                (case aR=>exact Kd.C_below HRT.out HB4.out)
                (case aB=>exact HB4.out)
                (case aF=>exact (fun _ _=>trivial))
                (case aO=>exact (kdQ HO77))
                (case aS=>exact below_size HB4.out)
                (case aL=>have:=LM1.out;omega)
                intro v81 w7 ho hb hg hat
                rw [← NYC.out] at ho
                have HO81:=Aside0.mk ho;replace HB4:=Aside0.mk hb;clear hb ho hg hat HO77
                refine hK.out _ _ trivial (fun hHeld=>?_)
                clear hK K
                refine norm_ (a':=?_) ?_ ?_
                rotate_left
                · show Act.put _ (some 81) _ = _
                  simp only [Act.put,s1,s2,s3,i64_w,i32_w]
                  rfl
                refine one_ (i:=6) (N:=some 83) #[true,true,true,true,true,true,true,false,true,true,true,false,false] rfl rfl (one_of HT_.out (by kernel_rfl)) (by decide) (fun K hK=>?_)
                refine Kd.R_lit_step (Kd.int .i64) _ 2 ?hg (N:=83) ?hd (xs:=([a] : List Int)) (inner:=[.int .i64 a]) (ok:=fun _=>True) (okp:=fun _=>True) ?hr ?hp (fun _ hk=>hk) trivial (Below.refl _ _) (Nat.le_refl _) (by simp) ?_;(case hd=>rfl);(case hg=>rfl);(case hr=>first|(go_simp;done)|(go_simp;rfl));(case hp=>exact (Reps.one (show Kd.M (Kd.int .i64) _ _ _ a [.int .i64 a] from rfl) (Reps.none _ _)))
                intro v83 w8 ho hb hg_ hnew_
                clear hg_ hnew_
                rw [← NSA.out] at ho
                have HO83:=Aside0.mk (Kd.R_lower (Kd.R_new' ho (Kd.R_lt (kdQ HO81))) (below_size HB4.out));replace HO81:=Aside0.mk (Kd.R_elder' (kdQ HO81) (Kd.R_base ho) hb);replace HB4:=Aside0.mk (below_step HB4.out hb);clear hb ho
                refine hK.out _ _ trivial (fun hHeld=>?_)
                clear hK K
                refine norm_ (a':=?_) ?_ ?_
                rotate_left
                · show Act.put _ (some 83) _ = _
                  simp only [Act.put,s1,s2,s3,i64_w,i32_w]
                  rfl
                exact norm_ (by simp only [putAll,Act.put,List.setIfInBounds_toArray,List.set_cons_zero,List.set_cons_succ]) (hCont (v77,v81,v83) _ ⟨Kd.R_mono HO81.out (fun _ hk=>hk.2),Kd.R_mono HO83.out (fun _ hk=>hk.2),HB4.out⟩)
              · skip
                refine Kd.R_lit_step (Kd.int .i64) _ 2 ?hg (N:=83) ?hd (xs:=([a] : List Int)) (inner:=[.int .i64 a]) (ok:=fun _=>True) (okp:=fun _=>True) ?hr ?hp (fun _ hk=>hk) trivial (Below.refl _ _) (Nat.le_refl _) (by simp) ?_;(case hd=>rfl);(case hg=>rfl);(case hr=>first|(go_simp;done)|(go_simp;rfl));(case hp=>exact (Reps.one (show Kd.M (Kd.int .i64) _ _ _ a [.int .i64 a] from rfl) (Reps.none _ _)))
                intro v83 w7 ho hb hg_ hnew_
                clear hg_ hnew_
                rw [← NSA.out] at ho
                have HO83:=Aside0.mk (Kd.R_lower (Kd.R_new' ho (Kd.R_lt (kdQ HO77))) (below_size HB4.out));replace HO77:=Aside0.mk (Kd.R_elder' (kdQ HO77) (Kd.R_base ho) hb);replace HB4:=Aside0.mk (below_step HB4.out hb);clear hb ho
                refine hK.out _ _ trivial (fun hHeld=>?_)
                clear hK K
                refine norm_ (a':=?_) ?_ ?_
                rotate_left
                · show Act.put _ (some 83) _ = _
                  simp only [Act.put,s1,s2,s3,i64_w,i32_w]
                  rfl
                refine one_ (i:=4) (N:=some 81) #[true,true,true,true,true,true,true,false,true,true,true,false,false] rfl rfl (one_of HT_.out (by kernel_rfl)) (by decide) (fun K hK=>?_)
                refine Kd.R_append_rows_step (Kd.int .i64) (w0:=w4) w4.heap.size (by rfl) (.tmp 77) (.tmp 80) 22 2 (.int .i64 0) 8 rfl Tryd.underlying22 info2 rfl (by decide) (by omega) v77 e0 yt _ _ _ (fun k_=>some k_ ≠ (v83 : Value).ownBlock) (fun _=>False) rfl rfl ?aO ?aR (fun _ _ h=>h) (fun _ h=>h.elim) ?aF ?aB ?aS ?aL ?_
                (case aR=>exact Kd.C_below HRT.out HB4.out)
                (case aB=>exact HB4.out)
                (case aF=>exact (fun k_ hk=>Kd.fresh' (Kd.R_lt (kdQ HO83)) k_ hk))
                (case aO=>exact Kd.R_mono (kdQ HO77) (fun _ hk=>hk.2))
                (case aS=>exact below_size HB4.out)
                (case aL=>have:=LM1.out;omega)
                intro v81 w8 ho hb hg hat
                rw [← NYC.out] at ho
                have HO81:=Aside0.mk ho;replace HO83:=Aside0.mk (Kd.R_after (ok:=fun _=>True) (kdQ HO83) hg hat);replace HB4:=Aside0.mk hb;clear hb ho hg hat HO77
                refine hK.out _ _ trivial (fun hHeld=>?_)
                clear hK K
                refine norm_ (a':=?_) ?_ ?_
                rotate_left
                · show Act.put _ (some 81) _ = _
                  simp only [Act.put,s1,s2,s3,i64_w,i32_w]
                  rfl
                exact norm_ (by simp only [putAll,Act.put,List.setIfInBounds_toArray,List.set_cons_zero,List.set_cons_succ]) (hCont (v77,v81,v83) _ ⟨Kd.R_mono HO81.out (fun _ hk=>hk),Kd.R_mono HO83.out (fun _ hk=>hk.2),HB4.out⟩)
            · skip
              refine Kd.R_lit_step (Kd.int .i64) _ 2 ?hg (N:=83) ?hd (xs:=([a] : List Int)) (inner:=[.int .i64 a]) (ok:=fun _=>True) (okp:=fun _=>True) ?hr ?hp (fun _ hk=>hk) trivial (Below.refl _ _) (Nat.le_refl _) (by simp) ?_;(case hd=>rfl);(case hg=>rfl);(case hr=>first|(go_simp;done)|(go_simp;rfl));(case hp=>exact (Reps.one (show Kd.M (Kd.int .i64) _ _ _ a [.int .i64 a] from rfl) (Reps.none _ _)))
              intro v83 w6 ho hb hg_ hnew_
              clear hg_ hnew_
              rw [← NSA.out] at ho
              have HO83:=Aside0.mk (Kd.R_lower ho (below_size HB4.out));replace HB4:=Aside0.mk (below_step HB4.out hb);clear hb ho
              refine hK.out _ _ trivial (fun hHeld=>?_)
              clear hK K
              refine norm_ (a':=?_) ?_ ?_
              rotate_left
              · show Act.put _ (some 83) _ = _
                simp only [Act.put,s1,s2,s3,i64_w,i32_w]
                rfl
              refine one_ (i:=0) (N:=some 77) #[true,true,true,true,false,true,true,false,true,true,true,false,false] rfl rfl (one_of HT_.out (by kernel_rfl)) (by decide) (fun K hK=>?_)
              refine Kd.R_lit_step (Kd.int .i64) _ 2 ?hg (N:=77) ?hd (xs:=([] : List Int)) (inner:=[]) (ok:=fun _=>True) (okp:=fun _=>True) ?hr ?hp (fun _ hk=>hk) trivial (Below.refl _ _) (Nat.le_refl _) (by simp) ?_;(case hd=>rfl);(case hg=>rfl);(case hr=>first|(go_simp;done)|(go_simp;rfl));(case hp=>exact (Reps.none _ _))
              intro v77 w7 ho hb hg_ hnew_
              clear hg_ hnew_
              rw [← NE0.out] at ho
              have HO77:=Aside0.mk (Kd.R_lower (Kd.R_new' ho (Kd.R_lt (kdQ HO83))) (below_size HB4.out));replace HO83:=Aside0.mk (Kd.R_elder' (kdQ HO83) (Kd.R_base ho) hb);replace HB4:=Aside0.mk (below_step HB4.out hb);clear hb ho
              refine hK.out _ _ trivial (fun hHeld=>?_)
              clear hK K
              refine norm_ (a':=?_) ?_ ?_
              rotate_left
              · show Act.put _ (some 77) _ = _
                simp only [Act.put,s1,s2,s3,i64_w,i32_w]
                rfl
              refine one_ (i:=4) (N:=some 81) #[true,true,true,true,true,true,true,false,true,true,true,false,false] rfl rfl (one_of HT_.out (by kernel_rfl)) (by decide) (fun K hK=>?_)
              refine Kd.R_append_rows_step (Kd.int .i64) (w0:=w4) w4.heap.size (by rfl) (.tmp 77) (.tmp 80) 22 2 (.int .i64 0) 8 rfl Tryd.underlying22 info2 rfl (by decide) (by omega) v77 e0 yt _ _ _ (fun k_=>some k_ ≠ (v83 : Value).ownBlock) (fun _=>False) rfl rfl ?aO ?aR (fun _ _ h=>h) (fun _ h=>h.elim) ?aF ?aB ?aS ?aL ?_
              (case aR=>exact Kd.C_below HRT.out HB4.out)
              (case aB=>exact HB4.out)
              (case aF=>exact (fun k_ hk=>Kd.fresh' (Kd.R_lt (kdQ HO83)) k_ hk))
              (case aO=>exact Kd.R_mono (kdQ HO77) (fun _ hk=>hk.2))
              (case aS=>exact below_size HB4.out)
              (case aL=>have:=LM1.out;omega)
              intro v81 w8 ho hb hg hat
              rw [← NYC.out] at ho
              have HO81:=Aside0.mk ho;replace HO83:=Aside0.mk (Kd.R_after (ok:=fun _=>True) (kdQ HO83) hg hat);replace HB4:=Aside0.mk hb;clear hb ho hg hat HO77
              refine hK.out _ _ trivial (fun hHeld=>?_)
              clear hK K
              refine norm_ (a':=?_) ?_ ?_
              rotate_left
              · show Act.put _ (some 81) _ = _
                simp only [Act.put,s1,s2,s3,i64_w,i32_w]
                rfl
              exact norm_ (by simp only [putAll,Act.put,List.setIfInBounds_toArray,List.set_cons_zero,List.set_cons_succ]) (hCont (v77,v81,v83) _ ⟨Kd.R_mono HO81.out (fun _ hk=>hk),Kd.R_mono HO83.out (fun _ hk=>hk.2),HB4.out⟩)
          rintro ⟨v77,v81,v83⟩ w9 ⟨h0_,h1_,h2_⟩
          replace h0_ : Kd.R (Kd.int .i64) 2 w9 w4.heap.size (fun k_=>some k_ ≠ (v83 : Value).ownBlock) v81 yc:=h0_
          replace h1_ : Kd.R (Kd.int .i64) 2 w9 w4.heap.size (fun k_=>some k_ ≠ (v81 : Value).ownBlock) v83 sa:=h1_
          obtain ⟨A83,c83,rfl⟩:=Kd.R_slice h1_
          have HO81:=Aside0.mk h0_;have HO83:=Aside0.mk h1_;replace HB4:=Aside0.mk h2_
          clear h0_ h1_ h2_
          refine norm_ (a':=?_) ?_ ?_
          rotate_left
          · simp only [putAll,Act.put,List.setIfInBounds_toArray,List.set_cons_zero,List.set_cons_succ]
            rfl
          refine one_ (i:=7) (N:=some 84) #[true,true,true,true,true,true,true,true,true,true,true,false,false] rfl rfl (one_of HT_.out (by kernel_rfl)) (by decide) (fun K hK=>?_)
          refine Kd.R_append_rows_step (Kd.int .i64) (w0:=w4) w4.heap.size (by rfl) (.tmp 81) (.tmp 83) 22 2 (.int .i64 0) 8 rfl Tryd.underlying22 info2 rfl (by decide) (by omega) v81 yc sa _ _ _ (fun k_=>some k_ ≠ (.slice A83 sa.length c83 : Value).ownBlock) (fun _=>False) rfl rfl ?aO ?aR (fun _ _ h=>h) (fun _ h=>h.elim) ?aF ?aB ?aS ?aL ?_
          (case aR=>exact (Kd.R_reads' HO83.out).2.2)
          (case aB=>exact HB4.out)
          (case aF=>exact (fun k_ hk=>Kd.fresh' (Kd.R_lt (kdQ HO83)) k_ hk))
          (case aO=>exact (kdQ HO81))
          (case aS=>exact below_size HB4.out)
          (case aL=>have:=LM2.out;omega)
          intro v84 w10 ho hb hg hat
          rw [← NYD.out] at ho
          have HO84:=Aside0.mk ho;replace HB4:=Aside0.mk hb;clear hb ho hg hat HO81 HO83
          refine hK.out _ _ trivial (fun hHeld=>?_)
          clear hK K
          refine norm_ (a':=?_) ?_ ?_
          rotate_left
          · show Act.put _ (some 84) _ = _
            simp only [Act.put,s1,s2,s3,i64_w,i32_w]
            rfl
          refine one_ (i:=11) (N:=some 88) #[true,true,true,true,true,true,true,true,true,true,true,true,false] rfl rfl (one_of HT_.out (by kernel_rfl)) (by decide) (fun K hK=>?_)
          refine Kd.R_append_rows_step (Kd.int .i64) (w0:=w4) w4.heap.size (by rfl) (.tmp 84) (.tmp 87) 22 2 (.int .i64 0) 8 rfl Tryd.underlying22 info2 rfl (by decide) (by omega) v84 yd yr _ _ _ (fun _=>True) (fun _=>False) rfl rfl ?aO ?aR (fun _ _ h=>h) (fun _ h=>h.elim) ?aF ?aB ?aS ?aL ?_
          (case aR=>exact Kd.C_below HRD.out HB4.out)
          (case aB=>exact HB4.out)
          (case aF=>exact (fun _ _=>trivial))
          (case aO=>exact (Kd.R_mono (kdQ HO84) (fun _ _=>trivial)))
          (case aS=>exact below_size HB4.out)
          (case aL=>have:=LM3.out;omega)
          intro v88 w11 ho hb hg hat
          rw [← NYE.out] at ho
          have HO88:=Aside0.mk ho;replace HB4:=Aside0.mk hb;clear hb ho hg hat HO84
          refine hK.out _ _ trivial (fun hHeld=>?_)
          clear hK K
          refine norm_ (a':=?_) ?_ ?_
          rotate_left
          · show Act.put _ (some 88) _ = _
            simp only [Act.put,s1,s2,s3,i64_w,i32_w]
            rfl
          refine pure_ (i:=12) (N:=some 11) (v:=?_) (a':=?_) #[true,true,true,true,true,true,true,true,true,true,true,true,true] rfl rfl (any_of HT_.out (by kernel_rfl)) (fun _ _ _ h=>h) (Or.inl ⟨by rfl,?_⟩) ?_ ?_
          rotate_left
          · intro w'
            go_simp
            with_reducible rfl
          rotate_left
          · simp only [Act.put,s1,s2,s3,i64_w,i32_w]
            rfl
          refine done_ (done_of HT_.out (by kernel_rfl)) ?_
          go_wp2
          go_roundg k1
          case measure=>omega
          case rel=>exact ⟨ye,wrap64 (a + 1),i',s',sz,G',⟨by have:=HK.out;omega⟩,⟨Kd.R_lower (Kd.R_mono (Kd.R_bound HO88.out) (fun k_ h_=>(by have:=h_.2.1;have:=HI.out.lt;omega : k_ ≠ g10))) (below_size HW.out)⟩,⟨HI.out.below HB4.out⟩,⟨below_step HW.out HB4.out⟩⟩
      · rw [if_neg ha] at G
        have e1 : decide (a < n) = false:=decide_eq_false ha
        obtain rfl:=Option.some.inj G
        obtain ⟨A11,c11,rfl⟩:=Kd.R_slice HO.out
        clear G ha
        iterate 22 go_step
        exact laws_FnLeastAlphabets.rest3 k n D L p Tf t A3 A4 A8 A11 c3 c4 c8 c11 g3 g4 g8 w0 wr _ _ _ _ _ _ _ _ _ _ _ _ _ _ _ _ _ _ _ _ _ _ _ _ _ _ _ _ _ _ _ _ _ _ _ _ _ _ _ _ _ _ _ _ _ _ _ _ _ _ _ _ _ _ _ _ _ _ _ _ _ _ _ _ _ _ _ _ _ _ _ _ _ _ _ _ _ _ _ _ _ _ _ _ _ _ _ _ _ _ _ _ _ _ _ _ _ _ _ _ _ _ _ _ _ _ _ _ _ _ _ _ _ _ _ _ _ _ _ _ _ _ _ _ _ _ _ _ _ _ _ _ _ _ _ _ _ _ _ _ _ _ _ _ _ _ _ _ _ _ _ _ _ _ _ _ _ _ _ _ _ _ _ _ _ _ _ _ _ _ _ _ _ _ _ _ _ _ _ _ _ _ _ _ _ _ _ _ _ _ _ _ _ _ _ _ _ _ _ _ _ _ _ _ _ _ _ _ _ _ _ _ _ _ _ _ _ _ _ _ _ _ _ _ _ _ _ _ _ _ _ _ _ _  (below_step HB.out HW.out) (TabW.below HT.out HW.out) (B3.out.below HW.out) (B4.out.below HW.out) (B8.out.below HW.out) (Kd.R_reads' HO.out).2.2 H0.out N0.out N5.out O1.out O2.out O3.out O4.out H.out
theorem V_slice' {α : Type} {d : Kd α} {e base : Nat} {ok : Nat→Prop} {W : World} {v : Value} {xs : List α} (h : Kd.V d e W base ok v xs) : ∃ A c,v = .slice A xs.length c:=by obtain ⟨A,c,h,_⟩:=h;exact ⟨A,c,h⟩
set_option maxHeartbeats 8000000 in
set_option maxRecDepth 100000 in
theorem laws_FnLeastAlphabets.rest1 (k : Nat) (l0 : List Int) (n : Int) (D L P Tf : List Int) (t : Bool) (s0 : Int) (A0 A3 : Option Addr) (c0 c3 : Nat) (g3 : Nat) (w0 w : World) (u1 u4 u5 u6 u7 u8 u9 u10 u11 u12 u13 u14 u15 u16 u17 u18 u19 u20 u21 u22 u23 u24 u25 u26 u27 u28 u29 u30 u31 u32 u33 u34 u35 u36 u37 u38 u39 u40 u41 u42 u43 u44 u45 u46 u47 u48 u49 u50 u51 u52 u53 u54 u55 u56 u57 u58 u59 u60 u61 u62 u63 u64 u65 u66 u67 u68 u69 u70 u71 u72 u73 u74 u75 u76 u77 u78 u79 u80 u81 u82 u83 u84 u85 u86 u87 u88 u89 u90 u91 u92 u93 u94 u95 u96 u97 u98 u99 u100 u101 u102 u103 u104 u105 u106 u107 u108 u109 u110 u111 u112 u113 u114 u115 u116 u117 u118 u119 u120 u121 u122 u123 u124 u125 u126 u127 u128 u129 u130 u131 u132 u133 u134 u135 u136 u137 u138 u139 u140 u141 u142 u143 u144 u145 u146 u147 u148 u149 u150 u151 u152 u153 u154 u155 u156 u157 u158 u159 u160 u161 u162 u163 u164 u165 u166 u167 u168 u169 u170 u171 u172 u173 u174 u175 u176 u177 u178 u179 u180 u181 u182 u183 u184 u185 u186 u187 u188 u189 u190 u191 u192 u193 u194 u195 u196 u197 u198 u199 u200 u201 u202 u203 u204 u205 u206 u207 u208 u209 u210 u211 u212 u213 u214 u215 u216 u217 u218 u219 u220 u221 u222 u223 u224 u225 u226 u227 u228 u229 u230 u231 u232 u233 u234 u235 u236 u237 u238 u239 : Value) (hr0 : Kd.C (Kd.int .u8) w0 A0 l0.length l0) (hc0 : l0.length≤c0) (hB : Below w0.heap.size w0 w) (hT : TabW w) (b3 : Boxed w g3 n A3 c3 D)
    (o5 : impl_LeastAlphabet.f k n D = some (n,L,0)) (o6 : spec_LeastAlphabet.f k n D = some (n,L,0)) (o7 : impl_LeastAlphabet.f k n L = some (n,L,0)) (o8 : laws_roll.f k l0 503 = some (l0,0,s0))
    (hp : flPlace l0 n k [] 0 0 s0 = some P)
    (h0 : flTurn1 n D P k 0 (List.replicate n.toNat 0) = some Tf) (n0 : 0≤n) (n5 : n≤5)
    (o1 : impl_LeastAlphabet.f k n Tf = some (n,L,0)) (o2 : impl_HasTransitiveExchange.f k n D = some (t,0)) (o3 : impl_HasTransitiveExchange.f k n Tf = some (t,0)) (o4 : laws_likeAlphabet5.f k n L n L = some true)
    (h : (if n > 4 then some true else (impl_AllAlphabets.f k n).bind fun all=>if all.2 = 0∧(all.1.length : Int) = [1,1,2,4,11].getD n.toNat 0∧flAll all.1 n L k false 0 = some true then some true else none) = some true) :
    Code.wp Tryd.prog (prodsCode 6) (bodyPost Tryd.prog Tryd.f4 fun e w'=>e = .returned (.bool true)∧Below w0.heap.size w0 w') ⟨#[.slice A0 l0.length c0,u1,.bool false,.pointer (some ⟨g3,0,none⟩),u4,u5,u6,u7,u8,u9,u10,u11,u12,u13,u14,u15,u16,u17,u18,u19,u20,u21,u22,u23,u24,u25,u26,u27,u28,u29,u30,u31,u32,u33,u34,u35,u36,u37,u38,u39,u40,u41,u42,u43,u44,u45,u46,u47,u48,u49,u50,u51,u52,u53,u54,u55,u56,u57,u58,u59,u60,u61,u62,u63,u64,u65,u66,u67,u68,u69,u70,u71,u72,u73,u74,u75,u76,u77,u78,u79,u80,u81,u82,u83,u84,u85,u86,u87,u88,u89,u90,u91,u92,u93,u94,u95,u96,u97,u98,u99,u100,u101,u102,u103,u104,u105,u106,u107,u108,u109,u110,u111,u112,u113,u114,u115,u116,u117,u118,u119,u120,u121,u122,u123,u124,u125,u126,u127,u128,u129,u130,u131,u132,u133,u134,u135,u136,u137,u138,u139,u140,u141,u142,u143,u144,u145,u146,u147,u148,u149,u150,u151,u152,u153,u154,u155,u156,u157,u158,u159,u160,u161,u162,u163,u164,u165,u166,u167,u168,u169,u170,u171,u172,u173,u174,u175,u176,u177,u178,u179,u180,u181,u182,u183,u184,u185,u186,u187,u188,u189,u190,u191,u192,u193,u194,u195,u196,u197,u198,u199,u200,u201,u202,u203,u204,u205,u206,u207,u208,u209,u210,u211,u212,u213,u214,u215,u216,u217,u218,u219,u220,u221,u222,u223,u224,u225,u226,u227,u228,u229,u230,u231,u232,u233,u234,u235,u236,u237,u238,u239],[]⟩ w:=by
  have hu:=Tryd.underlying26
  have HR0:=Aside0.mk hr0;have HC0:=Aside0.mk hc0;have HB:=Aside0.mk hB;have HT:=Aside0.mk hT;have B3:=Aside0.mk b3;have HP:=Aside0.mk hp;have H0:=Aside0.mk h0;have N0:=Aside0.mk n0;have N5:=Aside0.mk n5;have O1:=Aside0.mk o1;have O2:=Aside0.mk o2;have O3:=Aside0.mk o3;have O4:=Aside0.mk o4;have O5:=Aside0.mk o5;have O6:=Aside0.mk o6;have O7:=Aside0.mk o7;have O8:=Aside0.mk o8;have H:=Aside0.mk h
  clear hr0 hc0 hB hT b3 hp h0 n0 n5 o1 o2 o3 o4 o5 o6 o7 o8 h
  have x0:=B3.out.c0;have x1:=B3.out.c1
  conv=>arg 2;whnf
  go_upto_region 7 with (first
   |(go_at_call 8;go_loud ((with_reducible refine (impl_LeastAlphabet.calls k n A3 c3 D n L 0 _ ?s1 B3.out.cap ?s2 O5.out).mono ?_);(case s1=>exact B3.out.row);(case s2=>exact HT.out);rintro e w1 ⟨v1,rfl,ho1,hb1⟩;obtain ⟨A4,c4,rfl⟩:=Kd.R_slice ho1;have HO1:=Aside0.mk (Kd.R_reads' ho1).2;have HB1:=Aside0.mk hb1;clear ho1 hb1 x0 x1))
   |((with_reducible refine gate_dst (N:=4) rfl ?_);refine box_event ?hg (N:=4) ?hd (cs:=#[.int .i64 0,.slice none 0 0]) (t:=26) ?hr ?_;(case hd=>rfl);(case hg=>rfl);(case hr=>first|(go_simp;done)|(go_simp;rfl));intro g4 hg w2 hbox hb;have bn:=boxed_newC (n:=n) (A:=A4) (c:=c4) HO1.out.2 HO1.out.1 HB1.out hb hg hbox;have BN:=Aside0.mk bn.1;have HB2:=Aside0.mk bn.2;clear bn hg hb;have z0 : w2.cell? ⟨g4,0,none⟩ = some (.int .i64 0):=(blk_cell hbox 0).trans rfl;have z1 : w2.cell? ⟨g4,1,none⟩ = some (.slice none 0 0):=(blk_cell hbox 1).trans rfl;have z2:=blk_frozen hbox 0;have z3:=blk_frozen hbox 1;clear hbox))
  replace B3:=Aside0.mk (B3.out.below HB2.out);replace HT:=Aside0.mk (TabW.below HT.out HB2.out);replace HB:=Aside0.mk (below_step HB.out HB2.out)
  clear z0 z1 z2 z3 HB1 HB2 HO1
  (try simp only [drewN_set])
  generalize (w2.setCell ⟨g4,0,none⟩ (.int .i64 n)).setCell ⟨g4,1,none⟩ (.slice A4 L.length c4) = w3 at B3 BN HT HB ⊢
  have B4:=BN
  clear BN
  have x0:=B3.out.c0;have x1:=B3.out.c1
  go_upto_region 8 with (first
   |(go_at_call 6;go_loud ((with_reducible refine (spec_LeastAlphabet.calls k n A3 c3 D n L 0 _ ?s3 B3.out.cap O6.out).mono ?_);(case s3=>exact B3.out.row);rintro e w1 ⟨v1,rfl,ho1,hb1⟩;obtain ⟨A6,c6,rfl⟩:=V_slice' ho1;have HO1:=Aside0.mk (Kd.V_reads' ho1).2;have HB1:=Aside0.mk hb1;clear ho1 hb1 x0 x1))
   |((with_reducible refine gate_dst (N:=6) rfl ?_);refine box_event ?hg (N:=6) ?hd (cs:=#[.int .i64 0,.slice none 0 0]) (t:=26) ?hr ?_;(case hd=>rfl);(case hg=>rfl);(case hr=>first|(go_simp;done)|(go_simp;rfl));intro g6 hg w2 hbox hb;have bn:=boxed_newC (n:=n) (A:=A6) (c:=c6) HO1.out.2 HO1.out.1 HB1.out hb hg hbox;have BN:=Aside0.mk bn.1;have HB2:=Aside0.mk bn.2;clear bn hg hb;have z0 : w2.cell? ⟨g6,0,none⟩ = some (.int .i64 0):=(blk_cell hbox 0).trans rfl;have z1 : w2.cell? ⟨g6,1,none⟩ = some (.slice none 0 0):=(blk_cell hbox 1).trans rfl;have z2:=blk_frozen hbox 0;have z3:=blk_frozen hbox 1;clear hbox))
  replace B3:=Aside0.mk (B3.out.below HB2.out);replace B4:=Aside0.mk (B4.out.below HB2.out);replace HT:=Aside0.mk (TabW.below HT.out HB2.out);replace HB:=Aside0.mk (below_step HB.out HB2.out)
  clear z0 z1 z2 z3 HB1 HB2 HO1
  (try simp only [drewN_set])
  generalize (w2.setCell ⟨g6,0,none⟩ (.int .i64 n)).setCell ⟨g6,1,none⟩ (.slice A6 L.length c6) = w4 at B3 B4 BN HT HB ⊢
  have B6:=BN
  clear BN
  have x0:=B4.out.c0;have x1:=B4.out.c1;have y0:=B6.out.c0;have y1:=B6.out.c1
  go_upto_region 10 with (go_at_call 15;go_loud ((with_reducible refine (laws_likeAlphabet5.calls k n A4 c4 L n A6 c6 L true _ ?s5 B4.out.cap ?s6 B6.out.cap O4.out).mono ?_);(case s5=>exact B4.out.row);(case s6=>exact B6.out.row);rintro e w5 ⟨rfl,hb⟩;replace B3:=Aside0.mk (B3.out.below hb);replace B4:=Aside0.mk (B4.out.below hb);replace HT:=Aside0.mk (TabW.below HT.out hb);replace HB:=Aside0.mk (below_step HB.out hb);clear hb x0 x1 y0 y1 B6))
  have x0:=B4.out.c0;have x1:=B4.out.c1
  go_upto_region 11 with (first
   |(go_at_call 8;go_loud ((with_reducible refine (impl_LeastAlphabet.calls k n A4 c4 L n L 0 _ ?s7 B4.out.cap ?s8 O7.out).mono ?_);(case s7=>exact B4.out.row);(case s8=>exact HT.out);rintro e w1 ⟨v1,rfl,ho1,hb1⟩;obtain ⟨A8,c8,rfl⟩:=Kd.R_slice ho1;have HO1:=Aside0.mk (Kd.R_reads' ho1).2;have HB1:=Aside0.mk hb1;clear ho1 hb1 x0 x1))
   |((with_reducible refine gate_dst (N:=8) rfl ?_);refine box_event ?hg (N:=8) ?hd (cs:=#[.int .i64 0,.slice none 0 0]) (t:=26) ?hr ?_;(case hd=>rfl);(case hg=>rfl);(case hr=>first|(go_simp;done)|(go_simp;rfl));intro g8 hg w2 hbox hb;have bn:=boxed_newC (n:=n) (A:=A8) (c:=c8) HO1.out.2 HO1.out.1 HB1.out hb hg hbox;have BN:=Aside0.mk bn.1;have HB2:=Aside0.mk bn.2;clear bn hg hb;have z0 : w2.cell? ⟨g8,0,none⟩ = some (.int .i64 0):=(blk_cell hbox 0).trans rfl;have z1 : w2.cell? ⟨g8,1,none⟩ = some (.slice none 0 0):=(blk_cell hbox 1).trans rfl;have z2:=blk_frozen hbox 0;have z3:=blk_frozen hbox 1;clear hbox))
  replace B3:=Aside0.mk (B3.out.below HB2.out);replace B4:=Aside0.mk (B4.out.below HB2.out);replace HT:=Aside0.mk (TabW.below HT.out HB2.out);replace HB:=Aside0.mk (below_step HB.out HB2.out)
  clear z0 z1 z2 z3 HB1 HB2 HO1
  (try simp only [drewN_set])
  generalize (w2.setCell ⟨g8,0,none⟩ (.int .i64 n)).setCell ⟨g8,1,none⟩ (.slice A8 L.length c8) = w6 at B3 B4 BN HT HB ⊢
  have B8:=BN
  clear BN
  iterate 6 go_step
  (go_at_call 16;go_loud ((with_reducible refine (laws_roll.calls k A0 c0 l0 503 l0 0 s0 w0 _ HB.out HR0.out HC0.out O8.out).mono ?_);rintro e w7 ⟨g10,rfl,hi,hb0,hb,hg⟩;have HI:=Aside0.mk hi;have HW:=Aside0.mk hb;have HG:=Aside0.mk hg;clear hi hb0 hb hg))
  dsimp only
  iterate 7 go_step
  exact laws_FnLeastAlphabets.rest2 k l0 n D L P Tf t 0 s0 A3 A4 A8 c3 c4 c8 g3 g4 g8 g10 w0 w6 w7 _ _ _ _ _ _ _ _ _ _ _ _ _ _ _ _ _ _ _ _ _ _ _ _ _ _ _ _ _ _ _ _ _ _ _ _ _ _ _ _ _ _ _ _ _ _ _ _ _ _ _ _ _ _ _ _ _ _ _ _ _ _ _ _ _ _ _ _ _ _ _ _ _ _ _ _ _ _ _ _ _ _ _ _ _ _ _ _ _ _ _ _ _ _ _ _ _ _ _ _ _ _ _ _ _ _ _ _ _ _ _ _ _ _ _ _ _ _ _ _ _ _ _ _ _ _ _ _ _ _ _ _ _ _ _ _ _ _ _ _ _ _ _ _ _ _ _ _ _ _ _ _ _ _ _ _ _ _ _ _ _ _ _ _ _ _ _ _ _ _ _ _ _ _ _ _ _ _ _ _ _ _ _ _ _ _ _ _ _ _ _ _ _ _ _ _ _ _ _ _ _ _ _ _ _ _ _ _ _ _ _ _ _ _ _ _ _ _ _ _ _ _ _ _ _ _ _ _ _ _ _ _ _ _  HB.out HT.out B3.out B4.out B8.out HW.out HI.out HG.out HP.out H0.out N0.out N5.out O1.out O2.out O3.out O4.out H.out
set_option maxHeartbeats 4000000 in
set_option maxRecDepth 100000 in
theorem laws_FnLeastAlphabets.big (A0 : Option Addr) (c0 : Nat) (l0 : List Int) (w : World) (hr0 : Kd.C (Kd.int .u8) w A0 l0.length l0) (hc0 : l0.length≤c0) (hl : (l0.length : Int) > 4096) :
    Calls Tryd.prog 4 #[.slice A0 l0.length c0] w fun e w'=>e = .returned (.bool true)∧Below w.heap.size w w':=by
  have HR:=Aside0.mk hr0;have HC:=Aside0.mk hc0
  have hb : laws_big.f l0 = some true:=by unfold laws_big.f;simp;omega
  have BG:=Aside0.mk hb
  clear hr0 hc0 hb hl
  go_enter Tryd.func4,Tryd.ntmps4
  go_wp2_with (go_at_call 12;go_loud ((with_reducible refine (laws_big.calls A0 c0 l0 true _ ?s1 HC.out BG.out).mono ?_);(case s1=>exact HR.out);rintro e w1 ⟨rfl,⟨nd,rfl⟩⟩))
  go_ret
  exact ⟨rfl,pw_below_drewN (Below.refl _ _) _⟩
set_option maxHeartbeats 4000000 in
set_option maxRecDepth 100000 in
theorem laws_FnLeastAlphabets.early (k : Nat) (A0 : Option Addr) (c0 : Nat) (l0 : List Int) (n : Int) (D : List Int) (t : Bool) (w : World) (hr0 : Kd.C (Kd.int .u8) w A0 l0.length l0) (hc0 : l0.length≤c0) (hl : ¬ (l0.length : Int) > 4096) (hd : spec_DrawHasTransitiveExchange.f k l0 = some (n,D)) (ha : spec_IsAlphabet.f k n D = some t) (ht : t = false∨n > 5) :
    Calls Tryd.prog 4 #[.slice A0 l0.length c0] w fun e w'=>e = .returned (.bool true)∧Below w.heap.size w w':=by
  have hu:=Tryd.underlying26
  have HR:=Aside0.mk hr0;have HC:=Aside0.mk hc0
  have hb : laws_big.f l0 = some false:=by unfold laws_big.f;simp;omega
  have BG:=Aside0.mk hb;have HD:=Aside0.mk hd;have HA:=Aside0.mk ha
  clear hr0 hc0 hb hl hd ha
  cases t with
 |true =>
    have e1 : decide (5 < n) = true:=decide_eq_true (by rcases ht with h|h;cases h;exact h)
    clear ht
    go_enter Tryd.func4,Tryd.ntmps4
    go_wp2_with (first
     |(go_at_call 12;(with_reducible refine (laws_big.calls A0 c0 l0 false _ ?s1 HC.out BG.out).mono ?_);(case s1=>exact HR.out);rintro e w1 ⟨rfl,⟨nd,rfl⟩⟩)
     |(go_at_call 13;(with_reducible refine (spec_DrawHasTransitiveExchange.calls k A0 c0 l0 n D _ ?s2 HC.out HD.out).mono ?_);(case s2=>exact Kd.C_drewN HR.out _);rintro e w2 ⟨v1,rfl,ho,hb⟩;obtain ⟨A3,c3,rfl⟩:=Kd.R_slice ho;have HO:=Aside0.mk (Kd.R_reads' ho).2;have HB:=Aside0.mk (below_step (pw_below_drewN (Below.refl w.heap.size w) nd) hb);clear ho hb)
     |((with_reducible refine gate_dst (N:=3) rfl ?_);refine box_event ?hg (N:=3) ?hd (cs:=#[.int .i64 0,.slice none 0 0]) (t:=26) ?hr ?_;(case hd=>rfl);(case hg=>rfl);(case hr=>first|(go_simp;done)|(go_simp;rfl));intro g hg w3 hbox hb;have bn:=boxed_newC (n:=n) (A:=A3) (c:=c3) HO.out.2 HO.out.1 HB.out hb hg hbox;have BN:=Aside0.mk bn.1;have HB2:=Aside0.mk bn.2;clear bn hg hb;have z0 : w3.cell? ⟨g,0,none⟩ = some (.int .i64 0):=(blk_cell hbox 0).trans rfl;have z1 : w3.cell? ⟨g,1,none⟩ = some (.slice none 0 0):=(blk_cell hbox 1).trans rfl;have z2:=blk_frozen hbox 0;have z3:=blk_frozen hbox 1;clear hbox)
     |(go_at_call 14;(with_reducible refine (spec_IsAlphabet.calls k n A3 c3 D true _ ?s3 HO.out.1 HA.out).mono ?_);(case s3=>exact BN.out.row);rintro e w4 ⟨rfl,hb⟩;have x0:=(BN.out.below hb).c0;have HB3:=Aside0.mk (below_step HB2.out hb);clear hb z0 z1 z2 z3))
    go_ret
    exact ⟨rfl,HB3.out⟩
 |false =>
    clear ht
    go_enter Tryd.func4,Tryd.ntmps4
    go_wp2_with (first
     |(go_at_call 12;(with_reducible refine (laws_big.calls A0 c0 l0 false _ ?s1 HC.out BG.out).mono ?_);(case s1=>exact HR.out);rintro e w1 ⟨rfl,⟨nd,rfl⟩⟩)
     |(go_at_call 13;(with_reducible refine (spec_DrawHasTransitiveExchange.calls k A0 c0 l0 n D _ ?s2 HC.out HD.out).mono ?_);(case s2=>exact Kd.C_drewN HR.out _);rintro e w2 ⟨v1,rfl,ho,hb⟩;obtain ⟨A3,c3,rfl⟩:=Kd.R_slice ho;have HO:=Aside0.mk (Kd.R_reads' ho).2;have HB:=Aside0.mk (below_step (pw_below_drewN (Below.refl w.heap.size w) nd) hb);clear ho hb)
     |((with_reducible refine gate_dst (N:=3) rfl ?_);refine box_event ?hg (N:=3) ?hd (cs:=#[.int .i64 0,.slice none 0 0]) (t:=26) ?hr ?_;(case hd=>rfl);(case hg=>rfl);(case hr=>first|(go_simp;done)|(go_simp;rfl));intro g hg w3 hbox hb;have bn:=boxed_newC (n:=n) (A:=A3) (c:=c3) HO.out.2 HO.out.1 HB.out hb hg hbox;have BN:=Aside0.mk bn.1;have HB2:=Aside0.mk bn.2;clear bn hg hb;have z0 : w3.cell? ⟨g,0,none⟩ = some (.int .i64 0):=(blk_cell hbox 0).trans rfl;have z1 : w3.cell? ⟨g,1,none⟩ = some (.slice none 0 0):=(blk_cell hbox 1).trans rfl;have z2:=blk_frozen hbox 0;have z3:=blk_frozen hbox 1;clear hbox)
     |(go_at_call 14;(with_reducible refine (spec_IsAlphabet.calls k n A3 c3 D false _ ?s3 HO.out.1 HA.out).mono ?_);(case s3=>exact BN.out.row);rintro e w4 ⟨rfl,hb⟩;have HB3:=Aside0.mk (below_step HB2.out hb);clear hb z0 z1 z2 z3))
    go_ret
    exact ⟨rfl,HB3.out⟩
set_option maxHeartbeats 4000000 in
set_option maxRecDepth 100000 in
theorem laws_FnLeastAlphabets.main (k : Nat) (A0 : Option Addr) (c0 : Nat) (l0 : List Int) (n : Int) (D L P Tf : List Int) (t : Bool) (s0 : Int) (w : World) (hr0 : Kd.C (Kd.int .u8) w A0 l0.length l0) (hc0 : l0.length≤c0) (hT : TabW w) (hl : ¬ (l0.length : Int) > 4096) (hd : spec_DrawHasTransitiveExchange.f k l0 = some (n,D)) (ha : spec_IsAlphabet.f k n D = some true)
    (o5 : impl_LeastAlphabet.f k n D = some (n,L,0)) (o6 : spec_LeastAlphabet.f k n D = some (n,L,0)) (o7 : impl_LeastAlphabet.f k n L = some (n,L,0)) (o8 : laws_roll.f k l0 503 = some (l0,0,s0))
    (hp : flPlace l0 n k [] 0 0 s0 = some P)
    (h0 : flTurn1 n D P k 0 (List.replicate n.toNat 0) = some Tf) (n0 : 0≤n) (n5 : n≤5)
    (o1 : impl_LeastAlphabet.f k n Tf = some (n,L,0)) (o2 : impl_HasTransitiveExchange.f k n D = some (t,0)) (o3 : impl_HasTransitiveExchange.f k n Tf = some (t,0)) (o4 : laws_likeAlphabet5.f k n L n L = some true)
    (h : (if n > 4 then some true else (impl_AllAlphabets.f k n).bind fun all=>if all.2 = 0∧(all.1.length : Int) = [1,1,2,4,11].getD n.toNat 0∧flAll all.1 n L k false 0 = some true then some true else none) = some true) :
    Calls Tryd.prog 4 #[.slice A0 l0.length c0] w fun e w'=>e = .returned (.bool true)∧Below w.heap.size w w':=by
  have hu:=Tryd.underlying26
  have HR:=Aside0.mk hr0;have HC:=Aside0.mk hc0;have HT:=Aside0.mk hT
  have hb : laws_big.f l0 = some false:=by unfold laws_big.f;simp;omega
  have BG:=Aside0.mk hb;have HD:=Aside0.mk hd;have HA:=Aside0.mk ha;have HP:=Aside0.mk hp;have H0:=Aside0.mk h0;have N0:=Aside0.mk n0;have N5:=Aside0.mk n5;have O1:=Aside0.mk o1;have O2:=Aside0.mk o2;have O3:=Aside0.mk o3;have O4:=Aside0.mk o4;have O5:=Aside0.mk o5;have O6:=Aside0.mk o6;have O7:=Aside0.mk o7;have O8:=Aside0.mk o8;have H:=Aside0.mk h
  have e5 : decide (5 < n) = false:=decide_eq_false (by omega)
  clear hr0 hc0 hT hl hb hd ha hp h0 n0 n5 o1 o2 o3 o4 o5 o6 o7 o8 h
  go_enter Tryd.func4,Tryd.ntmps4
  go_upto_region 4 with (first
     |(go_at_call 12;(with_reducible refine (laws_big.calls A0 c0 l0 false _ ?s1 HC.out BG.out).mono ?_);(case s1=>exact HR.out);rintro e w1 ⟨rfl,⟨nd,rfl⟩⟩)
     |(go_at_call 13;(with_reducible refine (spec_DrawHasTransitiveExchange.calls k A0 c0 l0 n D _ ?s2 HC.out HD.out).mono ?_);(case s2=>exact Kd.C_drewN HR.out _);rintro e w2 ⟨v1,rfl,ho,hb⟩;obtain ⟨A3,c3,rfl⟩:=Kd.R_slice ho;have HO:=Aside0.mk (Kd.R_reads' ho).2;have HB:=Aside0.mk (below_step (pw_below_drewN (Below.refl w.heap.size w) nd) hb);clear ho hb)
     |((with_reducible refine gate_dst (N:=3) rfl ?_);refine box_event ?hg (N:=3) ?hd (cs:=#[.int .i64 0,.slice none 0 0]) (t:=26) ?hr ?_;(case hd=>rfl);(case hg=>rfl);(case hr=>first|(go_simp;done)|(go_simp;rfl));intro g hg w3 hbox hb;have bn:=boxed_newC (n:=n) (A:=A3) (c:=c3) HO.out.2 HO.out.1 HB.out hb hg hbox;have BN:=Aside0.mk bn.1;have HB2:=Aside0.mk bn.2;clear bn hg hb;have z0 : w3.cell? ⟨g,0,none⟩ = some (.int .i64 0):=(blk_cell hbox 0).trans rfl;have z1 : w3.cell? ⟨g,1,none⟩ = some (.slice none 0 0):=(blk_cell hbox 1).trans rfl;have z2:=blk_frozen hbox 0;have z3:=blk_frozen hbox 1;clear hbox))
  clear z0 z1 z2 z3 HO HB
  (try simp only [drewN_set])
  generalize (w3.setCell ⟨g,0,none⟩ (.int .i64 n)).setCell ⟨g,1,none⟩ (.slice A3 D.length c3) = w4 at BN HB2 ⊢
  have x0:=BN.out.c0;have x1:=BN.out.c1
  go_upto_if 39 with (go_at_call 14;(with_reducible refine (spec_IsAlphabet.calls k n A3 c3 D true _ ?s3 BN.out.cap HA.out).mono ?_);(case s3=>exact BN.out.row);rintro e w5 ⟨rfl,hb⟩;replace BN:=Aside0.mk (BN.out.below hb);replace HB2:=Aside0.mk (below_step HB2.out hb);clear hb x0 x1;have x0:=BN.out.c0)
  refine wp_cond_false rfl ?_
  go_step
  go_step
  go_step
  exact laws_FnLeastAlphabets.rest1 k l0 n D L P Tf t s0 A0 A3 c0 c3 g w w5 _ _ _ _ _ _ _ _ _ _ _ _ _ _ _ _ _ _ _ _ _ _ _ _ _ _ _ _ _ _ _ _ _ _ _ _ _ _ _ _ _ _ _ _ _ _ _ _ _ _ _ _ _ _ _ _ _ _ _ _ _ _ _ _ _ _ _ _ _ _ _ _ _ _ _ _ _ _ _ _ _ _ _ _ _ _ _ _ _ _ _ _ _ _ _ _ _ _ _ _ _ _ _ _ _ _ _ _ _ _ _ _ _ _ _ _ _ _ _ _ _ _ _ _ _ _ _ _ _ _ _ _ _ _ _ _ _ _ _ _ _ _ _ _ _ _ _ _ _ _ _ _ _ _ _ _ _ _ _ _ _ _ _ _ _ _ _ _ _ _ _ _ _ _ _ _ _ _ _ _ _ _ _ _ _ _ _ _ _ _ _ _ _ _ _ _ _ _ _ _ _ _ _ _ _ _ _ _ _ _ _ _ _ _ _ _ _ _ _ _ _ _ _ _ _ _ _ _ _ _ _ _ _ _ _ _ _  HR.out HC.out HB2.out (TabW.below HT.out HB2.out) BN.out O5.out O6.out O7.out O8.out HP.out H0.out N0.out N5.out O1.out O2.out O3.out O4.out H.out
theorem laws_FnLeastAlphabets.calls (k : Nat) (A0 : Option Addr) (c0 : Nat) (l0 : List Int) (r : Bool) (w : World) (hr0 : Kd.C (Kd.int .u8) w A0 l0.length l0) (hc0 : l0.length≤c0) (hT : TabW w) (h : laws_FnLeastAlphabets.f k l0 = some r) :
    Calls Tryd.prog 4 #[.slice A0 l0.length c0] w fun e w'=>e = .returned (.bool r)∧Below w.heap.size w w':=by
  unfold laws_FnLeastAlphabets.f at h
  by_cases hl : (l0.length : Int) > 4096
  · rw [if_pos hl] at h
    obtain rfl:=Option.some.inj h
    exact laws_FnLeastAlphabets.big A0 c0 l0 w hr0 hc0 hl
  rw [if_neg hl] at h
  replace h:=Option.bind_eq_some_iff.mp h
  obtain ⟨⟨n,D⟩,hd,h⟩:=h
  replace h:=Option.bind_eq_some_iff.mp h
  obtain ⟨t,ha,h⟩:=h
  dsimp only at hd ha h
  by_cases ht : t = false∨n > 5
  · rw [if_pos ht] at h
    obtain rfl:=Option.some.inj h
    exact laws_FnLeastAlphabets.early k A0 c0 l0 n D t w hr0 hc0 hl hd ha ht
  rw [if_neg ht] at h
  have ht1 : t = true:=by
    cases t
    · exact (ht (.inl rfl)).elim
    · rfl
  have n5 : n≤5:=by
    have:=fun z=>ht (.inr z)
    omega
  subst ht1
  replace h:=Option.bind_eq_some_iff.mp h
  obtain ⟨⟨ln,L,lc⟩,h5,h⟩:=h
  replace h:=Option.bind_eq_some_iff.mp h
  obtain ⟨⟨dl,di,s0⟩,h8,h⟩:=h
  replace h:=Option.bind_eq_some_iff.mp h
  obtain ⟨P,hp,h⟩:=h
  replace h:=Option.bind_eq_some_iff.mp h
  obtain ⟨Tf,h0,h⟩:=h
  replace h:=Option.bind_eq_some_iff.mp h
  obtain ⟨⟨e,ec⟩,h2,h⟩:=h
  dsimp only at h5 h8 hp h0 h2 h
  split at h
  rotate_left
  · cases h
  rename_i hF
  obtain ⟨⟨f1,f2,f3⟩,f4,f5,⟨f6,f7⟩,f8,f9,f10,f11⟩:=hF
  subst f2 f3 f6 f7 f9
  have hr : r = true:=by
    split at h
    · exact (Option.some.inj h).symm
    · replace h:=Option.bind_eq_some_iff.mp h
      obtain ⟨all,_,h⟩:=h
      split at h
      · exact (Option.some.inj h).symm
      · cases h
  subst hr
  exact laws_FnLeastAlphabets.main k A0 c0 dl ln D L P Tf e s0 w hr0 hc0 hT hl hd ha h5 f1 f5 h8 hp h0 f11 n5 f8 h2 f10 f4 h
end Go.Proofs.YtjfdhkobaiplpaaDoor.G
