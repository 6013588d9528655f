-- A copy, with what one law needs, of a text that print.sh or a program of ours wrote
import Derived.Test.YtjfdhkobaiplpaaDoorZ2G0
import Derived.Test.YtjfdhkobaiplpaaDoorZ2GQ01e
import Derived.Test.YtjfdhkobaiplpaaDoorZ2GQ01h
import Derived.Test.YtjfdhkobaiplpaaDoorZ2GQ01j
import Derived.Test.YtjfdhkobaiplpaaDoorZ2GQ02g
import Derived.Test.YtjfdhkobaiplpaaDoorZ2GQ02h
namespace Go.Proofs.YtjfdhkobaiplpaaDoor.G
open Go.RowKit Go.Proofs.YtjfdhkobaiplpaaDoorW.PrintWords Go.Proofs.YtjfdhkobaiplpaaDoorW.PrintLast Go.Proofs.YtjfdhkobaiplpaaDoorW.PrintMore
attribute [local go_sem] max2_int min2_int max_two min_two max_three min_three max_four min_four   -- for this text's walks alone
set_option linter.unusedVariables false
set_option linter.unusedSimpArgs false
def cmpL : List Int→List Int→Int
 |[],[]=>0
 |[],_ :: _=>-1
 |_ :: _,[]=>1
 |a :: u,b :: v=>if a < b then -1 else if b < a then 1 else cmpL u v
theorem cmpL_cons (a b : Int) (u v : List Int) : cmpL (a :: u) (b :: v) = if a < b then -1 else if b < a then 1 else cmpL u v:=by rw [cmpL]
theorem cmpL_neg : ∀ u v,cmpL v u = - cmpL u v
 |[],[]=>rfl
 |[],_ :: _=>rfl
 |_ :: _,[]=>rfl
 |a :: u,b :: v=>by
    unfold cmpL
    by_cases h1 : a < b
    · rw [if_pos h1,if_neg (by omega),if_pos h1];rfl
    · by_cases h2 : b < a
      · rw [if_pos h2,if_neg h1,if_pos h2]
      · rw [if_neg h1,if_neg h2,if_neg h2,if_neg h1]
        exact cmpL_neg u v
theorem cmpL_eq : ∀ u v,cmpL u v = 0→u = v
 |[],[],_=>rfl
 |[],_ :: _,h=>by simp [cmpL] at h
 |_ :: _,[],h=>by simp [cmpL] at h
 |a :: u,b :: v,h=>by
    unfold cmpL at h
    by_cases h1 : a < b
    · rw [if_pos h1] at h;simp at h
    · rw [if_neg h1] at h
      by_cases h2 : b < a
      · rw [if_pos h2] at h;simp at h
      · rw [if_neg h2] at h
        have e : a = b:=by omega
        rw [e,cmpL_eq u v h]
theorem cmpL_le : ∀ u v t,cmpL u v≤0→cmpL v t≤0→cmpL u t≤0
 |[],_,[],_,_=>by simp [cmpL]
 |[],_,_ :: _,_,_=>by simp [cmpL]
 |_ :: _,[],_,h,_=>by simp [cmpL] at h
 |_ :: _,_ :: _,[],_,h=>by simp [cmpL] at h
 |a :: u,b :: v,c :: t,h1,h2=>by
    unfold cmpL at h1 h2 ⊢
    by_cases a1 : a < b
    · by_cases b1 : b < c
      · rw [if_pos (by omega)];omega
      · rw [if_neg b1] at h2
        by_cases b2 : c < b
        · rw [if_pos b2] at h2;omega
        · rw [if_pos (by omega)];omega
    · rw [if_neg a1] at h1
      by_cases a2 : b < a
      · rw [if_pos a2] at h1;omega
      · rw [if_neg a2] at h1
        by_cases b1 : b < c
        · rw [if_pos (by omega)];omega
        · rw [if_neg b1] at h2
          by_cases b2 : c < b
          · rw [if_pos b2] at h2;omega
          · rw [if_neg b2] at h2
            rw [if_neg (by omega),if_neg (by omega)]
            exact cmpL_le u v t h1 h2
def ltL (u v : List Int) : Bool:=decide (cmpL u v < 0)
theorem ltL_anti (u v : List Int) (h1 : ltL u v = false) (h2 : ltL v u = false) : u = v:=by
  have a:=of_decide_eq_false h1
  have b:=of_decide_eq_false h2
  rw [cmpL_neg u v] at b
  exact cmpL_eq u v (by omega)
theorem ltL_swo : Go.Sort.SWO ltL where
  irrefl u:=decide_eq_false (by have:=cmpL_neg u u;omega)
  trans u v t h1 h2:=by
    have a:=of_decide_eq_true h1
    have b:=of_decide_eq_true h2
    refine decide_eq_true ?_
    have c:=cmpL_le u v t (by omega) (by omega)
    rcases Int.lt_or_eq_of_le c with c|c
    · exact c
    · have e:=cmpL_eq u t c
      subst e
      rw [cmpL_neg u v] at b
      omega
  ntrans u v t h1 h2:=by
    have a:=of_decide_eq_false h1
    have b:=of_decide_eq_false h2
    refine decide_eq_false ?_
    have c:=cmpL_le t v u (by have:=cmpL_neg v t;omega) (by have:=cmpL_neg u v;omega)
    have:=cmpL_neg t u
    omega
theorem cmp_one (a b : Int) : cmp_Compare_int64.f a b = some (if a < b then -1 else if b < a then 1 else 0):=by
  have hn : ∀ x,cmp_isNaN_int64.f x = some false:=fun x=>by simp [cmp_isNaN_int64.f]
  unfold cmp_Compare_int64.f
  rw [hn,hn,Option.bind_some,Option.bind_some,if_neg (by decide),if_neg (by decide)]
  by_cases h1 : a < b
  · rw [if_pos h1,if_pos h1]
  · rw [if_neg h1,if_neg h1]
    by_cases h2 : b < a
    · rw [if_pos h2,if_pos h2]
    · rw [if_neg h2,if_neg h2]
theorem cmp_ok (u v : List Int) (hu : u.length≤1048576) : ∀ (k n : Nat),n≤u.length→u.length - n < k→(n≤v.length)→slices_Compare_int64_int64.l0 k u v u (u.length : Int) (n : Int) = some (cmpL (u.drop n) (v.drop n))
 |0,n,_,h,_=>by omega
 |k + 1,n,hn,hk,hv=>by
    unfold slices_Compare_int64_int64.l0
    by_cases e : n = u.length
    · rw [if_neg (by omega),List.drop_eq_nil_of_le (by omega)]
      by_cases hl : (u.length : Int) < (v.length : Int)
      · rw [if_pos hl]
        cases hd : v.drop n with
       |nil=>have:=congrArg List.length hd;simp at this;omega
       |cons b t=>rfl
      · rw [if_neg hl,List.drop_eq_nil_of_le (by omega)];rfl
    · have hlt : n < u.length:=by omega
      rw [if_pos (by omega),if_pos (by omega),if_pos (by omega)]
      have eu : u.drop n = rd u (n : Int) :: u.drop (n + 1):=by
        rw [List.drop_eq_getElem_cons hlt]
        congr 1
        unfold rd
        rw [Int.toNat_natCast]
        simp [hlt]
      by_cases hl : (n : Int) ≥ (v.length : Int)
      · have hz : v.drop n = []:=List.drop_eq_nil_of_le (by omega)
        rw [if_pos hl,hz,eu];rfl
      · rw [if_neg hl,if_pos (by omega)]
        have hlv : n < v.length:=by omega
        have ev : v.drop n = rd v (n : Int) :: v.drop (n + 1):=by
          rw [List.drop_eq_getElem_cons hlv]
          congr 1
          unfold rd
          rw [Int.toNat_natCast]
          simp [hlv]
        have ew : wrap64 ((n : Int) + 1) = ((n + 1 : Nat) : Int):=by unfold wrap64;omega
        have ih:=cmp_ok u v hu k (n + 1) (by omega) (by omega) (by omega)
        rw [cmp_one,Option.bind_some,eu,ev,ew,ih,cmpL_cons]
        by_cases h1 : rd u (n : Int) < rd v (n : Int)
        · rw [if_pos h1,if_pos h1,if_neg (by decide)]
        · rw [if_neg h1,if_neg h1]
          by_cases h2 : rd v (n : Int) < rd u (n : Int)
          · rw [if_pos h2,if_pos h2,if_neg (by decide)]
          · rw [if_neg h2,if_neg h2,if_pos rfl]
def alphRen : Go.Shelf.Ren :=
  { f:=fun x =>
      match x with
     |6=>47
     |15=>68
     |14=>67
     |28=>84
     |29=>85
     |20=>76
     |21=>77
     |22=>78
     |23=>79
     |24=>80
     |25=>81
     |26=>82
     |27=>83
     |46=>90
     |47=>91
     |48=>92
     |49=>93
     |50=>94
     |57=>97
     |n=>n
    t:=fun x =>
      match x with
     |22=>43
     |24=>26
     |25=>67
     |3=>3
     |39=>60
     |0=>0
     |53=>95
     |55=>39
     |4=>4
     |46=>88
     |45=>87
     |50=>92
     |5=>5
     |9=>9
     |66=>99
     |70=>103
     |76=>106
     |77=>107
     |n=>n
    g:=fun n=>n }
theorem alphLaid : Go.Proofs.SlLaysF0.n6 Tryd.prog alphRen:={
  mixed:=rfl
  f6:=⟨Tryd.f47.name,by decide,Tryd.func47.trans (congrArg some rfl)⟩
  f14:=⟨Tryd.f67.name,by decide,Tryd.func67.trans (congrArg some rfl)⟩
  f15:=Tryd.func68.trans (congrArg some rfl)
  f20:=⟨Tryd.f76.name,by decide,Tryd.func76.trans (congrArg some rfl)⟩
  f21:=⟨Tryd.f77.name,by decide,Tryd.func77.trans (congrArg some rfl)⟩
  f22:=⟨Tryd.f78.name,by decide,Tryd.func78.trans (congrArg some rfl)⟩
  f23:=⟨Tryd.f79.name,by decide,Tryd.func79.trans (congrArg some rfl)⟩
  f24:=⟨Tryd.f80.name,by decide,Tryd.func80.trans (congrArg some rfl)⟩
  f25:=⟨Tryd.f81.name,by decide,Tryd.func81.trans (congrArg some rfl)⟩
  f26:=⟨Tryd.f82.name,by decide,Tryd.func82.trans (congrArg some rfl)⟩
  f27:=⟨Tryd.f83.name,by decide,Tryd.func83.trans (congrArg some rfl)⟩
  f28:=Tryd.func84.trans (congrArg some rfl)
  f29:=Tryd.func85.trans (congrArg some rfl)
  f46:=⟨Tryd.f90.name,by decide,Tryd.func90.trans (congrArg some rfl)⟩
  f47:=Tryd.func91.trans (congrArg some rfl)
  f48:=Tryd.func92.trans (congrArg some rfl)
  f49:=⟨Tryd.f93.name,by decide,Tryd.func93.trans (congrArg some rfl)⟩
  f50:=⟨Tryd.f94.name,by decide,Tryd.func94.trans (congrArg some rfl)⟩
  f57:=⟨Tryd.f97.name,by decide,Tryd.func97.trans (congrArg some rfl)⟩
  t0:=Tryd.underlying0
  a0:=Tryd.isAgg0
  z0:=Tryd.sizeOf0
  v0:=Tryd.zeroValue0
  t3:=Tryd.underlying3
  a3:=Tryd.isAgg3
  z3:=Tryd.sizeOf3
  v3:=Tryd.zeroValue3
  t4:=Tryd.underlying4
  a4:=Tryd.isAgg4
  z4:=Tryd.sizeOf4
  v4:=Tryd.zeroValue4
  t5:=Tryd.underlying5
  a5:=Tryd.isAgg5
  z5:=Tryd.sizeOf5
  v5:=Tryd.zeroValue5
  t9:=Tryd.underlying9
  a9:=Tryd.isAgg9
  z9:=Tryd.sizeOf9
  v9:=Tryd.zeroValue9
  t22:=Tryd.underlying43
  a22:=Tryd.isAgg43
  z22:=Tryd.sizeOf43
  v22:=Tryd.zeroValue43
  t25:=Tryd.underlying67
  a25:=Tryd.isAgg67
  z25:=Tryd.sizeOf67
  v25:=Tryd.zeroValue67
  t39:=Tryd.underlying60
  a39:=Tryd.isAgg60
  z39:=Tryd.sizeOf60
  v39:=Tryd.zeroValue60
  t45:=Tryd.underlying87
  a45:=Tryd.isAgg87
  z45:=Tryd.sizeOf87
  v45:=Tryd.zeroValue87
  t46:=Tryd.underlying88
  a46:=Tryd.isAgg88
  z46:=Tryd.sizeOf88
  v46:=Tryd.zeroValue88
  t50:=Tryd.underlying92
  a50:=Tryd.isAgg92
  z50:=Tryd.sizeOf92
  v50:=Tryd.zeroValue92
  t53:=Tryd.underlying95
  a53:=Tryd.isAgg95
  z53:=Tryd.sizeOf95
  v53:=Tryd.zeroValue95
  t55:=Tryd.underlying39
  a55:=Tryd.isAgg39
  z55:=Tryd.sizeOf39
  v55:=Tryd.zeroValue39
  t66:=Tryd.underlying99
  a66:=Tryd.isAgg99
  z66:=Tryd.sizeOf99
  v66:=Tryd.zeroValue99
  t70:=Tryd.underlying103
  a70:=Tryd.isAgg103
  z70:=Tryd.sizeOf103
  v70:=Tryd.zeroValue103
  t76:=Tryd.underlying106
  a76:=Tryd.isAgg106
  z76:=Tryd.sizeOf106
  v76:=Tryd.zeroValue106
  t77:=Tryd.underlying107
  a77:=Tryd.isAgg107
  z77:=Tryd.sizeOf107
  v77:=Tryd.zeroValue107 }
theorem sw_heap {α : Type} [Inhabited α] (enc : α→Value) (w : World) (g m : Nat) (d : Array α) (os : Array Obj) {k : Nat} (hk : k < w.heap.size) (hne : k ≠ g) : (Go.Proofs.sortWorld enc w g 0 m d os).heap[k]? = w.heap[k]?:=by
  unfold Go.Proofs.sortWorld
  rw [Go.Sort.heap_grow_old _ _ (by rw [Go.Sort.size_putRow];exact hk)]
  simp [Go.Sort.putRow,Go.Sort.mapBlock,Go.Sort.ahead,Array.getElem?_modify,Ne.symm hne]
theorem sw_row {α : Type} [Inhabited α] (enc : α→Value) (w : World) (g m : Nat) (d : Array α) (os : Array Obj) {cs : Array Value} {e : TypeId} {fr : Nat×Nat} (h : w.heap[g]? = some (.cells cs e fr)) : (Go.Proofs.sortWorld enc w g 0 m d os).heap[g]? = some (.cells (Go.Sort.putCells enc 0 d cs) e fr):=by
  have hk : g < w.heap.size:=blk_lt h
  unfold Go.Proofs.sortWorld
  rw [Go.Sort.heap_grow_old _ _ (by rw [Go.Sort.size_putRow];exact hk)]
  simp [Go.Sort.putRow,Go.Sort.mapBlock,Go.Sort.ahead,Array.getElem?_modify,h,Go.Sort.onCells]
theorem sw_size {α : Type} [Inhabited α] (enc : α→Value) (w : World) (g m : Nat) (d : Array α) (os : Array Obj) : w.heap.size≤(Go.Proofs.sortWorld enc w g 0 m d os).heap.size:=by
  unfold Go.Proofs.sortWorld
  rw [Go.Sort.size_grow,Go.Sort.size_putRow]
  exact Nat.le_add_right _ _
theorem sw_below {α : Type} [Inhabited α] (enc : α→Value) {w0 w : World} (g m : Nat) (d : Array α) (os : Array Obj) (hB : Below w0.heap.size w0 w) (hg : w0.heap.size≤g) : Below w0.heap.size w0 (Go.Proofs.sortWorld enc w g 0 m d os) where
  os:=hB.os
  tape:=hB.tape
  output:=hB.output
  size:=Nat.le_trans hB.size (sw_size enc w g m d os)
  block k hk:=(sw_heap enc w g m d os (Nat.lt_of_lt_of_le hk hB.size) (by omega)).trans (hB.block k hk)
def sortA (l : List S26) : List S26:=l.mergeSort fun x y=>!ltL y.f1 x.f1
theorem put_flat (enc : Nat→List Value) (hk : ∀ x,(enc x).length = 2) (d : Array Nat) (cs : Array Value) (h : d.size * 2≤cs.size) {j : Nat} (hj : j < d.size) {c : Nat} (hc : c < 2) : (Go.Sort.putCells id 0 (Go.Sort.flatK enc 2 d) cs)[j * 2 + c]? = (enc d[j])[c]?:=by
  have hlt : j * 2 + c < d.size * 2:=by omega
  have hf : j * 2 + c < (Go.Sort.flatK enc 2 d).size:=by simp [Go.Sort.flatK];omega
  have e1 : (j * 2 + c) / 2 = j:=by omega
  have e2 : (j * 2 + c) % 2 = c:=by omega
  have e3 : (Go.Sort.flatK enc 2 d)[j * 2 + c]! = (enc d[j]!)[c]!:=by
    rw [getElem!_pos (Go.Sort.flatK enc 2 d) (j * 2 + c) hf]
    simp [Go.Sort.flatK,e1,e2]
  have e4 : d[j]! = d[j]:=getElem!_pos d j hj
  have hl:=hk d[j]
  rw [e4] at e3
  have hf2 : j * 2 + c < (Go.Sort.flatK enc 2 d).size:=hf
  have e5 : (Go.Sort.putCells id 0 (Go.Sort.flatK enc 2 d) cs)[j * 2 + c]? = some ((Go.Sort.flatK enc 2 d)[j * 2 + c]!):=by
    simp [Go.Sort.putCells,hf,show j * 2 + c < cs.size by omega]
    intro hge
    omega
  have hcl : c < (enc d[j]).length:=by omega
  rw [e5,e3,List.getElem?_eq_getElem hcl]
  congr 1
  exact getElem!_pos (enc d[j]) c hcl
theorem A_open {w : World} {base : Nat} {P : Nat→Prop} {v : Value} {l : List S26} (h : Kd.S k26 26 w base P v l) :
    (v = .slice none 0 0∧l = [])∨∃ (g cap : Nat) (cur : Array Value) (f : Nat→Nat),v = .slice (some ⟨g,0,none⟩) l.length cap∧base≤g∧w.heap[g]? = some (.cells cur 26 (0,0))∧l.length≤cap∧cap≤maxLen∧cur.size = cap * 2∧P g ∧
      ∀ i,i < l.length→∃ u,cur[i * 2]? = some (.int .i64 (l.getD i z26).f0)∧cur[i * 2 + 1]? = some u∧Kd.R (Kd.int .i64) 2 w base (fun k=>(P k∧k ≠ g)∧f k = i) u (l.getD i z26).f1:=by
  obtain ⟨f,h0,inner,ho,hr⟩:=h
  obtain ⟨hl,hv|⟨g,cap,cur,rfl,hg,hh,hn,hm,hc,ht⟩⟩:=ho
  · refine .inl ⟨hv.1,?_⟩
    have:=hv.2
    rw [List.length_zipIdx] at this
    exact List.eq_nil_of_length_eq_zero this
  · rw [List.length_zipIdx] at hn ht hl ⊢
    have hsz : (Kd.tag f k26).sz = 2:=rfl
    rw [hsz] at ht hl hc
    refine .inr ⟨g,cap,cur,f,rfl,hg,hh,hn,hm,hc,h0 g rfl,fun i hi=>?_⟩
    have hj:=hr.2 i (l[i],i) (Kd.zip_at (List.getElem?_eq_getElem hi))
    rw [hsz] at hj
    obtain ⟨u,hcs,hR⟩:=k26_openM (show k26.M w base (fun k=>_∧f k = i) l[i] _ from hj)
    have e : l.getD i z26 = l[i]:=by simp [List.getD_eq_getElem?_getD,hi]
    have h1 : inner[i * 2]? = some (.int .i64 l[i].f0):=by
      have:=congrArg (fun z=>z[0]?) hcs
      simpa [List.getElem?_take,List.getElem?_drop] using this
    have h2 : inner[i * 2 + 1]? = some u:=by
      have:=congrArg (fun z=>z[1]?) hcs
      simpa [List.getElem?_take,List.getElem?_drop] using this
    rw [← ht,List.getElem?_take_of_lt (by omega)] at h1 h2
    rw [e]
    exact ⟨u,by simpa using h1,by simpa using h2,Kd.R_mono hR (fun k hk=>⟨⟨hk.1.1,fun e=>hk.1.2 (by rw [e];rfl)⟩,hk.2⟩)⟩
theorem A_sorted {w : World} {base : Nat} {P : Nat→Prop} {g cap : Nat} {cur : Array Value} {f : Nat→Nat} {l : List S26} (enc : Nat→List Value) (henc : ∀ x,(enc x).length = 2) (hg : base≤g) (hh : w.heap[g]? = some (.cells cur 26 (0,0))) (hn : l.length≤cap) (hm : cap≤maxLen) (hc : cur.size = cap * 2) (hP : P g)
    (hrow : ∀ i,i < l.length→∃ u,enc i = [.int .i64 (l.getD i z26).f0,u]∧Kd.R (Kd.int .i64) 2 w base (fun k=>(P k∧k ≠ g)∧f k = i) u (l.getD i z26).f1) (m : Nat) (os : Array Obj) (d : Array Nat) (hp : d.toList.Perm (List.range l.length)) :
    Kd.S k26 26 (Go.Proofs.sortWorldK enc 2 w g 0 m d os) base P (.slice (some ⟨g,0,none⟩) l.length cap) (d.toList.map fun i=>l.getD i z26):=by
  have hsz : d.size = l.length:=by have:=hp.length_eq;simpa using this
  have hnd : d.toList.Nodup:=hp.nodup_iff.2 List.nodup_range
  have hlt : ∀ j (hj : j < d.size),d[j] < l.length:=fun j hj=>List.mem_range.1 (hp.mem_iff.1 (by simp))
  have hz : ((d.toList.map fun i=>l.getD i z26).zipIdx).length = l.length:=by simp [hsz]
  have h1 : (Kd.tag (fun k=>d.toList.idxOf (f k)) k26).sz = 2:=rfl
  have hW : Go.Proofs.sortWorldK enc 2 w g 0 m d os = Go.Proofs.sortWorld id w g 0 m (Go.Sort.flatK enc 2 d) os:=rfl
  rw [hW]
  refine ⟨fun k=>d.toList.idxOf (f k),fun k hk=>?_,(Go.Sort.putCells id 0 (Go.Sort.flatK enc 2 d) cur).toList.take (l.length * 2),?_,?_⟩
  · simp [Value.ownBlock] at hk
    exact hk ▸ hP
  · rw [hz,h1]
    refine ⟨by simp [Go.Sort.putCells,hc];omega,.inr ⟨g,cap,_,rfl,hg,sw_row _ w g m _ os hh,hn,hm,?_,?_⟩⟩
    · simp [Go.Sort.putCells,hc]
    · rfl
  · refine ⟨by rw [hz,h1];simp [Go.Sort.putCells,hc];omega,fun j p hj=>?_⟩
    rw [List.getElem?_zipIdx,Nat.zero_add] at hj
    have hj2 : j < d.size:=by
      rcases Nat.lt_or_ge j d.size with h|h
      · exact h
      · rw [List.getElem?_eq_none (by simp;omega)] at hj;simp at hj
    have e1 : (d.toList.map fun i=>l.getD i z26)[j]? = some (l.getD d[j] z26):=by simp [hj2]
    rw [e1] at hj
    simp only [Option.map_some,Option.some.injEq] at hj
    subst hj
    obtain ⟨u,hu,hR⟩:=hrow d[j] (hlt j hj2)
    rw [h1]
    have c0:=put_flat enc henc d cur (by omega) hj2 (c:=0) (by omega)
    have c1:=put_flat enc henc d cur (by omega) hj2 (c:=1) (by omega)
    rw [hu] at c0 c1
    have e2 : (((Go.Sort.putCells id 0 (Go.Sort.flatK enc 2 d) cur).toList.take (l.length * 2)).drop (j * 2)).take 2 = [.int .i64 (l.getD d[j] z26).f0,u]:=by
      refine List.ext_getElem? fun q=>?_
      rcases Nat.lt_or_ge q 2 with hq|hq
      · rw [List.getElem?_take_of_lt hq,List.getElem?_drop,List.getElem?_take_of_lt (by omega)]
        have : q = 0∨q = 1:=by omega
        rcases this with rfl|rfl
        · simpa using c0
        · simpa using c1
      · rw [List.getElem?_take_eq_none hq,List.getElem?_eq_none (by simpa using hq)]
    rw [e2]
    refine k26_mkM _ _ _ _ (Kd.R_mono (Kd.R_step hR (fun k hk hlt2=>sw_heap _ w g m _ os hlt2 hk.1.2)) (fun k hk=>⟨⟨hk.1.1,fun e=>hk.1.2 (by simpa [Value.ownBlock] using e)⟩,?_⟩))
    show d.toList.idxOf (f k) = j
    rw [hk.2]
    have:=hnd.idxOf_getElem j (by simpa using hj2)
    simpa using this
set_option maxHeartbeats 4000000 in
set_option maxRecDepth 100000 in
theorem all_cmp (k : Nat) (W : World) (n1 : Int) (A1 : Option Addr) (c1 : Nat) (l1 : List Int) (n2 : Int) (A2 : Option Addr) (c2 : Nat) (l2 : List Int) (C1 : Kd.C (Kd.int .i64) W A1 l1.length l1) (h1 : l1.length≤c1) (C2 : Kd.C (Kd.int .i64) W A2 l2.length l2) (h2 : l2.length≤c2) (hk : l1.length < k) (hu : l1.length≤1048576) :
    Calls Tryd.prog 48 #[.agg #[.int .i64 n1,.slice A1 l1.length c1],.agg #[.int .i64 n2,.slice A2 l2.length c2]] W fun e w'=>e = .returned (.int .i64 (cmpL l1 l2))∧∃ q os',w' = Sort.grow (W.drewN q) os':=by
  have hcc:=cmp_ok l1 l2 hu k 0 (Nat.zero_le _) (by omega) (Nat.zero_le _)
  have HCC : Aside0 (slices_Compare_int64_int64.f k l1 l2 = some (cmpL l1 l2)):=⟨hcc⟩
  have D1:=Aside0.mk (fun (W' : World) (hW : ∀ i,i < W.heap.size→W'.heap[i]? = W.heap[i]?) (hs : W.heap.size≤W'.heap.size)=>trivial)
  have E1:=Aside0.mk (Kd.C_alloc (Kd.C_alloc C1 (.cells #[.int .i64 n1,.slice A1 l1.length c1] 26 (0,0))) (.cells #[.int .i64 n2,.slice A2 l2.length c2] 26 (0,0)))
  have E2:=Aside0.mk (Kd.C_alloc (Kd.C_alloc C2 (.cells #[.int .i64 n1,.slice A1 l1.length c1] 26 (0,0))) (.cells #[.int .i64 n2,.slice A2 l2.length c2] 26 (0,0)))
  have F1:=Aside0.mk h1
  have F2:=Aside0.mk h2
  clear hcc D1 C1 C2 h1 h2 hk hu
  have hu:=Tryd.underlying26
  go_enter Tryd.func48,Tryd.ntmps48
  go_wp2_with (go_at_call 49;go_loud (refine (slices_Compare_int64_int64.calls k A1 c1 l1 A2 c2 l2 (cmpL l1 l2) _ E1.out F1.out E2.out F2.out HCC.out).mono ?_;rintro e w3 ⟨rfl,⟨q,rfl⟩⟩))
  go_ret
  exact ⟨rfl,q,_,by rw [Go.Sort.alloc_eq_grow,Go.Sort.alloc_eq_grow,Go.Sort.grow_grow];rfl⟩
theorem sortA_uniq {l l' : List S26} (n : Int) (hn : ∀ u ∈ l,u.f0 = n) (hp : l'.Perm l) (hs : l'.Pairwise fun u v=>cmpL u.f1 v.f1≤0) : l' = sortA l:=by
  refine List.Perm.eq_of_pairwise (le:=fun x y=>(!ltL y.f1 x.f1) = true) ?_ ?_ ?_ (hp.trans (List.mergeSort_perm _ _).symm)
  · intro a b ha hb h1 h2
    simp only [Bool.not_eq_true'] at h1 h2
    have e1:=ltL_anti a.f1 b.f1 h2 h1
    have e2:=hn a (hp.mem_iff.1 ha)
    have e3:=hn b ((List.mergeSort_perm _ _).mem_iff.1 hb)
    cases a;cases b
    simp only at e1 e2 e3
    rw [e1,e2,e3]
  · refine hs.imp (fun {u v} h=>?_)
    simp only [Bool.not_eq_true']
    exact decide_eq_false (by have:=cmpL_neg u.f1 v.f1;omega)
  · refine List.pairwise_mergeSort (fun a b c h1 h2=>?_) (fun a b=>?_) l
    · simp only [Bool.not_eq_true'] at h1 h2 ⊢
      exact ltL_swo.ntrans c.f1 b.f1 a.f1 h2 h1
    · cases h : ltL b.f1 a.f1
      · rfl
      · have : ltL a.f1 b.f1 = false:=decide_eq_false (by have:=of_decide_eq_true h;have:=cmpL_neg a.f1 b.f1;omega)
        rw [this];rfl
set_option maxHeartbeats 4000000 in
set_option maxRecDepth 100000 in
theorem sortAlphs (k : Nat) (n0 : Int) (P : Nat→Prop) (v : Value) (l : List S26) (w0 w : World) (hB : Below w0.heap.size w0 w) (ho : Kd.S k26 26 w w0.heap.size P v l) (hn0 : ∀ u ∈ l,u.f0 = n0) (hk : ∀ u ∈ l,u.f1.length < k) (hu : ∀ u ∈ l,u.f1.length≤1048576) (h0 : 0 < k) (hml : l.length < 4611686018427387904) :
    Calls Tryd.prog 47 #[v,.func (.func 48) #[] #[]] w fun e w'=>e = .returned (.tuple #[])∧Kd.S k26 26 w' w0.heap.size P v (sortA l)∧Below w0.heap.size w0 w':=by
  rcases A_open ho with ⟨rfl,rfl⟩|⟨g,cap,cur,f,rfl,hg,hh,hn,hm,hc,hP,hrow0⟩
  · refine (Go.Proofs.AnyF.slices_SortFunc_none (P:=Tryd.prog) (ρ:=alphRen) { alphLaid with } none 0 _ w).mono ?_
    rintro e w' ⟨rfl,rfl⟩
    have e : sortA [] = []:=by simp [sortA]
    rw [e]
    exact ⟨rfl,ho,hB⟩
  · obtain ⟨enc,he⟩ : ∃ enc : Nat→List Value,enc = fun i=>if i < l.length then [.int .i64 (l.getD i z26).f0,(cur[i * 2 + 1]?).getD (.slice none 0 0)] else [.int .i64 0,.slice none 0 0]:=⟨_,rfl⟩
    have hrow : ∀ i,i < l.length→∃ u,cur[i * 2]? = some (.int .i64 (l.getD i z26).f0)∧cur[i * 2 + 1]? = some u∧enc i = [.int .i64 (l.getD i z26).f0,u]∧Kd.R (Kd.int .i64) 2 w w0.heap.size (fun k=>(P k∧k ≠ g)∧f k = i) u (l.getD i z26).f1:=fun i hi=>by
      obtain ⟨u,hu0,hu,hR⟩:=hrow0 i hi
      have e : enc i = [.int .i64 (l.getD i z26).f0,u]:=by rw [he];simp [hi,hu]
      exact ⟨u,hu0,hu,e,hR⟩
    have hout : ∀ i,¬ i < l.length→enc i = [.int .i64 0,.slice none 0 0]:=fun i hi=>by rw [he];simp [hi]
    have hnil : ∀ i,¬ i < l.length→l.getD i z26 = z26:=fun i hi=>by simp [List.getD_eq_getElem?_getD,List.getElem?_eq_none (Nat.le_of_not_lt hi)]
    clear hrow0 he
    obtain ⟨cf,hcf⟩ : ∃ cf : Nat→Nat→Int,cf = fun i j=>cmpL (l.getD i z26).f1 (l.getD j z26).f1:=⟨_,rfl⟩
    have hgs : g < w.heap.size:=blk_lt hh
    have hlt : Go.Proofs.ltOf cf = fun i j=>ltL (l.getD i z26).f1 (l.getD j z26).f1:=by subst hcf;rfl
    have hO : Go.Sort.SWO (Go.Proofs.ltOf cf):=by
      rw [hlt]
      exact ⟨fun i=>ltL_swo.irrefl _,fun i j t=>ltL_swo.trans _ _ _,fun i j t=>ltL_swo.ntrans _ _ _⟩
    have hen : ∀ x,(enc x).length = 2:=fun i=>by
      by_cases hi : i < l.length
      · obtain ⟨u,_,_,e,_⟩:=hrow i hi
        rw [e];rfl
      · rw [hout i hi];rfl
    have hone : ∀ x,∀ v ∈ enc x,v.oneCell' = true:=fun i v hv=>by
      by_cases hi : i < l.length
      · obtain ⟨u,_,_,e,hR⟩:=hrow i hi
        rw [e] at hv
        simp only [List.mem_cons,List.not_mem_nil,or_false] at hv
        rcases hv with rfl|rfl
        · rfl
        · exact (Kd.R_val hR).2
      · rw [hout i hi] at hv
        simp only [List.mem_cons,List.not_mem_nil,or_false] at hv
        rcases hv with rfl|rfl <;> rfl
    have hmem : ∀ i,i < l.length→l.getD i z26 ∈ l:=fun i hi=>by simp [List.getD_eq_getElem?_getD,hi]
    have hlen : ∀ i,(l.getD i z26).f1.length < k∧(l.getD i z26).f1.length≤1048576:=fun i=>by
      by_cases hi : i < l.length
      · exact ⟨hk _ (hmem i hi),hu _ (hmem i hi)⟩
      · rw [hnil i hi];exact ⟨h0,by decide⟩
    have hread : ∀ (m : Nat) (os : Array Obj) (dk : Array Nat) (i : Nat),∃ z A c,enc i = [.int .i64 z,.slice A (l.getD i z26).f1.length c]∧(l.getD i z26).f1.length≤c∧Kd.C (Kd.int .i64) (Go.Proofs.sortWorldK enc 2 w g 0 m dk os) A (l.getD i z26).f1.length (l.getD i z26).f1:=fun m os dk i=>by
      have hW : Go.Proofs.sortWorldK enc 2 w g 0 m dk os = Go.Proofs.sortWorld id w g 0 m (Go.Sort.flatK enc 2 dk) os:=rfl
      rw [hW]
      by_cases hi : i < l.length
      · obtain ⟨u,_,_,e,hR0⟩:=hrow i hi
        have hR:=Kd.R_step hR0 (fun k hk hlt2=>sw_heap id w g m (Go.Sort.flatK enc 2 dk) os hlt2 hk.1.2)
        obtain ⟨A,c,e2⟩:=Kd.R_slice hR
        rw [e2] at hR e
        exact ⟨_,A,c,e,(Kd.R_reads' hR).2.1,(Kd.R_reads' hR).2.2⟩
      · rw [hout i hi,hnil i hi]
        exact ⟨0,none,0,rfl,Nat.le_refl _,(Kd.R_reads' (Kd.R_nil (Kd.int .i64) 2 _ 0 (fun _=>True))).2.2⟩
    have hcmp : Go.Proofs.CmpLays Tryd.prog 48 #[] enc 2 cf g 0 l.length w:=fun m os dk _ x y=>by
      obtain ⟨z1,A1,c1,e1,l1,C1⟩:=hread m os dk x
      obtain ⟨z2,A2,c2,e2,l2,C2⟩:=hread m os dk y
      rw [e1,e2]
      have hh:=all_cmp k _ z1 A1 c1 _ z2 A2 c2 _ C1 l1 C2 l2 (hlen x).1 (hlen x).2
      rw [hcf]
      exact hh
    have hH : Go.Sort.HoldsK enc 2 w g 0 (Array.range l.length):=fun j hj=>by
      have hj2 : j < l.length * 2:=by simpa [Go.Sort.flatK] using hj
      refine ⟨?_,blk_frozen hh _⟩
      obtain ⟨u,hu0,hu1,e,_⟩:=hrow (j / 2) (by omega)
      have e1 : (Go.Sort.flatK enc 2 (Array.range l.length))[j]! = (enc (j / 2))[j % 2]!:=by
        rw [getElem!_pos (Go.Sort.flatK enc 2 (Array.range l.length)) j hj]
        have e3 : (Array.range l.length)[j / 2]! = j / 2:=by rw [getElem!_pos (Array.range l.length) (j / 2) (by simp;omega)];simp
        simp [Go.Sort.flatK,e3]
      rw [e1,e,Nat.zero_add,blk_cell hh]
      have : j % 2 = 0∨j % 2 = 1:=by omega
      rcases this with h2|h2
      · rw [h2,show j = j / 2 * 2 by omega]
        rw [show j / 2 * 2 / 2 = j / 2 by omega]
        exact hu0
      · rw [h2,show j = j / 2 * 2 + 1 by omega]
        rw [show (j / 2 * 2 + 1) / 2 = j / 2 by omega]
        exact hu1
    have hs : (Array.range l.length).size = l.length:=Array.size_range
    have hS:=Go.Proofs.AnyQ.slices_SortFunc alphLaid 2 Tryd.isAgg26 Tryd.sizeOf26 enc hen hone cf hO 48 #[] g 0 cap (Array.range l.length) w (enters_of Tryd.func48 (by kernel_rfl) rfl) (by rw [hs];exact hcmp) hH hgs (by rw [hs];exact hml)
    rw [hs] at hS
    refine Calls.mono hS ?_
    rintro e w' ⟨rfl,d,m,os,hp,hso,rfl⟩
    have hpl : d.toList.Perm (List.range l.length):=by
      obtain ⟨h1,_,h3⟩:=hp
      rw [hs] at h1
      have e1 : d.extract 0 l.length = d:=by rw [← h1];exact Array.extract_size
      have e2 : (Array.range l.length).extract 0 l.length = Array.range l.length:=by
        have:=@Array.extract_size _ (Array.range l.length)
        rwa [hs] at this
      rw [e1,e2] at h3
      simpa using h3
    have hds : d.size = l.length:=by have:=hpl.length_eq;simpa using this
    have hfin : (d.toList.map fun i=>l.getD i z26) = sortA l:=by
      refine sortA_uniq n0 hn0 ?_ ?_
      · have h4:=hpl.map fun i=>l.getD i z26
        have e4 : (List.range l.length).map (fun i=>l.getD i z26) = l:=by
          refine List.ext_getElem? fun i=>?_
          by_cases hi : i < l.length
          · simp [hi]
          · rw [List.getElem?_eq_none (by simp;omega),List.getElem?_eq_none (by omega)]
        rwa [e4] at h4
      · rw [List.pairwise_map,List.pairwise_iff_getElem]
        intro i j hi hj hij
        have hi' : i < d.size:=by simpa using hi
        have hj' : j < d.size:=by simpa using hj
        have h5:=hso i j (Nat.zero_le _) hij (by omega)
        rw [getElem!_pos d i hi',getElem!_pos d j hj',hlt] at h5
        have h6:=of_decide_eq_false h5
        rw [cmpL_neg (l.getD d[i] z26).f1 (l.getD d[j] z26).f1] at h6
        have h7 : cmpL (l.getD d[i] z26).f1 (l.getD d[j] z26).f1≤0:=by omega
        simpa using h7
    rw [← hfin]
    refine ⟨rfl,A_sorted (f:=f) enc hen hg hh hn hm hc hP (fun i hi=>?_) m os d hpl,sw_below id g m (Go.Sort.flatK enc 2 d) os hB hg⟩
    obtain ⟨u,_,_,e,hR⟩:=hrow i hi
    exact ⟨u,e,hR⟩
def allL2 (x pairs b : Int) : Nat→Int→Int→List Int→Option (Int×List Int)
 |0,_,_,_=>none
 |k + 1,a,i,D=>if a < b then (impl_has.f pairs i).bind fun t=>if t = true then (impl_Alphabet_tie.f x D a b).bind fun D'=>allL2 x pairs b k (wrap64 (a + 1)) (wrap64 (i + 1)) D' else allL2 x pairs b k (wrap64 (a + 1)) (wrap64 (i + 1)) D else some (i,D)
def allL1 (x pairs n : Int) : Nat→Int→Int→List Int→Option (List Int)
 |0,_,_,_=>none
 |k + 1,b,i,D=>if b < n then (allL2 x pairs b k 0 i D).bind fun r=>allL1 x pairs n k (wrap64 (b + 1)) r.1 r.2 else some D
def allL0 (n m : Int) : Nat→Int→List S26→Option (List S26)
 |0,_,_=>none
 |k + 1,p,out=>if p < m then (impl_loose.f k n).bind fun x=>(allL1 x.1 p n k 0 0 x.2).bind fun D=>(slices_Clone_int64_int64.f D).bind fun D2=>(leastF k x.1 D [] n D2).bind fun r=>(slices_Equal_int64_int64.f k r.2 D).bind fun t=>if t = true then (if out.length < 4096 then allL0 n m k (wrap64 (p + 1)) (out ++ [⟨x.1,D⟩]) else none) else allL0 n m k (wrap64 (p + 1)) out else some out
def impl_AllAlphabets.f (k : Nat) (a0 : Int) : Option (List S26×Int):=(impl_inRange.f a0 0 5).bind fun t=>if t = true then (impl_one.f (wrap64 (Int.tdiv (wrap64 (a0 * (wrap64 (a0 - 1)))) 2))).bind fun m=>(allL0 a0 m k 0 []).bind fun out=>(if 0 < k∧out.length≤4096∧∀ u ∈ out,u.f0 = a0∧u.f1.length < k∧u.f1.length≤1048576 then some (sortA out,0) else none) else some ([],2)
structure AllW (w W : World) (N0 N1 gx : Nat) (n : Int) (Ax : Option Addr) (nx cx : Nat) (D : List Int) (vO : Value) (out : List S26) : Prop where
  le0 : w.heap.size≤N0
  le1 : N0≤N1
  le2 : N1≤gx
  low : Below w.heap.size w W
  outS : Kd.S k26 26 W w.heap.size (fun k=>w.heap.size≤k∧k < N0) vO out
  len : D.length = nx
  row : Kd.R (Kd.int .i64) 2 W w.heap.size (fun k=>N0≤k∧k < N1) (.slice Ax nx cx) D
  box : W.heap[gx]? = some (.cells #[.int .i64 n,.slice Ax nx cx] 26 (0,0))
theorem AllW.drewN {w W : World} {N0 N1 gx : Nat} {n : Int} {Ax : Option Addr} {nx cx : Nat} {D : List Int} {vO : Value} {out : List S26} (h : AllW w W N0 N1 gx n Ax nx cx D vO out) (m : Nat) : AllW w (W.drewN m) N0 N1 gx n Ax nx cx D vO out :=
  ⟨h.le0,h.le1,h.le2,pw_below_drewN h.low m,Kd.S_drewN h.outS m,h.len,Kd.R_drewN h.row m,h.box⟩
theorem AllW.keep {w W W2 : World} {N0 N1 gx gb : Nat} {n : Int} {Ax : Option Addr} {nx cx : Nat} {D : List Int} {vO : Value} {out : List S26} (h : AllW w W N0 N1 gx n Ax nx cx D vO out) (hk : KeepBut W W2 gb none) (hb : Below w.heap.size w W2) (hg : gx < gb) : AllW w W2 N0 N1 gx n Ax nx cx D vO out :=
  ⟨h.le0,h.le1,h.le2,hb,Kd.S_step h.outS (fun k hk2 hlt=>hk.2 k hlt (by have:=h.le1;have:=h.le2;omega) (by simp)),h.len,Kd.R_step h.row (fun k hk2 hlt=>hk.2 k hlt (by have:=h.le2;omega) (by simp)),(hk.2 gx (blk_lt h.box) (by omega) (by simp)).trans h.box⟩
theorem AllW.below {w W W2 : World} {N0 N1 gx : Nat} {n : Int} {Ax : Option Addr} {nx cx : Nat} {D : List Int} {vO : Value} {out : List S26} (h : AllW w W N0 N1 gx n Ax nx cx D vO out) (hb : Below W.heap.size W W2) : AllW w W2 N0 N1 gx n Ax nx cx D vO out :=
  ⟨h.le0,h.le1,h.le2,below_step h.low hb,Kd.S_below h.outS hb,h.len,Kd.R_below h.row hb,blk_below h.box hb⟩
theorem AllW.tied {w W W2 : World} {N0 N1 gx : Nat} {n : Int} {Ax : Option Addr} {nx cx : Nat} {D D2 : List Int} {vO : Value} {out : List S26} (h : AllW w W N0 N1 gx n Ax nx cx D vO out) (hl : D2.length = D.length) (hr : Kd.R (Kd.int .i64) 2 W2 w.heap.size (fun k=>(N0≤k∧k < N1)∨W.heap.size≤k) (.slice Ax nx cx) D2) (hb : Below w.heap.size w W2) (hk : Kept W W2 (fun k=>N0≤k∧k < N1)) : AllW w W2 N0 N1 gx n Ax nx cx D2 vO out :=
  ⟨h.le0,h.le1,h.le2,hb,Kd.S_kept h.outS hk (fun k h1 h2=>by omega),hl.trans h.len,Kd.R_mono (Kd.R_tight rfl hr) (fun k hk2=>h.row.1 k hk2.symm),(hk.2 gx (blk_lt h.box) (fun h2=>by have:=h.le2;omega)).trans h.box⟩
theorem tie_length {x : Int} {D D2 : List Int} {a b : Int} (h : impl_Alphabet_tie.f x D a b = some D2) : D2.length = D.length:=by
  unfold impl_Alphabet_tie.f at h
  split at h
  · split at h
    · replace h:=Option.bind_eq_some_iff.mp h;obtain ⟨z1,_,h⟩:=h
      replace h:=Option.bind_eq_some_iff.mp h;obtain ⟨z2,e2,h⟩:=h
      cases e2
      split at h
      · split at h
        · replace h:=Option.bind_eq_some_iff.mp h;obtain ⟨z3,_,h⟩:=h
          cases h
          simp
        · cases h
      · cases h
    · cases h
  · cases h
set_option maxHeartbeats 8000000 in
set_option maxRecDepth 100000 in
theorem impl_AllAlphabets.calls (k : Nat) (a0 : Int) (r1 : List S26) (r2 : Int) (w : World) (hT : TabW w) (h : impl_AllAlphabets.f k a0 = some (r1,r2)) :
    Calls Tryd.prog 19 #[.int .i64 a0] w fun e w'=>∃ v0_ : Value,e = .returned (.tuple #[v0_,.int .i64 r2])∧Kd.S k26 26 w' w.heap.size (fun _=>True) v0_ r1∧Below w.heap.size w w':=by
  have hu:=Tryd.underlying26
  have HB:=Aside0.mk (Below.refl w.heap.size w)
  unfold impl_AllAlphabets.f at h
  replace h:=Option.bind_eq_some_iff.mp h
  obtain ⟨t,ht,h⟩:=h
  have AT:=Aside0.mk ht
  clear ht
  cases t with
 |false =>
    rw [if_neg (by decide)] at h
    cases h
    go_enter Tryd.func19,Tryd.ntmps19
    go_wp2_with (go_at_call 42;go_loud (refine (impl_inRange.calls a0 0 5 false _ AT.out).mono ?_;rintro e w1 ⟨rfl,⟨q,rfl⟩⟩))
    go_ret2
    exact ⟨_,rfl,Kd.S_nil _ _ _ _ _,pw_below_drewN HB.out q⟩
 |true =>
    rw [if_pos rfl] at h
    replace h:=Option.bind_eq_some_iff.mp h
    obtain ⟨m,hm,h⟩:=h
    replace h:=Option.bind_eq_some_iff.mp h
    obtain ⟨outF,ho,h⟩:=h
    by_cases hc : 0 < k∧outF.length≤4096∧∀ u ∈ outF,u.f0 = a0∧u.f1.length < k∧u.f1.length≤1048576
    rotate_left
    · rw [if_neg hc] at h;cases h
    rw [if_pos hc] at h
    cases h
    have AM:=Aside0.mk hm;have AO:=Aside0.mk ho;have OC:=Aside0.mk hc
    clear hm ho hc
    go_enter Tryd.func19,Tryd.ntmps19
    go_wp2_with (first
     |(go_at_call 42;go_loud (refine (impl_inRange.calls a0 0 5 true _ AT.out).mono ?_;rintro e w1 ⟨rfl,⟨q,rfl⟩⟩;replace HB:=Aside0.mk (pw_below_drewN HB.out q)))
     |(go_at_call 43;go_loud (refine (impl_one.calls _ m _ AM.out).mono ?_;rintro e w1 ⟨rfl,⟨q,rfl⟩⟩;replace HB:=Aside0.mk (pw_below_drewN HB.out q);replace HS:=Aside0.mk (Kd.S_drewN HS.out q)))
     |((with_reducible refine gate_dst (N:=14) rfl ?_);refine Kd.S_lit k26 _ 26 ?hg (N:=14) ?hd (xs:=([] : List S26)) (inner:=[]) (ok:=fun _=>True) (okp:=fun _=>True) ?hr ?hp (fun _ hk=>hk) trivial (Below.refl _ _) (Nat.le_refl _) (by simp) ?_;(case hd=>rfl);(case hg=>rfl);(case hr=>first|(go_simp;done)|(go_simp;rfl));(case hp=>exact (Reps.none _ _));intro v4 w4 ho hb hg_ hnew_;clear hg_ hnew_;obtain ⟨A4,c4,rfl⟩:=Kd.S_slice ho;have HS:=Aside0.mk (Kd.S_lower (Kd.S_mono (Kd.S_bound ho) (ok':=fun k=>w.heap.size≤k) (fun k hk=>Nat.le_trans (below_size HB.out) hk.2.1)) (below_size HB.out));replace HB:=Aside0.mk (below_step HB.out hb);clear ho hb))
    generalize w4.drewN q = w5 at HS HB ⊢
    go_loopg [21,4] k (fun kq v21 vO w'=>∃ (p : Int) (out : List S26) (A : Option Addr) (c : Nat),v21 = .int .i64 p∧vO = .slice A out.length c∧Aside0 (allL0 a0 m kq p out = some outF)∧Aside0 (Kd.S k26 26 w' w.heap.size (fun k=>w.heap.size≤k) (.slice A out.length c) out)∧Aside0 (Below w.heap.size w w'))
    case atStart=>exact ⟨0,[],A4,c4,rfl,rfl,AO,HS,HB⟩
    case round =>
      clear AO HS HB
      obtain ⟨p,out,Ao,co,rfl,rfl,HR,HS,HB⟩:=hrel
      cases gk with
     |zero=>exact absurd HR.out (by simp [allL0])
     |succ k1 =>
        have H:=HR.out
        clear HR
        simp only [allL0] at H
        by_cases hp : p < m
        · rw [if_pos hp] at H
          replace H:=Option.bind_eq_some_iff.mp H;obtain ⟨⟨xn,xD⟩,hx,H⟩:=H
          replace H:=Option.bind_eq_some_iff.mp H;obtain ⟨D,hD,H⟩:=H
          replace H:=Option.bind_eq_some_iff.mp H;obtain ⟨D2,hcl,H⟩:=H
          replace H:=Option.bind_eq_some_iff.mp H;obtain ⟨⟨q1,q2⟩,hle,H⟩:=H
          replace H:=Option.bind_eq_some_iff.mp H;obtain ⟨te,heq,H⟩:=H
          have eD : D2 = D:=by
            unfold slices_Clone_int64_int64.f at hcl
            split at hcl
            · exact (Option.some.inj hcl).symm
            · cases hcl
          subst eD
          simp only at hD hle heq H
          have AX:=Aside0.mk hx;have AD:=Aside0.mk hD;have ACL:=Aside0.mk hcl;have ALE:=Aside0.mk hle;have AEQ:=Aside0.mk heq;have AH:=Aside0.mk H
          clear hx hD hcl hle heq H
          have d1 : decide (p < m) = true:=decide_eq_true hp
          clear hp
          obtain ⟨N0,hN0⟩ : ∃ N0,N0 = wr.heap.size:=⟨_,rfl⟩
          have LN0:=Aside0.mk hN0
          clear hN0
          go_wp2_with (first
           |(go_at_call 44;go_loud (refine (impl_loose.calls k1 a0 xn xD _ AX.out).mono ?_;rintro e w1 ⟨v1,rfl,ho,hb⟩;obtain ⟨Ax,cx,rfl⟩:=Kd.R_slice ho;have HX:=Aside0.mk (Kd.R_mono (Kd.R_bound ho) (ok':=fun k=>N0≤k∧k < w1.heap.size) (fun k hk=>⟨by rw [LN0.out];exact hk.2.1,hk.2.2.1⟩));replace HS:=Aside0.mk (Kd.S_below (Kd.S_mono (Kd.S_bound HS.out) (ok':=fun k=>w.heap.size≤k∧k < N0) (fun k hk=>⟨hk.1,by rw [LN0.out];exact hk.2.2.1⟩)) hb);have LE0 : Aside0 (w.heap.size≤N0∧N0≤w1.heap.size):=⟨by rw [LN0.out];exact ⟨below_size HB.out,hb.size⟩⟩;replace HB:=Aside0.mk (below_step HB.out hb);clear ho hb))
           |((with_reducible refine gate_dst (N:=6) rfl ?_);refine box_event ?hg (N:=6) ?hd (cs:=#[.int .i64 0,.slice none 0 0]) (t:=26) ?hr ?_;(case hd=>rfl);(case hg=>rfl);(case hr=>first|(go_simp;done)|(go_simp;rfl));intro gx hg w2 hbox hb;have BX:=Aside0.mk hbox;have HG : Aside0 (w1.heap.size≤gx):=⟨by rw [hg];exact Nat.le_refl _⟩;replace HS:=Aside0.mk (Kd.S_below HS.out hb);replace HX:=Aside0.mk (Kd.R_below HX.out hb);replace HB:=Aside0.mk (below_step HB.out hb);have x0:=bc BX 0;have x1:=bc BX 1;have f0:=blk_frozen BX.out 0;have f1:=blk_frozen BX.out 1;clear hbox hb hg))
          have HW : Aside0 (AllW w ((w2.setCell ⟨gx,0,none⟩ (.int .i64 xn)).setCell ⟨gx,1,none⟩ (.slice Ax xD.length cx)) N0 w1.heap.size gx xn Ax xD.length cx xD (.slice Ao out.length co) out):=⟨LE0.out.1,LE0.out.2,HG.out,below_set (below_set HB.out (by have:=LE0.out;have:=HG.out;omega)) (by have:=LE0.out;have:=HG.out;omega),Kd.S_far (p:=⟨gx,1,none⟩) (Kd.S_far (p:=⟨gx,0,none⟩) HS.out (fun k hk=>by have:=LE0.out;have:=HG.out;show k ≠ gx;omega) _) (fun k hk=>by have:=LE0.out;have:=HG.out;show k ≠ gx;omega) _,rfl,Kd.R_far (p:=⟨gx,1,none⟩) (Kd.R_far (p:=⟨gx,0,none⟩) (Kd.R_lower HX.out (by rw [← LN0.out];exact LE0.out.1)) (fun k hk=>by have:=HG.out;show k ≠ gx;omega) _) (fun k hk=>by have:=HG.out;show k ≠ gx;omega) _,blk_put (blk_put BX.out 0 _ rfl) 1 _ rfl⟩
          clear x0 x1 f0 f1 BX HG HS HX HB LE0
          (try simp only [drewN_set])
          generalize (w2.setCell ⟨gx,0,none⟩ (.int .i64 xn)).setCell ⟨gx,1,none⟩ (.slice Ax xD.length cx) = w3 at HW ⊢
          generalize w1.heap.size = N1 at HW
          generalize xD.length = nx at HW ⊢
          go_loopg [27,7] k1 (fun kq v27 v7 w'=>∃ (b i : Int) (D' : List Int),v27 = .int .i64 b∧v7 = .int .i64 i∧Aside0 (allL1 xn p a0 kq b i D' = some D2)∧Aside0 (AllW w w' N0 N1 gx xn Ax nx cx D' (.slice Ao out.length co) out))
          case atStart=>exact ⟨0,0,xD,rfl,rfl,AD,HW⟩
          case round =>
            clear AD HW
            obtain ⟨b,i,D',rfl,rfl,HR1,HW⟩:=hrel
            cases gk with
           |zero=>exact absurd HR1.out (by simp [allL1])
           |succ k2 =>
              have H:=HR1.out
              clear HR1
              simp only [allL1] at H
              by_cases hb : b < a0
              · rw [if_pos hb] at H
                replace H:=Option.bind_eq_some_iff.mp H;obtain ⟨⟨i3,D3⟩,h3,H⟩:=H
                have A3:=Aside0.mk h3;have AH3:=Aside0.mk H
                clear h3 H
                have d2 : decide (b < a0) = true:=decide_eq_true hb
                clear hb
                go_wp2
                clear d1 d2
                go_loopg [31,7] k2 (fun kq v31 v7 w'=>∃ (a i : Int) (D' : List Int),v31 = .int .i64 a∧v7 = .int .i64 i∧Aside0 (allL2 xn p b kq a i D' = some (i3,D3))∧Aside0 (AllW w w' N0 N1 gx xn Ax nx cx D' (.slice Ao out.length co) out))
                case atStart=>exact ⟨0,i,D',rfl,rfl,A3,HW⟩
                case round =>
                  clear A3 HW
                  obtain ⟨a,i4,D4,rfl,rfl,HR4,HW4⟩:=hrel
                  cases gk with
                 |zero=>exact absurd HR4.out (by simp [allL2])
                 |succ k3 =>
                    have H:=HR4.out
                    clear HR4
                    simp only [allL2] at H
                    by_cases ha : a < b
                    · rw [if_pos ha] at H
                      replace H:=Option.bind_eq_some_iff.mp H;obtain ⟨th,hh,H⟩:=H
                      have AHAS:=Aside0.mk hh
                      clear hh
                      have d3 : decide (a < b) = true:=decide_eq_true ha
                      clear ha
                      cases th with
                     |true =>
                        rw [if_pos rfl] at H
                        replace H:=Option.bind_eq_some_iff.mp H;obtain ⟨D5,h5,H⟩:=H
                        have A5:=Aside0.mk h5;have AH5:=Aside0.mk H
                        clear h5 H
                        go_wp2_with (first
                         |(go_at_call 45;go_loud (refine (impl_has.calls p i4 true _ AHAS.out).mono ?_;rintro e w4 ⟨rfl,⟨q,rfl⟩⟩;replace HW4:=Aside0.mk (HW4.out.drewN q);generalize wr.drewN q = w5 at HW4 ⊢;have hx0 : w5.cell? ⟨gx,0,none⟩ = some (.int .i64 xn):=bc (⟨HW4.out.box⟩ : Aside0 _) 0;have hx1 : w5.cell? ⟨gx,1,none⟩ = some (.slice Ax nx cx):=bc (⟨HW4.out.box⟩ : Aside0 _) 1))
                         |(go_at_call 46;go_loud (refine (impl_Alphabet_tie.calls xn (fun k=>N0≤k∧k < N1) (.slice Ax nx cx) D4 a b D5 w _ HW4.out.low HW4.out.row A5.out).mono ?_;rintro e w6 ⟨rfl,hr,hb,hk⟩;have HW6:=Aside0.mk (HW4.out.tied (tie_length A5.out) hr hb hk);clear hr hb hk hx0 hx1 HW4)))
                        go_roundg k3
                        case measure=>omega
                        case rel=>exact ⟨wrap64 (a + 1),wrap64 (i4 + 1),D5,rfl,rfl,AH5,HW6⟩
                     |false =>
                        rw [if_neg (by decide)] at H
                        have AH5:=Aside0.mk H
                        clear H
                        go_wp2_with (go_at_call 45;go_loud (refine (impl_has.calls p i4 false _ AHAS.out).mono ?_;rintro e w4 ⟨rfl,⟨q,rfl⟩⟩;replace HW4:=Aside0.mk (HW4.out.drewN q)))
                        go_roundg k3
                        case measure=>omega
                        case rel=>exact ⟨wrap64 (a + 1),wrap64 (i4 + 1),D4,rfl,rfl,AH5,HW4⟩
                    · rw [if_neg ha] at H
                      cases H
                      have d3 : decide (a < b) = false:=decide_eq_false ha
                      clear ha
                      go_wp2
                      go_roundg k2
                      case measure=>omega
                      case rel=>exact ⟨wrap64 (b + 1),i3,D3,rfl,rfl,AH3,HW4⟩
              · rw [if_neg hb] at H
                have e2:=Option.some.inj H
                subst e2
                clear H
                have d2 : decide (b < a0) = false:=decide_eq_false hb
                have el:=HW.out.len
                subst el
                clear hb
                have hx0 : wr.cell? ⟨gx,0,none⟩ = some (.int .i64 xn):=bc (⟨HW.out.box⟩ : Aside0 _) 0
                have hx1 : wr.cell? ⟨gx,1,none⟩ = some (.slice Ax D'.length cx):=bc (⟨HW.out.box⟩ : Aside0 _) 1
                go_upto_region 20 with (first
                 |(go_at_call 27;go_loud (refine (slices_Clone_int64_int64.calls Ax cx D' D' _ ?s1 ?s2 ACL.out).mono ?_;(case s1=>exact (Kd.R_reads' HW.out.row).2.2);(case s2=>exact (Kd.R_reads' HW.out.row).2.1);rintro e w4 ⟨v4,rfl,ho,hb⟩;obtain ⟨Ab,cb,rfl⟩:=Kd.R_slice ho;have HO4:=Aside0.mk (Kd.R_mono (Kd.R_bound ho) (ok':=fun k=>gx < k∧k < w4.heap.size) (fun k hk=>⟨Nat.lt_of_lt_of_le (blk_lt HW.out.box) hk.2.1,hk.2.2.1⟩));have HW4:=Aside0.mk (HW.out.below hb);have LW:=Aside0.mk (show w.heap.size≤wr.heap.size from below_size HW.out.low);have LX4:=Aside0.mk (show gx < w4.heap.size from Nat.lt_of_lt_of_le (blk_lt HW.out.box) hb.size);clear ho hb HW hx0 hx1))
                 |((with_reducible refine gate_dst (N:=10) rfl ?_);refine box_event ?hg (N:=10) ?hd (cs:=#[.int .i64 0,.slice none 0 0]) (t:=26) ?hr ?_;(case hd=>rfl);(case hg=>rfl);(case hr=>first|(go_simp;done)|(go_simp;rfl));intro gb hg w5 hbox hb;have BB:=Aside0.mk hbox;have HGB : Aside0 (w4.heap.size≤gb):=⟨by rw [hg];exact Nat.le_refl _⟩;replace HW4:=Aside0.mk (HW4.out.below hb);replace HO4:=Aside0.mk (Kd.R_below HO4.out hb);have y0:=bc BB 0;have y1:=bc BB 1;have f0:=blk_frozen BB.out 0;have f1:=blk_frozen BB.out 1;clear hbox hb hg))
                have LGX : Aside0 (gx < gb):=⟨Nat.lt_of_lt_of_le LX4.out HGB.out⟩
                have LWB : Aside0 (w.heap.size≤gb):=⟨by have:=LGX.out;have:=HW4.out.le0;have:=HW4.out.le1;have:=HW4.out.le2;omega⟩
                have HKB : KeepBut w5 ((w5.setCell ⟨gb,0,none⟩ (.int .i64 a0)).setCell ⟨gb,1,none⟩ (.slice Ab D'.length cb)) gb none:=KeepBut.set_ (KeepBut.set_ (KeepBut.refl _ _ _) 0 _) 1 _
                have HB6:=Aside0.mk (below_set (j:=1) (v:=.slice Ab D'.length cb) (below_set (j:=0) (v:=.int .i64 a0) HW4.out.low LWB.out) LWB.out)
                have HW6:=Aside0.mk (HW4.out.keep HKB HB6.out LGX.out)
                have HBE : Aside0 (Best w ((w5.setCell ⟨gb,0,none⟩ (.int .i64 a0)).setCell ⟨gb,1,none⟩ (.slice Ab D'.length cb)) gb a0 (.slice Ab D'.length cb) D'):=⟨⟨blk_put (blk_put BB.out 0 _ rfl) 1 _ rfl,Kd.R_lower (Kd.R_far (p:=⟨gb,1,none⟩) (Kd.R_far (p:=⟨gb,0,none⟩) (Kd.R_mono HO4.out (ok':=fun k=>k ≠ gb) (fun k hk=>by have:=HGB.out;omega)) (fun _ hk=>hk) _) (fun _ hk=>hk) _) LW.out,HB6.out,LWB.out⟩⟩
                clear HKB HB6 HW4 HO4 BB y0 y1 f0 f1 HGB LX4 LW
                (try simp only [drewN_set])
                generalize (w5.setCell ⟨gb,0,none⟩ (.int .i64 a0)).setCell ⟨gb,1,none⟩ (.slice Ab D'.length cb) = w6 at HW6 HBE ⊢
                have hx0 : w6.cell? ⟨gx,0,none⟩ = some (.int .i64 xn):=bc (⟨HW6.out.box⟩ : Aside0 _) 0
                have hx1 : w6.cell? ⟨gx,1,none⟩ = some (.slice Ax D'.length cx):=bc (⟨HW6.out.box⟩ : Aside0 _) 1
                go_upto_region 21 with (first
                 |(go_at_call 28;go_loud (refine (least_any k1 xn Ax cx D' none 0 [] a0 D' q1 q2 w w6 gb (.slice Ab D'.length cb) HBE.out ?s1 Kd.C_foot_nil ?s3 (Nat.le_refl _) ALE.out).mono ?_;(case s1=>exact Kd.C_foot_own HW6.out.row (fun k hk=>by have:=HW6.out.le2;have:=LGX.out;omega));(case s3=>exact (Kd.R_reads' HW6.out.row).2.1);rintro e w7 ⟨rfl,hk7,v7,hB7⟩;obtain ⟨A7,c7,rfl⟩:=Kd.R_slice hB7.own;have HB7:=Aside0.mk hB7;have HW7:=Aside0.mk (HW6.out.keep hk7 hB7.low LGX.out);clear hk7 hB7 hx0 hx1 HW6 HBE)))
                have hx1 : w7.cell? ⟨gx,1,none⟩ = some (.slice Ax D'.length cx):=bc (⟨HW7.out.box⟩ : Aside0 _) 1
                have hb1 : w7.cell? ⟨gb,1,none⟩ = some (.slice A7 q2.length c7):=best_bc HB7.out.blk 1 rfl
                cases te with
               |true =>
                  have H:=AH.out
                  rw [if_pos rfl] at H
                  by_cases hol : out.length < 4096
                  · rw [if_pos hol] at H
                    have AH7:=Aside0.mk H
                    have LOL:=Aside0.mk hol
                    clear H hol AH
                    go_wp2_with (first
                     |(go_at_call 40;go_loud (refine (slices_Equal_int64_int64.calls k1 A7 c7 q2 Ax cx D' true _ ?s1 ?s2 ?s3 ?s4 AEQ.out).mono ?_;(case s1=>exact (Kd.R_reads' HB7.out.own).2.2);(case s2=>exact (Kd.R_reads' HB7.out.own).2.1);(case s3=>exact (Kd.R_reads' HW7.out.row).2.2);(case s4=>exact (Kd.R_reads' HW7.out.row).2.1);rintro e w8 ⟨rfl,⟨q,rfl⟩⟩;have HW8:=Aside0.mk (HW7.out.drewN q);clear HB7 HW7 hx1 hb1;generalize w7.drewN q = w9 at HW8 ⊢;have hx0 : w9.cell? ⟨gx,0,none⟩ = some (.int .i64 xn):=bc (⟨HW8.out.box⟩ : Aside0 _) 0;have hx1 : w9.cell? ⟨gx,1,none⟩ = some (.slice Ax D'.length cx):=bc (⟨HW8.out.box⟩ : Aside0 _) 1))
                     |((with_reducible refine gate_builtin (b:=.append) (xs:=#[.tmp 57,.tmp 59]) rfl ?_);at_builtin;go_loud (refine Kd.S_append k26 (w0:=w) w.heap.size rfl (.tmp 57) (.tmp 59) 43 26 (.agg #[(.int .i64 0),(.slice none 0 0)]) 32 rfl Tryd.underlying43 info26 rfl (by decide) (by omega) (.slice Ao out.length co) out (⟨xn,D'⟩ : S26) [.int .i64 xn,.slice Ax D'.length cx] (fun k=>w.heap.size≤k) (fun k=>N0≤k∧k < N1) rfl rfl ?aP ?aK ?aF ?aO ?aB ?aS ?aL ?_;(case aP=>exact k26_mkM _ _ _ (⟨xn,D'⟩ : S26) HW8.out.row);(case aK=>exact fun k hk=>⟨by have:=HW8.out.le0;omega,fun e=>by have:=(HW8.out.outS.elim fun f hf=>hf.1 k e.symm).2;omega⟩);(case aF=>exact fun k hk=>Nat.le_trans (below_size HW8.out.low) hk);(case aO=>exact Kd.S_mono HW8.out.outS (fun k hk=>⟨hk.1,fun h2=>by omega⟩));(case aB=>exact HW8.out.low);(case aS=>exact below_size HW8.out.low);(case aL=>have:=LOL.out;omega);intro v9 wN hs hb hg hat;obtain ⟨A9,c9,rfl⟩:=Kd.S_slice hs;have HS9:=Aside0.mk hs;have HB9:=Aside0.mk hb;clear hs hb hg hat)))
                    go_roundg k1
                    case measure=>omega
                    case rel=>exact ⟨wrap64 (p + 1),out ++ [⟨xn,D'⟩],A9,c9,rfl,by rw [List.length_append];rfl,AH7,HS9,HB9⟩
                  · rw [if_neg hol] at H;cases H
               |false =>
                  have H:=AH.out
                  rw [if_neg (by decide)] at H
                  have AH7:=Aside0.mk H
                  clear H AH
                  go_wp2_with (go_at_call 40;go_loud (refine (slices_Equal_int64_int64.calls k1 A7 c7 q2 Ax cx D' false _ ?s1 ?s2 ?s3 ?s4 AEQ.out).mono ?_;(case s1=>exact (Kd.R_reads' HB7.out.own).2.2);(case s2=>exact (Kd.R_reads' HB7.out.own).2.1);(case s3=>exact (Kd.R_reads' HW7.out.row).2.2);(case s4=>exact (Kd.R_reads' HW7.out.row).2.1);rintro e w8 ⟨rfl,⟨q,rfl⟩⟩;have HW8:=Aside0.mk (HW7.out.drewN q);clear HB7 HW7 hx1 hb1))
                  go_roundg k1
                  case measure=>omega
                  case rel=>exact ⟨wrap64 (p + 1),out,Ao,co,rfl,rfl,AH7,⟨Kd.S_mono HW8.out.outS (fun k hk=>hk.1)⟩,⟨HW8.out.low⟩⟩
        · rw [if_neg hp] at H
          have e2:=Option.some.inj H
          subst e2
          clear H
          have d1 : decide (p < m) = false:=decide_eq_false hp
          clear hp
          have hoc:=OC.out
          have hn0:=Aside0.mk (fun u (hu : u ∈ out)=>(hoc.2.2 u hu).1)
          have hn1:=Aside0.mk (fun u (hu : u ∈ out)=>(hoc.2.2 u hu).2.1)
          have hn2:=Aside0.mk (fun u (hu : u ∈ out)=>(hoc.2.2 u hu).2.2)
          have hk0:=Aside0.mk hoc.1
          have hl0:=Aside0.mk (show out.length < 4611686018427387904 by omega)
          clear hoc OC
          go_wp2_with (go_at_call 47;go_loud (refine (sortAlphs k a0 (fun k=>w.heap.size≤k) (.slice Ao out.length co) out w _ HB.out HS.out hn0.out hn1.out hn2.out hk0.out hl0.out).mono ?_;rintro e w9 ⟨rfl,hs,hb⟩;have HS9:=Aside0.mk hs;have HB9:=Aside0.mk hb;clear hs hb))
          go_ret2
          exact ⟨_,rfl,Kd.S_mono HS9.out (fun _ _=>trivial),HB9.out⟩
end Go.Proofs.YtjfdhkobaiplpaaDoor.G
