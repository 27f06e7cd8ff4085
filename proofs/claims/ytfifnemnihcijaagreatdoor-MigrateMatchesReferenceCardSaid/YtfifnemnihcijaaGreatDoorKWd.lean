import Derived.Test.YtfifnemnihcijaaGreatDoorProg
import Derived.WalkKit
import Derived.Below
import Derived.Laws.OwnMore
import Derived.Deep.AppendLies
import Derived.Deep.Draws
import Derived.Laws.Rows
import Derived.Maps.AppendAt
import Derived.RegionTactic
import Derived.OwnWalk
import Derived.Lib.Hide
import Derived.Lib.QuietBelow
import Derived.OrdersHeld
set_option linter.unusedSimpArgs false
set_option linter.unusedVariables false
set_option maxHeartbeats 16000000
set_option maxRecDepth 100000
namespace Go.Proofs.YtfifnemnihcijaaGreatDoor
open Go.RowKit
def ba (s:ByteArray):List UInt8:=s.data.toList
theorem ba_length (s:ByteArray):(ba s).length = s.size:=by simp [ba]
def mkB (l:List UInt8):ByteArray:=⟨l.toArray⟩
theorem ba_mkB (l:List UInt8):ba (mkB l) = l:=by simp [ba,mkB]
theorem mkB_ba (s:ByteArray):mkB (ba s) = s:=by simp [ba,mkB]
theorem size_mkB (l:List UInt8):(mkB l).size = l.length:=by simp [← ba_length,ba_mkB]
theorem ba_inj {s t:ByteArray} (h:ba s = ba t):s = t:=by rw [← mkB_ba s,h,mkB_ba]
def Same (w w':World):Prop:=Below w.heap.size w w'
theorem Same.refl (w:World):Same w w:=Below.refl _ _
theorem Same.trans {a b c:World} (h:Same a b) (k:Same b c):Same a c:=Below.trans h (Below.mono k h.size)
theorem Same.size {a b:World} (h:Same a b):a.heap.size ≤ b.heap.size:=Below.size h
theorem Same.alloc {a w:World} (h:Same a w) (o:Obj):Same a (w.alloc o):=Below.alloc h h.size o
theorem Same.drew {a w:World} (h:Same a w):Same a w.drew:=Below.drew h
theorem Same.drewN {a w:World} (h:Same a w) (n:Nat):Same a (w.drewN n):=⟨h.os,h.tape,h.output,h.size,h.block⟩
theorem Same.setCell {a w:World} (h:Same a w) {p:Addr} (hp:a.heap.size ≤ p.block) (u:Value):Same a (w.setCell p u):=Below.setCell h hp u
theorem Same.cells {a b:World} (h:Same a b):∀ k o,k < a.heap.size → b.cell? ⟨k,o,none⟩ = a.cell? ⟨k,o,none⟩:=fun k o hk => Below.cell (p:=⟨k,o,none⟩) h hk
theorem Same.frees {a b:World} (h:Same a b):∀ k o,k < a.heap.size → b.frozen? ⟨k,o,none⟩ = a.frozen? ⟨k,o,none⟩:=fun k o hk => Below.frozen (p:=⟨k,o,none⟩) h hk
theorem Same.cell {a b:World} (h:Same a b) {p:Addr} (hp:p.block < a.heap.size):b.cell? p = a.cell? p:=Below.cell h hp
theorem block_of_add (a:Addr) (n:Nat):(a.add n).block = a.block:=by unfold Addr.add;split <;> rfl
theorem add_of_add (a:Addr) (i j:Nat):(a.add i).add j = a.add (i + j):=by
 unfold Addr.add
 by_cases hi:i = 0 <;> by_cases hj:j = 0 <;> simp [hi,hj,Nat.add_assoc]
def Reads (w:World) (B size:Nat) (A:Option Addr) (n:Nat) (xs:List Value):Prop:=
 xs.length = n * size ∧ (0 < n → ∃ ad,A = some ad ∧ ad.block < B ∧ ∀ j u,xs[j]? = some u → w.cell? (ad.add j) = some u)
section
variable {w w':World} {B B' size n:Nat} {A:Option Addr} {xs:List Value}
theorem Reads.at_ {k:Nat} (h:Reads w B 1 A n xs) (hk:k < n):∃ ad u,A = some ad ∧ ad.block < B ∧ xs[k]? = some u ∧ w.cell? (ad.add k) = some u:=by
 obtain ⟨ad,e,hb,hc⟩:=h.2 (by omega)
 have hl:k < xs.length:=by have:=h.1;omega
 exact ⟨ad,xs[k],e,hb,List.getElem?_eq_getElem hl,hc k _ (List.getElem?_eq_getElem hl)⟩
theorem Reads.keep (h:Reads w B size A n xs) (hk:∀ p:Addr,p.block < B → w'.cell? p = w.cell? p):Reads w' B size A n xs:=
 ⟨h.1,fun hn => by
  obtain ⟨ad,e,hb,hc⟩:=h.2 hn
  exact ⟨ad,e,hb,fun j u hu => (hk _ (by rw [block_of_add];exact hb)).trans (hc j u hu)⟩⟩
theorem Reads.below (h:Reads w B size A n xs) (hb:Below B w w'):Reads w' B size A n xs:=h.keep fun _ hp => hb.cell hp
theorem Reads.drew (h:Reads w B size A n xs):Reads w.drew B size A n xs:=h
theorem Reads.drewN (h:Reads w B size A n xs) (k:Nat):Reads (w.drewN k) B size A n xs:=h
theorem Reads.alloc (h:Reads w B size A n xs) (hB:B ≤ w.heap.size) (o:Obj):Reads (w.alloc o) B size A n xs:=h.keep fun p hp => World.cell?_alloc_lt w o p (by omega)
theorem Reads.setCell (h:Reads w B size A n xs) {p:Addr} (hB:B ≤ p.block) (u:Value):Reads (w.setCell p u) B size A n xs:=
 h.keep fun q hq => World.cell?_setCell_other w p q u (fun e => by subst e;omega)
theorem Reads.grown (h:Reads w B size A n xs) {row:Option Nat} (hg:w.grownBy w' row) (hB:B ≤ w.heap.size) (hr:∀ g,row = some g → B ≤ g):Reads w' B size A n xs:=
 h.keep fun p hp => World.cell?_of_block (hg.block p.block (by omega) (fun e => by have:=hr _ e.symm;omega))
end
theorem Same.grown {a b:World} (h:Same a b):a.grownBy b none:=⟨h.os,h.tape,h.output,h.size,fun k hk _ => h.block k hk⟩
theorem own_same {a b:World} (s:Same a b) {base:Nat} {e:TypeId} {size:Nat} {v:Value} {n:Nat} {xs:List Value} (h:a.ownsRow base e size v n xs):b.ownsRow base e size v n xs:=
 h.kept s.grown (by cases v.ownBlock <;> simp)
theorem heap_drew (w:World):w.drew.heap = w.heap:=rfl
theorem cell_drew (w:World) (p:Addr):w.drew.cell? p = w.cell? p:=rfl
theorem reads_new (w:World) (x:Value) (t:TypeId):Reads (w.alloc (.cells #[x] t)) (w.heap.size + 1) 1 (some ⟨w.heap.size,0,none⟩) 1 [x]:=by
 refine ⟨rfl,fun _ => ⟨_,rfl,Nat.lt_succ_self _,fun j u hu => ?_⟩⟩
 match j,hu with
 | 0,hu => simp at hu;subst hu;simp [Addr.add]
 | j + 1,hu => simp at hu
theorem le_alloc_drew (w:World) (o:Obj):w.heap.size ≤ (w.alloc o).drew.heap.size:=by rw [heap_drew];simp
open Go.Sort in
theorem Same.reg (w:World) (d:Nat) (os:Array Obj):Same w (grow (redrawn w d) os):=below_regrown w d os
open Go.Sort in
theorem regr {P:Program} {f:FuncId} {args:Array Value} {w:World} {v:Value} (h:∀ W,Same w W → Calls P f args W fun e w' => e = .returned v ∧ Same W w') :
  ∀ d os,Calls P f args (grow (redrawn w d) os) fun e w'' => e = .returned v ∧ ∃ p:Regrown,w'' = grow (redrawn w p.d) p.os:=fun d os => Calls.regrown_of (h _ (Same.reg w d os))
open Go.Sort in
theorem cellr {w:World} {a:Addr} {v:Value} (h:w.cell? a = some v):∀ d os,(grow (redrawn w d) os).cell? a = some v:=fun d os => cell_regrown h d os
structure Hd where
 a:Option Addr
 n:Nat
 c:Nat
def Hd.val (h:Hd):Value:=.slice h.a h.n h.c
def Lies {α:Type} (w:World) (m:Nat) (h:Hd) (enc:α → List Value) (xs:List α):Prop:=
 xs.length = h.n ∧ h.n ≤ 9223372036854775807 ∧ ∀ k (hk:k < xs.length),∃ b off,h.a = some ⟨b,off,none⟩ ∧ b < w.heap.size ∧ ∀ j v,(enc xs[k])[j]? = some v → w.cell? ⟨b,off + k * m + j,none⟩ = some v
theorem Lies.same {α:Type} {w w':World} {m:Nat} {h:Hd} {enc:α → List Value} {xs:List α} (l:Lies w m h enc xs) (s:Same w w'):Lies w' m h enc xs:=
 ⟨l.1,l.2.1,fun k hk => by
  obtain ⟨b,off,ha,hb,hc⟩:=l.2.2 k hk
  exact ⟨b,off,ha,Nat.lt_of_lt_of_le hb s.size,fun j v hv => (s.cell (p:=⟨b,_,none⟩) hb).trans (hc j v hv)⟩⟩
theorem Lies.len {α:Type} {w:World} {m:Nat} {h:Hd} {enc:α → List Value} {xs:List α} (l:Lies w m h enc xs):xs.length = h.n:=l.1
theorem Reads.same {w w':World} {B size n:Nat} {A:Option Addr} {xs:List Value} (h:Reads w B size A n xs) (hB:B ≤ w.heap.size) (hb:Same w w'):Reads w' B size A n xs:=
 h.below (Below.mono hb hB)
def Blk (w:World) (g:Nat) (t:TypeId) (cs:Array Value):Prop:=w.heap[g]? = some (.cells cs t (0,0))
section
variable {w w':World} {g:Nat} {t:TypeId} {cs:Array Value}
theorem Blk.lt (h:Blk w g t cs):g < w.heap.size:=by
 rcases Nat.lt_or_ge g w.heap.size with hlt | hge
 ·exact hlt
 ·unfold Blk at h;rw [Array.getElem?_eq_none hge] at h;cases h
theorem Blk.cell (h:Blk w g t cs) (i:Nat):w.cell? ⟨g,i,none⟩ = cs[i]?:=cell_of_row w g i cs t (0,0) h
theorem Blk.frozen (h:Blk w g t cs) (i:Nat):w.frozen? ⟨g,i,none⟩ = false:=by
 unfold Blk at h
 simp [World.frozen?,h]
theorem Blk.new (w:World) (t:TypeId) (cs:Array Value):Blk (w.alloc (.cells cs t)) w.heap.size t cs:=heap_alloc_new w _
theorem Blk.drew (h:Blk w g t cs):Blk w.drew g t cs:=h
theorem Blk.drewN (h:Blk w g t cs) (n:Nat):Blk (w.drewN n) g t cs:=h
theorem Blk.alloc (h:Blk w g t cs) (o:Obj):Blk (w.alloc o) g t cs:=(Below.heap_alloc w o g h.lt).trans h
theorem Blk.set_ (h:Blk w g t cs) (i:Nat) (u:Value):Blk (w.setCell ⟨g,i,none⟩ u) g t (cs.setIfInBounds i u):=by
 unfold Blk at h ⊢
 simp [World.setCell,Array.getElem?_modify,h]
theorem Blk.far (h:Blk w g t cs) {p:Addr} (hp:g ≠ p.block) (u:Value):Blk (w.setCell p u) g t cs:=(Below.heap_setCell w p u g hp).trans h
theorem Blk.below {B:Nat} (h:Blk w g t cs) (hb:Below B w w') (hg:g < B):Blk w' g t cs:=(hb.block g hg).trans h
theorem Blk.grown {row:Option Nat} (h:Blk w g t cs) (hb:w.grownBy w' row) (hg:some g ≠ row):Blk w' g t cs:=(hb.block g h.lt hg).trans h
theorem Blk.ne_ {g':Nat} {t':TypeId} {cs':Array Value} (h:Blk w g t cs) (h':Blk w g' t' cs') (hne:t ≠ t'):g ≠ g':=by
 rintro rfl
 unfold Blk at h h'
 rw [h] at h'
 injection h' with h'
 injection h' with _ ht
 exact hne ht
theorem own_blk_ne {base:Nat} {e:TypeId} {size n:Nat} {v:Value} {xs:List Value} (h:w.ownsRow base e size v n xs) (hg:Blk w g t cs) (hne:e ≠ t):v.ownBlock ≠ some g:=by
 rcases h.2 with ⟨rfl,_⟩ | ⟨g',cap,cur,rfl,_,hh,_⟩
 ·simp [Value.ownBlock]
 ·intro he
  have:g' = g:=by simpa [Value.ownBlock] using he
  subst this
  exact Blk.ne_ (t:=e) hh hg hne rfl
end
section
variable {P:Program} (w:World)
theorem run_append_of_nil (base:Nat) (t ty e:TypeId) (i:TypeInfo) (size:Nat) (ht:P.underlying t = some (.slice e)) (hi:P.info? e = some i)
  (v:Value) (n:Nat) (xs:List Value) (hown:w.ownsRow base e size v n xs) (c:Nat):(Builtin.append_ #[t,t] ty #[v,.slice none 0 c]).run P w = .ok v w:=by
 rcases hown.2 with ⟨rfl,rfl⟩ | ⟨g,cap,cur,rfl,_,_,hnc,_⟩
 ·simp [Builtin.append_,run_underlying ht,sizeOf,typeInfo,hi,Builtin.lenOf,Builtin.firstCells]
 ·simp [Builtin.append_,run_underlying ht,sizeOf,typeInfo,hi,Builtin.lenOf,Builtin.firstCells,hnc,storeCells]
theorem run_append_any (base:Nat) (t ty e:TypeId) (i:TypeInfo) (z:Value) (size bytes:Nat) (ht:P.underlying t = some (.slice e)) (hi:P.info? e = some i) (hz:i.zero = some z)
  (hsize:i.size = size) (hby:i.bytes = bytes) (hzs:z.cells.size = size) (hsz:0 < size)
  (v:Value) (n:Nat) (xs:List Value) (hown:w.ownsRow base e size v n xs)
  (B:Nat) (A:Option Addr) (m c:Nat) (news:List Value) (hr:Reads w B size A m news) (h1:∀ u ∈ news,u.oneCell' = true)
  (h63:n + m ≤ maxLen) (hbytes:(n + m) * bytes ≤ 140737488355328) (hbase:base ≤ w.heap.size) :
  ∃ v' w',(Builtin.append_ #[t,t] ty #[v,.slice A m c]).run P w = .ok v' w' ∧ w'.ownsRow base e size v' (n + m) (xs ++ news) ∧ w.grownBy w' v.ownBlock ∧
   (v'.ownBlock = v.ownBlock ∨ v'.ownBlock = some w.heap.size):=by
 rcases A with _ | ad
 ·have hm:m = 0:=by
   rcases Nat.eq_zero_or_pos m with h0 | h0
   ·exact h0
   ·obtain ⟨ad,h,_⟩:=hr.2 h0
    cases h
  subst hm
  have hn:news = []:=List.eq_nil_of_length_eq_zero (by simpa using hr.1)
  subst hn
  exact ⟨v,w,run_append_of_nil w base t ty e i size ht hi v n xs hown c,by simpa using hown,World.grownBy.refl w _,.inl rfl⟩
 ·have hcells:∀ j u,news[j]? = some u → w.cell? (ad.add j) = some u:=by
   intro j u hu
   rcases Nat.eq_zero_or_pos m with h0 | h0
   ·subst h0
    have hn:news = []:=List.eq_nil_of_length_eq_zero (by simpa using hr.1)
    subst hn
    simp at hu
   ·obtain ⟨ad',h,_,hc⟩:=hr.2 h0
    injection h with h
    subst h
    exact hc j u hu
  obtain ⟨v',w',hrun,h2,h3,_,h5⟩:=run_append_own_at (P:=P) w base t ty e i z size bytes ht hi hz hsize hby hzs hsz v n xs hown ad m c news hr.1 hcells h1 h63 hbytes hbase
  exact ⟨v',w',hrun,h2,h3,h5⟩
theorem wp_append_any {o:Oper} {a:Act} {K:Act → World → Prop} {Q:Exit → Act → World → Prop} (s x:Operand) (t:TypeId)
  (ho:o.op = .call { callee:=.builtin .append,args:=#[s,x],argTypes:=#[t,t] })
  (base:Nat) (e:TypeId) (i:TypeInfo) (z:Value) (size bytes:Nat) (ht:P.underlying t = some (.slice e)) (hi:P.info? e = some i) (hz:i.zero = some z)
  (hsize:i.size = size) (hby:i.bytes = bytes) (hzs:z.cells.size = size) (hsz:0 < size)
  (v:Value) (n:Nat) (xs:List Value) (hs:a.eval s = v) (hown:w.ownsRow base e size v n xs)
  (B:Nat) (A:Option Addr) (m c:Nat) (news:List Value) (hx:a.eval x = .slice A m c) (hr:Reads w B size A m news) (h1:∀ u ∈ news,u.oneCell' = true)
  (h63:n + m ≤ maxLen) (hbytes:(n + m) * bytes ≤ 140737488355328) (hbase:base ≤ w.heap.size)
  (h:∀ v' w',w'.ownsRow base e size v' (n + m) (xs ++ news) → w.grownBy w' v.ownBlock → (v'.ownBlock = v.ownBlock ∨ v'.ownBlock = some w.heap.size) → K (a.put o.dst v') w'):o.wp P a w K Q:=by
 obtain ⟨v',w',hrun,h2,h3,h4⟩:=run_append_any (P:=P) w base t o.type e i z size bytes ht hi hz hsize hby hzs hsz v n xs hown B A m c news hr h1 h63 hbytes hbase
 unfold Oper.wp execOp
 simp only [ho,resolve,invoke,builtin,Sem.run_bind,Sem.run_pure,Result.andThen_ok,List.map_toArray,List.map_cons,List.map_nil,hs,hx,hrun]
 exact h v' w' h2 h3 h4
theorem wpList_append_any {ops:Array Oper} {rest:List Oper} {o:Oper} {a:Act} {Q:Exit → Act → World → Prop} (hgd:o.guard = none) (s x:Operand) (t:TypeId)
  (ho:o.op = .call { callee:=.builtin .append,args:=#[s,x],argTypes:=#[t,t] })
  (base:Nat) (e:TypeId) (i:TypeInfo) (z:Value) (size bytes:Nat) (ht:P.underlying t = some (.slice e)) (hi:P.info? e = some i) (hz:i.zero = some z)
  (hsize:i.size = size) (hby:i.bytes = bytes) (hzs:z.cells.size = size) (hsz:0 < size)
  (v:Value) (n:Nat) (xs:List Value) (hs:a.eval s = v) (hown:w.ownsRow base e size v n xs)
  (B:Nat) (A:Option Addr) (m c:Nat) (news:List Value) (hx:a.eval x = .slice A m c) (hr:Reads w B size A m news) (h1:∀ u ∈ news,u.oneCell' = true)
  (h63:n + m ≤ maxLen) (hbytes:(n + m) * bytes ≤ 140737488355328) (hbase:base ≤ w.heap.size)
  (h:∀ v' w',w'.ownsRow base e size v' (n + m) (xs ++ news) → w.grownBy w' v.ownBlock → (v'.ownBlock = v.ownBlock ∨ v'.ownBlock = some w.heap.size) → wpList P ops Q rest (a.put o.dst v') w'):wpList P ops Q (o :: rest) a w:=
 wpList_plain hgd fun _ hK => wp_append_any w s x t ho base e i z size bytes ht hi hz hsize hby hzs hsz v n xs hs hown B A m c news hx hr h1 h63 hbytes hbase fun v' w' h2 h3 h4 => hK _ _ (h v' w' h2 h3 h4)
theorem step_append_any {ops:Array Oper} {o:Oper} {a:Act} {K:Act → World → Prop} {Q:Exit → Act → World → Prop} {E:Prop} (hgd:o.guard = none) (s x:Operand) (t:TypeId)
  (ho:o.op = .call { callee:=.builtin .append,args:=#[s,x],argTypes:=#[t,t] })
  (base:Nat) (e:TypeId) (i:TypeInfo) (z:Value) (size bytes:Nat) (ht:P.underlying t = some (.slice e)) (hi:P.info? e = some i) (hz:i.zero = some z)
  (hsize:i.size = size) (hby:i.bytes = bytes) (hzs:z.cells.size = size) (hsz:0 < size)
  (v:Value) (n:Nat) (xs:List Value) (hs:a.eval s = v) (hown:w.ownsRow base e size v n xs)
  (B:Nat) (A:Option Addr) (m c:Nat) (news:List Value) (hx:a.eval x = .slice A m c) (hr:Reads w B size A m news) (h1:∀ u ∈ news,u.oneCell' = true)
  (h63:n + m ≤ maxLen) (hbytes:(n + m) * bytes ≤ 140737488355328) (hbase:base ≤ w.heap.size)
  (h:∀ v' w',w'.ownsRow base e size v' (n + m) (xs ++ news) → w.grownBy w' v.ownBlock → (v'.ownBlock = v.ownBlock ∨ v'.ownBlock = some w.heap.size) → K (a.put o.dst v') w') :
  if Region.wanted o (yielded ops a.tmps) = true then Oper.wp P o a w K Q else E:=by
 have hw:Region.wanted o (yielded ops a.tmps) = true:=by simp [Region.wanted,hgd]
 rw [if_pos hw]
 exact wp_append_any w s x t ho base e i z size bytes ht hi hz hsize hby hzs hsz v n xs hs hown B A m c news hx hr h1 h63 hbytes hbase h
end
theorem lxa {α:Type} {l:List α} {i:Nat}:l.toArray[i]? = l[i]?:=by simp
theorem lxb {α:Type} {a:α} {l:List α} {i:Nat}:(a :: l)[i + 1]? = l[i]?:=List.getElem?_cons_succ
theorem lxc {α:Type} {a:α} {l:List α}:(a :: l)[0]? = some a:=List.getElem?_cons_zero
theorem lxd {α:Type} {l:List α} {i:Nat} {a:α}:l.toArray.setIfInBounds i a = (l.set i a).toArray:=List.setIfInBounds_toArray ..
theorem lxe {α:Type} {a b:α} {l:List α}:(a :: l).set 0 b = b :: l:=rfl
theorem lxf {α:Type} {a b:α} {l:List α} {i:Nat}:(a :: l).set (i + 1) b = a :: l.set i b:=rfl
theorem tk {P:Program} {md:Region.Mode} {ops:Array Oper} {Q:Exit → Act → World → Prop} {S:World → Prop} {fuel:Nat} {listed:Array Bool} {a:Act} {w:World} (i:Nat) {oi:Oper} {v:Value} (hi:ops[i]? = some oi)
  (hb:(Region.noSelect ops && (Region.free md ops listed i && (Region.ready md ops listed).contains i)) = true) (hQ:∀ c a w,Q (.panic c) (a.put oi.dst v) w → Q (.panic c) a w)
  (hw:Region.wanted oi (yielded ops a.tmps) = true) (hy:∀ w,S w → (execOp a.eval oi).run P w = .ok (.value v) w) (hS:S w) (h:wpAnyH P md ops Q S fuel (listed.setIfInBounds i true) (a.put oi.dst v) w):wpAnyH P md ops Q S (fuel + 1) listed a w:=
 have b:Region.noSelect ops = true ∧ Region.free md ops listed i = true ∧ (Region.ready md ops listed).contains i = true:=by simpa only [Bool.and_eq_true] using hb
 wpAnyH_take hi b.1 b.2.1 b.2.2 hQ (Or.inl ⟨hw,hy⟩) hS h
abbrev Rt (f:Nat) (args:Array Value) (w:World) (r:Value):Prop:=∀ W,Same w W → Calls Tryz.prog f args W fun e w' => e = .returned r ∧ Same W w'
abbrev Re (f:Nat) (args:Array Value) (w:World) (r:Value):Prop:=∀ W,Same w W → Calls Tryz.prog f args W fun e w' => e = .returned r ∧ W = w'
abbrev Rs (f:Nat) (args:Array Value) (r:Value):Prop:=∀ W,Calls Tryz.prog f args W fun e w' => e = .returned r ∧ Same W w'
abbrev Rq (f:Nat) (args:Array Value) (r:Value):Prop:=∀ W,Calls Tryz.prog f args W fun e w' => e = .returned r ∧ W = w'
section
variable {w w':World} {k:Nat} {t:TypeId} {a0 a1 a2 a3 a4 a5 a6 a7:Value}
theorem st1 (s:Same w w') (h:k < w.heap.size) (h0:w.cell? ⟨k,0,none⟩ = some a0):k < w'.heap.size ∧ w'.cell? ⟨k,0,none⟩ = some a0:=
 ⟨Nat.lt_of_lt_of_le h s.size,(s.cells _ _ h).trans h0⟩
theorem st3 (s:Same w w') (h:k < w.heap.size) (h0:w.cell? ⟨k,0,none⟩ = some a0) (h1:w.cell? ⟨k,1,none⟩ = some a1) (h2:w.cell? ⟨k,2,none⟩ = some a2) :
  k < w'.heap.size ∧ w'.cell? ⟨k,0,none⟩ = some a0 ∧ w'.cell? ⟨k,1,none⟩ = some a1 ∧ w'.cell? ⟨k,2,none⟩ = some a2:=
 ⟨Nat.lt_of_lt_of_le h s.size,(s.cells _ _ h).trans h0,(s.cells _ _ h).trans h1,(s.cells _ _ h).trans h2⟩
theorem st8 (s:Same w w') (h:k < w.heap.size) (h0:w.cell? ⟨k,0,none⟩ = some a0) (h1:w.cell? ⟨k,1,none⟩ = some a1) (h2:w.cell? ⟨k,2,none⟩ = some a2) (h3:w.cell? ⟨k,3,none⟩ = some a3)
  (h4:w.cell? ⟨k,4,none⟩ = some a4) (h5:w.cell? ⟨k,5,none⟩ = some a5) (h6:w.cell? ⟨k,6,none⟩ = some a6) (h7:w.cell? ⟨k,7,none⟩ = some a7) :
  k < w'.heap.size ∧ w'.cell? ⟨k,0,none⟩ = some a0 ∧ w'.cell? ⟨k,1,none⟩ = some a1 ∧ w'.cell? ⟨k,2,none⟩ = some a2 ∧ w'.cell? ⟨k,3,none⟩ = some a3 ∧ w'.cell? ⟨k,4,none⟩ = some a4 ∧
   w'.cell? ⟨k,5,none⟩ = some a5 ∧ w'.cell? ⟨k,6,none⟩ = some a6 ∧ w'.cell? ⟨k,7,none⟩ = some a7:=
 ⟨Nat.lt_of_lt_of_le h s.size,(s.cells _ _ h).trans h0,(s.cells _ _ h).trans h1,(s.cells _ _ h).trans h2,(s.cells _ _ h).trans h3,(s.cells _ _ h).trans h4,(s.cells _ _ h).trans h5,(s.cells _ _ h).trans h6,(s.cells _ _ h).trans h7⟩
theorem bx1 (h:Blk w k t #[a0]):k < w.heap.size ∧ w.cell? ⟨k,0,none⟩ = some a0:=⟨h.lt,h.cell 0⟩
theorem bx3 (h:Blk w k t #[a0,a1,a2]):k < w.heap.size ∧ w.cell? ⟨k,0,none⟩ = some a0 ∧ w.cell? ⟨k,1,none⟩ = some a1 ∧ w.cell? ⟨k,2,none⟩ = some a2:=⟨h.lt,h.cell 0,h.cell 1,h.cell 2⟩
theorem bx8 (h:Blk w k t #[a0,a1,a2,a3,a4,a5,a6,a7]):k < w.heap.size ∧ w.cell? ⟨k,0,none⟩ = some a0 ∧ w.cell? ⟨k,1,none⟩ = some a1 ∧ w.cell? ⟨k,2,none⟩ = some a2 ∧ w.cell? ⟨k,3,none⟩ = some a3 ∧ w.cell? ⟨k,4,none⟩ = some a4 ∧
   w.cell? ⟨k,5,none⟩ = some a5 ∧ w.cell? ⟨k,6,none⟩ = some a6 ∧ w.cell? ⟨k,7,none⟩ = some a7:=
 ⟨h.lt,h.cell 0,h.cell 1,h.cell 2,h.cell 3,h.cell 4,h.cell 5,h.cell 6,h.cell 7⟩
theorem two_in {z0 z1 z2:Value} (s:Same ((w.alloc (.cells #[a0,a1,a2] t)).alloc (.cells #[z0,z1,z2] t)) w') :
  w.heap.size + 2 ≤ w'.heap.size ∧ w.heap.size < w'.heap.size ∧ w.heap.size + 1 < w'.heap.size ∧ Hid (Same w w') ∧ Hid (Blk w' (w.heap.size + 1) t #[z0,z1,z2]) ∧
   w'.cell? ⟨w.heap.size,0,none⟩ = some a0 ∧ w'.cell? ⟨w.heap.size,1,none⟩ = some a1 ∧ w'.cell? ⟨w.heap.size,2,none⟩ = some a2:=by
 have hz:((w.alloc (.cells #[a0,a1,a2] t)).alloc (.cells #[z0,z1,z2] t)).heap.size = w.heap.size + 2:=by simp
 have h2:w.heap.size + 2 ≤ w'.heap.size:=by rw [← hz];exact s.size
 have b1:Blk ((w.alloc (.cells #[a0,a1,a2] t)).alloc (.cells #[z0,z1,z2] t)) (w.heap.size + 1) t #[z0,z1,z2]:=by
  have h:=Blk.new (w.alloc (.cells #[a0,a1,a2] t)) t #[z0,z1,z2]
  rw [show (w.alloc (.cells #[a0,a1,a2] t)).heap.size = w.heap.size + 1 by simp] at h
  exact h
 have b0:=(Blk.new w t #[a0,a1,a2]).alloc (.cells #[z0,z1,z2] t)
 have hk:w.heap.size < ((w.alloc (.cells #[a0,a1,a2] t)).alloc (.cells #[z0,z1,z2] t)).heap.size:=by rw [hz];omega
 exact ⟨h2,by omega,by omega,(((Same.refl w).alloc _).alloc _).trans s,(s.block _ (by rw [hz];omega)).trans b1,
  (s.cells _ _ hk).trans (b0.cell 0),(s.cells _ _ hk).trans (b0.cell 1),(s.cells _ _ hk).trans (b0.cell 2)⟩
theorem two_at {z0 z1 z2:Value} {ob:Obj} (s:Same ((w.alloc (.cells #[z0,z1,z2] t)).alloc ob) w') :
  w.heap.size + 2 ≤ w'.heap.size ∧ w.heap.size < w'.heap.size ∧ w.heap.size + 1 < w'.heap.size ∧ Hid (Same w w') ∧ Hid (Blk w' w.heap.size t #[z0,z1,z2]):=by
 have hz:((w.alloc (.cells #[z0,z1,z2] t)).alloc ob).heap.size = w.heap.size + 2:=by simp
 have h2:w.heap.size + 2 ≤ w'.heap.size:=by rw [← hz];exact s.size
 exact ⟨h2,by omega,by omega,(((Same.refl w).alloc _).alloc _).trans s,(s.block _ (by rw [hz];omega)).trans ((Blk.new w _ _).alloc _)⟩
theorem in2 {oa ob:Obj} (s:Same ((w.alloc oa).alloc ob) w'):w.heap.size + 2 ≤ w'.heap.size:=by have:=s.size;simp at this;omega
theorem in18 {x0:Value} {t':TypeId} (s:Same ((w.alloc (.cells #[x0] t)).alloc (.cells #[a0,a1,a2,a3,a4,a5,a6,a7] t')) w') :
  w'.cell? ⟨w.heap.size,0,none⟩ = some x0 ∧ w'.cell? ⟨w.heap.size + 1,0,none⟩ = some a0 ∧ w'.cell? ⟨w.heap.size + 1,1,none⟩ = some a1 ∧ w'.cell? ⟨w.heap.size + 1,2,none⟩ = some a2 ∧ w'.cell? ⟨w.heap.size + 1,3,none⟩ = some a3 ∧
   w'.cell? ⟨w.heap.size + 1,4,none⟩ = some a4 ∧ w'.cell? ⟨w.heap.size + 1,5,none⟩ = some a5 ∧ w'.cell? ⟨w.heap.size + 1,6,none⟩ = some a6 ∧ w'.cell? ⟨w.heap.size + 1,7,none⟩ = some a7:=by
 have hz:((w.alloc (.cells #[x0] t)).alloc (.cells #[a0,a1,a2,a3,a4,a5,a6,a7] t')).heap.size = w.heap.size + 2:=by simp
 have h1:(w.alloc (.cells #[x0] t)).heap.size = w.heap.size + 1:=by simp
 have b:=(Blk.new w t #[x0]).alloc (.cells #[a0,a1,a2,a3,a4,a5,a6,a7] t')
 have c:=Blk.new (w.alloc (.cells #[x0] t)) t' #[a0,a1,a2,a3,a4,a5,a6,a7]
 rw [h1] at c
 have hk:w.heap.size < ((w.alloc (.cells #[x0] t)).alloc (.cells #[a0,a1,a2,a3,a4,a5,a6,a7] t')).heap.size:=by rw [hz];omega
 have hc:w.heap.size + 1 < ((w.alloc (.cells #[x0] t)).alloc (.cells #[a0,a1,a2,a3,a4,a5,a6,a7] t')).heap.size:=by rw [hz];omega
 exact ⟨(s.cells _ _ hk).trans (b.cell 0),(s.cells _ _ hc).trans (c.cell 0),(s.cells _ _ hc).trans (c.cell 1),(s.cells _ _ hc).trans (c.cell 2),(s.cells _ _ hc).trans (c.cell 3),(s.cells _ _ hc).trans (c.cell 4),(s.cells _ _ hc).trans (c.cell 5),(s.cells _ _ hc).trans (c.cell 6),(s.cells _ _ hc).trans (c.cell 7)⟩
theorem open18 (w:World) (t t':TypeId) (x0 a0 a1 a2 a3 a4 a5 a6 a7:Value):∃ W,W = (w.alloc (.cells #[x0] t)).alloc (.cells #[a0,a1,a2,a3,a4,a5,a6,a7] t') ∧ Hid (Same w W) ∧
  w.heap.size < W.heap.size ∧ W.cell? ⟨w.heap.size,0,none⟩ = some x0 ∧ w.heap.size + 1 < W.heap.size ∧ W.cell? ⟨w.heap.size + 1,0,none⟩ = some a0 ∧ W.cell? ⟨w.heap.size + 1,1,none⟩ = some a1 ∧ W.cell? ⟨w.heap.size + 1,2,none⟩ = some a2 ∧ W.cell? ⟨w.heap.size + 1,3,none⟩ = some a3 ∧
   W.cell? ⟨w.heap.size + 1,4,none⟩ = some a4 ∧ W.cell? ⟨w.heap.size + 1,5,none⟩ = some a5 ∧ W.cell? ⟨w.heap.size + 1,6,none⟩ = some a6 ∧ W.cell? ⟨w.heap.size + 1,7,none⟩ = some a7:=by
 have hz:((w.alloc (.cells #[x0] t)).alloc (.cells #[a0,a1,a2,a3,a4,a5,a6,a7] t')).heap.size = w.heap.size + 2:=by simp
 obtain ⟨b0,c⟩:=in18 (Same.refl ((w.alloc (.cells #[x0] t)).alloc (.cells #[a0,a1,a2,a3,a4,a5,a6,a7] t')))
 exact ⟨_,rfl,((Same.refl w).alloc _).alloc _,by rw [hz];omega,b0,by rw [hz];omega,c⟩
theorem set3_at {w:World} {b:Nat} {t:TypeId} {x0 x1 x2:Value} (v0 v1 v2:Value) (h:Blk w b t #[x0,x1,x2]) :
  (((w.setCell ⟨b,0,none⟩ v0).setCell ⟨b,1,none⟩ v1).setCell ⟨b,2,none⟩ v2).cell? ⟨b,0,none⟩ = some v0 ∧ (((w.setCell ⟨b,0,none⟩ v0).setCell ⟨b,1,none⟩ v1).setCell ⟨b,2,none⟩ v2).cell? ⟨b,1,none⟩ = some v1 ∧
   (((w.setCell ⟨b,0,none⟩ v0).setCell ⟨b,1,none⟩ v1).setCell ⟨b,2,none⟩ v2).cell? ⟨b,2,none⟩ = some v2:=
 have u:=((h.set_ 0 v0).set_ 1 v1).set_ 2 v2
 ⟨u.cell 0,u.cell 1,u.cell 2⟩
end
structure V where
 k:Int
 n:Int
 s:ByteArray
def V.fields (v:V):Array Value:=#[.int .i64 v.k,.int .i64 v.n,.string v.s]
def V.val (v:V):Value:=.agg v.fields
def V.cells (v:V):List Value:=[.int .i64 v.k,.int .i64 v.n,.string v.s]
def V.zero:V:=⟨0,0,ByteArray.empty⟩
structure V.fine (v:V):Prop where
 k1:-9223372036854775808 ≤ v.k
 k2:v.k ≤ 9223372036854775807
 n1:-9223372036854775808 ≤ v.n
 n2:v.n ≤ 9223372036854775807
 s1:v.s.size ≤ 9223372036854775807
def V.low (k:Int):Int:=if k = 2 then -1000000000 else 0
def V.high (k:Int):Int:=if k = 2 then 1000000000 else if k = 3 then 73048 else if k = 4 then 1 else 0
def V.ok (v:V):Bool:=
 (decide (v.k = 1) || decide (v.s.size = 0)) && (decide (0 ≤ v.k) && decide (v.k ≤ 4)) && decide (v.s.size ≤ 200) && (decide (V.low v.k ≤ v.n) && decide (v.n ≤ V.high v.k))
theorem V.ext' {a b:V} (h1:a.k = b.k) (h2:a.n = b.n) (h3:a.s = b.s):a = b:=by cases a;cases b;simp_all
def V.same (a b:V):Bool:=decide (a.k = b.k) && (decide (a.n = b.n) && decide (a.s = b.s))
theorem V.same_iff {a b:V}:V.same a b = true ↔ a = b:=by
 constructor
 ·intro h;simp [V.same] at h;exact V.ext' h.1 h.2.1 h.2.2
 ·rintro rfl;simp [V.same]
theorem V.zero_ok:V.zero.ok = true:=by decide +kernel
theorem V.ok_iff {v:V}:v.ok = true ↔ (v.k = 1 ∨ v.s.size = 0) ∧ (0 ≤ v.k ∧ v.k ≤ 4) ∧ v.s.size ≤ 200 ∧ V.low v.k ≤ v.n ∧ v.n ≤ V.high v.k:=by
 simp [V.ok]
 constructor <;> intro h <;> simp_all
def letter (c:UInt8):Bool:=(decide (97 ≤ (c.toNat:Int)) && decide ((c.toNat:Int) ≤ 122)) || (decide (65 ≤ (c.toNat:Int)) && decide ((c.toNat:Int) ≤ 90))
def digit (c:UInt8):Bool:=decide (48 ≤ (c.toNat:Int)) && decide ((c.toNat:Int) ≤ 57)
def tailc (c:UInt8):Bool:=letter c || (digit c || decide ((c.toNat:Int) = 95))
def nameL:List UInt8 → Bool
 | [] => true
 | c :: l => letter c && l.all tailc
def nameB (s:ByteArray):Bool:=nameL (ba s) && (decide (s.size ≠ 0) && decide (s.size ≤ 24))
theorem nameL_snoc (l:List UInt8) (c:UInt8):nameL (l ++ [c]) = (nameL l && (if l = [] then letter c else tailc c)):=by
 cases l with
 | nil => simp [nameL]
 | cons d l => simp [nameL,Bool.and_assoc]
theorem isE (s:ByteArray):s.toList.isEmpty = decide (s.size = 0):=by
 rw [ByteArray.toList_eq,← ba_length]
 show (ba s).isEmpty = _
 cases ba s <;> simp
theorem isE_nil (s:ByteArray):s.toList = [] ↔ s.size = 0:=by
 have:=isE s
 constructor
 ·intro h;rw [h] at this;simpa using this
 ·intro h;rw [h] at this;simpa using this
theorem ret_bool {a b:Bool} (h:a = b):Ending.returned (.bool a) = .returned (.bool b):=by rw [h]
theorem ret_int {k:IntKind} {a b:Int} (h:a = b):Ending.returned (.int k a) = .returned (.int k b):=by rw [h]
theorem nameL_prefix (l m:List UInt8) (h:nameL l = false):nameL (l ++ m) = false:=by
 cases l with
 | nil => simp [nameL] at h
 | cons c l =>
  simp only [nameL,List.cons_append,List.all_append] at h ⊢
  rw [← Bool.and_assoc,h,Bool.false_and]
theorem take_snocB (s:ByteArray) (k:Nat) (h:k < s.size):(ba s).take (k + 1) = (ba s).take k ++ [s[k]]:=by
 have hk:k < (ba s).length:=by rw [ba_length];exact h
 rw [List.take_succ_eq_append_getElem hk];rfl
theorem nameL_step (s:ByteArray) (k:Nat) (h:k < s.size):nameL ((ba s).take (k + 1)) = (nameL ((ba s).take k) && (if k = 0 then letter s[k] else tailc s[k])):=by
 rw [take_snocB s k h,nameL_snoc]
 have e:((ba s).take k = []) ↔ k = 0:=by
  rw [← List.length_eq_zero_iff,List.length_take,ba_length];omega
 simp only [e]
theorem nameL_bad (s:ByteArray) (k:Nat) (h:nameL ((ba s).take k) = false):nameL (ba s) = false:=by
 rw [← List.take_append_drop k (ba s)]
 exact nameL_prefix _ _ h
theorem chr_iff {c:UInt8} {k:Nat}:(if k = 0 then letter c else tailc c) = true ↔ ((97 ≤ (c.toNat:Int) ∧ (c.toNat:Int) ≤ 122) ∨ (65 ≤ (c.toNat:Int) ∧ (c.toNat:Int) ≤ 90) ∨ (0 < k ∧ ((48 ≤ (c.toNat:Int) ∧ (c.toNat:Int) ≤ 57) ∨ (c.toNat:Int) = 95))):=by
 split <;> simp [letter,tailc,digit] <;> omega
def kindB (k:Int):Bool:=decide (1 ≤ k) && decide (k ≤ 4)
def fitB (k:Int) (v:V):Bool:=v.ok && (decide (v.k = 0) || decide (v.k = k))
structure At where
 name:ByteArray
 kind:Int
 was:List ByteArray
 dflt:V
structure Tb where
 name:ByteArray
 attrs:List At
 key:List Int
structure Cg where
 kind:Int
 table:ByteArray
 attr:ByteArray
 name:ByteArray
 to_:Int
 dflt:V
def idxB {α:Type} (p:α → Bool) (l:List α):Int:=match l.findIdx? p with | some i => (i:Int) | none => -1
theorem idxB_hit {α:Type} {p:α → Bool} {l:List α} (i:Nat) (h:i < l.length) (hp:p l[i] = true) (hn:∀ j (hj:j < i),p (l[j]'(by omega)) = false):idxB p l = i:=by
 have:l.findIdx? p = some i:=by
  rw [List.findIdx?_eq_some_iff_getElem]
  exact ⟨h,hp,fun j hj => by simp [hn j hj]⟩
 simp [idxB,this]
theorem idxB_miss {α:Type} {p:α → Bool} {l:List α} (hn:∀ j (hj:j < l.length),p l[j] = false):idxB p l = -1:=by
 have:l.findIdx? p = none:=by
  rw [List.findIdx?_eq_none_iff]
  intro x hx
  obtain ⟨j,hj,rfl⟩:=List.mem_iff_getElem.1 hx
  exact hn j hj
 simp [idxB,this]
theorem idxB_cases {α:Type} (p:α → Bool) (l:List α):(idxB p l = -1 ∧ ∀ j (hj:j < l.length),p l[j] = false) ∨ ∃ (i:Nat) (h:i < l.length),idxB p l = i ∧ p l[i] = true ∧ ∀ j (hj:j < i),p (l[j]'(by omega)) = false:=by
 cases h:l.findIdx? p with
 | none =>
  left
  refine ⟨by simp [idxB,h],fun j hj => ?_⟩
  rw [List.findIdx?_eq_none_iff] at h
  exact h _ (List.getElem_mem hj)
 | some i =>
  right
  have h':=h
  rw [List.findIdx?_eq_some_iff_getElem] at h'
  obtain ⟨h1,h2,h3⟩:=h'
  exact ⟨i,h1,by simp [idxB,h],h2,fun j hj => by simpa using h3 j hj⟩
theorem idxB_lt {α:Type} (p:α → Bool) (l:List α):-1 ≤ idxB p l ∧ idxB p l < l.length:=by
 rcases idxB_cases p l with ⟨h,_⟩ | ⟨i,h,e,_⟩
 ·omega
 ·omega
def namesOf (t:Tb):List ByteArray:=t.attrs.flatMap fun a => a.name :: a.was
def dupB:List ByteArray → Bool
 | [] => false
 | x :: l => l.any (fun y => decide (y = x)) || dupB l
def keyAt (n:Nat) (l:List Int) (i:Nat):Bool:=(decide (0 ≤ l.getD i 0) && decide (l.getD i 0 < n)) && (decide (i = 0) || decide (l.getD (i - 1) 0 < l.getD i 0))
def keyB (n:Nat) (l:List Int):Bool:=(List.range l.length).all (keyAt n l)
def attrB (a:At):Bool:=kindB a.kind && fitB a.kind a.dflt
def rightB (t:Tb):Bool:=
 nameB t.name && (decide (1 ≤ t.attrs.length) && decide (t.attrs.length ≤ 12) && decide (1 ≤ t.key.length)) && t.attrs.all attrB && (namesOf t).all nameB && !dupB (namesOf t) && keyB t.attrs.length t.key
def findT (s:List Tb) (nm:ByteArray):Int:=idxB (fun t => decide (t.name = nm)) s
def colA (l:List At) (nm:ByteArray):Int:=
 if 0 ≤ idxB (fun a => decide (a.name = nm)) l then idxB (fun a => decide (a.name = nm)) l else idxB (fun a => a.was.any fun x => decide (x = nm)) l
def validB (s:List Tb):Bool:=decide (s.length ≤ 20) && (List.range s.length).all fun i => match s[i]? with | some t => rightB t && decide (findT s t.name = i) | none => false
def fitsB (t:Tb) (row:List V):Bool:=decide (row.length = t.attrs.length) && (List.range row.length).all fun i => match t.attrs[i]?,row[i]? with | some a,some v => fitB a.kind v | _,_ => false
def formedB (c:Cg):Bool:=
 if c.kind = 1 then decide (c.attr.size = 0)
 else if c.kind = 2 then decide (c.name.size = 0) && (decide (c.to_ = 0) && V.same c.dflt V.zero)
 else if c.kind = 3 then decide (c.to_ = 0) && V.same c.dflt V.zero
 else if c.kind = 4 then decide (c.name.size = 0)
 else false
def typedB (c:Cg):Bool:=kindB c.to_ && fitB c.to_ c.dflt
def freshE (t:Tb) (c:Cg):Int:=if nameB c.name then (if 0 ≤ colA t.attrs c.name then 9 else 0) else 1
def checkE (t:Tb) (c:Cg) (a:Nat):Int:=
 if c.kind = 1 then (if typedB c then (if freshE t c ≠ 0 then freshE t c else if t.attrs.length = 12 then 3 else 0) else 1)
 else if c.kind = 2 then (if t.key.any (fun k => decide (k = (a:Int))) then 1 else 0)
 else if c.kind = 3 then freshE t c
 else (if typedB c && !decide ((t.attrs.map At.kind)[a]? = some c.to_) then 0 else 1)
def errOf (s:List Tb) (c:Cg):Int:=
 if formedB c && validB s then
  if findT s c.table < 0 then 11
  else match s[(findT s c.table).toNat]? with
   | none => 11
   | some t => if decide (c.kind ≠ 1) && decide (colA t.attrs c.attr < 0) then 11 else checkE t c (colA t.attrs c.attr).toNat
 else 1
def newA (l:List At) (c:Cg) (a:Nat):List At:=
 if c.kind = 1 then l ++ [⟨c.name,c.to_,[],c.dflt⟩]
 else if c.kind = 2 then l.eraseIdx a
 else if c.kind = 3 then l.modify a (fun x => ⟨c.name,x.kind,x.was ++ [x.name],x.dflt⟩)
 else l.modify a (fun x => ⟨x.name,c.to_,x.was,c.dflt⟩)
def newK (l:List Int) (c:Cg) (a:Nat):List Int:=if c.kind = 2 then l.map (fun k => if (a:Int) < k then k - 1 else k) else l
def newT (t:Tb) (c:Cg):Tb:=⟨t.name,newA t.attrs c (colA t.attrs c.attr).toNat,newK t.key c (colA t.attrs c.attr).toNat⟩
def applyS (s:List Tb) (c:Cg):List Tb:=s.modify (findT s c.table).toNat (fun t => newT t c)
def At.has (a:At) (x:ByteArray):Prop:=x = a.name ∨ x ∈ a.was
theorem colA_cases (l:List At) (x:ByteArray):(colA l x = -1 ∧ ∀ a ∈ l,¬ a.has x) ∨ ∃ (i:Nat) (h:i < l.length),colA l x = i ∧ l[i].has x:=by
 rcases idxB_cases (fun a:At => decide (a.name = x)) l with ⟨e,hn⟩ | ⟨i,hi,e,hp,_⟩
 ·rcases idxB_cases (fun a:At => a.was.any fun y => decide (y = x)) l with ⟨e2,hn2⟩ | ⟨i,hi,e2,hp,_⟩
  ·left
   refine ⟨by simp [colA,e,e2],?_⟩
   intro a ha
   obtain ⟨j,hj,rfl⟩:=List.mem_iff_getElem.1 ha
   have h1:=hn j hj
   have h2:=hn2 j hj
   simp at h1 h2
   rintro (h | h)
   ·exact h1 h.symm
   ·exact h2 _ h rfl
  ·right
   refine ⟨i,hi,by simp [colA,e,e2],.inr ?_⟩
   simpa using hp
 ·right
  refine ⟨i,hi,by simp [colA,e],.inl ?_⟩
  simpa using (by simpa using hp:l[i].name = x).symm
theorem colA_lt (l:List At) (x:ByteArray):-1 ≤ colA l x ∧ colA l x < l.length:=by
 rcases colA_cases l x with ⟨h,_⟩ | ⟨i,h,e,_⟩ <;> omega
theorem dupB_iff (l:List ByteArray):dupB l = false ↔ l.Nodup:=by
 induction l with
 | nil => simp [dupB]
 | cons x l ih =>
  simp only [dupB,Bool.or_eq_false_iff,ih,List.nodup_cons]
  constructor
  ·rintro ⟨h1,h2⟩
   refine ⟨fun hx => ?_,h2⟩
   simp at h1
   exact h1 x hx rfl
  ·rintro ⟨h1,h2⟩
   refine ⟨?_,h2⟩
   simp
   rintro y hy rfl
   exact h1 hy
def namesA (l:List At):List ByteArray:=l.flatMap fun a => a.name :: a.was
theorem mem_namesA {l:List At} {x:ByteArray}:x ∈ namesA l ↔ ∃ a ∈ l,a.has x:=by
 simp [namesA,At.has]
end Go.Proofs.YtfifnemnihcijaaGreatDoor
