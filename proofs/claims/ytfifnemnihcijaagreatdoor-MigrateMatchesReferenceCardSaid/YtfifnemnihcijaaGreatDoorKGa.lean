import Derived.Test.YtfifnemnihcijaaGreatDoorKTl
set_option linter.unusedSimpArgs false
set_option linter.unusedVariables false
set_option maxHeartbeats 16000000
set_option maxRecDepth 100000
namespace Go.Proofs.YtfifnemnihcijaaGreatDoor
open Go.RowKit
abbrev Row:=List V
structure Mg where
 s:List Tb
 c:Cg
 ti:Nat
 tabs:List (List Row)
 done:List Row
 failed:Bool
 closed:Bool
def Mg.rows (m:Mg):List Row:=m.tabs.getD m.ti []
def Mg.left (m:Mg):Nat:=m.rows.length - m.done.length
def Mg.one (m:Mg):Mg:=
 if m.failed then m else
 match m.rows[m.done.length]? with
 | none => m
 | some row => if (convS m.s m.c m.ti row).2 = 0 then { m with done:=m.done ++ [(convS m.s m.c m.ti row).1] } else { m with failed:=true }
def Mg.steps:Nat → Mg → Mg
 | 0,m => m
 | k + 1,m => Mg.steps k m.one
def Mg.count (m:Mg) (n:Int):Nat:=min (max n 0).toNat m.left
def Mg.step (m:Mg) (n:Int):Mg:=if m.closed then m else m.steps (m.count n)
def Mg.stepN (m:Mg) (n:Int):Nat:=if m.closed then 0 else (m.step n).left
def Mg.stepE (m:Mg) (n:Int):Int:=if m.closed then 22 else if (m.step n).failed then 15 else 0
def fitsT (s:List Tb) (tabs:List (List Row)):Bool:=decide (tabs.length = s.length) && (List.range tabs.length).all fun i => match s[i]?,tabs[i]? with | some t,some rows => rows.all (fitsB t) | _,_ => false
def Mg.putE (m:Mg) (t:Int) (row:Row):Int:=
 if m.closed then 22
 else if t < 0 then 1
 else match m.s[t.toNat]? with
  | none => 1
  | some tb => if fitsB tb row then 0 else 1
def putT (tabs:List (List Row)) (t:Int) (row:Row):List (List Row):=tabs.modify t.toNat (fun rows => rows ++ [row])
def Mg.put (m:Mg) (t:Int) (row:Row):Mg:=if m.putE t row = 0 then { m with tabs:=putT m.tabs t row } else m
def Mg.finE (m:Mg):Int:=if m.closed then 22 else if m.failed then 15 else if 0 < m.left then 12 else 0
def Mg.finish (m:Mg):Mg:=if m.finE = 0 then { m with closed:=true } else m
def Mg.abE (m:Mg):Int:=if m.closed then 22 else 0
def Mg.abandon (m:Mg):Mg:={ m with closed:=true }
def Mg.out (m:Mg):List (List Row):=m.tabs.set m.ti m.done
def startE (s:List Tb) (c:Cg) (tabs:List (List Row)):Int:=if validB s && fitsT s tabs then errOf s c else 1
def start (s:List Tb) (c:Cg) (tabs:List (List Row)):Mg:=⟨s,c,(findT s c.table).toNat,tabs,[],false,false⟩
structure Mg.Fine (m:Mg):Prop where
 err:errOf m.s m.c = 0
 at_:findT m.s m.c.table = m.ti
 til:m.ti < m.s.length
 len:m.tabs.length = m.s.length
 fit:∀ i (h1:i < m.tabs.length) (h2:i < m.s.length),∀ row ∈ m.tabs[i],fitsB m.s[i] row = true
 dl:m.done.length ≤ m.rows.length
 dn:∀ j (h1:j < m.done.length) (h2:j < m.rows.length),(convS m.s m.c m.ti m.rows[j]).2 = 0 ∧ m.done[j] = (convS m.s m.c m.ti m.rows[j]).1
 bad:m.failed = true → ∃ (h:m.done.length < m.rows.length),(convS m.s m.c m.ti m.rows[m.done.length]).2 ≠ 0
section
variable {m:Mg}
theorem Mg.one_tabs (m:Mg):m.one.tabs = m.tabs ∧ m.one.s = m.s ∧ m.one.c = m.c ∧ m.one.ti = m.ti ∧ m.one.closed = m.closed:=by
 unfold Mg.one
 split
 ·exact ⟨rfl,rfl,rfl,rfl,rfl⟩
 ·split
  ·exact ⟨rfl,rfl,rfl,rfl,rfl⟩
  ·split <;> exact ⟨rfl,rfl,rfl,rfl,rfl⟩
theorem Mg.one_rows (m:Mg):m.one.rows = m.rows:=by
 unfold Mg.rows;rw [(m.one_tabs).1,(m.one_tabs).2.2.2.1]
theorem Mg.steps_tabs:∀ (k:Nat) (m:Mg),(m.steps k).tabs = m.tabs ∧ (m.steps k).s = m.s ∧ (m.steps k).c = m.c ∧ (m.steps k).ti = m.ti ∧ (m.steps k).closed = m.closed
 | 0,_ => ⟨rfl,rfl,rfl,rfl,rfl⟩
 | k + 1,m => by
  obtain ⟨a,b,c,d,e⟩:=Mg.steps_tabs k m.one
  obtain ⟨a',b',c',d',e'⟩:=m.one_tabs
  exact ⟨a.trans a',b.trans b',c.trans c',d.trans d',e.trans e'⟩
theorem Mg.steps_rows (k:Nat) (m:Mg):(m.steps k).rows = m.rows:=by
 unfold Mg.rows;rw [(m.steps_tabs k).1,(m.steps_tabs k).2.2.2.1]
theorem Mg.one_cases (m:Mg):(m.one = m ∧ (m.failed = true ∨ m.rows.length ≤ m.done.length)) ∨
  (∃ (h:m.done.length < m.rows.length),m.failed = false ∧ (convS m.s m.c m.ti m.rows[m.done.length]).2 = 0 ∧ m.one = { m with done:=m.done ++ [(convS m.s m.c m.ti m.rows[m.done.length]).1] }) ∨
  (∃ (h:m.done.length < m.rows.length),m.failed = false ∧ (convS m.s m.c m.ti m.rows[m.done.length]).2 ≠ 0 ∧ m.one = { m with failed:=true }):=by
 cases hf:m.failed with
 | true => left;exact ⟨by unfold Mg.one;rw [if_pos hf],.inl rfl⟩
 | false =>
  by_cases hl:m.done.length < m.rows.length
  ·right
   by_cases hz:(convS m.s m.c m.ti m.rows[m.done.length]).2 = 0
   ·left
    refine ⟨hl,rfl,hz,?_⟩
    unfold Mg.one
    rw [if_neg (by rw [hf];simp),List.getElem?_eq_getElem hl]
    simp only
    rw [if_pos hz,hf]
   ·right
    refine ⟨hl,rfl,hz,?_⟩
    unfold Mg.one
    rw [if_neg (by rw [hf];simp),List.getElem?_eq_getElem hl]
    simp only
    rw [if_neg hz]
  ·left
   refine ⟨?_,.inr (by omega)⟩
   unfold Mg.one
   rw [if_neg (by rw [hf];simp),List.getElem?_eq_none (by omega)]
theorem Mg.Fine.one (h:m.Fine):m.one.Fine:=by
 rcases m.one_cases with ⟨e,_⟩ | ⟨hl,hf,hz,e⟩ | ⟨hl,hf,hz,e⟩
 ·rw [e];exact h
 ·rw [e]
  refine ⟨h.err,h.at_,h.til,h.len,h.fit,?_,?_,?_⟩
  ·show (m.done ++ [_]).length ≤ m.rows.length
   simp;omega
  ·intro j (h1:j < (m.done ++ [_]).length) (h2:j < m.rows.length)
   simp only [List.length_append,List.length_cons,List.length_nil] at h1
   show (convS m.s m.c m.ti m.rows[j]).2 = 0 ∧ (m.done ++ [(convS m.s m.c m.ti m.rows[m.done.length]).1])[j]'(by simp;omega) = (convS m.s m.c m.ti m.rows[j]).1
   by_cases hj:j < m.done.length
   ·rw [List.getElem_append_left hj];exact h.dn j hj h2
   ·have hj':j = m.done.length:=by omega
    subst hj'
    exact ⟨hz,by simp⟩
  ·intro hb
   exact absurd (hf.symm.trans hb) (by simp)
 ·rw [e]
  exact ⟨h.err,h.at_,h.til,h.len,h.fit,h.dl,h.dn,fun _ => ⟨hl,hz⟩⟩
theorem Mg.Fine.steps:∀ (k:Nat) {m:Mg},m.Fine → (m.steps k).Fine
 | 0,_,h => h
 | k + 1,_,h => Mg.Fine.steps k h.one
theorem Mg.steps_add:∀ (j k:Nat) (m:Mg),m.steps (j + k) = (m.steps j).steps k
 | 0,k,m => by rw [Nat.zero_add];rfl
 | j + 1,k,m => by rw [show j + 1 + k = (j + k) + 1 by omega];exact Mg.steps_add j k m.one
theorem Mg.steps_succ (k:Nat) (m:Mg):m.steps (k + 1) = (m.steps k).one:=by rw [Mg.steps_add];rfl
theorem Mg.steps_failed:∀ (k:Nat) (m:Mg),m.failed = true → m.steps k = m
 | 0,_,_ => rfl
 | k + 1,m,h => by
  have e:m.one = m:=by unfold Mg.one;rw [if_pos h]
  show (m.one).steps k = m
  rw [e];exact Mg.steps_failed k m h
theorem Mg.steps_left:∀ (k:Nat) (m:Mg),m.Fine → k ≤ m.left → ((m.steps k).left ≤ m.left ∧ m.left ≤ (m.steps k).left + k ∧ ((m.steps k).failed = false → (m.steps k).left + k = m.left))
 | 0,m,_,_ => ⟨Nat.le_refl _,by simp [Mg.steps],fun _ => by simp [Mg.steps]⟩
 | k + 1,m,h,hk => by
  rcases m.one_cases with ⟨e,hx⟩ | ⟨hl,hf,hz,e⟩ | ⟨hl,hf,hz,e⟩
  ·rcases hx with hx | hx
   ·rw [Mg.steps_failed _ m hx]
    refine ⟨Nat.le_refl _,by omega,fun h2 => ?_⟩
    rw [hx] at h2;cases h2
   ·unfold Mg.left at hk;omega
  ·have hl1:m.one.left + 1 = m.left:=by
    unfold Mg.left
    rw [m.one_rows,e]
    simp;omega
   obtain ⟨a,b,c⟩:=Mg.steps_left k m.one h.one (by omega)
   refine ⟨?_,?_,fun h2 => ?_⟩
   ·show (m.one.steps k).left ≤ _;omega
   ·show _ ≤ (m.one.steps k).left + (k + 1);omega
   ·have:=c h2
    show (m.one.steps k).left + (k + 1) = _;omega
  ·have hs:m.steps (k + 1) = m.one:=by
    show m.one.steps k = m.one
    exact Mg.steps_failed k _ (by rw [e])
   rw [hs]
   have hl1:m.one.left = m.left:=by unfold Mg.left;rw [m.one_rows,e]
   refine ⟨by omega,by omega,fun h2 => ?_⟩
   rw [e] at h2;cases h2
theorem Mg.Fine.step (h:m.Fine) (n:Int):(m.step n).Fine:=by
 unfold Mg.step
 split
 ·exact h
 ·exact h.steps _
end
theorem fitsT_iff {s:List Tb} {tabs:List (List Row)}:fitsT s tabs = true ↔ tabs.length = s.length ∧ ∀ i (h1:i < tabs.length) (h2:i < s.length),∀ row ∈ tabs[i],fitsB s[i] row = true:=by
 unfold fitsT
 simp only [Bool.and_eq_true,decide_eq_true_eq,List.all_eq_true,List.mem_range]
 constructor
 ·rintro ⟨h1,h2⟩
  refine ⟨h1,fun i ha hb row hr => ?_⟩
  have:=h2 i ha
  rw [List.getElem?_eq_getElem ha,List.getElem?_eq_getElem hb] at this
  simp only [List.all_eq_true] at this
  exact this row hr
 ·rintro ⟨h1,h2⟩
  refine ⟨h1,fun i hi => ?_⟩
  have hb:i < s.length:=by omega
  rw [List.getElem?_eq_getElem hi,List.getElem?_eq_getElem hb]
  simp only [List.all_eq_true]
  exact h2 i hi hb
theorem start_fine {s:List Tb} {c:Cg} {tabs:List (List Row)} (h:startE s c tabs = 0):(start s c tabs).Fine:=by
 unfold startE at h
 cases hv:validB s with
 | false => rw [hv] at h;simp at h
 | true =>
  cases hf:fitsT s tabs with
  | false => rw [hv,hf] at h;simp at h
  | true =>
   rw [hv,hf] at h
   simp only [Bool.and_self,if_true] at h
   obtain ⟨_,_,i,hi,hfi,_⟩:=errOf_zero h
   obtain ⟨hl,hr⟩:=fitsT_iff.1 hf
   have e:(start s c tabs).ti = i:=by show (findT s c.table).toNat = i;rw [hfi];rfl
   refine ⟨h,?_,?_,hl,hr,Nat.zero_le _,fun j h1 => absurd h1 (Nat.not_lt_zero _),fun hb => by cases hb⟩
   ·rw [e];exact hfi
   ·rw [e];exact hi
theorem Mg.Fine.put {m:Mg} (h:m.Fine) (t:Int) (row:Row):(m.put t row).Fine:=by
 unfold Mg.put
 by_cases hp:m.putE t row = 0
 ·rw [if_pos hp]
  unfold Mg.putE at hp
  by_cases hc:m.closed = true
  ·rw [if_pos hc] at hp;cases hp
  rw [if_neg hc] at hp
  by_cases ht:t < 0
  ·rw [if_pos ht] at hp;cases hp
  rw [if_neg ht] at hp
  cases hs:m.s[t.toNat]? with
  | none => rw [hs] at hp;cases hp
  | some tb =>
   rw [hs] at hp
   simp only at hp
   cases hfb:fitsB tb row with
   | false => rw [hfb] at hp;simp at hp
   | true =>
    obtain ⟨htl,htb⟩:=List.getElem?_eq_some_iff.1 hs
    have hle:∀ i,i < (putT m.tabs t row).length → i < m.tabs.length:=fun i hi => by simpa [putT] using hi
    have hrows:m.rows <+: (putT m.tabs t row).getD m.ti []:=by
     have hmt:m.ti < m.tabs.length:=by rw [h.len];exact h.til
     unfold putT Mg.rows
     rw [List.getD_eq_getElem?_getD,List.getD_eq_getElem?_getD,List.getElem?_modify,List.getElem?_eq_getElem hmt]
     simp only [Option.map_some,Option.getD_some]
     split
     ·exact List.prefix_append _ _
     ·exact List.prefix_refl _
    obtain ⟨tl,htl2⟩:=hrows
    have hr2:({ m with tabs:=putT m.tabs t row }:Mg).rows = m.rows ++ tl:=htl2.symm
    refine ⟨h.err,h.at_,h.til,by show (putT m.tabs t row).length = _;simp [putT,h.len],?_,?_,?_,?_⟩
    ·intro i h1 h2 r hr
     have h1':=hle i h1
     have e:(putT m.tabs t row)[i]'h1 = if t.toNat = i then m.tabs[i] ++ [row] else m.tabs[i]:=by
      simp only [putT]
      rw [List.getElem_modify]
     have hr':r ∈ (putT m.tabs t row)[i]'h1:=hr
     rw [e] at hr'
     show fitsB m.s[i] r = true
     split at hr'
     ·rename_i hti
      rcases List.mem_append.1 hr' with h3 | h3
      ·exact h.fit i h1' h2 r h3
      ·simp at h3
       subst h3
       have:m.s[i] = tb:=by rw [← htb];simp only [hti]
       rw [this];exact hfb
     ·exact h.fit i h1' h2 r hr'
    ·rw [hr2];have:=h.dl;simp only [List.length_append];omega
    ·intro j h1 h2
     have h1':j < m.done.length:=h1
     have hj:j < m.rows.length:=by have:=h.dl;omega
     simp only [hr2]
     rw [List.getElem_append_left hj]
     exact h.dn j h1' hj
    ·intro hb
     obtain ⟨h3,h4⟩:=h.bad hb
     refine ⟨by rw [hr2];simp only [List.length_append];show m.done.length < _;omega,?_⟩
     simp only [hr2]
     rw [List.getElem_append_left h3]
     exact h4
 ·rw [if_neg hp];exact h
theorem Mg.count_le (m:Mg) (n:Int):m.count n ≤ m.left:=Nat.min_le_right _ _
structure Chg (S:Nat → Prop) (w w':World):Prop where
 os:w'.os = w.os
 tape:w'.tape = w.tape
 output:w'.output = w.output
 size:w.heap.size ≤ w'.heap.size
 block:∀ k,k < w.heap.size → ¬ S k → w'.heap[k]? = w.heap[k]?
section
variable {S T:Nat → Prop} {a b c:World}
theorem Chg.refl (S:Nat → Prop) (w:World):Chg S w w:=⟨rfl,rfl,rfl,Nat.le_refl _,fun _ _ _ => rfl⟩
theorem Chg.trans (h:Chg S a b) (k:Chg T b c) (hT:∀ i,i < a.heap.size → T i → S i):Chg S a c:=
 ⟨k.os.trans h.os,k.tape.trans h.tape,k.output.trans h.output,Nat.le_trans h.size k.size,fun i hi hS => (k.block i (Nat.lt_of_lt_of_le hi h.size) (fun ht => hS (hT i hi ht))).trans (h.block i hi hS)⟩
theorem Chg.mono (h:Chg S a b) (hST:∀ i,i < a.heap.size → S i → T i):Chg T a b:=
 ⟨h.os,h.tape,h.output,h.size,fun i hi ht => h.block i hi (fun hs => ht (hST i hi hs))⟩
theorem Chg.drew (h:Chg S a b):Chg S a b.drew:=⟨h.os,h.tape,h.output,h.size,h.block⟩
theorem Chg.alloc (h:Chg S a b) (o:Obj):Chg S a (b.alloc o):=
 h.trans (T:=fun _ => False) ⟨rfl,rfl,rfl,by simp,fun k hk _ => Below.heap_alloc _ _ _ hk⟩ (fun _ _ h => h.elim)
theorem Chg.setCell (h:Chg S a b) (p:Addr) (u:Value) (hp:p.block < a.heap.size → S p.block):Chg S a (b.setCell p u):=
 h.trans (T:=fun k => k = p.block) ⟨rfl,rfl,rfl,by simp [World.setCell],fun k _ hne => Below.heap_setCell _ _ _ _ hne⟩ (fun _ hi e => by subst e;exact hp hi)
theorem Chg.of_same (h:Same a b):Chg S a b:=⟨h.os,h.tape,h.output,h.size,fun k hk _ => h.block k hk⟩
theorem Chg.then_same (h:Chg S a b) (s:Same b c):Chg S a c:=h.trans (T:=fun _ => False) (Chg.of_same s) (fun _ _ e => e.elim)
theorem Chg.grown {row:Option Nat} (h:Chg S a b) (g:b.grownBy c row) (hr:∀ k,row = some k → k < a.heap.size → S k):Chg S a c:=
 h.trans (T:=fun k => row = some k) ⟨g.os,g.tape,g.output,g.size,fun k hk hne => g.block k hk (fun e => hne e.symm)⟩ (fun i hi e => hr i e hi)
theorem Same.chg {W:World} (s:Same W a) (h:Chg S a b) (hS:∀ k,S k → W.heap.size ≤ k):Same W b:=
 ⟨h.os.trans s.os,h.tape.trans s.tape,h.output.trans s.output,Nat.le_trans s.size h.size,fun k hk => (h.block k (Nat.lt_of_lt_of_le hk s.size) (fun hs => by have:=hS k hs;omega)).trans (s.block k hk)⟩
theorem Blk.chg {g:Nat} {t:TypeId} {cs:Array Value} (h:Blk a g t cs) (c:Chg S a b) (hg:¬ S g):Blk b g t cs:=(c.block g h.lt hg).trans h
theorem own_chg {base:Nat} {e:TypeId} {size:Nat} {v:Value} {n:Nat} {xs:List Value} (h:a.ownsRow base e size v n xs) (c:Chg S a b) (hS:∀ k,v.ownBlock = some k → ¬ S k):b.ownsRow base e size v n xs:=by
 refine ⟨h.1,?_⟩
 rcases h.2 with hn | ⟨g,cap,cur,rfl,hbg,hgg,rest⟩
 ·exact .inl hn
 ·exact .inr ⟨g,cap,cur,rfl,hbg,(Blk.chg hgg c (hS g rfl)),rest⟩
theorem row_ty {w:World} {base:Nat} {e:TypeId} {size:Nat} {v:Value} {n k:Nat} {xs:List Value} (h:w.ownsRow base e size v n xs) (hk:v.ownBlock = some k):base ≤ k ∧ ∃ cs,Blk w k e cs:=by
 rcases h.2 with ⟨rfl,_⟩ | ⟨g,cap,cur,rfl,hbg,hgg,_⟩
 ·cases hk
 ·have:g = k:=by simpa [Value.ownBlock] using hk
  subst this
  exact ⟨hbg,cur,hgg⟩
end
def In (K:Nat → Prop) (h:Hd):Prop:=0 < h.n → ∃ b off,h.a = some ⟨b,off,none⟩ ∧ K b
section
variable {S K K':Nat → Prop} {w w':World} {h:Hd}
theorem In.mono (i:In K h) (hK:∀ k,K k → K' k):In K' h:=fun h0 => by
 obtain ⟨b,off,ha,hb⟩:=i h0
 exact ⟨b,off,ha,hK b hb⟩
theorem Lies.chg {α:Type} {m:Nat} {enc:α → List Value} {xs:List α} (l:Lies w m h enc xs) (c:Chg S w w') (i:In (fun k => ¬ S k) h):Lies w' m h enc xs:=
 ⟨l.1,l.2.1,fun k hk => by
  obtain ⟨b,off,ha,hb,hc⟩:=l.2.2 k hk
  obtain ⟨b',off',ha',hK⟩:=i (by rw [← l.1];omega)
  rw [ha] at ha'
  injection ha' with ha'
  injection ha' with e1 e2
  subst e1
  refine ⟨b,off,ha,Nat.lt_of_lt_of_le hb c.size,fun j v hv => ?_⟩
  rw [← hc j v hv]
  exact World.cell?_of_block (c.block b hb hK)⟩
theorem Lies.in_ {α:Type} {m:Nat} {enc:α → List Value} {xs:List α} (l:Lies w m h enc xs):In (fun k => k < w.heap.size) h:=fun h0 => by
 obtain ⟨b,off,ha,hb,_⟩:=l.2.2 0 (by rw [l.1];exact h0)
 exact ⟨b,off,ha,hb⟩
theorem RowAt.chg {r:Row} (l:RowAt w h r) (c:Chg S w w') (i:In (fun k => ¬ S k) h):RowAt w' h r:=⟨l.1.chg c i,l.2⟩
theorem RowAt.in_ {r:Row} (l:RowAt w h r):In (fun k => k < w.heap.size) h:=l.1.in_
theorem Fresh.in_ {B:Nat} {r:Row} (f:Fresh B h) (l:RowAt w h r):In (fun k => B ≤ k ∧ k < w.heap.size) h:=fun h0 => by
 obtain ⟨b,off,ha,hb⟩:=l.in_ h0
 exact ⟨b,off,ha,f _ ha,hb⟩
end
structure Rw where
 h:Hd
 v:Row
def Rw.cell (r:Rw):List Value:=[r.h.val]
theorem Rw.clen (r:Rw):r.cell.length = 1:=rfl
structure Tbl where
 h:Hd
 rs:List Rw
def Tbl.cell (t:Tbl):List Value:=[t.h.val]
theorem Tbl.clen (t:Tbl):t.cell.length = 1:=rfl
def Tbl.rows (t:Tbl):List Row:=t.rs.map Rw.v
def rowsOf (ts:List Tbl):List (List Row):=ts.map Tbl.rows
def RowIn (w:World) (K:Nat → Prop) (r:Rw):Prop:=RowAt w r.h r.v ∧ In K r.h
def RowsAt (w:World) (K:Nat → Prop) (t:Tbl):Prop:=Lies w 1 t.h Rw.cell t.rs ∧ In K t.h ∧ ∀ r ∈ t.rs,RowIn w K r
def TablesAt (w:World) (K:Nat → Prop) (h:Hd) (ts:List Tbl):Prop:=Lies w 1 h Tbl.cell ts ∧ In K h ∧ ∀ t ∈ ts,RowsAt w K t
section
variable {S K K':Nat → Prop} {w w':World}
theorem RowIn.chg {r:Rw} (h:RowIn w K r) (c:Chg S w w') (hK:∀ k,K k → ¬ S k):RowIn w' K r:=⟨h.1.chg c (h.2.mono hK),h.2⟩
theorem RowIn.mono {r:Rw} (h:RowIn w K r) (hK:∀ k,K k → k < w.heap.size → K' k):RowIn w K' r:=⟨h.1,fun h0 => by
 obtain ⟨b,off,ha,hb⟩:=h.2 h0
 obtain ⟨b',off',ha',hl⟩:=h.1.in_ h0
 rw [ha] at ha';injection ha' with ha';injection ha' with e1 e2
 subst e1
 exact ⟨b,off,ha,hK b hb hl⟩⟩
theorem RowsAt.chg {t:Tbl} (h:RowsAt w K t) (c:Chg S w w') (hK:∀ k,K k → ¬ S k):RowsAt w' K t:=⟨h.1.chg c (h.2.1.mono hK),h.2.1,fun r hr => (h.2.2 r hr).chg c hK⟩
theorem TablesAt.chg {h:Hd} {ts:List Tbl} (l:TablesAt w K h ts) (c:Chg S w w') (hK:∀ k,K k → ¬ S k):TablesAt w' K h ts:=⟨l.1.chg c (l.2.1.mono hK),l.2.1,fun t ht => (l.2.2 t ht).chg c hK⟩
theorem RowIn.same {r:Rw} (h:RowIn w K r) (s:Same w w'):RowIn w' K r:=⟨h.1.same s,h.2⟩
theorem RowsAt.same {t:Tbl} (h:RowsAt w K t) (s:Same w w'):RowsAt w' K t:=⟨h.1.same s,h.2.1,fun r hr => (h.2.2 r hr).same s⟩
theorem TablesAt.same {h:Hd} {ts:List Tbl} (l:TablesAt w K h ts) (s:Same w w'):TablesAt w' K h ts:=⟨l.1.same s,l.2.1,fun t ht => (l.2.2 t ht).same s⟩
end
structure MH where
 W0:World
 B:Nat
 g:Nat
 gs:Nat
 gc:Nat
 gm:Nat
 hs:Hd
 ts:List RT
 hn:Hd
 tn:List RT
 ho:Hd
 tb:List Tbl
 hd:Hd
 dr:List Rw
 lo:Nat
 hi:Nat → Prop
def MH.Like (p' p:MH):Prop:=p'.B = p.B ∧ p'.lo = p.lo ∧ p'.hi = p.hi
theorem MH.Like.refl (p:MH):MH.Like p p:=⟨rfl,rfl,rfl⟩
theorem MH.Like.trans {a b c:MH} (h:MH.Like a b) (k:MH.Like b c):MH.Like a c:=⟨h.1.trans k.1,h.2.1.trans k.2.1,h.2.2.trans k.2.2⟩
def MH.own (p:MH) (k:Nat):Prop:=k = p.g ∨ p.ho.val.ownBlock = some k ∨ (∃ t ∈ p.tb,t.h.val.ownBlock = some k) ∨ p.hd.val.ownBlock = some k
def Cg.arr (c:Cg):Array Value:=#[.int .i64 c.kind,.string c.table,.string c.attr,.string c.name,.int .i64 c.to_,.int .i64 c.dflt.k,.int .i64 c.dflt.n,.string c.dflt.s]
def MH.conv (p:MH):Value:=.func (.func 61) #[] #[.pointer (some ⟨p.gs,0,none⟩),.pointer (some ⟨p.gc,0,none⟩),.pointer (some ⟨p.gm,0,none⟩)]
def MH.cells (p:MH) (m:Mg):Array Value:=#[p.hs.val,p.hn.val,.int .i64 m.ti,p.ho.val,p.hd.val,p.conv,.bool m.failed,.bool m.closed]
structure MgStill (p:MH) (m:Mg):Prop where
 ts:TabsAt p.W0 p.hs p.ts
 tsm:p.ts.map RT.tb = m.s
 few:Few p.ts
 tsl:p.ts.length ≤ 1000000
 tn:TabsAt p.W0 p.hn p.tn
 tnm:p.tn.map RT.tb = applyS m.s m.c
 fewn:Few p.tn
 okn:okS m.c.name
 okd:okS m.c.dflt.s
 laid:Laid p.W0
 WB:p.W0.heap.size ≤ p.B
 gB:p.B ≤ p.g
structure MgAt (w:World) (p:MH) (m:Mg):Prop where
 st:MgStill p m
 same:Same p.W0 w
 blk:Blk w p.g 106 (p.cells m)
 bs:Blk w p.gs 24 #[p.hs.val]
 bc:Blk w p.gc 28 m.c.arr
 bm:Blk w p.gm 51 #[.pointer (some ⟨p.g,0,none⟩)]
 oo:w.ownsRow p.B 99 1 p.ho.val p.tb.length (p.tb.flatMap Tbl.cell)
 oh:p.ho.n = p.tb.length
 oi:∀ t ∈ p.tb,w.ownsRow p.B 29 1 t.h.val t.rs.length (t.rs.flatMap Rw.cell) ∧ t.h.n = t.rs.length
 tr:rowsOf p.tb = m.tabs
 od:w.ownsRow p.B 29 1 p.hd.val p.dr.length (p.dr.flatMap Rw.cell)
 dh:p.hd.n = p.dr.length
 dr:p.dr.map Rw.v = m.done
 rr:∀ t ∈ p.tb,∀ r ∈ t.rs,RowIn w (fun k => ¬ p.own k) r
 rd:∀ r ∈ p.dr,RowIn w (fun k => ¬ p.own k) r
 ai:∀ (i j:Nat) (hi:i < p.tb.length) (hj:j < p.tb.length),i ≠ j → ∀ k,p.tb[i].h.val.ownBlock = some k → p.tb[j].h.val.ownBlock ≠ some k
 ad:∀ t ∈ p.tb,∀ k,t.h.val.ownBlock = some k → p.hd.val.ownBlock ≠ some k
 fine:m.Fine
 rl:∀ t ∈ p.tb,∀ r ∈ t.rs,In (fun k => k < p.lo) r.h
 rh:∀ r ∈ p.dr,In p.hi r.h
 hw:∀ k,w.heap.size ≤ k → p.hi k
section
variable {w w':World} {p p':MH} {m m':Mg} {k:Nat}
theorem MgAt.own_ty (d:MgAt w p m) (hk:p.own k):p.B ≤ k ∧ ∃ t cs,Blk w k t cs ∧ (t = 106 ∨ t = 99 ∨ t = 29):=by
 rcases hk with rfl | hk | ⟨t,ht,hk⟩ | hk
 ·exact ⟨d.st.gB,_,_,d.blk,.inl rfl⟩
 ·obtain ⟨hb,cs,h⟩:=row_ty d.oo hk
  exact ⟨hb,_,_,h,.inr (.inl rfl)⟩
 ·obtain ⟨hb,cs,h⟩:=row_ty (d.oi t ht).1 hk
  exact ⟨hb,_,_,h,.inr (.inr rfl)⟩
 ·obtain ⟨hb,cs,h⟩:=row_ty d.od hk
  exact ⟨hb,_,_,h,.inr (.inr rfl)⟩
theorem MgAt.not_own (d:MgAt w p m) {t:TypeId} {cs:Array Value} (hb:Blk w k t cs) (h1:t ≠ 106) (h2:t ≠ 99) (h3:t ≠ 29):¬ p.own k:=by
 intro hk
 obtain ⟨_,t',cs',hb',ht⟩:=d.own_ty hk
 have:t ≠ t':=by rcases ht with rfl | rfl | rfl <;> assumption
 exact Blk.ne_ hb hb' this rfl
theorem MgAt.own_lt (d:MgAt w p m) (hk:p.own k):k < w.heap.size:=by
 obtain ⟨_,_,_,hb,_⟩:=d.own_ty hk
 exact hb.lt
theorem MgAt.own_ge (d:MgAt w p m) (hk:p.own k):p.W0.heap.size ≤ k:=Nat.le_trans d.st.WB (d.own_ty hk).1
theorem MgAt.kept {S:Nat → Prop} (d:MgAt w p m) (c:Chg S w w') (hS:∀ k,p.own k → ¬ S k) (hs:∀ k,k < p.W0.heap.size → ¬ S k) (h1:¬ S p.gs) (h2:¬ S p.gc) (h3:¬ S p.gm) (hr:∀ t ∈ p.tb,∀ r ∈ t.rs,In (fun k => ¬ S k) r.h) (hd:∀ r ∈ p.dr,In (fun k => ¬ S k) r.h):MgAt w' p m where
 st:=d.st
 same:=⟨c.os.trans d.same.os,c.tape.trans d.same.tape,c.output.trans d.same.output,Nat.le_trans d.same.size c.size,fun k hk => (c.block k (Nat.lt_of_lt_of_le hk d.same.size) (hs k hk)).trans (d.same.block k hk)⟩
 blk:=d.blk.chg c (hS _ (.inl rfl))
 bs:=d.bs.chg c h1
 bc:=d.bc.chg c h2
 bm:=d.bm.chg c h3
 oo:=own_chg d.oo c fun k hk => hS k (.inr (.inl hk))
 oh:=d.oh
 oi:=fun t ht => ⟨own_chg (d.oi t ht).1 c fun k hk => hS k (.inr (.inr (.inl ⟨t,ht,hk⟩))),(d.oi t ht).2⟩
 tr:=d.tr
 od:=own_chg d.od c fun k hk => hS k (.inr (.inr (.inr hk)))
 dh:=d.dh
 dr:=d.dr
 rr:=fun t ht r hr' => ⟨(d.rr t ht r hr').1.chg c (hr t ht r hr'),(d.rr t ht r hr').2⟩
 rd:=fun r hr' => ⟨(d.rd r hr').1.chg c (hd r hr'),(d.rd r hr').2⟩
 ai:=d.ai
 ad:=d.ad
 fine:=d.fine
 rl:=d.rl
 rh:=d.rh
 hw:=fun k hk => d.hw k (Nat.le_trans c.size hk)
theorem in_false {S:Nat → Prop} {h:Hd} (hS:∀ k,¬ S k) {w:World} {r:Row} (l:RowAt w h r):In (fun k => ¬ S k) h:=l.in_.mono fun k _ => hS k
theorem MgAt.next (d:MgAt w p m) (s:Same w w'):MgAt w' p m:=
 d.kept (S:=fun _ => False) (Chg.of_same s) (fun _ _ h => h) (fun _ _ h => h) (fun h => h) (fun h => h) (fun h => h) (fun t ht r hr => in_false (fun _ h => h) (d.rr t ht r hr).1) (fun r hr => in_false (fun _ h => h) (d.rd r hr).1)
def MTurn (w w':World) (p:MH) (m':Mg):Prop:=∃ p',MgAt w' p' m' ∧ p'.g = p.g ∧ p'.W0 = p.W0 ∧ MH.Like p' p ∧ Chg p.own w w' ∧ ∀ k,p'.own k → p.own k ∨ w.heap.size ≤ k
theorem MTurn.same (d:MgAt w p m) (s:Same w w'):MTurn w w' p m:=⟨p,d.next s,rfl,rfl,MH.Like.refl p,Chg.of_same s,fun _ hk => .inl hk⟩
theorem MTurn.trans {w1 w2:World} {p1:MH} {m2:Mg} (hg:p1.g = p.g) (hW:p1.W0 = p.W0) (hB:MH.Like p1 p) (c:Chg p.own w w1) (ho:∀ k,p1.own k → p.own k ∨ w.heap.size ≤ k) (t:MTurn w1 w2 p1 m2):MTurn w w2 p m2:=by
 obtain ⟨p2,d2,g2,W2,B2,c2,o2⟩:=t
 refine ⟨p2,d2,g2.trans hg,W2.trans hW,B2.trans hB,c.trans c2 ?_,?_⟩
 ·intro i hi h1i
  rcases ho i h1i with h | h
  ·exact h
  ·omega
 ·intro k hk
  rcases o2 k hk with h | h
  ·exact ho k h
  ·exact .inr (Nat.le_trans c.size h)
theorem row_in_new {w:World} {p p':MH} (ho:∀ k,p'.own k → p.own k ∨ w.heap.size ≤ k) {r:Rw} (h:RowIn w (fun k => ¬ p.own k) r):RowIn w (fun k => ¬ p'.own k) r:=
 h.mono fun k hk hl hk' => (ho k hk').elim hk (fun h => by omega)
theorem MgAt.turned (d:MgAt w p m) (c:Chg p.own w w') (st:MgStill p' m') (e0:p'.W0 = p.W0) (e1:p'.gs = p.gs) (e2:p'.gc = p.gc) (e3:p'.gm = p.gm) (eg:p'.g = p.g) (eh:p'.hs = p.hs) (ec:m'.c = m.c) (el:MH.Like p' p) (rl:∀ t ∈ p'.tb,∀ r ∈ t.rs,In (fun k => k < p.lo) r.h) (rh:∀ r ∈ p'.dr,In p.hi r.h)
  (blk:Blk w' p'.g 106 (p'.cells m'))
  (oo:w'.ownsRow p'.B 99 1 p'.ho.val p'.tb.length (p'.tb.flatMap Tbl.cell)) (oh:p'.ho.n = p'.tb.length)
  (oi:∀ t ∈ p'.tb,w'.ownsRow p'.B 29 1 t.h.val t.rs.length (t.rs.flatMap Rw.cell) ∧ t.h.n = t.rs.length)
  (tr:rowsOf p'.tb = m'.tabs)
  (od:w'.ownsRow p'.B 29 1 p'.hd.val p'.dr.length (p'.dr.flatMap Rw.cell)) (dh:p'.hd.n = p'.dr.length) (dr:p'.dr.map Rw.v = m'.done)
  (rr:∀ t ∈ p'.tb,∀ r ∈ t.rs,RowIn w' (fun k => ¬ p'.own k) r) (rd:∀ r ∈ p'.dr,RowIn w' (fun k => ¬ p'.own k) r)
  (ai:∀ (i j:Nat) (hi:i < p'.tb.length) (hj:j < p'.tb.length),i ≠ j → ∀ k,p'.tb[i].h.val.ownBlock = some k → p'.tb[j].h.val.ownBlock ≠ some k)
  (ad:∀ t ∈ p'.tb,∀ k,t.h.val.ownBlock = some k → p'.hd.val.ownBlock ≠ some k) (fine:m'.Fine):MgAt w' p' m' where
 st:=st
 same:=by rw [e0];exact d.same.chg c fun k hk => d.own_ge hk
 blk:=blk
 bs:=by rw [e1,eh];exact d.bs.chg c (d.not_own d.bs (by decide) (by decide) (by decide))
 bc:=by rw [e2,ec];exact d.bc.chg c (d.not_own d.bc (by decide) (by decide) (by decide))
 bm:=by rw [e3,eg];exact d.bm.chg c (d.not_own d.bm (by decide) (by decide) (by decide))
 oo:=oo
 oh:=oh
 oi:=oi
 tr:=tr
 od:=od
 dh:=dh
 dr:=dr
 rr:=rr
 rd:=rd
 ai:=ai
 ad:=ad
 fine:=fine
 rl:=by rw [el.2.1];exact rl
 rh:=by rw [el.2.2];exact rh
 hw:=by rw [el.2.2];exact fun k hk => d.hw k (Nat.le_trans c.size hk)
end
theorem usable_none (w:World):Calls Tryz.prog 63 #[.pointer none] w fun e w' => e = .returned (.int .i64 1) ∧ w = w':=by
 go_enter Tryz.func63,Tryz.ntmps63
 go_wp2
 go_ret
 exact ⟨rfl,rfl⟩
theorem usable_raw (g:Nat) (cl:Bool) (w:World) (h:w.cell? ⟨g,7,none⟩ = some (.bool cl)) :
  Calls Tryz.prog 63 #[.pointer (some ⟨g,0,none⟩)] w fun e w' => e = .returned (.int .i64 (if cl then 22 else 0)) ∧ w = w':=by
 cases cl
 all_goals
  go_enter Tryz.func63,Tryz.ntmps63
  go_wp2
  go_ret
  exact ⟨rfl,rfl⟩
theorem MgAt.cell {w:World} {p:MH} {m:Mg} (d:MgAt w p m) (i:Nat):w.cell? ⟨p.g,i,none⟩ = (p.cells m)[i]?:=d.blk.cell i
theorem usable_ok {w:World} {p:MH} {m:Mg} (d:MgAt w p m):Calls Tryz.prog 63 #[.pointer (some ⟨p.g,0,none⟩)] w fun e w' => e = .returned (.int .i64 m.abE) ∧ w = w':=
 usable_raw p.g m.closed w (d.cell 7)
theorem left_raw (g go k:Nat) (n c a ca b cb:Nat) (A B:Option Addr) (w:World) (hk:k < n) (hn:n ≤ 9223372036854775807) (hab:b ≤ a) (ha:a ≤ 9223372036854775807)
  (h2:w.cell? ⟨g,2,none⟩ = some (.int .i64 k)) (h3:w.cell? ⟨g,3,none⟩ = some (.slice (some ⟨go,0,none⟩) n c)) (h4:w.cell? ⟨g,4,none⟩ = some (.slice B b cb)) (hk':w.cell? ⟨go,k,none⟩ = some (.slice A a ca)) :
  Calls Tryz.prog 64 #[.pointer (some ⟨g,0,none⟩)] w fun e w' => e = .returned (.int .i64 ((a - b:Nat):Int)) ∧ Same w w':=by
 have k2:=cellr h2
 have k3:=cellr h3
 have k4:=cellr h4
 have kk:=cellr hk'
 have hk0:(0:Int) ≤ (k:Int):=by omega
 have hkn:(k:Int) < (n:Int):=by omega
 have hsub:IntKind.i64.wrap ((a:Int) - (b:Int)) = (a:Int) - (b:Int):=IntWalk.i64_in _ ⟨by omega,by omega⟩
 have HE:Hid ((a:Int) - (b:Int) = ((a - b:Nat):Int)):=Lib.hid (by omega)
 clear h2 h3 h4 hk' hab
 go_enter Tryz.func64,Tryz.ntmps64
 go_wp2_with fail
 refine wp_region_quiet_below (by kernel_rfl) (by kernel_rfl) ?_
 repeat (go_big_quiet_step (fail))
 refine wpQuiet_nil ?_
 intro _ hw'
 obtain ⟨⟨dq,osq⟩,hw''⟩:=hw'
 subst hw''
 have S1:=Lib.hid (Same.reg w dq osq)
 generalize Sort.grow (redrawn w dq) osq = w1 at S1 ⊢
 go_wp2_with fail
 go_ret
 exact ⟨ret_int HE.out,S1.out⟩
theorem MgAt.outer {w:World} {p:MH} {m:Mg} (d:MgAt w p m):∃ go c,p.ho = ⟨some ⟨go,0,none⟩,p.tb.length,c⟩ ∧ p.B ≤ go ∧ ∀ i (hi:i < p.tb.length),w.cell? ⟨go,i,none⟩ = some p.tb[i].h.val ∧ w.frozen? ⟨go,i,none⟩ = false:=by
 have hl:0 < p.tb.length:=by
  have:=congrArg List.length d.tr
  simp only [rowsOf,List.length_map] at this
  have h1:=d.fine.len
  have h2:=d.fine.til
  omega
 have oo:=d.oo
 have oh:=d.oh
 generalize p.ho = q at oo oh ⊢
 obtain ⟨A,n,c⟩:=q
 simp only at oh
 subst oh
 obtain ⟨go,cur,hA,hb,hk,_⟩:=own_blk oo hl
 subst hA
 refine ⟨go,c,rfl,hb,fun i hi => ⟨?_,hk.frozen i⟩⟩
 have:=own_cell Tbl.clen oo rfl i hi 0 (by decide)
 simpa [Tbl.cell] using this
theorem MgAt.tbl {w:World} {p:MH} {m:Mg} (d:MgAt w p m):p.tb.length = m.s.length ∧ ∀ i (hi:i < p.tb.length),∃ (h:i < m.tabs.length),m.tabs[i] = p.tb[i].rows:=by
 have e:=congrArg List.length d.tr
 simp only [rowsOf,List.length_map] at e
 refine ⟨by rw [e];exact d.fine.len,fun i hi => ⟨by omega,?_⟩⟩
 have h2:(rowsOf p.tb)[i]? = m.tabs[i]?:=by rw [d.tr]
 unfold rowsOf at h2
 rw [List.getElem?_map,List.getElem?_eq_getElem hi,List.getElem?_eq_getElem (by omega)] at h2
 exact (Option.some.inj h2).symm
theorem MgAt.rows {w:World} {p:MH} {m:Mg} (d:MgAt w p m):∃ (h:m.ti < p.tb.length),m.rows = p.tb[m.ti].rows:=by
 have h1:=d.fine.til
 obtain ⟨e,h2⟩:=d.tbl
 refine ⟨by omega,?_⟩
 obtain ⟨h3,h4⟩:=h2 m.ti (by omega)
 unfold Mg.rows
 rw [List.getD_eq_getElem?_getD,List.getElem?_eq_getElem h3]
 exact h4
theorem own_max {w:World} {base n:Nat} {e:TypeId} {v:Value} {xs:List Value} (o:w.ownsRow base e 1 v n xs):n ≤ 9223372036854775807:=by
 rcases o.2 with ⟨_,h⟩ | ⟨g,cap,cur,_,_,_,h1,h2,_⟩
 ·omega
 ·unfold maxLen at h2;omega
theorem left_ok {w:World} {p:MH} {m:Mg} (d:MgAt w p m):Calls Tryz.prog 64 #[.pointer (some ⟨p.g,0,none⟩)] w fun e w' => e = .returned (.int .i64 (m.left:Int)) ∧ Same w w':=by
 obtain ⟨go,c,ho,hB,hc⟩:=d.outer
 obtain ⟨hti,hr⟩:=d.rows
 have hd:=d.dr
 have hrl:m.rows.length = p.tb[m.ti].rs.length:=by rw [hr];simp [Tbl.rows]
 have hdl:m.done.length = p.dr.length:=by rw [← hd];simp
 obtain ⟨oi,oin⟩:=d.oi _ (List.getElem_mem hti)
 have hdd:=d.fine.dl
 have e:m.left = p.tb[m.ti].h.n - p.hd.n:=by unfold Mg.left;rw [hrl,hdl,oin,d.dh]
 rw [e]
 refine left_raw p.g go m.ti p.tb.length c _ _ _ _ _ _ w hti (own_max d.oo) (by rw [oin,d.dh];omega) (by rw [oin];exact own_max oi) (d.cell 2) ?_ (d.cell 4) (hc m.ti hti).1
 have:=d.cell 3
 rw [this]
 show some p.ho.val = _
 rw [ho];rfl
theorem Tryz.infoCR:(Tryz.prog.info? 29).map (fun i => (i.zero,i.size,i.bytes)) = some (some (.slice none 0 0),1,24):=by kernel_rfl
theorem cloneR_ok {α:Type} (h:Hd) (enc:α → List Value) (hm:∀ x,(enc x).length = 1) (h1:∀ x,∀ v ∈ enc x,v.oneCell' = true) (xs:List α) (w:World) (l:Lies w 1 h enc xs) (hn:h.n ≤ 1000000000) :
  Calls Tryz.prog 66 #[h.val] w fun e w' => e = .returned (.slice none 0 0) ∧ xs = [] ∧ Same w w' ∨ ∃ c g,e = .returned (.slice (some ⟨g,0,none⟩) xs.length c) ∧ Same w w' ∧ w'.ownsRow w.heap.size 29 1 (.slice (some ⟨g,0,none⟩) xs.length c) xs.length (xs.flatMap enc):=by
 obtain ⟨i0,hi0,hiz0,hiz1,hiz2⟩:=info_parts Tryz.infoCR
 have hr:=lies_reads hm l
 have hl:=l.1
 have hone:∀ u ∈ xs.flatMap enc,u.oneCell' = true:=by
  intro u hu
  obtain ⟨x,_,hx⟩:=List.mem_flatMap.1 hu
  exact h1 x u hx
 have hnil:xs = [] ↔ xs.length = 0:=by cases xs <;> simp
 obtain ⟨A,n,c⟩:=h
 simp only at hr hl hn
 subst hl
 have HR:=Lib.hid hr
 have H1:=Lib.hid hone
 have HNIL:=Lib.hid hnil
 clear l hm h1 hr hone hnil
 show Calls Tryz.prog 66 #[.slice A xs.length c] w _
 have q22:∀ (w:World) (a:Option Addr) (n c n' c':Nat),(binOp .eql 99 (.slice a n c) (.slice none n' c')).run Tryz.prog w = .ok (.bool a.isNone) w:=fun w a n c n' c' => Lib.run_eql_slice_nil w _ _ a n c n' c' Tryz.underlying99
 cases A with
 | none =>
  have h0:xs.length = 0:=by
   rcases Nat.eq_zero_or_pos xs.length with h | h
   ·exact h
   ·obtain ⟨_,h,_⟩:=HR.out.2 h
    cases h
  have HX:=Lib.hid (HNIL.out.2 h0)
  clear h0
  go_enter Tryz.func66,Tryz.ntmps66
  go_wp2
  go_ret
  exact .inl ⟨rfl,HX.out,Same.refl _⟩
 | some ad =>
  go_enter Tryz.func66,Tryz.ntmps66
  go_wp2_with (at_builtin;refine wpList_append_any _ rfl (.tmp 5) (.tmp 6) 99 rfl w.heap.size 29 i0 _ 1 24 Tryz.underlying99 hi0 hiz0 hiz1 hiz2 rfl (by decide) (.slice (some ⟨w.heap.size,0,none⟩) 0 0) 0 [] rfl (ownsRow_new w _ _) w.heap.size (some ad) xs.length c (xs.flatMap enc) rfl (HR.out.alloc (Nat.le_refl _) _) H1.out (by simp only [maxLen];omega) (by omega) (by simp) ?_;intro v1 w1 hown1 hg1 hat1;have OWN:=Lib.hid hown1;have G:=Lib.hid hg1;have AT:=Lib.hid hat1;clear hown1 hg1 hat1)
  go_ret
  have own:=OWN.out
  rw [List.nil_append,Nat.zero_add] at own
  have sm:Same w w1:=Below.grown ((Same.refl w).alloc _) G.out (by simp) (fun k hk => by simp [Value.ownBlock] at hk;omega)
  rcases Nat.eq_zero_or_pos xs.length with h0 | h0
  ·rcases own.2 with ⟨hv,_⟩ | ⟨g,cap,_,hv,_⟩
   ·exact .inl ⟨by rw [hv];rfl,HNIL.out.2 h0,sm⟩
   ·subst hv;exact .inr ⟨cap,g,rfl,sm,own⟩
  ·obtain ⟨g,cap,hv,_⟩:=own.form h0
   subst hv
   exact .inr ⟨cap,g,rfl,sm,own⟩
theorem cloneR' {α:Type} (h:Hd) (enc:α → List Value) (hm:∀ x,(enc x).length = 1) (h1:∀ x,∀ v ∈ enc x,v.oneCell' = true) (xs:List α) (w:World) (l:Lies w 1 h enc xs) (hn:h.n ≤ 1000000000) :
  Calls Tryz.prog 66 #[h.val] w fun e w' => ∃ h':Hd,e = .returned h'.val ∧ h'.n = xs.length ∧ Same w w' ∧ w'.ownsRow w.heap.size 29 1 h'.val xs.length (xs.flatMap enc):=by
 refine (cloneR_ok h enc hm h1 xs w l hn).mono ?_
 rintro e w' (⟨he,hx,s⟩ | ⟨c,g,he,s,o⟩)
 ·subst hx
  exact ⟨⟨none,0,0⟩,he,rfl,s,World.ownsRow_nil _ _ _ _⟩
 ·exact ⟨⟨some ⟨g,0,none⟩,xs.length,c⟩,he,rfl,s,o⟩
def TellsR {α:Type} (g:Nat) (caps:Array Value) (w:World) (enc:α → List Value) (p:α → Bool) (xs:List α):Prop:=
 ∀ x ∈ xs,∀ u,enc x = [u] → ∀ W,Same w W → Calls Tryz.prog g (#[u] ++ caps) W fun e W' => e = .returned (.bool (p x)) ∧ Same W W'
theorem indexR_ok {α:Type} (g:Nat) (caps:Array Value) (eg:∀ args w,(callFunc g args).run Tryz.prog w = .ok (.enter g args) w) (h:Hd) (enc:α → List Value) (h3:∀ x,∃ a,enc x = [a]) (p:α → Bool) (xs:List α) (w:World)
  (l:Lies w 1 h enc xs) (t:TellsR g caps w enc p xs) :
  Calls Tryz.prog 99 #[h.val,.func (.func g) #[] caps] w fun e w' => e = .returned (.int .i64 (idxB p xs)) ∧ Same w w':=by
 obtain ⟨A,n,c⟩:=h
 show Calls Tryz.prog 99 #[.slice A n c,.func (.func g) #[] caps] w _
 have hn:xs.length = n:=l.1
 have hb:n ≤ 9223372036854775807:=l.2.1
 subst hn
 have HL:=Lib.hid l
 have HT:=Lib.hid t
 have H3:=Lib.hid h3
 clear l t h3
 go_enter Tryz.func99,Tryz.ntmps99
 go_wp2
 go_loopw [8] (fun i wr => ∃ k:Nat,k ≤ xs.length ∧ i = .int .i64 k ∧ Hid (Same w wr) ∧ Hid (∀ j (hj:j < xs.length),j < k → p xs[j] = false)) (fun i _ => xs.length - (intOf i).toNat)
 case atStart => exact ⟨0,Nat.zero_le _,rfl,Same.refl w,fun j _ hj => absurd hj (Nat.not_lt_zero _)⟩
 case round =>
  obtain ⟨k,hk,rfl,S,N⟩:=hrel
  by_cases hlt:k < xs.length
  ·obtain ⟨b,off,hA,blt,hc⟩:=(HL.out.same S.out).2.2 k hlt
   have hA':A = some ⟨b,off,none⟩:=hA
   obtain ⟨va,he⟩:=H3.out xs[k]
   have hcall:∀ u,enc xs[k] = [u] → Calls Tryz.prog g (#[u] ++ caps) wr fun e W' => e = .returned (.bool (p xs[k])) ∧ Same wr W':=fun u hu => HT.out xs[k] (List.getElem_mem hlt) u hu wr S.out
   have hcall:=hcall va he
   rw [he] at hc
   have c0:=hc 0 _ rfl
   simp only [Nat.mul_one,Nat.add_zero] at c0
   have HC:=Lib.hid hcall
   clear hcall hc he hA
   subst hA'
   cases hq:p xs[k] with
   | true =>
    rw [hq] at HC
    have HQ:=Lib.hid hq
    clear hq
    go_wp2_with fail
    refine HC.out.mono ?_
    rintro e w' ⟨rfl,s1⟩
    have S1:=Lib.hid s1
    clear s1 c0
    go_wp2
    go_ret
    exact ⟨ret_int (idxB_hit k hlt HQ.out (fun j hj => N.out j (by omega) hj)).symm,S.out.trans S1.out⟩
   | false =>
    rw [hq] at HC
    have HQ:=Lib.hid hq
    clear hq
    go_wp2_with fail
    refine HC.out.mono ?_
    rintro e w' ⟨rfl,s1⟩
    have S1:=Lib.hid s1
    clear s1 c0
    go_wp2
    go_roundw
    case rel => exact ⟨k + 1,by omega,by go_num,S.out.trans S1.out,not_step hlt HQ.out N.out⟩
    case measure => simp [intOf];omega
  ·go_wp2
   go_ret
   exact ⟨ret_int (idxB_miss (fun j hj => N.out j hj (by omega))).symm,S.out⟩
theorem containsR_ok {α:Type} (g:Nat) (caps:Array Value) (eg:∀ args w,(callFunc g args).run Tryz.prog w = .ok (.enter g args) w) (h:Hd) (enc:α → List Value) (h3:∀ x,∃ a,enc x = [a]) (p:α → Bool) (xs:List α) (w:World)
  (l:Lies w 1 h enc xs) (t:TellsR g caps w enc p xs) :
  Calls Tryz.prog 85 #[h.val,.func (.func g) #[] caps] w fun e w' => e = .returned (.bool (xs.any p)) ∧ Same w w':=by
 have HC:=Lib.hid (indexR_ok g caps eg h enc h3 p xs w l t)
 have HE:=Lib.hid (any_idxB p xs)
 obtain ⟨r,hr⟩:∃ r,r = idxB p xs:=⟨_,rfl⟩
 rw [← hr] at HC HE
 clear hr l t h3 eg
 obtain ⟨A,n,c⟩:=h
 have HC':Hid (Calls Tryz.prog 99 #[.slice A n c,.func (.func g) #[] caps] w fun e w' => e = .returned (.int .i64 r) ∧ Same w w'):=HC
 clear HC
 show Calls Tryz.prog 85 #[.slice A n c,.func (.func g) #[] caps] w _
 go_enter Tryz.func85,Tryz.ntmps85
 go_wp2_with fail
 refine HC'.out.mono ?_
 rintro e w' ⟨rfl,s1⟩
 have S1:=Lib.hid s1
 clear s1
 go_wp2_with fail
 go_ret
 exact ⟨ret_bool HE.out.symm,S1.out⟩
structure OwnT (w:World) (B:Nat) (ho:Hd) (tb:List Tbl):Prop where
 oo:w.ownsRow B 99 1 ho.val tb.length (tb.flatMap Tbl.cell)
 oh:ho.n = tb.length
 oi:∀ t ∈ tb,w.ownsRow B 29 1 t.h.val t.rs.length (t.rs.flatMap Rw.cell) ∧ t.h.n = t.rs.length
 ai:∀ (i j:Nat) (hi:i < tb.length) (hj:j < tb.length),i ≠ j → ∀ k,tb[i].h.val.ownBlock = some k → tb[j].h.val.ownBlock ≠ some k
theorem own_base {w:World} {B B':Nat} {e:TypeId} {m n:Nat} {v:Value} {xs:List Value} (o:w.ownsRow B' e m v n xs) (h:B ≤ B'):w.ownsRow B e m v n xs:=
 ⟨o.1,o.2.elim .inl fun ⟨g,cap,cur,h1,h2,rest⟩ => .inr ⟨g,cap,cur,h1,Nat.le_trans h h2,rest⟩⟩
theorem own_far {w:World} {B:Nat} {e:TypeId} {m n:Nat} {v:Value} {xs:List Value} (o:w.ownsRow B e m v n xs) {g:Nat} (hg:v.ownBlock ≠ some g) (j:Nat) (u:Value):(w.setCell ⟨g,j,none⟩ u).ownsRow B e m v n xs:=
 own_chg o (S:=fun k => k = g) ((Chg.refl _ _).setCell _ _ (fun _ => rfl)) (fun k hk e => hg (by rw [hk,e]))
section
variable {w w':World} {B:Nat} {ho:Hd} {tb:List Tbl}
theorem OwnT.same (d:OwnT w B ho tb) (s:Same w w'):OwnT w' B ho tb:=⟨own_same s d.oo,d.oh,fun t ht => ⟨own_same s (d.oi t ht).1,(d.oi t ht).2⟩,d.ai⟩
theorem OwnT.head (d:OwnT w B ho tb) (h0:0 < tb.length):∃ g c,ho = ⟨some ⟨g,0,none⟩,tb.length,c⟩ ∧ B ≤ g ∧ g < w.heap.size ∧ ∀ i,w.frozen? ⟨g,i,none⟩ = false:=by
 have oo:=d.oo
 have oh:=d.oh
 generalize ho = q at oo oh ⊢
 obtain ⟨A,n,c⟩:=q
 simp only at oh
 subst oh
 obtain ⟨g,cur,hA,hb,hk,_⟩:=own_blk oo h0
 subst hA
 exact ⟨g,c,rfl,hb,hk.lt,fun i => hk.frozen i⟩
theorem OwnT.get {g c:Nat} (d:OwnT w B ⟨some ⟨g,0,none⟩,tb.length,c⟩ tb) (i:Nat) (hi:i < tb.length):w.cell? ⟨g,i,none⟩ = some tb[i].h.val:=by
 have:=own_cell Tbl.clen d.oo rfl i hi 0 (by decide)
 simpa [Tbl.cell] using this
theorem OwnT.inner_ne {g c:Nat} (d:OwnT w B ⟨some ⟨g,0,none⟩,tb.length,c⟩ tb) {t:Tbl} (o:w.ownsRow B 29 1 t.h.val t.rs.length (t.rs.flatMap Rw.cell)):t.h.val.ownBlock ≠ some g:=by
 intro e
 obtain ⟨_,cs,hb⟩:=row_ty o e
 obtain ⟨_,cs',hb'⟩:=row_ty d.oo (k:=g) rfl
 exact Blk.ne_ hb hb' (by decide) rfl
theorem OwnT.set_ {g c:Nat} (d:OwnT w B ⟨some ⟨g,0,none⟩,tb.length,c⟩ tb) (i:Nat) (hi:i < tb.length) (t:Tbl) (o:w.ownsRow B 29 1 t.h.val t.rs.length (t.rs.flatMap Rw.cell)) (hn:t.h.n = t.rs.length)
  (ha:∀ (j:Nat) (hj:j < tb.length),j ≠ i → ∀ k,t.h.val.ownBlock = some k → tb[j].h.val.ownBlock ≠ some k):OwnT (w.setCell ⟨g,i,none⟩ t.h.val) B ⟨some ⟨g,0,none⟩,tb.length,c⟩ (tb.set i t) where
 oo:=by
  rw [List.length_set]
  show (w.setCell ⟨g,i,none⟩ t.h.val).ownsRow B 99 1 (.slice (some ⟨g,0,none⟩) tb.length c) tb.length _
  have:=own_set Tbl.clen d.oo rfl i hi 0 (by decide) t.h.val t (by simp [Tbl.cell])
  simpa using this
 oh:=by rw [List.length_set]
 oi:=fun x hx => by
  rcases List.mem_or_eq_of_mem_set hx with h1 | h1
  ·exact ⟨own_far (d.oi x h1).1 (d.inner_ne (d.oi x h1).1) i _,(d.oi x h1).2⟩
  ·rw [h1];exact ⟨own_far o (d.inner_ne o) i _,hn⟩
 ai:=fun a b ha' hb' hab k => by
  rw [List.length_set] at ha' hb'
  rw [List.getElem_set,List.getElem_set]
  split
  ·rename_i e1
   subst e1
   rw [if_neg hab]
   exact ha b hb' (Ne.symm hab) k
  ·rename_i e1
   split
   ·rename_i e2
    subst e2
    intro h1 h2
    exact ha a ha' hab k h2 h1
   ·exact d.ai a b ha' hb' hab k
theorem OwnT.ge (d:OwnT w B ho tb) {t:Tbl} (ht:t ∈ tb) {k:Nat} (hk:t.h.val.ownBlock = some k):B ≤ k ∧ k < w.heap.size:=by
 obtain ⟨h1,cs,h2⟩:=row_ty (d.oi t ht).1 hk
 exact ⟨h1,h2.lt⟩
end
def nilT:Tbl:=⟨⟨none,0,0⟩,[]⟩
def nilsA (n:Nat):Array Value:=(List.replicate n (Value.slice none 0 0)).toArray
theorem Tryz.infoRows:(Tryz.prog.info? 99).map (fun i => (i.zero,i.size,i.bytes)) = some (some (.slice none 0 0),1,24):=by kernel_rfl
theorem made_nils (n:Nat):madeCells (Value.slice none 0 0).cells n = nilsA n:=by
 apply Array.ext'
 have h:=toList_madeCells_one (Value.slice none 0 0) n
 show (madeCells #[Value.slice none 0 0] n).toList = _
 rw [h];simp [nilsA]
theorem run_make_nils (n:Nat) (h2:n ≤ 1000000) (W:World):(Instr.makeSlice 48 (.int .i64 (n:Int)) (.int .i64 (n:Int))).run Tryz.prog W =
  .ok (.slice (some ⟨W.heap.size,0,none⟩) n n) (W.alloc (.cells (nilsA n) 99)):=by
 obtain ⟨i0,hi0,hz0,hz1,hz2⟩:=info_parts Tryz.infoRows
 have h:=run_make (P:=Tryz.prog) W 48 99 i0 _ Tryz.underlying48 hi0 hz0 .i64 .i64 (n:Int) (n:Int) (by omega) (by omega) (by rw [hz2];omega) (by omega)
 rw [h,hz1]
 have e:((n:Int)).toNat = n:=by omega
 rw [e,Nat.mul_one,made_nils]
theorem ownT_new (w:World) (n:Nat) (hn:n ≤ 1000000):OwnT (w.alloc (.cells (nilsA n) 99)) w.heap.size ⟨some ⟨w.heap.size,0,none⟩,n,n⟩ (List.replicate n nilT) where
 oo:=by
  rw [List.length_replicate]
  have e:(List.replicate n nilT).flatMap Tbl.cell = List.replicate n (Value.slice none 0 0):=by
   induction n with
   | zero => rfl
   | succ n ih => rw [List.replicate_succ,List.flatMap_cons,ih (by omega),List.replicate_succ];rfl
  rw [e]
  refine blk_own (Nat.le_refl _) (Blk.new w _ _) (by simp [nilsA]) (Nat.le_refl _) (show n ≤ maxLen by unfold maxLen;omega) (by simp [nilsA]) (by simp)
 oh:=by rw [List.length_replicate]
 oi:=fun t ht => by
  rw [List.eq_of_mem_replicate ht]
  exact ⟨World.ownsRow_nil _ _ _ _,rfl⟩
 ai:=fun i j hi hj _ k h => by
  rw [List.getElem_replicate] at h
  cases h
def nilsW (w:World) (n:Nat):World:=w.alloc (.cells (nilsA n) 99)
def CloneAt (w wr:World) (g n:Nat) (ts:List Tbl) (k:Nat):Prop:=∃ tb:List Tbl,tb.length = n ∧ OwnT wr w.heap.size ⟨some ⟨g,0,none⟩,tb.length,n⟩ tb ∧ Same w wr ∧ ∀ (j:Nat) (h1:j < tb.length) (h2:j < ts.length),tb[j].rs = if j < k then ts[j].rs else []
theorem clone_ok {K:Nat → Prop} (h:Hd) (ts:List Tbl) (w:World) (l:TablesAt w K h ts) (hn:ts.length ≤ 1000000) (hr:∀ t ∈ ts,t.rs.length ≤ 1000000000) :
  Calls Tryz.prog 60 #[h.val] w fun e w' => ∃ (ho:Hd) (tb:List Tbl),e = .returned ho.val ∧ OwnT w' w.heap.size ho tb ∧ Same w w' ∧ tb.map Tbl.rs = ts.map Tbl.rs:=by
 have hl:ts.length = h.n:=l.1.1
 obtain ⟨A,n,c⟩:=h
 simp only at hl
 subst hl
 have HL:=Lib.hid l
 have HR:=Lib.hid hr
 clear l hr
 show Calls Tryz.prog 60 #[.slice A ts.length c] w _
 have hmk:∀ W:World,(Instr.makeSlice 48 (.int .i64 (ts.length:Int)) (.int .i64 (ts.length:Int))).run Tryz.prog W = .ok (.slice (some ⟨W.heap.size,0,none⟩) ts.length ts.length) (nilsW W ts.length):=fun W => run_make_nils ts.length hn W
 obtain ⟨g,hg⟩:∃ g,g = w.heap.size:=⟨_,rfl⟩
 have hmk':=hmk w
 rw [← hg] at hmk'
 have HS:Hid (CloneAt w (nilsW w ts.length) g ts.length ts 0):=by
  refine ⟨List.replicate ts.length nilT,List.length_replicate,?_,(Same.refl w).alloc _,fun j h1 h2 => ?_⟩
  ·have:=ownT_new w ts.length hn
   rw [hg,List.length_replicate];exact this
  ·rw [List.getElem_replicate,if_neg (Nat.not_lt_zero _)];rfl
 have HG:=Lib.hid hg
 obtain ⟨w1,hw1⟩:∃ w1,w1 = nilsW w ts.length:=⟨_,rfl⟩
 rw [← hw1] at hmk' HS
 clear hg hw1 hmk
 go_enter Tryz.func60,Tryz.ntmps60
 go_wp2_with fail
 clear hmk'
 go_loopw [11] (fun i wr => ∃ k:Nat,k ≤ ts.length ∧ i = .int .i64 k ∧ Hid (CloneAt w wr g ts.length ts k)) (fun i _ => ts.length - (intOf i).toNat)
 case atStart => exact ⟨0,Nat.zero_le _,rfl,HS⟩
 case round =>
  obtain ⟨k,hk,rfl,C⟩:=hrel
  by_cases hlt:k < ts.length
  ·obtain ⟨tb,htb,O,S,R⟩:=C.out
   have HO:=Lib.hid O
   have SW:=Lib.hid S
   have HRS:=Lib.hid R
   have HTB:=Lib.hid htb
   clear O S R htb C
   obtain ⟨b,off,hA,blt,c0⟩:=(HL.out.1.same SW.out).one k hlt (v:=ts[k].h.val) rfl
   have hA':A = some ⟨b,off,none⟩:=hA
   have HC:=Lib.hid (cloneR' ts[k].h Rw.cell Rw.clen (fun x v hv => by simp [Rw.cell] at hv;rw [hv];rfl) ts[k].rs wr ((HL.out.2.2 _ (List.getElem_mem hlt)).1.same SW.out) (by rw [← (HL.out.2.2 _ (List.getElem_mem hlt)).1.1];exact HR.out _ (List.getElem_mem hlt)))
   obtain ⟨rs,hrs⟩:∃ rs,rs = ts[k].rs:=⟨_,rfl⟩
   rw [← hrs] at HC
   have HRSK:=Lib.hid hrs
   obtain ⟨hh,hhh⟩:∃ hh,hh = ts[k].h:=⟨_,rfl⟩
   rw [← hhh] at HC c0
   clear hhh hrs hA
   obtain ⟨A2,n2,c2⟩:=hh
   have HC':Hid (Calls Tryz.prog 66 #[.slice A2 n2 c2] wr fun e w' => ∃ A3 n3 c3,e = .returned (.slice A3 n3 c3) ∧ n3 = rs.length ∧ Same wr w' ∧ w'.ownsRow wr.heap.size 29 1 (.slice A3 n3 c3) rs.length (rs.flatMap Rw.cell)):=by
    refine Lib.hid (HC.out.mono ?_)
    rintro e w' ⟨⟨A3,n3,c3⟩,he,hn,s,o⟩
    exact ⟨A3,n3,c3,he,hn,s,o⟩
   have c0':wr.cell? ⟨b,off + k,none⟩ = some (.slice A2 n2 c2):=c0
   clear HC c0
   subst hA'
   have hk0:(0:Int) ≤ (k:Int):=by omega
   have hkI:(k:Int) < (ts.length:Int):=by omega
   go_wp2_with fail
   refine HC'.out.mono ?_
   rintro e w2 ⟨A3,n3,c3,rfl,hn',s2,o2⟩
   have HN:=Lib.hid hn'
   have HO2:Hid (OwnT w2 w.heap.size ⟨some ⟨g,0,none⟩,tb.length,ts.length⟩ tb):=HO.out.same s2
   have S2:=Lib.hid s2
   have O2:=Lib.hid o2
   have kg:=(HO2.out.get k (by rw [HTB.out];exact hlt))
   have fg:w2.frozen? ⟨g,k,none⟩ = false:=by
    obtain ⟨g',c',hh',_,_,hf⟩:=HO2.out.head (by rw [HTB.out];omega)
    have:g' = g:=by injection hh' with h1;injection h1 with h1;injection h1 with h1;exact h1.symm
    subst this;exact hf k
   show _
   have HFIN:Hid (CloneAt w (w2.setCell ⟨g,k,none⟩ (.slice A3 n3 c3)) g ts.length ts (k + 1)):=by
    have hkt:k < tb.length:=by rw [HTB.out];exact hlt
    refine ⟨tb.set k ⟨⟨A3,n3,c3⟩,rs⟩,by rw [List.length_set];exact HTB.out,?_,?_,?_⟩
    ·have:=HO2.out.set_ k hkt ⟨⟨A3,n3,c3⟩,rs⟩ (own_base O2.out SW.out.size) HN.out ?_
     ·rw [List.length_set];exact this
     ·intro j hj _ q hq hq2
      have h1:=(row_ty O2.out hq).1
      have h2:=(HO.out.ge (List.getElem_mem hj) hq2).2
      omega
    ·exact (SW.out.trans S2.out).setCell (by rw [← HG.out];exact Nat.le_refl _) _
    ·intro j h1 h2
     rw [List.length_set] at h1
     rw [List.getElem_set]
     split
     ·rename_i e1
      subst e1
      rw [if_pos (by omega),← HRSK.out]
     ·rename_i e1
      rw [HRS.out j h1 h2]
      by_cases hj:j < k
      ·rw [if_pos hj,if_pos (by omega)]
      ·rw [if_neg hj,if_neg (by omega)]
   obtain ⟨tk,htk⟩:∃ tk,tk = (tb[k]'(by rw [HTB.out];exact hlt)).h.val:=⟨_,rfl⟩
   rw [← htk] at kg
   clear hn' s2 o2 htk c0'
   go_wp2
   go_roundw
   case rel => exact ⟨k + 1,by omega,by go_num,HFIN⟩
   case measure => simp [intOf];omega
  ·have ek:k = ts.length:=by omega
   subst ek
   go_wp2
   go_ret
   obtain ⟨tb,htb,O,S,R⟩:=C.out
   refine ⟨⟨some ⟨g,0,none⟩,ts.length,ts.length⟩,tb,rfl,by rw [htb] at O;exact O,S,?_⟩
   apply List.ext_getElem (by simp [htb])
   intro j h1 h2
   simp only [List.length_map] at h1 h2
   rw [List.getElem_map,List.getElem_map,R j h1 h2,if_pos h2]
end Go.Proofs.YtfifnemnihcijaaGreatDoor
