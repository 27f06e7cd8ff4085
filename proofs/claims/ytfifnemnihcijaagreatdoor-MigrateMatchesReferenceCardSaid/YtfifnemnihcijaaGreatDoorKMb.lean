import Derived.Test.YtfifnemnihcijaaGreatDoorKMa
import Derived.Lib.SliceRun
import Derived.Deep.RegionLaw
set_option linter.unusedSimpArgs false
set_option linter.unusedVariables false
set_option maxHeartbeats 16000000
set_option maxRecDepth 100000
namespace Go.Proofs.YtfifnemnihcijaaGreatDoor
open Go.RowKit
def putL (l:List Value) (o:Nat) (vs:List Value):List Value:=l.take o ++ vs ++ l.drop (o + vs.length)
theorem putL_length (l:List Value) (o:Nat) (vs:List Value) (h:o + vs.length ≤ l.length):(putL l o vs).length = l.length:=by
 simp [putL];omega
theorem blk_setCells {g:Nat} {t:TypeId}:∀ (vs:List Value) (o:Nat) (l:List Value) (w:World),Blk w g t l.toArray → o + vs.length ≤ l.length → Blk (w.setCells g o vs) g t (putL l o vs).toArray
 | [],o,l,w,h,_ => by simpa [putL,World.setCells] using h
 | v :: r,o,l,w,h,hl => by
  simp only [List.length_cons] at hl
  have h1:Blk (w.setCell ⟨g,o,none⟩ v) g t (l.set o v).toArray:=by
   have:=h.set_ o v
   rwa [List.setIfInBounds_toArray] at this
  have h2:=blk_setCells r (o + 1) (l.set o v) _ h1 (by rw [List.length_set];omega)
  have e:putL (l.set o v) (o + 1) r = putL l o (v :: r):=by
   unfold putL
   rw [List.take_set,List.drop_set_of_lt (by omega),List.take_add_one,List.getElem?_eq_getElem (by omega)]
   have ht:(l.take o).length = o:=by simp;omega
   rw [show ((l.take o ++ (some l[o]).toList).set o v) = l.take o ++ [v] by
    rw [List.set_append_right _ _ (by omega),ht,Nat.sub_self];rfl]
   rw [List.length_cons,show o + 1 + r.length = o + (r.length + 1) by omega]
   simp
  rw [e] at h2
  exact h2
theorem heap_setCells_far (g:Nat):∀ (vs:List Value) (o:Nat) (w:World) (k:Nat),k ≠ g → (w.setCells g o vs).heap[k]? = w.heap[k]?
 | [],_,_,_,_ => rfl
 | v :: r,o,w,k,h => (heap_setCells_far g r (o + 1) _ k h).trans (Below.heap_setCell w ⟨g,o,none⟩ v k h)
theorem size_setCells (g:Nat):∀ (vs:List Value) (o:Nat) (w:World),(w.setCells g o vs).heap.size = w.heap.size
 | [],_,_ => rfl
 | v :: r,o,w => (size_setCells g r (o + 1) _).trans (by simp [World.setCell])
theorem os_setCells' (g:Nat):∀ (vs:List Value) (o:Nat) (w:World),(w.setCells g o vs).os = w.os ∧ (w.setCells g o vs).tape = w.tape ∧ (w.setCells g o vs).output = w.output
 | [],_,_ => ⟨rfl,rfl,rfl⟩
 | _ :: r,o,_ => os_setCells' g r (o + 1) _
theorem grown_setCells (g:Nat):∀ (vs:List Value) (o:Nat) (w:World),w.grownBy (w.setCells g o vs) (some g):=by
 intro vs o w
 obtain ⟨h1,h2,h3⟩:=os_setCells' g vs o w
 exact ⟨h1,h2,h3,by rw [size_setCells];exact Nat.le_refl _,fun k _ hn => heap_setCells_far g vs o w k (fun e => hn (by rw [e]))⟩
section
variable {P:Program}
theorem run_clear_one (w:World) (t e ty:TypeId) (z:Value) (zs:List Value) (ht:P.underlying t = some (.slice e)) (hv:∀ w,(zeroValue e).run P w = .ok z w) (hz:z.cells = zs.toArray) (h1:∀ u ∈ zs,u.oneCell' = true) (b o c:Nat)
  (hc:∀ j,j < zs.length → (w.cell? ⟨b,o + j,none⟩).isSome = true) (hf:∀ j,j < zs.length → w.frozen? ⟨b,o + j,none⟩ = false) :
  (Builtin.clear_ #[t] ty #[.slice (some ⟨b,o,none⟩) 1 c]).run P w = .ok (.tuple #[]) (w.setCells b o zs):=by
 have hzc:(Builtin.zeroCells z.cells 1).toList = zs:=by
  rw [hz]
  simp [Builtin.zeroCells]
  apply List.ext_getElem
  ·simp
  ·intro i h1 h2
   simp [Nat.mod_eq_of_lt h2,h2]
 have hst:=run_storeCells_cells (P:=P) b o zs 0 w (by simpa using hc) (by simpa using hf) h1
 simp only [Nat.add_zero] at hst
 simp [Builtin.clear_,run_underlying ht,hv,hzc,hst]
end
theorem own_set {α:Type} {enc:α → List Value} {m:Nat} (hm:∀ x,(enc x).length = m) {w:World} {B g n c:Nat} {e:TypeId} {xs:List α} (o:w.ownsRow B e m (.slice (some ⟨g,0,none⟩) n c) n (xs.flatMap enc)) (hl:xs.length = n)
  (i:Nat) (hi:i < n) (j:Nat) (hj:j < m) (v:Value) (y:α) (hy:enc y = (enc (xs[i]'(by omega))).set j v) :
  (w.setCell ⟨g,i * m + j,none⟩ v).ownsRow B e m (.slice (some ⟨g,0,none⟩) n c) n ((xs.set i y).flatMap enc):=by
 subst hl
 obtain ⟨g',cur,hA,hb,hk,hs,hnc,hcm,ht⟩:=own_blk o (by omega)
 injection hA with hA
 injection hA with e1
 subst e1
 have h2:=hk.set_ (i * m + j) v
 have hin:i * m + j < cur.size:=by
  rw [hs]
  have:(i + 1) * m ≤ c * m:=Nat.mul_le_mul_right m (by omega)
  rw [Nat.add_mul] at this;omega
 refine blk_own hb h2 (by rw [Array.size_setIfInBounds];exact hs) hnc hcm ?_ (by rw [flat_len hm,List.length_set])
 refine flat_set hm xs i y hi cur.toList ht _ (by simp) ?_ ?_
 ·intro k hk'
  rw [hy]
  have hx:=flat_get hm xs i hi k hk'
  have hx2:cur.toList[i * m + k]? = (enc xs[i])[k]?:=by
   rw [← hx,← ht,List.getElem?_take,if_pos]
   have:(i + 1) * m ≤ xs.length * m:=Nat.mul_le_mul_right m (by omega)
   rw [Nat.add_mul] at this;omega
  by_cases hkj:k = j
  ·subst hkj
   have:k < (enc xs[i]).length:=by rw [hm];exact hk'
   simp [hin,this]
  ·rw [List.getElem?_set_ne (by omega),← hx2,Array.toList_setIfInBounds,List.getElem?_set_ne (by omega)]
 ·intro k hk'
  rw [Array.toList_setIfInBounds,List.getElem?_set_ne (by omega)]
theorem own_cell {α:Type} {enc:α → List Value} {m:Nat} (hm:∀ x,(enc x).length = m) {w:World} {B g n c:Nat} {e:TypeId} {xs:List α} (o:w.ownsRow B e m (.slice (some ⟨g,0,none⟩) n c) n (xs.flatMap enc)) (hl:xs.length = n)
  (i:Nat) (hi:i < n) (j:Nat) (hj:j < m):w.cell? ⟨g,i * m + j,none⟩ = (enc (xs[i]'(by omega)))[j]?:=by
 subst hl
 have:(i + 1) * m ≤ xs.length * m:=Nat.mul_le_mul_right m (by omega)
 rw [Nat.add_mul] at this
 rw [o.cellAt _ (by omega),flat_get hm xs i hi j hj]
theorem own_off' {w:World} {B n c k:Nat} {e:TypeId} {m:Nat} {A:Option Addr} {xs:List Value} (o:w.ownsRow B e m (.slice A n c) n xs) (hne:A ≠ some ⟨k,0,none⟩) (j:Nat) (v:Value):(w.setCell ⟨k,j,none⟩ v).ownsRow B e m (.slice A n c) n xs:=by
 refine ownsRow_setCell_other o (a:=⟨k,j,none⟩) ?_ v
 rcases o.2 with ⟨he,_⟩ | ⟨g',cap,cur,hv,_⟩
 ·injection he with e1;subst e1;simp [Value.ownBlock]
 ·injection hv with e1
  subst e1
  intro h
  apply hne
  simp [Value.ownBlock] at h
  rw [h]
theorem own_del {w:World} {B g n c m i:Nat} {e:TypeId} {xs:List Value} (o:w.ownsRow B e m (.slice (some ⟨g,0,none⟩) n c) n xs) (hi:i < n) (zs:List Value) (hz:zs.length = m) :
  ((w.setCells g (i * m) (xs.drop ((i + 1) * m))).setCells g ((n - 1) * m) zs).ownsRow B e m (.slice (some ⟨g,0,none⟩) (n - 1) c) (n - 1) (xs.take (i * m) ++ xs.drop ((i + 1) * m)):=by
 obtain ⟨g',cur,hA,hb,hk,hs,hnc,hcm,ht⟩:=own_blk o (by omega)
 injection hA with hA
 injection hA with e1
 subst e1
 have hxl:=o.1
 have q1:(i + 1) * m ≤ n * m:=Nat.mul_le_mul_right m (by omega)
 have q2:n * m ≤ c * m:=Nat.mul_le_mul_right m hnc
 have q3:(i + 1) * m = i * m + m:=by rw [Nat.add_mul];omega
 have q4:(n - 1) * m + m = n * m:=by
  obtain ⟨k,rfl⟩:∃ k,n = k + 1:=⟨n - 1,by omega⟩
  rw [Nat.add_mul];simp
 have hcl:cur.toList.length = c * m:=by simp [hs]
 have hk':Blk w g e cur.toList.toArray:=by simpa using hk
 have b1:=blk_setCells (xs.drop ((i + 1) * m)) (i * m) cur.toList w hk' (by rw [List.length_drop];omega)
 have l1:(putL cur.toList (i * m) (xs.drop ((i + 1) * m))).length = c * m:=by rw [putL_length _ _ _ (by rw [List.length_drop];omega),hcl]
 have b2:=blk_setCells zs ((n - 1) * m) _ _ b1 (by rw [l1];omega)
 refine blk_own hb b2 ?_ (by omega) hcm ?_ ?_
 ·rw [List.size_toArray,putL_length _ _ _ (by rw [l1];omega),l1]
 ·have lx:xs.take (i * m) = cur.toList.take (i * m):=by rw [← ht,List.take_take,Nat.min_eq_left (by omega)]
  have la:(xs.take (i * m)).length = i * m:=by rw [List.length_take];omega
  have lb:(xs.drop ((i + 1) * m)).length = (n - 1) * m - i * m:=by rw [List.length_drop];omega
  show (putL _ _ zs).take ((n - 1) * m) = _
  unfold putL
  rw [List.append_assoc,List.take_append_of_le_length (by rw [List.length_take];have:=l1;unfold putL at this;omega),List.take_take,Nat.min_self,← lx,List.append_assoc,← List.append_assoc]
  rw [List.take_append_of_le_length (by rw [List.length_append,la,lb];omega),List.take_of_length_le (by rw [List.length_append,la,lb];omega)]
 ·rw [List.length_append,List.length_take,List.length_drop];omega
section
variable {W0 w w':World} {g c i:Nat} {ts:List RT} {t:RT}
theorem flat_same {ts:List RT} {i:Nat} {t t':RT} (h:ts[i]? = some t) (e:t'.cells = t.cells):(ts.set i t').flatMap RT.cells = ts.flatMap RT.cells:=by
 induction ts generalizing i with
 | nil => simp
 | cons x ts ih =>
  cases i with
  | zero =>
   have hx:x = t:=by simpa using h
   subst hx
   simp [e]
  | succ i =>
   have:=ih (i:=i) (by simpa using h)
   simp [this]
theorem TabState.lt (S:TabState W0 w g c ts i t):i < ts.length:=(List.getElem?_eq_some_iff.1 S.ti).1
theorem TabState.get (S:TabState W0 w g c ts i t):ts[i]'S.lt = t:=(List.getElem?_eq_some_iff.1 S.ti).2
theorem TabState.g_le (S:TabState W0 w g c ts i t):W0.heap.size ≤ g ∧ g < w.heap.size:=by
 obtain ⟨g',cap,hv,hb,hlt⟩:=S.row.form (Nat.lt_of_le_of_lt (Nat.zero_le _) S.lt)
 injection hv with e1
 injection e1 with e1
 injection e1 with e1
 subst e1
 exact ⟨hb,hlt⟩
theorem TabState.drew (S:TabState W0 w g c ts i t):TabState W0 w.drew g c ts i t:=⟨S.s.drew,S.row.drew,S.ti,S.an,S.ar.drew,S.kn,S.kr.drew⟩
theorem TabState.alloc (S:TabState W0 w g c ts i t) (o:Obj):TabState W0 (w.alloc o) g c ts i t:=⟨S.s.alloc o,S.row.alloc o,S.ti,S.an,S.ar.alloc o,S.kn,S.kr.alloc o⟩
theorem row_ne {w:World} {B1 B2:Nat} {e1 e2:TypeId} {m1 m2 n1 n2:Nat} {v:Value} {A:Addr} {cc:Nat} {xs ys:List Value} (h1:w.ownsRow B1 e1 m1 v n1 xs) (h2:w.ownsRow B2 e2 m2 (.slice (some A) n2 cc) n2 ys) (hne:e1 ≠ e2):v.ownBlock ≠ some A.block:=by
 rcases h2.2 with ⟨hv,_⟩ | ⟨g',cap,cur,hv,_,hh,_⟩
 ·cases hv
 ·injection hv with e
  injection e with e
  subst e
  exact own_blk_ne h1 hh hne
theorem TabState.setA (S:TabState W0 w g c ts i t) {ga ca:Nat} (hh:t.ha.a = some ⟨ga,0,none⟩) (hcc:t.ha.c = ca) (a:Nat) (ha:a < t.ra.length) (j:Nat) (hj:j < 6) (v:Value) (y:RA) (hy:y.cells = t.ra[a].cells.set j v) :
  TabState W0 (w.setCell ⟨ga,a * 6 + j,none⟩ v) g c (ts.set i { t with ra:=t.ra.set a y }) i { t with ra:=t.ra.set a y }:=by
 have hval:t.ha.val = .slice (some ⟨ga,0,none⟩) t.ra.length ca:=by
  unfold Hd.val
  rw [hh,hcc,S.an]
 have har:=S.ar
 rw [hval] at har
 have hg1:g ≠ ga:=fun e => row_ne S.row har (by decide) (by simp [Value.ownBlock,e])
 have hg2:=row_ne S.kr har (by decide)
 have hb:W0.heap.size ≤ ga:=by
  obtain ⟨g',cap,hv,hb,hlt⟩:=har.form (by omega)
  injection hv with e1
  injection e1 with e1
  injection e1 with e1
  subst e1
  exact hb
 refine ⟨S.s.setCell (p:=⟨ga,a * 6 + j,none⟩) hb v,?_,by simp [S.lt],?_,?_,S.kn,?_⟩
 ·rw [List.length_set,flat_same S.ti (t':={ t with ra:=t.ra.set a y }) rfl]
  exact own_off' S.row (fun e => hg1 (by injection e with e;injection e)) _ v
 ·show t.ha.n = (t.ra.set a y).length
  rw [List.length_set,S.an]
 ·show (w.setCell _ v).ownsRow _ _ 6 t.ha.val (t.ra.set a y).length ((t.ra.set a y).flatMap RA.cells)
  rw [List.length_set,hval]
  exact own_set RA.clen har rfl a ha j hj v y hy
 ·exact ownsRow_setCell_other S.kr (a:=⟨ga,a * 6 + j,none⟩) (by intro h;exact hg2 h) v
theorem TabState.newA (S:TabState W0 w g c ts i t) {w1:World} {A:Option Addr} {ca:Nat} {ra:List RA} (G:w.grownBy w1 t.ha.val.ownBlock) (o:w1.ownsRow W0.heap.size 82 6 (.slice A ra.length ca) ra.length (ra.flatMap RA.cells)) :
  TabState W0 (w1.setCell ⟨g,i * 3 + 1,none⟩ (.slice A ra.length ca)) g c (ts.set i { t with ra:=ra,ha:=⟨A,ra.length,ca⟩ }) i { t with ra:=ra,ha:=⟨A,ra.length,ca⟩ }:=by
 have n1:=row_ne S.ar S.row (by decide)
 have n2:t.hk.val.ownBlock = none ∨ t.hk.val.ownBlock ≠ t.ha.val.ownBlock:=by
  rcases S.ar.2 with ⟨hv,_⟩ | ⟨g',cap,cur,hv,_,hh',_⟩
  ·rcases hk:t.hk.val.ownBlock with _ | q
   ·exact .inl rfl
   ·right;rw [hv];simp [Value.ownBlock]
  ·right
   rw [hv]
   exact own_blk_ne S.kr hh' (by decide)
 have r1:=S.row.kept G (.inr (fun e => n1 e.symm))
 have k1:=S.kr.kept G n2
 have hgl:=S.g_le
 have s1:Same W0 w1:=Below.grown S.s G S.s.size (fun k hk => (S.ar.lt k hk).1)
 refine ⟨s1.setCell (p:=⟨g,i * 3 + 1,none⟩) hgl.1 _,?_,by simp [S.lt],rfl,?_,S.kn,?_⟩
 ·rw [List.length_set]
  refine own_set RT.clen r1 rfl i S.lt 1 (by omega) _ _ ?_
  rw [S.get]
  rfl
 ·refine own_off' o ?_ _ _
  intro e
  subst e
  exact row_ne r1 o (by decide) rfl
 ·refine ownsRow_setCell_other k1 (a:=⟨g,i * 3 + 1,none⟩) ?_ _
  exact row_ne (e2:=44) (A:=⟨g,0,none⟩) k1 r1 (by decide)
theorem TabState.setK (S:TabState W0 w g c ts i t) {gk ck:Nat} (hh:t.hk.a = some ⟨gk,0,none⟩) (hcc:t.hk.c = ck) (a:Nat) (ha:a < t.key.length) (v:Int) :
  TabState W0 (w.setCell ⟨gk,a,none⟩ (.int .i64 v)) g c (ts.set i { t with key:=t.key.set a v }) i { t with key:=t.key.set a v }:=by
 have hval:t.hk.val = .slice (some ⟨gk,0,none⟩) t.key.length ck:=by
  unfold Hd.val
  rw [hh,hcc,S.kn]
 have hkr:=S.kr
 rw [hval] at hkr
 have hg1:g ≠ gk:=fun e => row_ne S.row hkr (by decide) (by simp [Value.ownBlock,e])
 have hg2:=row_ne S.ar hkr (by decide)
 have hb:W0.heap.size ≤ gk:=by
  obtain ⟨g',cap,hv,hb,hlt⟩:=hkr.form (by omega)
  injection hv with e1
  injection e1 with e1
  injection e1 with e1
  subst e1
  exact hb
 refine ⟨S.s.setCell (p:=⟨gk,a,none⟩) hb _,?_,by simp [S.lt],S.an,?_,?_,?_⟩
 ·rw [List.length_set,flat_same S.ti (t':={ t with key:=t.key.set a v }) rfl]
  exact own_off' S.row (fun e => hg1 (by injection e with e;injection e)) _ _
 ·exact ownsRow_setCell_other S.ar (a:=⟨gk,a,none⟩) (by intro h;exact hg2 h) _
 ·show t.hk.n = (t.key.set a v).length
  rw [List.length_set,S.kn]
 ·show (w.setCell _ _).ownsRow _ _ 1 t.hk.val (t.key.set a v).length ((t.key.set a v).flatMap intCell)
  rw [List.length_set,hval]
  have:=own_set (enc:=intCell) (m:=1) (fun _ => rfl) hkr rfl a ha 0 Nat.one_pos (.int .i64 v) v (by rfl)
  simpa using this
theorem TabState.tabs (S:TabState W0 w g c ts i t) (hn:ts.length ≤ 9223372036854775807) (hna:t.ra.length ≤ 9223372036854775807) (hnk:t.key.length ≤ 9223372036854775807)
  (hr:∀ r ∈ t.ra,StrsAt w r.h r.at_.was ∧ okS r.at_.name ∧ okS r.at_.dflt.s) (ho:okS t.name) (hx:∀ k (hk:k < ts.length),k ≠ i → TbAt w ts[k]):TabsAt w ⟨some ⟨g,0,none⟩,ts.length,c⟩ ts:=by
 refine ⟨own_lies' (h:=⟨some ⟨g,0,none⟩,ts.length,c⟩) RT.clen rfl hn S.row,?_⟩
 intro u hu
 obtain ⟨k,hk,rfl⟩:=List.mem_iff_getElem.1 hu
 by_cases e:k = i
 ·subst e
  rw [S.get]
  refine ⟨⟨own_lies' RA.clen S.an.symm (by rw [S.an];exact hna) (by rw [S.an];exact S.ar),hr⟩,?_,ho⟩
  exact own_lies' (enc:=intCell) (fun _ => rfl) S.kn.symm (by rw [S.kn];exact hnk) (by rw [S.kn];exact S.kr)
 ·exact hx k hk e
end
def RAsOk (w:World) (rs:List RA):Prop:=∀ r ∈ rs,StrsAt w r.h r.at_.was ∧ okS r.at_.name ∧ okS r.at_.dflt.s
def TbDone (W0 w:World) (g c:Nat) (ts:List RT) (i:Nat) (tb:Tb):Prop:=
 ∃ t':RT,TabState W0 w g c (ts.set i t') i t' ∧ t'.tb = tb ∧ RAsOk w t'.ra ∧ okS t'.name ∧ t'.ra.length ≤ 1000000 ∧ t'.key.length ≤ 1000000
def KeepT (w w':World):Prop:=∀ b t cs,Blk w b t cs → t ≠ 44 → t ≠ 82 → t ≠ 3 → Blk w' b t cs
theorem KeepT.refl (w:World):KeepT w w:=fun _ _ _ h _ _ _ => h
theorem KeepT.trans {a b c:World} (h:KeepT a b) (k:KeepT b c):KeepT a c:=fun i t cs hb h1 h2 h3 => k i t cs (h i t cs hb h1 h2 h3) h1 h2 h3
theorem KeepT.same {a b:World} (s:Same a b):KeepT a b:=fun _ _ _ hb _ _ _ => (s.block _ hb.lt).trans hb
theorem KeepT.drew {a b:World} (h:KeepT a b):KeepT a b.drew:=h
theorem KeepT.alloc {a b:World} (h:KeepT a b) (o:Obj):KeepT a (b.alloc o):=fun i t cs hb h1 h2 h3 => (h i t cs hb h1 h2 h3).alloc o
theorem KeepT.set {a b:World} (h:KeepT a b) {g:Nat} {tg:TypeId} {xs:Array Value} (hg:Blk b g tg xs) (ht:tg = 44 ∨ tg = 82 ∨ tg = 3) (j:Nat) (v:Value):KeepT a (b.setCell ⟨g,j,none⟩ v):=fun i t cs hb h1 h2 h3 => by
 have hk:=h i t cs hb h1 h2 h3
 refine hk.far (p:=⟨g,j,none⟩) (fun e => ?_) v
 have hne:t ≠ tg:=by rintro rfl;exact ht.elim h1 (fun e => e.elim h2 h3)
 exact Blk.ne_ hk hg hne e
theorem KeepT.grown {a b c:World} (h:KeepT a b) {B m n:Nat} {e:TypeId} {v:Value} {xs:List Value} (o:b.ownsRow B e m v n xs) (ht:e = 44 ∨ e = 82 ∨ e = 3) (G:b.grownBy c v.ownBlock):KeepT a c:=fun i t cs hb h1 h2 h3 => by
 have hk:=h i t cs hb h1 h2 h3
 refine hk.grown G (fun e' => ?_)
 refine own_blk_ne o hk ?_ e'.symm
 rintro rfl
 rcases ht with e | e | e
 ·exact h1 e
 ·exact h2 e
 ·exact h3 e
section
variable {W0 w w':World} {g c i:Nat} {ts:List RT} {t:RT}
theorem RAsOk.same {rs:List RA} (h:RAsOk W0 rs) (s:Same W0 w):RAsOk w rs:=fun r hr => ⟨(h r hr).1.same s,(h r hr).2⟩
theorem RAsOk.set {rs:List RA} (h:RAsOk w rs) (a:Nat) (y:RA) (hy:StrsAt w y.h y.at_.was ∧ okS y.at_.name ∧ okS y.at_.dflt.s):RAsOk w (rs.set a y):=by
 intro r hr
 rcases List.mem_or_eq_of_mem_set hr with h1 | h1
 ·exact h r h1
 ·rw [h1];exact hy
theorem set_modify {α:Type} (l:List α) (a:Nat) (ha:a < l.length) (f:α → α):l.set a (f l[a]) = l.modify a f:=by
 apply List.ext_getElem?
 intro k
 rw [List.getElem?_modify,List.getElem?_set]
 by_cases h:a = k
 ·subst h;simp [ha]
 ·simp [h]
theorem map_set_at (ra:List RA) (a:Nat) (ha:a < ra.length) (y:RA) (f:At → At) (hy:y.at_ = f ra[a].at_):(ra.set a y).map RA.at_ = (ra.map RA.at_).modify a f:=by
 rw [List.map_set,hy,← set_modify _ a (by simpa using ha)]
 simp
theorem TabState.cast4 (S:TabState W0 w g c ts i t) {ga ca:Nat} (hh:t.ha.a = some ⟨ga,0,none⟩) (hcc:t.ha.c = ca) (a:Nat) (ha:a < t.ra.length) (to_ dk dn:Int) (ds:ByteArray) :
  TabState W0 ((((w.setCell ⟨ga,a * 6 + 1,none⟩ (.int .i64 to_)).setCell ⟨ga,a * 6 + 3,none⟩ (.int .i64 dk)).setCell ⟨ga,a * 6 + 4,none⟩ (.int .i64 dn)).setCell ⟨ga,a * 6 + 5,none⟩ (.string ds)) g c
   (ts.set i { t with ra:=t.ra.set a ⟨⟨t.ra[a].at_.name,to_,t.ra[a].at_.was,⟨dk,dn,ds⟩⟩,t.ra[a].h⟩ }) i { t with ra:=t.ra.set a ⟨⟨t.ra[a].at_.name,to_,t.ra[a].at_.was,⟨dk,dn,ds⟩⟩,t.ra[a].h⟩ }:=by
 obtain ⟨r,hr⟩:∃ r,r = t.ra[a]:=⟨_,rfl⟩
 rw [← hr]
 obtain ⟨⟨nm,kd,was,⟨k0,n0,s0⟩⟩,h⟩:=r
 have S1:=S.setA hh hcc a ha 1 (by omega) (.int .i64 to_) ⟨⟨nm,to_,was,⟨k0,n0,s0⟩⟩,h⟩ (by rw [← hr];rfl)
 have S2:=S1.setA hh hcc a (by simpa using ha) 3 (by omega) (.int .i64 dk) ⟨⟨nm,to_,was,⟨dk,n0,s0⟩⟩,h⟩ (by simp;rfl)
 have S3:=S2.setA hh hcc a (by simpa using ha) 4 (by omega) (.int .i64 dn) ⟨⟨nm,to_,was,⟨dk,dn,s0⟩⟩,h⟩ (by simp;rfl)
 have S4:=S3.setA hh hcc a (by simpa using ha) 5 (by omega) (.string ds) ⟨⟨nm,to_,was,⟨dk,dn,ds⟩⟩,h⟩ (by simp;rfl)
 simpa [List.set_set] using S4
theorem TabState.ren2 (S:TabState W0 w g c ts i t) {ga ca:Nat} (hh:t.ha.a = some ⟨ga,0,none⟩) (hcc:t.ha.c = ca) (a:Nat) (ha:a < t.ra.length) (hw:Hd) (was:List ByteArray) (nn:ByteArray) :
  TabState W0 ((w.setCell ⟨ga,a * 6 + 2,none⟩ hw.val).setCell ⟨ga,a * 6,none⟩ (.string nn)) g c
   (ts.set i { t with ra:=t.ra.set a ⟨⟨nn,t.ra[a].at_.kind,was,t.ra[a].at_.dflt⟩,hw⟩ }) i { t with ra:=t.ra.set a ⟨⟨nn,t.ra[a].at_.kind,was,t.ra[a].at_.dflt⟩,hw⟩ }:=by
 obtain ⟨r,hr⟩:∃ r,r = t.ra[a]:=⟨_,rfl⟩
 rw [← hr]
 obtain ⟨⟨nm,kd,was0,⟨k0,n0,s0⟩⟩,h⟩:=r
 have S1:=S.setA hh hcc a ha 2 (by omega) hw.val ⟨⟨nm,kd,was,⟨k0,n0,s0⟩⟩,hw⟩ (by rw [← hr];rfl)
 have S2:=S1.setA hh hcc a (by simpa using ha) 0 (by omega) (.string nn) ⟨⟨nn,kd,was,⟨k0,n0,s0⟩⟩,hw⟩ (by simp;rfl)
 simpa [List.set_set] using S2
end
theorem strs_none (w:World):StrsAt w ⟨none,0,0⟩ []:=⟨⟨rfl,by show (0:Nat) ≤ _;omega,fun k hk => by simp at hk⟩,fun s hs => by simp at hs⟩
theorem flat_erase {α:Type} {enc:α → List Value} {m:Nat} (hm:∀ x,(enc x).length = m):∀ (xs:List α) (a:Nat),a < xs.length → (xs.flatMap enc).take (a * m) ++ (xs.flatMap enc).drop ((a + 1) * m) = (xs.eraseIdx a).flatMap enc
 | x :: xs,0,_ => by
  have:(enc x).length = m:=hm x
  simp [← this]
 | x :: xs,a + 1,h => by
  have ih:=flat_erase hm xs a (by simpa using h)
  have e1:(a + 1) * m = m + a * m:=by rw [Nat.add_mul];omega
  have e2:(a + 1 + 1) * m = m + (a + 1) * m:=by rw [Nat.add_mul (a + 1)];omega
  rw [e1] at ih
  rw [List.flatMap_cons,e2,List.take_append,List.drop_append,hm x,e1,Nat.add_sub_cancel_left]
  rw [show m + (m + a * m) - m = m + a * m by omega,List.drop_of_length_le (by rw [hm x];omega),List.take_of_length_le (by rw [hm x];omega),List.eraseIdx_cons_succ,List.flatMap_cons,List.nil_append,List.append_assoc,ih]
theorem map_erase {α β:Type} (f:α → β):∀ (l:List α) (a:Nat),(l.eraseIdx a).map f = (l.map f).eraseIdx a
 | [],_ => rfl
 | _ :: _,0 => rfl
 | x :: l,a + 1 => by simp [map_erase f l a]
section
variable {W0 w w':World} {g c i:Nat} {ts:List RT} {t:RT}
theorem newT_cast (t:RT) (cg:Cg) (a:Nat) (ha:a < t.ra.length) (hk:cg.kind = 4) (hc:colA t.tb.attrs cg.attr = a) :
  (RT.tb { t with ra:=t.ra.set a ⟨⟨t.ra[a].at_.name,cg.to_,t.ra[a].at_.was,cg.dflt⟩,t.ra[a].h⟩ }) = newT t.tb cg:=by
 unfold newT newA newK
 rw [hc,hk]
 simp only [RT.tb]
 rw [map_set_at t.ra a ha _ (fun x => ⟨x.name,cg.to_,x.was,cg.dflt⟩) rfl]
 rfl
theorem newT_ren (t:RT) (cg:Cg) (a:Nat) (ha:a < t.ra.length) (hk:cg.kind = 3) (hc:colA t.tb.attrs cg.attr = a) (hw:Hd) :
  (RT.tb { t with ra:=t.ra.set a ⟨⟨cg.name,t.ra[a].at_.kind,t.ra[a].at_.was ++ [t.ra[a].at_.name],t.ra[a].at_.dflt⟩,hw⟩ }) = newT t.tb cg:=by
 unfold newT newA newK
 rw [hc,hk]
 simp only [RT.tb]
 rw [map_set_at t.ra a ha _ (fun x => ⟨cg.name,x.kind,x.was ++ [x.name],x.dflt⟩) rfl]
 rfl
theorem newT_add (t:RT) (cg:Cg) (hk:cg.kind = 1) (h:Hd) :
  (RT.tb { t with ra:=t.ra ++ [⟨⟨cg.name,cg.to_,[],cg.dflt⟩,⟨none,0,0⟩⟩],ha:=h }) = newT t.tb cg:=by
 unfold newT newA newK
 rw [hk]
 simp [RT.tb]
theorem newT_drop (t:RT) (cg:Cg) (a:Nat) (hk:cg.kind = 2) (hc:colA t.tb.attrs cg.attr = a) (h:Hd) :
  (RT.tb { t with ra:=t.ra.eraseIdx a,ha:=h,key:=t.key.map (fun k => if (a:Int) < k then k - 1 else k) }) = newT t.tb cg:=by
 unfold newT newA newK
 rw [hc,hk]
 simp [RT.tb]
 exact map_erase _ _ _
end
end Go.Proofs.YtfifnemnihcijaaGreatDoor
