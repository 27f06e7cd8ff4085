import Derived.Test.YtfifnemnihcijaaGreatDoorKTc
set_option linter.unusedSimpArgs false
set_option linter.unusedVariables false
set_option maxHeartbeats 16000000
set_option maxRecDepth 100000
namespace Go.Proofs.YtfifnemnihcijaaGreatDoor
open Go.RowKit
theorem RT.one1 (t:RT):∀ v ∈ t.cells,v.oneCell' = true:=by
 intro v hv
 simp only [RT.cells,List.mem_cons,List.not_mem_nil,or_false] at hv
 rcases hv with rfl | rfl | rfl <;> rfl
theorem RA.one1 (t:RA):∀ v ∈ t.cells,v.oneCell' = true:=by
 intro v hv
 simp only [RA.cells,List.mem_cons,List.not_mem_nil,or_false] at hv
 rcases hv with rfl | rfl | rfl | rfl | rfl | rfl <;> rfl
theorem own_low {w:World} {B B':Nat} {e:TypeId} {m n:Nat} {v:Value} {xs:List Value} (o:w.ownsRow B' e m v n xs) (h:B ≤ B'):w.ownsRow B e m v n xs:=
 ⟨o.1,o.2.elim .inl fun ⟨g,cap,cur,h1,h2,rest⟩ => .inr ⟨g,cap,cur,h1,Nat.le_trans h h2,rest⟩⟩
theorem own_head {w:World} {B:Nat} {e:TypeId} {m n:Nat} {v:Value} {xs:List Value} (o:w.ownsRow B e m v n xs) (h:0 < n):∃ g c,v = .slice (some ⟨g,0,none⟩) n c ∧ B ≤ g ∧ g < w.heap.size:=by
 obtain ⟨g,cap,hv,hb,hlt⟩:=o.form h
 exact ⟨g,cap,hv,hb,hlt⟩
theorem own_del0 {w:World} {B g n c m i:Nat} {e:TypeId} {xs:List Value} (o:w.ownsRow B e m (.slice (some ⟨g,0,none⟩) n c) n xs) (hi:i < n) :
  (w.setCells g (i * m) (xs.drop ((i + 1) * m))).ownsRow B e m (.slice (some ⟨g,0,none⟩) (n - 1) c) (n - 1) (xs.take (i * m) ++ xs.drop ((i + 1) * m)):=by
 obtain ⟨g',cur,hA,hb,hk,hs,hnc,hcm,ht⟩:=own_blk o (by omega)
 injection hA with hA
 injection hA with e1
 subst e1
 have hxl:=o.1
 have q1:(i + 1) * m ≤ n * m:=Nat.mul_le_mul_right m (by omega)
 have q2:n * m ≤ c * m:=Nat.mul_le_mul_right m hnc
 have q3:(i + 1) * m = i * m + m:=by rw [Nat.add_mul];omega
 have q4:(n - 1) * m + m = n * m:=by
  obtain ⟨k,rfl⟩:∃ k,n = k + 1:=⟨n - 1,by omega⟩
  rw [Nat.add_mul];simp
 have hcl:cur.toList.length = c * m:=by simp [hs]
 have hk':Blk w g e cur.toList.toArray:=by simpa using hk
 have b1:=blk_setCells (xs.drop ((i + 1) * m)) (i * m) cur.toList w hk' (by rw [List.length_drop];omega)
 have l1:(putL cur.toList (i * m) (xs.drop ((i + 1) * m))).length = c * m:=by rw [putL_length _ _ _ (by rw [List.length_drop];omega),hcl]
 refine blk_own hb b1 ?_ (by omega) hcm ?_ ?_
 ·rw [List.size_toArray,l1]
 ·have lx:xs.take (i * m) = cur.toList.take (i * m):=by rw [← ht,List.take_take,Nat.min_eq_left (by omega)]
  have la:(xs.take (i * m)).length = i * m:=by rw [List.length_take];omega
  have lb:(xs.drop ((i + 1) * m)).length = (n - 1) * m - i * m:=by rw [List.length_drop];omega
  show (putL _ _ _).take ((n - 1) * m) = _
  unfold putL
  rw [← lx,List.take_append_of_le_length (by rw [List.length_append,la,lb];omega),List.take_of_length_le (by rw [List.length_append,la,lb];omega)]
 ·rw [List.length_append,List.length_take,List.length_drop];omega
structure DelFacts (w W1:World) (B:Nat) (e:TypeId) (m g n c i:Nat) (xs news:List Value) (A:Addr):Prop where
 len:news.length = (n - (i + 1)) * m
 src:∀ t u,news[t]? = some u → w.cell? (A.add t) = some u
 one:∀ u ∈ news,u.oneCell' = true
 dst:∀ t,t < news.length → (w.cell? ⟨g,0 + i * m + t,none⟩).isSome = true ∧ w.frozen? ⟨g,0 + i * m + t,none⟩ = false
 out:w.setCells g (0 + i * m) news = W1
 own:W1.ownsRow B e m (.slice (some ⟨g,0,none⟩) (n - 1) c) (n - 1) (xs.take (i * m) ++ xs.drop ((i + 1) * m))
 grown:w.grownBy W1 (some g)
theorem del_facts {w:World} {B:Nat} {e:TypeId} {m g n c i:Nat} {xs:List Value} (own:w.ownsRow B e m (.slice (some ⟨g,0,none⟩) n c) n xs) (hi:i < n) (hm:0 < m) (h1:∀ u ∈ xs,u.oneCell' = true) :
  ∃ (news:List Value) (A:Addr) (W1:World),(if c = i + 1 then (some (⟨g,0,none⟩:Addr)) else some ⟨g,(i + 1) * m,none⟩) = some A ∧ DelFacts w W1 B e m g n c i xs news A:=by
 have O:=own_del0 own hi
 obtain ⟨g',cur,hA,hb,hk,hs,hnc,hcm,ht⟩:=own_blk own (by omega)
 injection hA with hA
 injection hA with e1
 subst e1
 have hxl:=own.1
 have q1:(i + 1) * m ≤ n * m:=Nat.mul_le_mul_right _ (by omega)
 have q2:n * m ≤ c * m:=Nat.mul_le_mul_right _ hnc
 have q3:(i + 1) * m = i * m + m:=by rw [Nat.add_mul,Nat.one_mul]
 have q4:(n - (i + 1)) * m = n * m - (i + 1) * m:=Nat.sub_mul _ _ _
 have hlen:(xs.drop ((i + 1) * m)).length = (n - (i + 1)) * m:=by rw [List.length_drop,hxl,Nat.sub_mul]
 have hcell:∀ t u,(xs.drop ((i + 1) * m))[t]? = some u → w.cell? ⟨g,(i + 1) * m + t,none⟩ = some u:=by
  intro t u hu
  rw [List.getElem?_drop,← ht,List.getElem?_take] at hu
  split at hu
  ·rw [hk.cell];simpa using hu
  ·cases hu
 have hdst:∀ t,t < (xs.drop ((i + 1) * m)).length → (w.cell? ⟨g,0 + i * m + t,none⟩).isSome = true ∧ w.frozen? ⟨g,0 + i * m + t,none⟩ = false:=by
  intro t ht'
  rw [hlen] at ht'
  rw [Nat.zero_add]
  refine ⟨?_,hk.frozen _⟩
  rw [hk.cell,Array.getElem?_eq_getElem (by omega)]
  rfl
 have hone:∀ u ∈ xs.drop ((i + 1) * m),u.oneCell' = true:=fun u hu => h1 u (List.mem_of_mem_drop hu)
 have O':(w.setCells g (0 + i * m) (xs.drop ((i + 1) * m))).ownsRow B e m (.slice (some ⟨g,0,none⟩) (n - 1) c) (n - 1) (xs.take (i * m) ++ xs.drop ((i + 1) * m)):=by rw [Nat.zero_add];exact O
 by_cases h:c = i + 1
 ·refine ⟨_,⟨g,0,none⟩,_,by simp [h],⟨hlen,fun t u hu => ?_,hone,hdst,rfl,O',grown_setCells g _ _ _⟩⟩
  have h0:(xs.drop ((i + 1) * m)).length = 0:=by rw [hlen,show n - (i + 1) = 0 by omega,Nat.zero_mul]
  rw [List.length_eq_zero_iff.1 h0] at hu
  simp at hu
 ·refine ⟨_,⟨g,(i + 1) * m,none⟩,_,by simp [h],⟨hlen,fun t u hu => ?_,hone,hdst,rfl,O',grown_setCells g _ _ _⟩⟩
  rw [show (⟨g,(i + 1) * m,none⟩:Addr).add t = ⟨g,(i + 1) * m + t,none⟩ by unfold Addr.add;split <;> simp_all]
  exact hcell t u hu
structure XS (w W:World) (g c m bx bo:Nat) (XT:List Value) (sv:Value) (cs:Array Value) (tn:ByteArray) (hv kv:Value):Prop where
 s:Same w W
 ot:W.ownsRow w.heap.size 44 3 (.slice (some ⟨g,0,none⟩) m c) m XT
 gb:w.heap.size ≤ g
 bX:Blk W bx 44 #[.string tn,hv,kv]
 bO:Blk W bo 24 #[.slice (some ⟨g,0,none⟩) m c]
 bR:Blk W (w.heap.size + 1 + 1) 24 #[.slice none 0 0]
 bC:Blk W (w.heap.size + 1) 28 cs
 bS:Blk W w.heap.size 24 #[sv]
 gx:g ≠ bx
 lx:w.heap.size ≤ bx
section
variable {w W W':World} {g c m bx bo:Nat} {XT:List Value} {sv:Value} {cs:Array Value} {tn:ByteArray} {hv kv:Value}
theorem XS.same (X:XS w W g c m bx bo XT sv cs tn hv kv) (s:Same W W'):XS w W' g c m bx bo XT sv cs tn hv kv:=
 ⟨X.s.trans s,own_same s X.ot,X.gb,X.bX.below s X.bX.lt,X.bO.below s X.bO.lt,X.bR.below s X.bR.lt,X.bC.below s X.bC.lt,X.bS.below s X.bS.lt,X.gx,X.lx⟩
theorem XS.drew (X:XS w W g c m bx bo XT sv cs tn hv kv):XS w W.drew g c m bx bo XT sv cs tn hv kv:=X.same (Same.refl W).drew
theorem XS.setX (X:XS w W g c m bx bo XT sv cs tn hv kv) (v:Value):XS w (W.setCell ⟨bx,1,none⟩ v) g c m bx bo XT sv cs tn v kv:=
 ⟨X.s.setCell (p:=⟨bx,1,none⟩) X.lx v,own_off' X.ot (fun e => X.gx (by injection e with e;injection e)) _ _,X.gb,X.bX.set_ 1 v,X.bO.far (p:=⟨bx,1,none⟩) (X.bO.ne_ X.bX (by decide)) v,X.bR.far (p:=⟨bx,1,none⟩) (X.bR.ne_ X.bX (by decide)) v,X.bC.far (p:=⟨bx,1,none⟩) (X.bC.ne_ X.bX (by decide)) v,X.bS.far (p:=⟨bx,1,none⟩) (X.bS.ne_ X.bX (by decide)) v,X.gx,X.lx⟩
theorem XS.setK (X:XS w W g c m bx bo XT sv cs tn hv kv) (v:Value):XS w (W.setCell ⟨bx,2,none⟩ v) g c m bx bo XT sv cs tn hv v:=
 ⟨X.s.setCell (p:=⟨bx,2,none⟩) X.lx v,own_off' X.ot (fun e => X.gx (by injection e with e;injection e)) _ _,X.gb,X.bX.set_ 2 v,X.bO.far (p:=⟨bx,2,none⟩) (X.bO.ne_ X.bX (by decide)) v,X.bR.far (p:=⟨bx,2,none⟩) (X.bR.ne_ X.bX (by decide)) v,X.bC.far (p:=⟨bx,2,none⟩) (X.bC.ne_ X.bX (by decide)) v,X.bS.far (p:=⟨bx,2,none⟩) (X.bS.ne_ X.bX (by decide)) v,X.gx,X.lx⟩
theorem XS.grown (X:XS w W g c m bx bo XT sv cs tn hv kv) {B:Nat} {e:TypeId} {k n:Nat} {v:Value} {xs:List Value} (o:W.ownsRow B e k v n xs) (hB:w.heap.size ≤ B) (h1:e ≠ 44) (h2:e ≠ 24) (h3:e ≠ 28) (G:W.grownBy W' v.ownBlock):XS w W' g c m bx bo XT sv cs tn hv kv:=by
 obtain ⟨cur,hg⟩:∃ cur,v.ownBlock = none ∨ (m = 0) ∨ Blk W g 44 cur:=by
  rcases X.ot.2 with ⟨hv,_⟩ | ⟨g',cap,cur,hv,_,hh,_⟩
  ·cases hv
  ·injection hv with e1
   injection e1 with e1
   injection e1 with e1
   subst e1
   exact ⟨cur,.inr (.inr hh)⟩
 refine ⟨Below.grown X.s G X.s.size (fun k hk => Nat.le_trans hB (o.lt k hk).1),X.ot.kept G ?_,X.gb,X.bX.grown G (fun e' => own_blk_ne o X.bX h1 e'.symm),X.bO.grown G (fun e' => own_blk_ne o X.bO h2 e'.symm),X.bR.grown G (fun e' => own_blk_ne o X.bR h2 e'.symm),X.bC.grown G (fun e' => own_blk_ne o X.bC h3 e'.symm),X.bS.grown G (fun e' => own_blk_ne o X.bS h2 e'.symm),X.gx,X.lx⟩
 right
 intro e'
 rcases X.ot.2 with ⟨hv,_⟩ | ⟨g',cap,cur,hv,_,hh,_⟩
 ·cases hv
 ·injection hv with e1
  injection e1 with e1
  injection e1 with e1
  subst e1
  exact own_blk_ne o hh h1 e'.symm
theorem XS.set_ (X:XS w W g c m bx bo XT sv cs tn hv kv) {b:Nat} {t:TypeId} {ys:Array Value} (hb:Blk W b t ys) (hl:w.heap.size ≤ b) (h1:44 ≠ t) (h2:24 ≠ t) (h3:28 ≠ t) (j:Nat) (v:Value):XS w (W.setCell ⟨b,j,none⟩ v) g c m bx bo XT sv cs tn hv kv:=
 ⟨X.s.setCell (p:=⟨b,j,none⟩) hl v,ownsRow_setCell_other X.ot (a:=⟨b,j,none⟩) (own_blk_ne X.ot hb h1) v,X.gb,X.bX.far (p:=⟨b,j,none⟩) (X.bX.ne_ hb h1) v,X.bO.far (p:=⟨b,j,none⟩) (X.bO.ne_ hb h2) v,X.bR.far (p:=⟨b,j,none⟩) (X.bR.ne_ hb h2) v,X.bC.far (p:=⟨b,j,none⟩) (X.bC.ne_ hb h3) v,X.bS.far (p:=⟨b,j,none⟩) (X.bS.ne_ hb h2) v,X.gx,X.lx⟩
theorem XS.keepX (X:XS w W g c m bx bo XT sv cs tn hv kv) {B:Nat} {e:TypeId} {k n:Nat} {v:Value} {xs:List Value} (o:W.ownsRow B e k v n xs) (h1:e ≠ 44) (j:Nat) (u:Value):(W.setCell ⟨bx,j,none⟩ u).ownsRow B e k v n xs:=
 ownsRow_setCell_other o (a:=⟨bx,j,none⟩) (own_blk_ne o X.bX h1) u
end
theorem XS.go {w W:World} {g c m bx bo:Nat} {XT:List Value} {sv:Value} {cs:Array Value} {tn:ByteArray} {hv kv:Value} (X:XS w W g c m bx bo XT sv cs tn hv kv):g ≠ bo ∧ g ≠ w.heap.size + 1 + 1:=by
 rcases X.ot.2 with ⟨hv,_⟩ | ⟨g',cap,cur,hv,_,hh,_⟩
 ·cases hv
 ·injection hv with e1
  injection e1 with e1
  injection e1 with e1
  subst e1
  exact ⟨Blk.ne_ (t:=44) hh X.bO (by decide),Blk.ne_ (t:=44) hh X.bR (by decide)⟩
def KeepX (w w':World):Prop:=∀ b t cs,Blk w b t cs → t ≠ 44 → t ≠ 24 → Blk w' b t cs
theorem KeepX.own {w w':World} (K:KeepX w w') {B:Nat} {e:TypeId} {k n:Nat} {v:Value} {xs:List Value} (o:w.ownsRow B e k v n xs) (h1:e ≠ 44) (h2:e ≠ 24):w'.ownsRow B e k v n xs:=by
 refine ⟨o.1,?_⟩
 rcases o.2 with h | ⟨g,cap,cur,hv,hb,hh,hr⟩
 ·exact .inl h
 ·exact .inr ⟨g,cap,cur,hv,hb,K g e cur hh h1 h2,hr⟩
def InH (K:Nat → Prop) (h:Hd):Prop:=0 < h.n → ∃ b off,h.a = some ⟨b,off,none⟩ ∧ K b
def TabsIn (K:Nat → Prop) (h:Hd) (ts:List RT):Prop:=InH K h ∧ ∀ t ∈ ts,InH K t.ha ∧ InH K t.hk ∧ ∀ r ∈ t.ra,InH K r.h
theorem own_in {w:World} {B:Nat} {e:TypeId} {m n c:Nat} {A:Option Addr} {xs:List Value} (o:w.ownsRow B e m (.slice A n c) n xs) {K:Nat → Prop} (hK:∀ k,B ≤ k → K k):InH K ⟨A,n,c⟩:=fun h0 => by
 obtain ⟨g,cap,hv,hb,hlt⟩:=o.form h0
 injection hv with h1
 exact ⟨g,0,h1,hK g hb⟩
def NewIn (w:World) (h:Hd) (ts:List RT) (h':Hd) (ts':List RT):Prop:=∀ K:Nat → Prop,TabsIn K h ts → (∀ k,w.heap.size ≤ k → K k) → TabsIn K h' ts'
def ROut (w:World) (h:Hd) (ts:List RT) (q:Nat) (tb':Tb) (w':World) (e:Ending):Prop:=
 (∃ (h':Hd) (ts':List RT),e = .returned (.tuple #[.agg #[h'.val],.int .i64 0]) ∧ TabsAt w' h' ts' ∧ ts'.map RT.tb = (ts.map RT.tb).set q tb' ∧ NewIn w h ts h' ts') ∧ Same w w'
theorem XS.fin {w W:World} {g c m bx bo q:Nat} {sv:Value} {cs:Array Value} {tn:ByteArray} {A Aa Ak:Option Addr} {cc n ca nk ck:Nat} {ts:List RT} {ra:List RA} {key:List Int} {kv:Value}
  (X:XS w W g c m bx bo (ts.flatMap RT.cells) sv cs tn (.slice Aa n ca) kv) (hkv:kv = .slice Ak nk ck) (hm:ts.length = m) (hm2:m ≤ 20) (hq:q < m) (HA:TabsAt w ⟨A,m,cc⟩ ts) (okn:okS tn)
  (hra:ra.length = n) (hn:n ≤ 1000) (OA:W.ownsRow w.heap.size 82 6 (.slice Aa n ca) n (ra.flatMap RA.cells))
  (KI:∀ W',Same w W' → KeepX W W' → IntsAt W' ⟨Ak,nk,ck⟩ key) (RAS:∀ W',Same w W' → KeepX W W' → RAsOk W' ra)
  (KIN:∀ K:Nat → Prop,TabsIn K ⟨A,m,cc⟩ ts → (∀ k,w.heap.size ≤ k → K k) → InH K ⟨Ak,nk,ck⟩) (RIN:∀ K:Nat → Prop,TabsIn K ⟨A,m,cc⟩ ts → (∀ k,w.heap.size ≤ k → K k) → ∀ r ∈ ra,InH K r.h) (tb':Tb) (htb:RT.tb ⟨tn,⟨Aa,n,ca⟩,ra,⟨Ak,nk,ck⟩,key⟩ = tb') :
  ROut w ⟨A,m,cc⟩ ts q tb' (((((W.setCell ⟨g,q * 3,none⟩ (.string tn)).setCell ⟨g,q * 3 + 1,none⟩ (.slice Aa n ca)).setCell ⟨g,q * 3 + 2,none⟩ kv).setCell ⟨w.heap.size + 1 + 1,0,none⟩ (.slice (some ⟨g,0,none⟩) m c))) (.returned (.tuple #[.agg #[.slice (some ⟨g,0,none⟩) m c],.int .i64 0])):=by
 subst hkv hm htb hra
 obtain ⟨g',cur,hA,_,hk,_⟩:=own_blk X.ot (by omega)
 injection hA with hA
 injection hA with e
 subst e
 obtain ⟨t,ht⟩:∃ t,t = ts[q]:=⟨_,rfl⟩
 have hgr:g ≠ w.heap.size + 1 + 1:=hk.ne_ X.bR (by decide)
 have nA:=own_blk_ne OA hk (by decide)
 have nB:=own_blk_ne OA X.bR (by decide)
 have o1:=own_set (y:={ ts[q] with name:=tn }) RT.clen X.ot rfl q hq 0 (by decide) (.string tn) rfl
 have o2:=own_set (y:={ ts[q] with name:=tn,ha:=⟨Aa,ra.length,ca⟩,ra:=ra }) RT.clen o1 (by simp) q hq 1 (by decide) (.slice Aa ra.length ca) (by simp;rfl)
 have o3:=own_set (y:=(⟨tn,⟨Aa,ra.length,ca⟩,ra,⟨Ak,nk,ck⟩,key⟩:RT)) RT.clen o2 (by simp) q hq 2 (by decide) (.slice Ak nk ck) (by simp;rfl)
 simp only [List.set_set] at o3
 have o4:=own_off' o3 (k:=w.heap.size + 1 + 1) (fun e => hgr (by injection e with e;injection e)) 0 (.slice (some ⟨g,0,none⟩) ts.length c)
 have S:Same w (((((W.setCell ⟨g,q * 3 + 0,none⟩ (.string tn)).setCell ⟨g,q * 3 + 1,none⟩ (.slice Aa ra.length ca)).setCell ⟨g,q * 3 + 2,none⟩ (.slice Ak nk ck)).setCell ⟨w.heap.size + 1 + 1,0,none⟩ (.slice (some ⟨g,0,none⟩) ts.length c))):=
  (((X.s.setCell (p:=⟨g,q * 3,none⟩) X.gb _).setCell (p:=⟨g,q * 3 + 1,none⟩) X.gb _).setCell (p:=⟨g,q * 3 + 2,none⟩) X.gb _).setCell (p:=⟨w.heap.size + 1 + 1,0,none⟩) (by show _ ≤ w.heap.size + 1 + 1;omega) _
 have K:KeepX W (((((W.setCell ⟨g,q * 3 + 0,none⟩ (.string tn)).setCell ⟨g,q * 3 + 1,none⟩ (.slice Aa ra.length ca)).setCell ⟨g,q * 3 + 2,none⟩ (.slice Ak nk ck)).setCell ⟨w.heap.size + 1 + 1,0,none⟩ (.slice (some ⟨g,0,none⟩) ts.length c))):=by
  intro b t cs hb h1 h2
  have e1:=hb.ne_ hk h1
  have e2:=hb.ne_ X.bR h2
  exact (((hb.far (p:=⟨g,q * 3 + 0,none⟩) e1 _).far (p:=⟨g,q * 3 + 1,none⟩) e1 _).far (p:=⟨g,q * 3 + 2,none⟩) e1 _).far (p:=⟨w.heap.size + 1 + 1,0,none⟩) e2 _
 have OA':=K.own OA (by decide) (by decide)
 have hl:(ts.set q ⟨tn,⟨Aa,ra.length,ca⟩,ra,⟨Ak,nk,ck⟩,key⟩).length = ts.length:=List.length_set ..
 refine ⟨⟨⟨some ⟨g,0,none⟩,ts.length,c⟩,ts.set q ⟨tn,⟨Aa,ra.length,ca⟩,ra,⟨Ak,nk,ck⟩,key⟩,rfl,⟨own_lies' (h:=⟨some ⟨g,0,none⟩,ts.length,c⟩) RT.clen hl (by show ts.length ≤ _;omega) o4,?_⟩,by rw [List.map_set],?_⟩,S⟩
 rotate_left
 ·intro K t hK
  refine ⟨fun _ => ⟨g,0,rfl,hK g X.gb⟩,fun u hu => ?_⟩
  rcases List.mem_or_eq_of_mem_set hu with h1 | h1
  ·exact t.2 u h1
  ·subst h1
   exact ⟨own_in OA hK,KIN K t hK,RIN K t hK⟩
 intro u hu
 rcases List.mem_or_eq_of_mem_set hu with h1 | h1
 ·exact (HA.2 u h1).same S
 ·subst h1
  exact ⟨⟨own_lies' RA.clen rfl (by show ra.length ≤ _;omega) OA',RAS _ S K⟩,KI _ S K,okn⟩
theorem rapply_add (A:Option Addr) (m cc:Nat) (tt aa n:ByteArray) (to_ dk dn:Int) (ds:ByteArray) (ts:List RT) (w:World) (hm:ts.length = m) (hm2:m ≤ 20) (HA:Hid (TabsAt w ⟨A,m,cc⟩ ts))
  (q:Nat) (cj:Int) (HF:Hid (Rt 41 #[.agg #[.slice A m cc],.agg #[.int .i64 1,.string tt,.string aa,.string n,.int .i64 to_,.int .i64 dk,.int .i64 dn,.string ds]] w (.tuple #[.int .i64 q,.int .i64 cj,.int .i64 0])))
  (hq:q < ts.length) (hn:okS n) (hd:okS ds) (hra:ts[q].ra.length ≤ 12) :
  Calls Tryz.prog 8 #[.agg #[.slice A m cc],.agg #[.int .i64 1,.string tt,.string aa,.string n,.int .i64 to_,.int .i64 dk,.int .i64 dn,.string ds]] w fun e w' => ROut w ⟨A,m,cc⟩ ts q (newT ts[q].tb ⟨1,tt,aa,n,to_,⟨dk,dn,ds⟩⟩) w' e:=by
 obtain ⟨i0,hi0,hiz0,hiz1,hiz2⟩:=info_parts Tryz.infoCT
 obtain ⟨i1,hj0,hjz0,hjz1,hjz2⟩:=info_parts Tryz.infoCA
 have hqm:q < m:=by omega
 have hm0:0 < m:=by omega
 have q0:(0:Int) ≤ (q:Int):=by omega
 have q1:(q:Int) < (m:Int):=by omega
 obtain ⟨b,off,hA,hbl,hcell⟩:=HA.out.1.2.2 q hq
 have hA':A = some ⟨b,off,none⟩:=hA
 clear hA
 subst hA'
 have hti:=HA.out.2 _ (List.getElem_mem hq)
 have hgq:ts[q]? = some ts[q]:=List.getElem?_eq_getElem hq
 obtain ⟨t,ht⟩:∃ t,t = ts[q]:=⟨_,rfl⟩
 rw [← ht] at hcell hti hra ⊢
 obtain ⟨tn,⟨A1,m1,c1_⟩,ra,⟨A2,m2,c2_⟩,key⟩:=t
 have y0:w.cell? ⟨b,off + q * 3,none⟩ = some (.string tn):=hcell 0 _ rfl
 have y1:w.cell? ⟨b,off + q * 3 + 1,none⟩ = some (.slice A1 m1 c1_):=hcell 1 _ rfl
 have y2:w.cell? ⟨b,off + q * 3 + 2,none⟩ = some (.slice A2 m2 c2_):=hcell 2 _ rfl
 have hm1:ra.length = m1:=hti.1.1.1
 have hra':ra.length ≤ 12:=hra
 have hm12:m1 ≤ 12:=by omega
 have HTA:Hid (AttrsAt w ⟨A1,m1,c1_⟩ ra):=hti.1
 have HTK:Hid (IntsAt w ⟨A2,m2,c2_⟩ key):=hti.2.1
 have HTN:Hid (okS tn):=hti.2.2
 have HD:=Lib.hid hd
 have HN:=Lib.hid hn
 obtain ⟨XT,hXT⟩:∃ XT,XT = ts.flatMap RT.cells:=⟨_,rfl⟩
 obtain ⟨XA,hXA⟩:∃ XA,XA = ra.flatMap RA.cells:=⟨_,rfl⟩
 have HXA':Hid (XA = ra.flatMap RA.cells):=hXA
 have HXT':Hid (XT = ts.flatMap RT.cells):=hXT
 have HXT:Hid (∀ u ∈ XT,u.oneCell' = true):=Lib.hid fun u hu => by
  rw [hXT] at hu
  obtain ⟨x,_,hx⟩:=List.mem_flatMap.1 hu
  exact RT.one1 x u hx
 have HXA:Hid (∀ u ∈ XA,u.oneCell' = true):=Lib.hid fun u hu => by
  rw [hXA] at hu
  obtain ⟨x,_,hx⟩:=List.mem_flatMap.1 hu
  exact RA.one1 x u hx
 have HRT0:Hid (∀ W,Same w W → Reads W W.heap.size 3 (some ⟨b,off,none⟩) m XT):=Lib.hid fun W s => by rw [hXT];exact lies_reads RT.clen (HA.out.same s).1
 have HRA0:Hid (∀ W,Same w W → Reads W W.heap.size 6 A1 m1 XA):=Lib.hid fun W s => by rw [hXA];exact lies_reads RA.clen (HTA.out.same s).1
 have HGQ:Hid (q < m ∧ (∀ (W:World) (g c:Nat),W.ownsRow w.heap.size 44 3 (.slice (some ⟨g,0,none⟩) m c) m XT → W.cell? ⟨g,q * 3,none⟩ = some (.string tn) ∧ W.cell? ⟨g,q * 3 + 1,none⟩ = some (.slice A1 m1 c1_) ∧ W.cell? ⟨g,q * 3 + 2,none⟩ = some (.slice A2 m2 c2_) ∧ ∀ j,W.frozen? ⟨g,j,none⟩ = false)):=by
  refine ⟨hqm,fun W g c o => ?_⟩
  rw [hXT] at o
  have z0:=own_cell RT.clen o hm q hqm 0 (by decide)
  have z1:=own_cell RT.clen o hm q hqm 1 (by decide)
  have z2:=own_cell RT.clen o hm q hqm 2 (by decide)
  rw [← ht] at z0 z1 z2
  refine ⟨z0,z1,z2,?_⟩
  obtain ⟨g',cur,hA,_,hk,_⟩:=own_blk o hm0
  injection hA with hA
  injection hA with e
  subst e
  exact fun j => hk.frozen j
 have HTM:Hid ((⟨tn,⟨A1,m1,c1_⟩,ra,⟨A2,m2,c2_⟩,key⟩:RT) ∈ ts):=by show _ ∈ ts;rw [ht];exact List.getElem_mem hq
 clear hcell hti hra hd hn hXT hXA ht hgq
 go_enter Tryz.func8,Tryz.ntmps8
 go_wp2_with fail
 obtain ⟨W0,hW0⟩:∃ W0,W0 = ((w.alloc (.cells #[.slice (some ⟨b,off,none⟩) m cc] 24)).alloc (.cells #[.int .i64 1,.string tt,.string aa,.string n,.int .i64 to_,.int .i64 dk,.int .i64 dn,.string ds] 28)).alloc (.cells #[.slice none 0 0] 24):=⟨_,rfl⟩
 have S0:Hid (Same w W0):=by show Same _ _;rw [hW0];exact (((Same.refl w).alloc _).alloc _).alloc _
 have BS0:Blk W0 w.heap.size 24 #[.slice (some ⟨b,off,none⟩) m cc]:=by rw [hW0];exact ((Blk.new w _ _).alloc _).alloc _
 have BC0:Blk W0 (w.heap.size + 1) 28 #[.int .i64 1,.string tt,.string aa,.string n,.int .i64 to_,.int .i64 dk,.int .i64 dn,.string ds]:=by
  have e:w.heap.size + 1 = (w.alloc (.cells #[.slice (some ⟨b,off,none⟩) m cc] 24)).heap.size:=by simp
  rw [hW0,e];exact (Blk.new _ _ _).alloc _
 have BR0:Blk W0 (w.heap.size + 1 + 1) 24 #[.slice none 0 0]:=by
  have e:w.heap.size + 1 + 1 = ((w.alloc (.cells #[.slice (some ⟨b,off,none⟩) m cc] 24)).alloc (.cells #[.int .i64 1,.string tt,.string aa,.string n,.int .i64 to_,.int .i64 dk,.int .i64 dn,.string ds] 28)).heap.size:=by simp
  rw [hW0,e];exact Blk.new _ _ _
 rw [← hW0]
 clear hW0
 refine (HF.out _ S0.out).mono ?_
 rintro e w1 ⟨rfl,s1⟩
 have S1:=Lib.hid (S0.out.trans s1)
 have BS1:=Lib.hid (BS0.below s1 BS0.lt)
 have BC1:=Lib.hid (BC0.below s1 BC0.lt)
 have BR1:=Lib.hid (BR0.below s1 BR0.lt)
 clear s1 BS0 BC0 BR0
 have z0:w.heap.size < w1.heap.size:=BS1.out.lt
 have z2:w.heap.size + 1 + 1 < w1.heap.size:=BR1.out.lt
 have lw1:w.heap.size ≤ w1.heap.size:=by omega
 have b0:w1.cell? ⟨w.heap.size,0,none⟩ = some (.slice (some ⟨b,off,none⟩) m cc):=BS1.out.cell 0
 have HRT:=Lib.hid (HRT0.out w1 S1.out)
 have hb1:b < w1.heap.size:=Nat.lt_of_lt_of_le hbl lw1
 have yy0:=(S1.out.cells _ _ hbl).trans y0
 have yy1:=(S1.out.cells _ _ hbl).trans y1
 have yy2:=(S1.out.cells _ _ hbl).trans y2
 go_upto_region 6 with (at_builtin;refine wpList_append_any _ rfl (.tmp 24) (.tmp 26) 22 rfl w.heap.size 44 i0 _ 3 64 Tryz.underlying22 hi0 hiz0 hiz1 hiz2 rfl (by decide) (.slice (some ⟨w1.heap.size,0,none⟩) 0 0) 0 [] rfl (own_low (ownsRow_new w1 _ _) lw1) w1.heap.size (some ⟨b,off,none⟩) m cc XT rfl (HRT.out.alloc (Nat.le_refl _) _) HXT.out (by simp only [maxLen];omega) (by omega) (by simp;omega) ?_;intro v1 w2 hown1 hg1 hat1;rw [List.nil_append,Nat.zero_add] at hown1;obtain ⟨g,c3,hv,hgb,hgl⟩:=own_head hown1 hm0;subst hv;have sm:Same w1 w2:=Below.grown ((Same.refl w1).alloc _) hg1 (by simp) (fun k hk => by simp [Value.ownBlock] at hk;omega);have SM:=Lib.hid sm;have OT:=Lib.hid hown1;have lw2:w.heap.size < w2.heap.size:=Nat.lt_of_lt_of_le z0 sm.size;have lb2:b < w2.heap.size:=Nat.lt_of_lt_of_le hb1 sm.size;have b0':=(sm.cells _ 0 z0).trans b0;have yy0':=(sm.cells _ _ hb1).trans yy0;have yy1':=(sm.cells _ _ hb1).trans yy1;have yy2':=(sm.cells _ _ hb1).trans yy2;clear hown1 hg1 hat1 sm yy0 yy1 yy2 b0)
 obtain ⟨W3,hW3⟩:∃ W3,W3 = (w2.alloc (.cells #[.slice (some ⟨g,0,none⟩) m c3] 24)).alloc (.cells #[.string tn,.slice A1 m1 c1_,.slice A2 m2 c2_] 44):=⟨_,rfl⟩
 have s23:Same w2 W3:=by rw [hW3];exact ((Same.refl w2).alloc _).alloc _
 have BO:Hid (Blk W3 w2.heap.size 24 #[.slice (some ⟨g,0,none⟩) m c3]):=by show Blk _ _ _ _;rw [hW3];exact (Blk.new w2 _ _).alloc _
 have BX:Hid (Blk W3 (w2.heap.size + 1) 44 #[.string tn,.slice A1 m1 c1_,.slice A2 m2 c2_]):=by
  have e:w2.heap.size + 1 = (w2.alloc (.cells #[.slice (some ⟨g,0,none⟩) m c3] 24)).heap.size:=by simp
  show Blk _ _ _ _
  rw [hW3,e];exact Blk.new _ _ _
 rw [← hW3]
 clear hW3 yy0' yy1' yy2' b0'
 have S13:Hid (Same w1 W3):=SM.out.trans s23
 have X3:Hid (XS w W3 g c3 m (w2.heap.size + 1) w2.heap.size XT (.slice (some ⟨b,off,none⟩) m cc) #[.int .i64 1,.string tt,.string aa,.string n,.int .i64 to_,.int .i64 dk,.int .i64 dn,.string ds] tn (.slice A1 m1 c1_) (.slice A2 m2 c2_)):=
  ⟨S1.out.trans S13.out,own_same s23 OT.out,hgb,BX.out,BO.out,BR1.out.below S13.out BR1.out.lt,BC1.out.below S13.out BC1.out.lt,BS1.out.below S13.out BS1.out.lt,by omega,by omega⟩
 have lw3:w.heap.size ≤ W3.heap.size:=X3.out.s.size
 have lx0:w2.heap.size + 1 < W3.heap.size:=BX.out.lt
 have x31:W3.cell? ⟨w2.heap.size + 1,1,none⟩ = some (.slice A1 m1 c1_):=BX.out.cell 1
 have x3f:W3.frozen? ⟨w2.heap.size + 1,1,none⟩ = false:=BX.out.frozen 1
 have HRA:=Lib.hid (HRA0.out W3 X3.out.s)
 clear s23 BO BX SM OT HRT HRT0 HRA0 BS1 BC1 BR1
 go_upto_region 7 with (at_builtin;refine wpList_append_any _ rfl (.tmp 34) (.tmp 36) 41 rfl w.heap.size 82 i1 _ 6 80 Tryz.underlying41 hj0 hjz0 hjz1 hjz2 rfl (by decide) (.slice (some ⟨W3.heap.size,0,none⟩) 0 0) 0 [] rfl (own_low (ownsRow_new W3 _ _) lw3) W3.heap.size A1 m1 c1_ XA rfl (HRA.out.alloc (Nat.le_refl _) _) HXA.out (by simp only [maxLen];omega) (by omega) (by simp;omega) ?_;intro v1 w4 hown1 hg1 hat1;rw [List.nil_append,Nat.zero_add] at hown1;obtain ⟨A4,c4_,hv⟩:=own_val hown1;subst hv;have sm:Same W3 w4:=Below.grown ((Same.refl W3).alloc _) hg1 (by simp) (fun k hk => by simp [Value.ownBlock] at hk;omega);have SM4:=Lib.hid sm;have OA:=Lib.hid hown1;have u1:=(sm.cells _ 1 lx0).trans x31;have uf:=(sm.frees _ 1 lx0).trans x3f;clear hown1 hg1 hat1 sm x31 x3f)
 obtain ⟨W5,hW5⟩:∃ W5,W5 = w4.setCell ⟨w2.heap.size + 1,1,none⟩ (.slice A4 m1 c4_):=⟨_,rfl⟩
 have X4:=X3.out.same SM4.out
 have X5:Hid (XS w W5 g c3 m (w2.heap.size + 1) w2.heap.size XT (.slice (some ⟨b,off,none⟩) m cc) #[.int .i64 1,.string tt,.string aa,.string n,.int .i64 to_,.int .i64 dk,.int .i64 dn,.string ds] tn (.slice A4 m1 c4_) (.slice A2 m2 c2_)):=by
  rw [hW5];exact X4.setX _
 have OA5:Hid (W5.ownsRow w.heap.size 82 6 (.slice A4 m1 c4_) m1 XA):=by show World.ownsRow _ _ _ _ _ _ _;rw [hW5];exact X4.keepX OA.out (by decide) 1 _
 rw [← hW5]
 clear hW5 X4 X3 OA SM4 u1 uf S13 HRA lx0 lw3
 obtain ⟨bx,hbx⟩:∃ bx,bx = w2.heap.size + 1:=⟨_,rfl⟩
 obtain ⟨bo,hbo⟩:∃ bo,bo = w2.heap.size:=⟨_,rfl⟩
 rw [← hbx] at X5 ⊢
 rw [← hbo] at X5 ⊢
 clear hbx hbo lw2 lb2 hgl
 have xW50:=X5.out.bX.cell 0
 have xW51:=X5.out.bX.cell 1
 have xW52:=X5.out.bX.cell 2
 have xfW5:=X5.out.bX.frozen 1
 have cW50:=X5.out.bC.cell 0
 have cW53:=X5.out.bC.cell 3
 have cW54:=X5.out.bC.cell 4
 have cW55:=X5.out.bC.cell 5
 have cW56:=X5.out.bC.cell 6
 have cW57:=X5.out.bC.cell 7
 have lw5:w.heap.size ≤ W5.heap.size:=X5.out.s.size
 go_upto_region 26 with (at_builtin;refine wpList_append_any _ rfl (.tmp 44) (.tmp 52) 41 rfl w.heap.size 82 i1 _ 6 80 Tryz.underlying41 hj0 hjz0 hjz1 hjz2 rfl (by decide) (.slice A4 m1 c4_) m1 XA rfl (OA5.out.alloc _) (W5.heap.size + 1) (some ⟨W5.heap.size,0,none⟩) 1 1 [.string n,.int .i64 to_,.slice none 0 0,.int .i64 dk,.int .i64 dn,.string ds] rfl (reads_agg W5 _ rfl _ _ 6 rfl) (by intro u hu;simp at hu;rcases hu with rfl | rfl | rfl | rfl | rfl | rfl <;> rfl) (by simp only [maxLen];omega) (by omega) (by simp;omega) ?_;intro v2 w6 hown2 hg2 hat2;obtain ⟨A6,c6_,hv⟩:=own_val hown2;subst hv;have X6:=Lib.hid ((X5.out.same ((Same.refl W5).alloc _)).grown (OA5.out.alloc _) (Nat.le_refl _) (by decide) (by decide) (by decide) hg2);have O6:=Lib.hid hown2;have x61:=X6.out.bX.cell 1;have x6f:=X6.out.bX.frozen 1;clear hown2 hg2 hat2)
 obtain ⟨W7,hW7⟩:∃ W7,W7 = w6.setCell ⟨bx,1,none⟩ (.slice A6 (m1 + 1) c6_):=⟨_,rfl⟩
 have X7:=Lib.hid (X6.out.setX (.slice A6 (m1 + 1) c6_))
 have O7:=Lib.hid (X6.out.keepX O6.out (by decide) 1 (.slice A6 (m1 + 1) c6_))
 rw [← hW7] at X7 O7 ⊢
 clear hW7 x61 x6f
 have xW70:=X7.out.bX.cell 0
 have xW71:=X7.out.bX.cell 1
 have xW72:=X7.out.bX.cell 2
 have xfW7:=X7.out.bX.frozen 1
 have oW7:=X7.out.bO.cell 0
 have rW7:=X7.out.bR.cell 0
 have rfW7:=X7.out.bR.frozen 0
 obtain ⟨gW70,gW71,gW72,gfW7⟩:=HGQ.out.2 _ _ _ X7.out.ot
 have gfW70:=gfW7 (q * 3)
 have gfW71:=gfW7 (q * 3 + 1)
 have gfW72:=gfW7 (q * 3 + 2)
 clear gfW7
 have FIN:=Lib.hid (XS.fin (W:=W7) (q:=q) (cc:=cc) (A:=some ⟨b,off,none⟩) (Aa:=A6) (n:=m1 + 1) (ca:=c6_) (Ak:=A2) (nk:=m2) (ck:=c2_) (ra:=ra ++ [⟨⟨n,to_,[],⟨dk,dn,ds⟩⟩,⟨none,0,0⟩⟩]) (key:=key) (by have:=X7.out;rw [HXT'.out] at this;exact this) rfl hm hm2 hqm HA.out HTN.out (by simp;omega) (by omega) (by have h:=O7.out;rw [HXA'.out] at h;rw [List.flatMap_append];exact h) (fun W9 s9 _ => HTK.out.same s9) (fun W9 s9 _ r hr => by
  rcases List.mem_append.1 hr with h1 | h1
  ·exact (HTA.out.same s9).2 r h1
  ·rw [List.mem_singleton.1 h1];exact ⟨strs_none _,HN.out,HD.out⟩) (fun K t _ => (t.2 _ HTM.out).2.1) (fun K t _ r hr => by
  rcases List.mem_append.1 hr with h1 | h1
  ·exact (t.2 _ HTM.out).2.2 r h1
  ·rw [List.mem_singleton.1 h1];exact fun h0 => absurd h0 (Nat.lt_irrefl _)) _ (newT_add ⟨tn,⟨A1,m1,c1_⟩,ra,⟨A2,m2,c2_⟩,key⟩ ⟨1,tt,aa,n,to_,⟨dk,dn,ds⟩⟩ rfl ⟨A6,m1 + 1,c6_⟩))
 have hgo:=X7.out.go.1
 have hgr:=X7.out.go.2
 go_wp2_with fail
 refine bodyPost_ret (v:=.tuple #[.agg #[.slice (some ⟨g,0,none⟩) m c3],.int .i64 0]) ?_ rfl ?_
 ·simp [results,Tryz.results8,go_sem,oW7,rW7,rfW7]
 ·exact FIN.out
theorem own_cast4 {w:World} {B g n c:Nat} {ra:List RA} (o:w.ownsRow B 82 6 (.slice (some ⟨g,0,none⟩) n c) n (ra.flatMap RA.cells)) (hl:ra.length = n) (a:Nat) (ha:a < n) (to_ dk dn:Int) (ds:ByteArray) :
  ((((w.setCell ⟨g,a * 6 + 1,none⟩ (.int .i64 to_)).setCell ⟨g,a * 6 + 3,none⟩ (.int .i64 dk)).setCell ⟨g,a * 6 + 4,none⟩ (.int .i64 dn)).setCell ⟨g,a * 6 + 5,none⟩ (.string ds)).ownsRow B 82 6 (.slice (some ⟨g,0,none⟩) n c) n
   ((ra.set a ⟨⟨(ra[a]'(by omega)).at_.name,to_,(ra[a]'(by omega)).at_.was,⟨dk,dn,ds⟩⟩,(ra[a]'(by omega)).h⟩).flatMap RA.cells):=by
 subst hl
 obtain ⟨r,hr⟩:∃ r,r = ra[a]:=⟨_,rfl⟩
 rw [← hr]
 obtain ⟨⟨nm,kd,was,⟨k0,n0,s0⟩⟩,h⟩:=r
 have o1:=own_set (y:=(⟨⟨nm,to_,was,⟨k0,n0,s0⟩⟩,h⟩:RA)) RA.clen o rfl a ha 1 (by decide) (.int .i64 to_) (by rw [← hr];rfl)
 have o2:=own_set (y:=(⟨⟨nm,to_,was,⟨dk,n0,s0⟩⟩,h⟩:RA)) RA.clen o1 (by simp) a ha 3 (by decide) (.int .i64 dk) (by simp;rfl)
 have o3:=own_set (y:=(⟨⟨nm,to_,was,⟨dk,dn,s0⟩⟩,h⟩:RA)) RA.clen o2 (by simp) a ha 4 (by decide) (.int .i64 dn) (by simp;rfl)
 have o4:=own_set (y:=(⟨⟨nm,to_,was,⟨dk,dn,ds⟩⟩,h⟩:RA)) RA.clen o3 (by simp) a ha 5 (by decide) (.string ds) (by simp;rfl)
 simpa [List.set_set] using o4
theorem XS.cast4 {w W:World} {g c m bx bo:Nat} {XT:List Value} {sv:Value} {cs:Array Value} {tn:ByteArray} {hv kv:Value} (X:XS w W g c m bx bo XT sv cs tn hv kv) {b:Nat} {ys:Array Value} (hb:Blk W b 82 ys) (hl:w.heap.size ≤ b) (j0 j1 j2 j3:Nat) (v0 v1 v2 v3:Value) :
  XS w ((((W.setCell ⟨b,j0,none⟩ v0).setCell ⟨b,j1,none⟩ v1).setCell ⟨b,j2,none⟩ v2).setCell ⟨b,j3,none⟩ v3) g c m bx bo XT sv cs tn hv kv:=
 (((X.set_ hb hl (by decide) (by decide) (by decide) j0 v0).set_ (hb.set_ _ _) hl (by decide) (by decide) (by decide) j1 v1).set_ ((hb.set_ _ _).set_ _ _) hl (by decide) (by decide) (by decide) j2 v2).set_ (((hb.set_ _ _).set_ _ _).set_ _ _) hl (by decide) (by decide) (by decide) j3 v3
theorem rapply_cast (A:Option Addr) (m cc:Nat) (tt aa n:ByteArray) (to_ dk dn:Int) (ds:ByteArray) (ts:List RT) (w:World) (hm:ts.length = m) (hm2:m ≤ 20) (HA:Hid (TabsAt w ⟨A,m,cc⟩ ts))
  (q:Nat) (cj:Int) (HF:Hid (Rt 41 #[.agg #[.slice A m cc],.agg #[.int .i64 4,.string tt,.string aa,.string n,.int .i64 to_,.int .i64 dk,.int .i64 dn,.string ds]] w (.tuple #[.int .i64 q,.int .i64 cj,.int .i64 0])))
  (hq:q < ts.length) (hn:okS n) (hd:okS ds) (hra:ts[q].ra.length ≤ 12) (a:Nat) (hcj:cj = a) (ha:a < ts[q].ra.length) (hc:colA ts[q].tb.attrs aa = a) :
  Calls Tryz.prog 8 #[.agg #[.slice A m cc],.agg #[.int .i64 4,.string tt,.string aa,.string n,.int .i64 to_,.int .i64 dk,.int .i64 dn,.string ds]] w fun e w' => ROut w ⟨A,m,cc⟩ ts q (newT ts[q].tb ⟨4,tt,aa,n,to_,⟨dk,dn,ds⟩⟩) w' e:=by
 obtain ⟨i0,hi0,hiz0,hiz1,hiz2⟩:=info_parts Tryz.infoCT
 obtain ⟨i1,hj0,hjz0,hjz1,hjz2⟩:=info_parts Tryz.infoCA
 have hqm:q < m:=by omega
 have hm0:0 < m:=by omega
 have q0:(0:Int) ≤ (q:Int):=by omega
 have q1:(q:Int) < (m:Int):=by omega
 obtain ⟨b,off,hA,hbl,hcell⟩:=HA.out.1.2.2 q hq
 have hA':A = some ⟨b,off,none⟩:=hA
 clear hA
 subst hA'
 have hti:=HA.out.2 _ (List.getElem_mem hq)
 have hgq:ts[q]? = some ts[q]:=List.getElem?_eq_getElem hq
 obtain ⟨t,ht⟩:∃ t,t = ts[q]:=⟨_,rfl⟩
 rw [← ht] at hcell hti hra ha hc ⊢
 obtain ⟨tn,⟨A1,m1,c1_⟩,ra,⟨A2,m2,c2_⟩,key⟩:=t
 have y0:w.cell? ⟨b,off + q * 3,none⟩ = some (.string tn):=hcell 0 _ rfl
 have y1:w.cell? ⟨b,off + q * 3 + 1,none⟩ = some (.slice A1 m1 c1_):=hcell 1 _ rfl
 have y2:w.cell? ⟨b,off + q * 3 + 2,none⟩ = some (.slice A2 m2 c2_):=hcell 2 _ rfl
 have hm1:ra.length = m1:=hti.1.1.1
 have hra':ra.length ≤ 12:=hra
 have hm12:m1 ≤ 12:=by omega
 have HTA:Hid (AttrsAt w ⟨A1,m1,c1_⟩ ra):=hti.1
 have HTK:Hid (IntsAt w ⟨A2,m2,c2_⟩ key):=hti.2.1
 have HTN:Hid (okS tn):=hti.2.2
 have HD:=Lib.hid hd
 have HN:=Lib.hid hn
 obtain ⟨XT,hXT⟩:∃ XT,XT = ts.flatMap RT.cells:=⟨_,rfl⟩
 obtain ⟨XA,hXA⟩:∃ XA,XA = ra.flatMap RA.cells:=⟨_,rfl⟩
 have HXA':Hid (XA = ra.flatMap RA.cells):=hXA
 have HXT':Hid (XT = ts.flatMap RT.cells):=hXT
 have HXT:Hid (∀ u ∈ XT,u.oneCell' = true):=Lib.hid fun u hu => by
  rw [hXT] at hu
  obtain ⟨x,_,hx⟩:=List.mem_flatMap.1 hu
  exact RT.one1 x u hx
 have HXA:Hid (∀ u ∈ XA,u.oneCell' = true):=Lib.hid fun u hu => by
  rw [hXA] at hu
  obtain ⟨x,_,hx⟩:=List.mem_flatMap.1 hu
  exact RA.one1 x u hx
 have HRT0:Hid (∀ W,Same w W → Reads W W.heap.size 3 (some ⟨b,off,none⟩) m XT):=Lib.hid fun W s => by rw [hXT];exact lies_reads RT.clen (HA.out.same s).1
 have HRA0:Hid (∀ W,Same w W → Reads W W.heap.size 6 A1 m1 XA):=Lib.hid fun W s => by rw [hXA];exact lies_reads RA.clen (HTA.out.same s).1
 have HGQ:Hid (q < m ∧ (∀ (W:World) (g c:Nat),W.ownsRow w.heap.size 44 3 (.slice (some ⟨g,0,none⟩) m c) m XT → W.cell? ⟨g,q * 3,none⟩ = some (.string tn) ∧ W.cell? ⟨g,q * 3 + 1,none⟩ = some (.slice A1 m1 c1_) ∧ W.cell? ⟨g,q * 3 + 2,none⟩ = some (.slice A2 m2 c2_) ∧ ∀ j,W.frozen? ⟨g,j,none⟩ = false)):=by
  refine ⟨hqm,fun W g c o => ?_⟩
  rw [hXT] at o
  have z0:=own_cell RT.clen o hm q hqm 0 (by decide)
  have z1:=own_cell RT.clen o hm q hqm 1 (by decide)
  have z2:=own_cell RT.clen o hm q hqm 2 (by decide)
  rw [← ht] at z0 z1 z2
  refine ⟨z0,z1,z2,?_⟩
  obtain ⟨g',cur,hA,_,hk,_⟩:=own_blk o hm0
  injection hA with hA
  injection hA with e
  subst e
  exact fun j => hk.frozen j
 have HTM:Hid ((⟨tn,⟨A1,m1,c1_⟩,ra,⟨A2,m2,c2_⟩,key⟩:RT) ∈ ts):=by show _ ∈ ts;rw [ht];exact List.getElem_mem hq
 clear hcell hti hra hd hn hXT hXA ht hgq
 have ha':a < ra.length:=ha
 have ham:a < m1:=by omega
 have HCA:Hid (colA (RT.tb ⟨tn,⟨A1,m1,c1_⟩,ra,⟨A2,m2,c2_⟩,key⟩).attrs aa = a):=hc
 clear ha hc
 subst hcj
 go_enter Tryz.func8,Tryz.ntmps8
 go_wp2_with fail
 obtain ⟨W0,hW0⟩:∃ W0,W0 = ((w.alloc (.cells #[.slice (some ⟨b,off,none⟩) m cc] 24)).alloc (.cells #[.int .i64 4,.string tt,.string aa,.string n,.int .i64 to_,.int .i64 dk,.int .i64 dn,.string ds] 28)).alloc (.cells #[.slice none 0 0] 24):=⟨_,rfl⟩
 have S0:Hid (Same w W0):=by show Same _ _;rw [hW0];exact (((Same.refl w).alloc _).alloc _).alloc _
 have BS0:Blk W0 w.heap.size 24 #[.slice (some ⟨b,off,none⟩) m cc]:=by rw [hW0];exact ((Blk.new w _ _).alloc _).alloc _
 have BC0:Blk W0 (w.heap.size + 1) 28 #[.int .i64 4,.string tt,.string aa,.string n,.int .i64 to_,.int .i64 dk,.int .i64 dn,.string ds]:=by
  have e:w.heap.size + 1 = (w.alloc (.cells #[.slice (some ⟨b,off,none⟩) m cc] 24)).heap.size:=by simp
  rw [hW0,e];exact (Blk.new _ _ _).alloc _
 have BR0:Blk W0 (w.heap.size + 1 + 1) 24 #[.slice none 0 0]:=by
  have e:w.heap.size + 1 + 1 = ((w.alloc (.cells #[.slice (some ⟨b,off,none⟩) m cc] 24)).alloc (.cells #[.int .i64 4,.string tt,.string aa,.string n,.int .i64 to_,.int .i64 dk,.int .i64 dn,.string ds] 28)).heap.size:=by simp
  rw [hW0,e];exact Blk.new _ _ _
 rw [← hW0]
 clear hW0
 refine (HF.out _ S0.out).mono ?_
 rintro e w1 ⟨rfl,s1⟩
 have S1:=Lib.hid (S0.out.trans s1)
 have BS1:=Lib.hid (BS0.below s1 BS0.lt)
 have BC1:=Lib.hid (BC0.below s1 BC0.lt)
 have BR1:=Lib.hid (BR0.below s1 BR0.lt)
 clear s1 BS0 BC0 BR0
 have z0:w.heap.size < w1.heap.size:=BS1.out.lt
 have z2:w.heap.size + 1 + 1 < w1.heap.size:=BR1.out.lt
 have lw1:w.heap.size ≤ w1.heap.size:=by omega
 have b0:w1.cell? ⟨w.heap.size,0,none⟩ = some (.slice (some ⟨b,off,none⟩) m cc):=BS1.out.cell 0
 have HRT:=Lib.hid (HRT0.out w1 S1.out)
 have hb1:b < w1.heap.size:=Nat.lt_of_lt_of_le hbl lw1
 have yy0:=(S1.out.cells _ _ hbl).trans y0
 have yy1:=(S1.out.cells _ _ hbl).trans y1
 have yy2:=(S1.out.cells _ _ hbl).trans y2
 go_upto_region 6 with (at_builtin;refine wpList_append_any _ rfl (.tmp 24) (.tmp 26) 22 rfl w.heap.size 44 i0 _ 3 64 Tryz.underlying22 hi0 hiz0 hiz1 hiz2 rfl (by decide) (.slice (some ⟨w1.heap.size,0,none⟩) 0 0) 0 [] rfl (own_low (ownsRow_new w1 _ _) lw1) w1.heap.size (some ⟨b,off,none⟩) m cc XT rfl (HRT.out.alloc (Nat.le_refl _) _) HXT.out (by simp only [maxLen];omega) (by omega) (by simp;omega) ?_;intro v1 w2 hown1 hg1 hat1;rw [List.nil_append,Nat.zero_add] at hown1;obtain ⟨g,c3,hv,hgb,hgl⟩:=own_head hown1 hm0;subst hv;have sm:Same w1 w2:=Below.grown ((Same.refl w1).alloc _) hg1 (by simp) (fun k hk => by simp [Value.ownBlock] at hk;omega);have SM:=Lib.hid sm;have OT:=Lib.hid hown1;have lw2:w.heap.size < w2.heap.size:=Nat.lt_of_lt_of_le z0 sm.size;have lb2:b < w2.heap.size:=Nat.lt_of_lt_of_le hb1 sm.size;have b0':=(sm.cells _ 0 z0).trans b0;have yy0':=(sm.cells _ _ hb1).trans yy0;have yy1':=(sm.cells _ _ hb1).trans yy1;have yy2':=(sm.cells _ _ hb1).trans yy2;clear hown1 hg1 hat1 sm yy0 yy1 yy2 b0)
 obtain ⟨W3,hW3⟩:∃ W3,W3 = (w2.alloc (.cells #[.slice (some ⟨g,0,none⟩) m c3] 24)).alloc (.cells #[.string tn,.slice A1 m1 c1_,.slice A2 m2 c2_] 44):=⟨_,rfl⟩
 have s23:Same w2 W3:=by rw [hW3];exact ((Same.refl w2).alloc _).alloc _
 have BO:Hid (Blk W3 w2.heap.size 24 #[.slice (some ⟨g,0,none⟩) m c3]):=by show Blk _ _ _ _;rw [hW3];exact (Blk.new w2 _ _).alloc _
 have BX:Hid (Blk W3 (w2.heap.size + 1) 44 #[.string tn,.slice A1 m1 c1_,.slice A2 m2 c2_]):=by
  have e:w2.heap.size + 1 = (w2.alloc (.cells #[.slice (some ⟨g,0,none⟩) m c3] 24)).heap.size:=by simp
  show Blk _ _ _ _
  rw [hW3,e];exact Blk.new _ _ _
 rw [← hW3]
 clear hW3 yy0' yy1' yy2' b0'
 have S13:Hid (Same w1 W3):=SM.out.trans s23
 have X3:Hid (XS w W3 g c3 m (w2.heap.size + 1) w2.heap.size XT (.slice (some ⟨b,off,none⟩) m cc) #[.int .i64 4,.string tt,.string aa,.string n,.int .i64 to_,.int .i64 dk,.int .i64 dn,.string ds] tn (.slice A1 m1 c1_) (.slice A2 m2 c2_)):=
  ⟨S1.out.trans S13.out,own_same s23 OT.out,hgb,BX.out,BO.out,BR1.out.below S13.out BR1.out.lt,BC1.out.below S13.out BC1.out.lt,BS1.out.below S13.out BS1.out.lt,by omega,by omega⟩
 have lw3:w.heap.size ≤ W3.heap.size:=X3.out.s.size
 have lx0:w2.heap.size + 1 < W3.heap.size:=BX.out.lt
 have x31:W3.cell? ⟨w2.heap.size + 1,1,none⟩ = some (.slice A1 m1 c1_):=BX.out.cell 1
 have x3f:W3.frozen? ⟨w2.heap.size + 1,1,none⟩ = false:=BX.out.frozen 1
 have HRA:=Lib.hid (HRA0.out W3 X3.out.s)
 clear s23 BO BX SM OT HRT HRT0 HRA0 BS1 BC1 BR1
 go_upto_region 7 with (at_builtin;refine wpList_append_any _ rfl (.tmp 34) (.tmp 36) 41 rfl w.heap.size 82 i1 _ 6 80 Tryz.underlying41 hj0 hjz0 hjz1 hjz2 rfl (by decide) (.slice (some ⟨W3.heap.size,0,none⟩) 0 0) 0 [] rfl (own_low (ownsRow_new W3 _ _) lw3) W3.heap.size A1 m1 c1_ XA rfl (HRA.out.alloc (Nat.le_refl _) _) HXA.out (by simp only [maxLen];omega) (by omega) (by simp;omega) ?_;intro v1 w4 hown1 hg1 hat1;rw [List.nil_append,Nat.zero_add] at hown1;obtain ⟨A4,c4_,hv⟩:=own_val hown1;subst hv;have sm:Same W3 w4:=Below.grown ((Same.refl W3).alloc _) hg1 (by simp) (fun k hk => by simp [Value.ownBlock] at hk;omega);have SM4:=Lib.hid sm;have OA:=Lib.hid hown1;have u1:=(sm.cells _ 1 lx0).trans x31;have uf:=(sm.frees _ 1 lx0).trans x3f;clear hown1 hg1 hat1 sm x31 x3f)
 obtain ⟨W5,hW5⟩:∃ W5,W5 = w4.setCell ⟨w2.heap.size + 1,1,none⟩ (.slice A4 m1 c4_):=⟨_,rfl⟩
 have X4:=X3.out.same SM4.out
 have X5:Hid (XS w W5 g c3 m (w2.heap.size + 1) w2.heap.size XT (.slice (some ⟨b,off,none⟩) m cc) #[.int .i64 4,.string tt,.string aa,.string n,.int .i64 to_,.int .i64 dk,.int .i64 dn,.string ds] tn (.slice A4 m1 c4_) (.slice A2 m2 c2_)):=by
  rw [hW5];exact X4.setX _
 have OA5:Hid (W5.ownsRow w.heap.size 82 6 (.slice A4 m1 c4_) m1 XA):=by show World.ownsRow _ _ _ _ _ _ _;rw [hW5];exact X4.keepX OA.out (by decide) 1 _
 rw [← hW5]
 clear hW5 X4 X3 OA SM4 u1 uf S13 HRA lx0 lw3
 obtain ⟨bx,hbx⟩:∃ bx,bx = w2.heap.size + 1:=⟨_,rfl⟩
 obtain ⟨bo,hbo⟩:∃ bo,bo = w2.heap.size:=⟨_,rfl⟩
 rw [← hbx] at X5 ⊢
 rw [← hbo] at X5 ⊢
 clear hbx hbo lw2 lb2 hgl
 have xW50:=X5.out.bX.cell 0
 have xW51:=X5.out.bX.cell 1
 have xW52:=X5.out.bX.cell 2
 have xfW5:=X5.out.bX.frozen 1
 have cW50:=X5.out.bC.cell 0
 have cW53:=X5.out.bC.cell 3
 have cW54:=X5.out.bC.cell 4
 have cW55:=X5.out.bC.cell 5
 have cW56:=X5.out.bC.cell 6
 have cW57:=X5.out.bC.cell 7
 have hpos:0 < m1:=by omega
 obtain ⟨ga,ca,hv,hgab,hgal⟩:=own_head OA5.out hpos
 injection hv with hv1 _ hv2
 subst hv1 hv2
 obtain ⟨ga',cur,hA,_,hk,_,hmc,hcm,_⟩:=own_blk OA5.out hpos
 injection hA with hA
 injection hA with e
 subst e
 have HK:=Lib.hid hk
 have nbx:ga ≠ bx:=hk.ne_ X5.out.bX (by decide)
 have nbc:ga ≠ w.heap.size + 1:=hk.ne_ X5.out.bC (by decide)
 obtain ⟨⟨⟨nm,kd,was,⟨k0,n0,s0⟩⟩,hh⟩,hr⟩:∃ r,r = ra[a]:=⟨_,rfl⟩
 have eW51:=own_cell RA.clen (by have h:=OA5.out;rw [HXA'.out] at h;exact h) hm1 a ham 1 (by decide)
 have efW51:=hk.frozen (a * 6 + 1)
 have eW53:=own_cell RA.clen (by have h:=OA5.out;rw [HXA'.out] at h;exact h) hm1 a ham 3 (by decide)
 have efW53:=hk.frozen (a * 6 + 3)
 have eW54:=own_cell RA.clen (by have h:=OA5.out;rw [HXA'.out] at h;exact h) hm1 a ham 4 (by decide)
 have efW54:=hk.frozen (a * 6 + 4)
 have eW55:=own_cell RA.clen (by have h:=OA5.out;rw [HXA'.out] at h;exact h) hm1 a ham 5 (by decide)
 have efW55:=hk.frozen (a * 6 + 5)
 rw [← hr] at eW51 eW53 eW54 eW55
 have HR:=Lib.hid hr
 have eW51':W5.cell? ⟨ga,a * 6 + 1,none⟩ = some (.int .i64 kd):=eW51
 have eW53':W5.cell? ⟨ga,a * 6 + 3,none⟩ = some (.int .i64 k0):=eW53
 have eW54':W5.cell? ⟨ga,a * 6 + 4,none⟩ = some (.int .i64 n0):=eW54
 have eW55':W5.cell? ⟨ga,a * 6 + 5,none⟩ = some (.string s0):=eW55
 clear eW51 eW53 eW54 eW55 hr hk
 go_upto_region 26 with (fail)
 obtain ⟨W7,hW7⟩:∃ W7,W7 = (((W5.setCell ⟨ga,a * 6 + 1,none⟩ (.int .i64 to_)).setCell ⟨ga,a * 6 + 3,none⟩ (.int .i64 dk)).setCell ⟨ga,a * 6 + 4,none⟩ (.int .i64 dn)).setCell ⟨ga,a * 6 + 5,none⟩ (.string ds):=⟨_,rfl⟩
 have X7:=Lib.hid (X5.out.cast4 HK.out hgab (a * 6 + 1) (a * 6 + 3) (a * 6 + 4) (a * 6 + 5) (.int .i64 to_) (.int .i64 dk) (.int .i64 dn) (.string ds))
 have O7:=Lib.hid (own_cast4 (by have h:=OA5.out;rw [HXA'.out] at h;exact h) hm1 a ham to_ dk dn ds)
 rw [← hW7] at X7 O7 ⊢
 clear hW7
 have xW70:=X7.out.bX.cell 0
 have xW71:=X7.out.bX.cell 1
 have xW72:=X7.out.bX.cell 2
 have xfW7:=X7.out.bX.frozen 1
 have oW7:=X7.out.bO.cell 0
 have rW7:=X7.out.bR.cell 0
 have rfW7:=X7.out.bR.frozen 0
 obtain ⟨gW70,gW71,gW72,gfW7⟩:=HGQ.out.2 _ _ _ X7.out.ot
 have gfW70:=gfW7 (q * 3)
 have gfW71:=gfW7 (q * 3 + 1)
 have gfW72:=gfW7 (q * 3 + 2)
 clear gfW7
 have FIN:=Lib.hid (XS.fin (W:=W7) (q:=q) (cc:=cc) (A:=some ⟨b,off,none⟩) (Aa:=some ⟨ga,0,none⟩) (n:=m1) (ca:=c4_) (Ak:=A2) (nk:=m2) (ck:=c2_) (ra:=ra.set a ⟨⟨ra[a].at_.name,to_,ra[a].at_.was,⟨dk,dn,ds⟩⟩,ra[a].h⟩) (key:=key) (by have:=X7.out;rw [HXT'.out] at this;exact this) rfl hm hm2 hqm HA.out HTN.out (by simp;omega) (by omega) O7.out (fun W9 s9 _ => HTK.out.same s9) (fun W9 s9 _ => RAsOk.set (HTA.out.same s9).2 a _ (by
  have h:=(HTA.out.same s9).2 ra[a] (List.getElem_mem ha')
  exact ⟨h.1,h.2.1,HD.out⟩)) (fun K t _ => (t.2 _ HTM.out).2.1) (fun K t _ r hr => by
  rcases List.mem_or_eq_of_mem_set hr with h1 | h1
  ·exact (t.2 _ HTM.out).2.2 r h1
  ·rw [h1];exact (t.2 _ HTM.out).2.2 ra[a] (List.getElem_mem ha')) _ (newT_cast ⟨tn,⟨A1,m1,c1_⟩,ra,⟨A2,m2,c2_⟩,key⟩ ⟨4,tt,aa,n,to_,⟨dk,dn,ds⟩⟩ a ha' rfl HCA.out))
 have hgo:=X7.out.go.1
 have hgr:=X7.out.go.2
 go_wp2_with fail
 refine bodyPost_ret (v:=.tuple #[.agg #[.slice (some ⟨g,0,none⟩) m c3],.int .i64 0]) ?_ rfl ?_
 ·simp [results,Tryz.results8,go_sem,oW7,rW7,rfW7]
 ·exact FIN.out
end Go.Proofs.YtfifnemnihcijaaGreatDoor
