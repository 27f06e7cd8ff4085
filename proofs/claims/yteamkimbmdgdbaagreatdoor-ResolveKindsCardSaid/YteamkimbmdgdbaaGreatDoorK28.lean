import Derived.Test.YteamkimbmdgdbaaGreatDoorK25
import Derived.Test.YteamkimbmdgdbaaGreatDoorK26
set_option linter.unusedSimpArgs false
set_option linter.unusedVariables false
set_option maxHeartbeats 16000000
set_option maxRecDepth 100000
namespace Go.Proofs.YteamkimbmdgdbaaGreatDoor
open Go.RowKit
theorem k0.tabs {g:af} {X k l:Nat} {o:Nat->Prop} {d:List RT} {u:cI} {m:Int} (f:k0 g X k l o d u m) (o:d.length<=1000):
 ∃h:Hd,h.n=d.length/\bI g h d/\(∀i,i<l->gN i d)/\(∀c∈d,∀d∈c.ra,gL d)/\
  J g X 157 #[h.val,aa,aa,aa,aa,aa,aa,.map (some k),m]:=by
 obtain⟨h,p,j,e⟩:=f;have d:=e.nest _ (List.mem_singleton.2 rfl);refine⟨h,j,⟨cF (h:=h) RT.CN j.symm (by rw[j];omega) (e.own _ (List.mem_singleton.2 rfl)),λc g=>(d c g).a⟩,λi g c g i j k l=>?_,λc g=>(d c g).b,e.bx⟩;have c:=(e.lt i ((d c g).ik i j k).1).1;omega
theorem gN.next {X a:Nat} {b c:List RT} (i:gN X b) (j:iM a b c) (b:X<a):gN X c:=λd k e f g=>by
 rcases j d k with h|h
 ·exact i d h e f g
 have:=h e f g;omega
theorem Eo {a:List Tb} {b:Cg} {c:List Cg} (h:dj a b=0):fS a (b::c)=fS (gC a b) c:=by
 rw[fS,if_pos h]
theorem Ep {a:List Tb} {b:Cg} {cs:List Cg} (h:dj a b≠0):fS a (b::cs)=.bad (dj a b) (-1):=by
 rw[fS,if_neg h]
def gU (a:List Tb) (b:Nat):Prop:=∀c∈a,∀a∈c.attrs,a.was.length<=b
theorem gU.apply {S:List Tb} {d:Cg} {n:Nat} (l:gU S n) (h:dj S d=0):gU (gC S d) (n+1):=by
 obtain⟨p,z,m,q,r,A,s,B⟩:=rY h;intro z t b a;obtain⟨e,o,rfl⟩:=List.mem_iff_getElem.1 t;have f:e<S.length:=by rw[r1]at o;exact o
 rw[vX q r e f]at a;by_cases g:m=e
 ·rw[if_pos g]at a
  subst g;have c:=l _ (List.getElem_mem f);have u:d.kind≠1->0<=bH S[m].attrs d.attr:=λd=>by have:=s d;omega
  rcases vY p u with⟨_,i⟩|⟨v,w,x,i,_,y⟩
  ·rw[i]at a
   simp only[List.mem_append,List.mem_singleton]at a;rcases a with a|rfl
   ·have:=c b a;omega
   simp
  rw[i]at c;have d:=c w ai;have j:=λd (e:d∈v)=>c d (by simp[e]);have k:=λd (e:d∈x)=>c d (by simp[e]);rcases y with⟨_,hA2⟩|⟨_,hA2⟩|⟨_,hA2⟩
  ·rw[hA2]at a
   simp only[List.mem_append]at a;rcases a with a|a
   ·have:=j b a;omega
   have:=k b a;omega
  ·rw[hA2]at a
   simp only[List.mem_append,List.mem_cons]at a;rcases a with a|rfl|a
   ·have:=j b a;omega
   ·simp;omega
   have:=k b a;omega
  rw[hA2]at a;simp only[List.mem_append,List.mem_cons]at a;rcases a with a|rfl|a
  ·have:=j b a;omega
  ·simp;omega
  have:=k b a;omega
 rw[if_neg g]at a;have:=l _ (List.getElem_mem f) b a;omega
theorem v8 {a:List RT} {S:List Tb} {b:Nat} (c:a.map RT.tb=S) (d:gU S b) (e:b<=1000000):dh a:=by
 intro a b e f;have:=d a.tb (by rw[<-c];exact List.mem_map_of_mem b) e.at_ (List.mem_map_of_mem f);omega
def k9 (a:List Tb) (b:Nat):Prop:=∀c∈a,c.attrs.length<=b
theorem k9.apply {S:List Tb} {a:Cg} {n:Nat} (g:k9 S n) (h:dj S a=0):k9 (gC S a) (n+1):=by
 obtain⟨k,s,i,l,m,t,o,u⟩:=rY h;intro s p;obtain⟨b,j,rfl⟩:=List.mem_iff_getElem.1 p;have c:b<S.length:=by rw[r1]at j;exact j
 rw[vX l m b c];by_cases d:i=b
 ·rw[if_pos d]
  subst d;have e:=g _ (List.getElem_mem c);have q:a.kind≠1->0<=bH S[i].attrs a.attr:=λa=>by have:=o a;omega
  rcases vY k q with⟨_,f⟩|⟨v,w,x,f,_,r⟩
  ·rw[f]
   simp;exact e
  rw[f]at e;simp at e;rcases r with⟨_,hA2⟩|⟨_,hA2⟩|⟨_,hA2⟩<;>(rw[hA2];simp;omega)
 rw[if_neg d];have:=g _ (List.getElem_mem c);omega
theorem r4 (e:Int):∀(b:List dl) (d a:List At),fy e d b=.ok a->a.length=d.length+b.length
 |[],d,a,h=>by
  rw[fy]at h;injection h with h
  simp[h]
 |c::b,d,a,h=>by
  rw[fy]at h;unfold RO.ap at h;split at h
  ·split at h
   ·split at h
    ·split at h
     ·have:=r4 e b _ a h
      simp at this;simp;omega
     cases h
    cases h
   cases h
  cases h
theorem Er {d:List Tb} {a:aI} {b:Tb} (h:fL d a=.ok b):b.attrs.length<=12:=by
 unfold fL RO.ap at h;split at h
 ·rename_i e
  cases hc:fy a.at_ [] a.cD with
  |bad c f=>rw[hc]at h;cases h
  |ok c=>
   rw[hc]at h;simp only[RO.bind]at h;split at h
   ·cases hk:dv a.at_ c [] a.names with
    |bad f g=>rw[hk]at h;cases h
    |ok f=>
     rw[hk]at h;injection h with h
     subst h;have:=r4 _ _ _ _ hc;simp[aZ]at e this;show c.length<=12;omega
   cases h
 cases h
theorem wa:∀(c:List aI) (a:List Tb) (d:cI) (e:List (Int×Int)),k9 a 12->k9 (ep a d e c).1 12
 |[],a,d,e,h=>by rw[ep];exact h
 |x::c,a,d,e,h=>by
  rw[p0];refine wa c _ _ _ ?_;unfold fI;split
  ·exact h
  split
  ·cases ht:fL a x with
   |ok g=>
    intro f b;rcases cY b with b|b
    ·exact h f b
    rw[aA b];exact Er ht
   |bad b f=>exact h
  exact h
theorem Es {a:List RT} {b c:Nat} (d:gU (a.map RT.tb) b) (e:k9 (a.map RT.tb) c) (f:b<=1000000) (g:c<=10000):kR (a.map RT.tb):=λa b=>⟨bR (e a b) g,λc e=>bR (d a b c e) f⟩
def L2 (a b:af) (hv:ay) (e:List (Int×Int)) (f:List Tb) (cs:List Cg) (d:Nat):Prop:=∃(h:Hd) (c:List RT) (g:Int),ag a b/\J b a.heap.size 24 #[hv]/\J b (a.heap.size+1) 37 b6/\
 J b (a.heap.size+1+1+1+1) 154 #[aj (a.heap.size+1+1+1)]/\eQ b (a.heap.size+1+1+1+1+1) e/\
 J b (a.heap.size+1+1+1) 157 #[h.val,aa,aa,aa,aa,aa,aa,.map (some (a.heap.size+1+1)),g]/\
 bI b h c/\(∀b,b<a.heap.size+1+1+1+1+1+1->gN b c)/\gU (c.map RT.tb) d/\k9 (c.map RT.tb) (12+d)/\fS f cs=fS (c.map RT.tb) (cs.drop d)
theorem Et {d e:af} {hv:ay} {a:List RI} {cs:List Cg} (l:L1 d e hv a a.length) (f:a.length<=200):∃(b:List (Int×Int)) (g:List Tb),b.length=a.length/\ep [] [] [] (a.map RI.it)=(g,b)/\L2 d e hv b g cs 0:=by
 obtain⟨i,b,x,y,m,sm,n,o,p,q,r,z,s,j⟩:=l;obtain⟨h,l,d,e,t,g⟩:=s.tabs ae;refine⟨b,i.map RT.tb,r,by rw[j];simp[ep],h,i,m,sm,n,o,p,by simpa using q,g,d,e,λb c d u=>?_,?_,by simp⟩;rotate_left
 ·have k:=wa (a.map RI.it) [] [] [] (λb c=>by cases c)
  rw[j]at k;simpa[ep]using k
 obtain⟨k,v,rfl⟩:=List.mem_map.1 c;obtain⟨w,f,rfl⟩:=List.mem_map.1 u;exact Nat.le_of_eq (by rw[(t k v w f).2];rfl)
theorem Eu {a b m e:af} {hv:ay} {s:List (Int×Int)} {t:List Tb} {cs:List Cg} {f:Nat} {n:Cg} {h g:Hd} {c k:List RT} {o:Int} (z:cs[f]?=some n) (q:dj (c.map RT.tb) n=0) (sm:ag a b) (A:J b a.heap.size 24 #[hv]) (B:J b (a.heap.size+1) 37 b6)
 (C:J b (a.heap.size+1+1+1+1) 154 #[aj (a.heap.size+1+1+1)]) (v:eQ b (a.heap.size+1+1+1+1+1) s)
 (w:J b (a.heap.size+1+1+1) 157 #[h.val,aa,aa,aa,aa,aa,aa,.map (some (a.heap.size+1+1)),o])
 (D:∀i,i<a.heap.size+1+1+1+1+1+1->gN i c) (E:gU (c.map RT.tb) f) (F:k9 (c.map RT.tb) (12+f)) (G:fS t cs=fS (c.map RT.tb) (cs.drop f)) (x:ag b m) (b:ag m e) (H:bI e g k) (r:k.map RT.tb=gC (c.map RT.tb) n) (I:iM m.heap.size c k):
 L2 a (e.setCell (ab (a.heap.size+1+1+1) 0) g.val) hv s t cs (f+1):=by
 have y:=x.trans b;have d:=Kp.aE (l:=[a.heap.size+1+1+1]) (p:=(ab (a.heap.size+1+1+1) 0)) ai (Kp.refl [a.heap.size+1+1+1] e) g.val;have b:=w.lt;have j:=Kp.of_same (l:=[]) y;have qB:=j.blk w ai;have L:mR [.slice none 0 0,.slice none 0 0,.slice none 0 0,.slice none 0 0,.slice none 0 0,.slice none 0 0,.map (some (a.heap.size+1+1))]:=⟨rfl,λb hv b K=>by
  subst K;simp at hv⟩
 have f:jp e (a.heap.size+1+1+1):=gv.g9 (h:=h) (u:=[.slice none 0 0,.slice none 0 0,.slice none 0 0,.slice none 0 0,.slice none 0 0,.slice none 0 0,.map (some (a.heap.size+1+1))]) ⟨o,qB⟩ L;have hF:=J.lt v;have e:=λi (b:i<a.heap.size+1+1+1+1+1+1)=>(D i b).next I (aT ae x.size);have a:∀b,b≠a.heap.size+1+1+1->b∉[a.heap.size+1+1+1]:=λb c a=>c (aA a);refine⟨g,k,o,d.g4 (sm.trans y) (λb c=>by rw[aA c];omega),d.blk (j.blk A ai) (a _ ae),d.blk (j.blk B ai) (a _ ae),d.blk (j.blk C ai) (a _ ae),(v.kp j ai).kp d (a _ ae),?_,H.iG f (e _ ae) d,e,?_,?_,?_⟩
 ·simpa using qB.aP 0 g.val
 ·rw[r]
  exact E.apply q
 ·rw[r]
  exact F.apply q
 obtain⟨a,b⟩:=List.getElem?_eq_some_iff.1 z;rw[G,List.drop_eq_getElem_cons a,b,Eo q,r]
theorem RO.ct {c d:Type} {b:RO c} {e:c->RO d} {c:d} (h:b.bind e=.ok c):∃a,b=.ok a/\e a=.ok c:=by
 cases b with
 |ok a=>exact⟨a,rfl,h⟩
 |bad f a=>cases h
theorem RO.ce {b:Type} {c:Bool} {f a:Int} {d:RO b} {e:b} (h:RO.ap c f a d=.ok e):c=true/\d=.ok e:=by
 unfold RO.ap at h;split at h
 ·rename_i b
  exact⟨b,h⟩
 cases h
inductive hI (s:Su):Su->Prop
 |none:hI s s
 |origin (o:Og) (h:s.origins.length<64):hI s {s with origins:=s.origins++[o]}
 |block (o:Bk):hI s {s with blocks:=s.blocks++[o]}
 |match_ (o:Mt):hI s {s with kG:=s.kG++[o]}
 |keep (o:dR):hI s {s with keeps:=s.keeps++[o]}
 |rule (o:Ru):hI s {s with rules:=s.rules++[o]}
 |query (o:Qy):hI s {s with queries:=s.queries++[o]}
theorem Ev {b c:Su} {d:RO Ru} (h:d.bind (nE b)=.ok c):hI b c:=by
 obtain⟨a,_,h⟩:=RO.ct h;injection h with h
 subst h;exact .rule a
theorem r5 {a b:Su} {x:aI} (h:db a x=.ok b):hI a b:=by
 unfold db at h;split at h
 ·unfold nD at h
  obtain⟨c,h⟩:=RO.ce h;obtain⟨_,h⟩:=RO.ce h;injection h with h
  subst h;exact .origin _ (by simpa using c)
 split at h
 ·unfold mr at h
  obtain⟨a,_,h⟩:=RO.ct h;obtain⟨c,_,h⟩:=RO.ct h;injection h with h
  subst h;exact .block c
 split at h
 ·unfold mu at h
  obtain⟨a,_,h⟩:=RO.ct h;obtain⟨_,h⟩:=RO.ce h;obtain⟨_,h⟩:=RO.ce h;obtain⟨a,_,h⟩:=RO.ct h;injection h with h
  subst h;exact .match_ _
 split at h
 ·unfold mv at h
  obtain⟨a,_,h⟩:=RO.ct h;obtain⟨_,h⟩:=RO.ce h;obtain⟨_,h⟩:=RO.ce h;obtain⟨_,h⟩:=RO.ce h;injection h with h
  subst h;exact .keep _
 split at h
 ·exact Ev h
 split at h
 ·unfold mw at h
  obtain⟨a,_,h⟩:=RO.ct h;obtain⟨a,_,h⟩:=RO.ct h;obtain⟨_,h⟩:=RO.ce h;obtain⟨a,_,h⟩:=RO.ct h;injection h with h
  subst h;exact .rule _
 split at h
 ·unfold mx at h
  obtain⟨a,_,h⟩:=RO.ct h;obtain⟨a,_,h⟩:=RO.ct h;obtain⟨_,h⟩:=RO.ce h;injection h with h
  subst h;exact .rule _
 split at h
 ·unfold my at h
  obtain⟨_,h⟩:=RO.ce h;obtain⟨a,_,h⟩:=RO.ct h;obtain⟨ts,_,h⟩:=RO.ct h;injection h with h
  subst h;exact .rule _
 split at h
 ·unfold lE at h
  obtain⟨a,_,h⟩:=RO.ct h;injection h with h
  subst h;exact .query _
 injection h with h
 subst h;exact .none
theorem hI.tabs {s a:Su} (h:hI s a):a.tabs=s.tabs:=by cases h<;>rfl
structure gV (s:Su) (n:Nat):Prop where
 o:s.origins.length<=64
 b:s.blocks.length<=n
 m:s.kG.length<=n
 k:s.keeps.length<=n
 r:s.rules.length<=n
 q:s.queries.length<=n
theorem gV.add {c d:Su} {n:Nat} (h:gV c n) (a:hI c d):gV d (n+1):=by
 obtain⟨b,e,f,g,i,j⟩:=h;cases a with
 |none=>exact⟨b,by omega,by omega,by omega,by omega,by omega⟩
 |origin k l=>exact⟨by simp;omega,by dsimp only;omega,by dsimp only;omega,by dsimp only;omega,by dsimp only;omega,by dsimp only;omega⟩
 |block k=>exact⟨b,by simp;omega,by dsimp only;omega,by dsimp only;omega,by dsimp only;omega,by dsimp only;omega⟩
 |match_ k=>exact⟨b,by dsimp only;omega,by simp;omega,by dsimp only;omega,by dsimp only;omega,by dsimp only;omega⟩
 |keep k=>exact⟨b,by dsimp only;omega,by dsimp only;omega,by simp;omega,by dsimp only;omega,by dsimp only;omega⟩
 |rule k=>exact⟨b,by dsimp only;omega,by dsimp only;omega,by dsimp only;omega,by simp;omega,by dsimp only;omega⟩
 |query k=>exact⟨b,by dsimp only;omega,by dsimp only;omega,by dsimp only;omega,by dsimp only;omega,by simp;omega⟩
theorem gV.second {b:Su} {n:Nat} (h:gV b n) (x:aI):gV (iK b x).1 (n+1):=by
 unfold iK;cases hp:db b x with
 |ok c=>exact h.add (r5 hp)
 |bad c a=>exact h.add .none
theorem gV.up {c:Su} {n d:Nat} (h:gV c n) (a:n<=d):gV c d:=
 ⟨h.o,bR h.b a,bR h.m a,bR h.k a,bR h.r a,bR h.q a⟩
theorem gV.short {x:cc} {tabs:List Tb} {n:Nat} (h:gV (x.su tabs) n) (g:n<=1000):x.Short 64:=by
 obtain⟨a,b,c,d,e,f⟩:=h;simp only[cc.su,List.length_map]at a b c d e f;exact⟨a,by omega,by omega,by omega,by omega,by omega⟩
theorem aF.oT {f:Type} {w w':af} {b:Nat} {c:List Nat} {h:Hd} {d:f->List Value} {e:List f} (a:aF w b h d e) (f:∀x∈e,∃g,(d x)[0]?=some (.string g)) (n:∀i∈c,jp w i) (i:Kp c w w'):aF w' b h d e:=by
 refine⟨a.1,a.2.1,λe j=>?_⟩;obtain⟨d,k,o,l,m⟩:=a.2.2 e j;have q:d∉c:=by
  intro c;obtain⟨g,f⟩:=f _ (List.getElem_mem j);exact n _ c _ _ (m 0 _ f)
 exact⟨d,k,o,aT l i.size,λc f hv=>(i.cell (p:=(ab d (k+e*b+c))) l q).trans (m c f hv)⟩
theorem bI.oT {w w':af} {b:List Nat} {h:Hd} {ts:List RT} (a:bI w h ts) (e:∀c∈b,jp w c) (i:∀c∈b,gN c ts) (d:Kp b w w'):bI w' h ts:=
 ⟨a.1.oT (λb _=>⟨b.name,rfl⟩) e d,λb c=>⟨⟨(a.2 b c).1.1.oT (λf _=>⟨f.at_.name,rfl⟩) e d,λf g=>⟨⟨((a.2 b c).1.2 f g).1.1.oT (λj _=>⟨j,rfl⟩) e d,((a.2 b c).1.2 f g).1.2⟩,((a.2 b c).1.2 f g).2⟩⟩,
  (a.2 b c).2.1.kp d (λd e f g=>i d g b c d e f rfl),(a.2 b c).2.2⟩⟩
theorem wb:∀(fs:List (Int×Int)) (a:aw),Value.string a∉fs.flatMap dP
 |[],a,h=>by cases h
 |f::fs,a,h=>by
  rw[List.flatMap_cons]at h;rcases cY h with h|h
  ·simp[dP]at h
  exact wb fs a h
theorem eQ.g9 {w:af} {a:Nat} {fs:List (Int×Int)} (h:eQ w a fs):jp w a:=by
 intro b c a;rw[J.cell h b]at a;exact wb fs c (List.mem_of_getElem? (by simpa using a))
structure iO (w W0:af) (hv:ay) (h:Hd) (ts:List RT) (fs:List (Int×Int)) (m2:Nat):Prop where
 sm:ag w W0
 bP:J W0 w.heap.size 24 #[hv]
 bS:J W0 (w.heap.size+1) 37 b6
 bp:J W0 (w.heap.size+1+1+1+1) 154 #[aj (w.heap.size+1+1+1)]
 fl:eQ W0 (w.heap.size+1+1+1+1+1) fs
 bx:∃a:Int,J W0 (w.heap.size+1+1+1) 157 #[h.val,aa,aa,aa,aa,aa,aa,.map (some (w.heap.size+1+1)),a]
 ta:bI W0 h ts
 ko:∀Y,Y<w.heap.size+1+1+1+1+1+1->gN Y ts
 fa:kR (ts.map RT.tb)
 mp:cH (.int .i64) W0 m2 lP
 hm:w.heap.size+1+1+1+1+1<m2
structure eR (w W0 W:af) (h:Hd) (tabs:List Tb) (fl:List (Int×Int)) (n:Nat) (x:cc) (a:Int) (B:Nat->Prop) (out:List (Int×Int)) (hf:Hd):Prop where
 kp:Kp [w.heap.size+1+1+1,w.heap.size+1+1+1+1+1] W0 W
 fl:eQ W (w.heap.size+1+1+1+1+1) fl
 ft:x.Fit
 ss:gV (x.su tabs) n
 wk:cK W (w.heap.size+1+1+1) (w.heap.size+1+1) W0.heap.size B [h.val] [] x.rows false [] [] a
 ow:W.ownsRow W0.heap.size 97 2 hf.val hf.n (out.flatMap dP)
 hn:hf.n=out.length
 nb:∀b,hf.val.ownBlock=some b->¬B b
section
variable {w W0 W W':af} {hv:ay} {h:Hd} {ts:List RT} {fs fl:List (Int×Int)} {m2 n:Nat} {tabs:List Tb} {x:cc} {a:Int} {B:Nat->Prop} {out:List (Int×Int)} {hf:Hd}
theorem iO.g9 (b:iO w W0 hv h ts fs m2):∀d∈[w.heap.size+1+1+1,w.heap.size+1+1+1+1+1],jp W0 d:=by
 intro d e;rcases dd e with c|c
 ·subst c
  obtain⟨a,d⟩:=b.bx;exact gv.g9 (h:=h) (u:=[.slice none 0 0,.slice none 0 0,.slice none 0 0,.slice none 0 0,.slice none 0 0,.slice none 0 0,.map (some (w.heap.size+1+1))]) ⟨a,d⟩ ⟨rfl,λd hv d b=>by
   subst b;simp at hv⟩
 rw[aA c];exact b.fl.g9
theorem iO.wd (a:iO w W0 hv h ts fs m2) (c:Kp [w.heap.size+1+1+1,w.heap.size+1+1+1+1+1] W0 W):bI W h ts:=
 a.ta.oT a.g9 (λd e=>a.ko d (by
  rcases dd e with b|b
  ·omega
  have:=aA b;omega)) c
theorem iO.same (e:iO w W0 hv h ts fs m2) (k:Kp [w.heap.size+1+1+1,w.heap.size+1+1+1+1+1] W0 W):ag w W:=
 k.g4 e.sm (λc b=>by
  rcases dd b with a|a
  ·omega
  have:=aA a;omega)
theorem ql {a p:Nat} (c:a≠p+1+1+1) (d:a≠p+1+1+1+1+1):a∉[p+1+1+1,p+1+1+1+1+1]:=λe=>by
 rcases dd e with b|b
 ·exact c b
 exact d (aA b)
theorem eR.same (s:eR w W0 W h tabs fl n x a B out hf) (k:ag W W'):eR w W0 W' h tabs fl n x a B out hf:=
 ⟨s.kp.trans (Kp.of_same k),s.fl.kp (Kp.of_same (l:=[]) k) ai,s.ft,s.ss,s.wk.kp (Kp.of_same (l:=[]) k) (λc b=>by cases b),aH k s.ow,s.hn,s.nb⟩
theorem eR.up (b:eR w W0 W h tabs fl n x a B out hf) {c:Nat} (d:n<=c):eR w W0 W h tabs fl c x a B out hf:=
 ⟨b.kp,b.fl,b.ft,b.ss.up d,b.wk,b.ow,b.hn,b.nb⟩
theorem eR.start (b:iO w W0 hv h ts fs m2) (e:w.heap.size+1+1+1+1+1<W0.heap.size):
 ∃a,eR w W0 W0 h tabs fs 0 ⟨aJ,aJ,aJ,aJ,aJ,aJ,[],[],[],[],[],[]⟩ a (λ_=>False) [] aJ:=by
 obtain⟨a,g⟩:=b.bx;have d:∀c∈(⟨aJ,aJ,aJ,aJ,aJ,aJ,[],[],[],[],[],[]⟩:cc).rows,c.own=none/\c.cs=[]/\c.h=aJ:=by
  intro c d;simp only[cc.rows,List.mem_cons,List.mem_nil_iff,or_false]at d;rcases d with b|b|b|b|b|b<;>(subst b;exact⟨rfl,rfl,rfl⟩)
 refine⟨a,Kp.refl _ _,b.fl,⟨rfl,rfl,rfl,rfl,rfl,rfl⟩,⟨by simp[cc.su],by simp[cc.su],by simp[cc.su],by simp[cc.su],by simp[cc.su],by simp[cc.su]⟩,?_,⟨rfl,.inl ⟨rfl,rfl⟩⟩,rfl,λ_ _ h=>h⟩;exact
 {
  bx:=g,hX:=by omega,hM:=by omega,hb:=Nat.le_refl _,lt:=(λ_ h=>h.elim),na:=(λh=>by cases h),nin:=(λg f=>by cases f),gO:=(λg f=>by cases f)
  own:=λc h=>by
   obtain⟨_,f,g⟩:=d c h;rw[f,g];exact⟨by simp[aJ],.inl ⟨rfl,rfl⟩⟩
  eP:=λc h i e=>by rw[(d c h).1]at e;cases e
  one:=λe e c e i e g f g=>by rw[(d c (List.mem_of_getElem? e)).1]at f;cases f
  fine:=λc h=>by
   simp only[cc.rows,List.mem_cons,List.mem_nil_iff,or_false]at h;rcases h with b|b|b|b|b|b<;>subst b
   ·exact vr _ _
   ·exact vt _ _
   ·exact vv _ _
   ·exact vu _ _
   ·exact vw _ _
   exact vx _ _
  nest:=λc h=>by
   simp only[cc.rows,List.mem_cons,List.mem_nil_iff,or_false]at h;rcases h with b|b|b|b|b|b<;>subst b
   ·trivial
   ·trivial
   ·exact λb j=>by cases j
   ·trivial
   ·exact λb j=>by cases j
   exact λb j=>by cases j}
theorem eR.Ew (b:iO w W0 hv h ts fs m2) (g:w.heap.size+1+1+1+1+1<W0.heap.size) (b:eR w W0 W h tabs fl n x a B out hf) (d:Nat) (e:Int×Int):
 eR w W0 ((W.setCell (ab (w.heap.size+1+1+1+1+1) (d*2)) e.1).setCell (ab (w.heap.size+1+1+1+1+1) (d*2+1)) e.2) h tabs (fl.set d e) n x a B out hf:=by
 have i:=Kp.aE (l:=[w.heap.size+1+1+1+1+1]) (p:=(ab (w.heap.size+1+1+1+1+1) (d*2+1))) ai (Kp.aE (p:=(ab (w.heap.size+1+1+1+1+1) (d*2))) ai (Kp.refl [w.heap.size+1+1+1+1+1] W) e.1) e.2;have j:∀c,B c->w.heap.size+1+1+1+1+1<c:=λc f=>aT g (b.wk.lt c f).1;refine⟨b.kp.trans (i.mono (λc g=>by rw[aA g];simp)),b.fl.set d e,b.ft,b.ss,b.wk.kp i (λc f=>?_),l8 b.ow i (λc f d=>?_),b.hn,b.nb⟩
 ·rw[aA f]
  exact⟨by omega,by omega,λe=>by have:=j _ e;omega⟩
 have b:=(b3 b.ow c f).1;rw[aA d]at b;omega
theorem eR.r6 (c:eR w W0 W h tabs fl n x a B out hf) (o:w.heap.size+1+1+1+1+1<W0.heap.size) {g:aI} {o:Int×Int} (r:rO W (w.heap.size+1+1+1) (w.heap.size+1+1) W0.heap.size B h tabs (x.su tabs) g o W'):
 ∃(f:cc) (i:Int) (j:Nat->Prop),iK (x.su tabs) g=(f.su tabs,o)/\eR w W0 W' h tabs fl (n+1) f i j out hf:=by
 obtain⟨⟨z,k,l⟩,A,j,p,⟨f,i,s,t,u⟩,v⟩:=r;have q:∀b,B b->W0.heap.size<=b:=λb d=>(c.wk.lt b d).1;subst t;refine⟨f,i,j,p,?_,c.fl.kp k (λe=>?_),s,?_,u,l8 c.ow k (λb d e=>?_),c.hn,λb d y=>?_⟩
 ·refine k.old c.kp (λb e f=>?_)
  rcases l b e with m|m
  ·rw[m];simp
  have:=q b m;omega
 ·rcases l _ e with m|m
  ·omega
  have:=q _ m;omega
 ·have:=c.ss.second g
  rw[p]at this;exact this
 ·rcases l _ e with m|m
  ·have:=(b3 c.ow b d).1
   omega
  exact c.nb b d m
 rcases v b y with m|m
 ·exact c.nb b d m
 have:=(b3 c.ow b d).2;omega
theorem eR.push (c:eR w W0 W h tabs fl n x a B out hf) (d:w.heap.size+1+1+1+1+1<W0.heap.size) {g:Int×Int} {e:aX} {f:Nat} {i:Obj}
 (q:W'.ownsRow W0.heap.size 97 2 (U e (hf.n+1) f) (hf.n+1) (out.flatMap dP++dP g)) (d:(W.alloc i).grownBy W' hf.val.ownBlock) (r:(Value.slice e (hf.n+1) f).ownBlock=hf.val.ownBlock\/(Value.slice e (hf.n+1) f).ownBlock=some (W.alloc i).heap.size):
 eR w W0 W' h tabs fl n x a B (out++[g]) ⟨e,hf.n+1,f⟩:=by
 have k:Kp hf.val.ownBlock.toList W W':=((Kp.refl _ W).alloc i).grown d (λb b=>.inl (by rw[b];simp));have j:∀b∈hf.val.ownBlock.toList,hf.val.ownBlock=some b:=λb d=>jm (v:=hf.val) d;refine⟨k.old c.kp (λb d s=>?_),c.fl.kp k (λd=>?_),c.ft,c.ss,c.wk.kp k (λb d=>?_),?_,by simp[c.hn],λb o p=>?_⟩
 ·have:=(b3 c.ow b (j b d)).1
  omega
 ·have:=(b3 c.ow _ (j _ d)).1
  omega
 ·have:=(b3 c.ow b (j b d)).1
  exact⟨by omega,by omega,c.nb b (j b d)⟩
 ·rw[List.flatMap_append,show[g].flatMap dP=dP g by simp]
  exact q
 rcases r with l|l
 ·exact c.nb b (l▸o) p
 have m:(Value.slice e (hf.n+1) f).ownBlock=some b:=o;rw[l]at m;injection m with m
 have b:=(c.wk.lt b p).2;have b:(W.alloc i).heap.size=W.heap.size+1:=ai
 omega
end
theorem Ey (b fs:List (Int×Int)) (a:Nat) (c:Int×Int) (h:b.length=a) (d:a<fs.length):(b++fs.drop a).set a c=(b++[c])++fs.drop (a+1):=by
 subst h;rw[List.set_append_right _ _ (Nat.le_refl _),Nat.sub_self,List.drop_eq_getElem_cons d,List.set_cons_zero,List.append_assoc];rfl
def L3 (w W0 W:af) (h:Hd) (ts:List RT) (fs:List (Int×Int)) (b:List aI) (i:Nat) (hf:Hd):Prop:=∃(x:cc) (a:Int) (B:Nat->Prop) (c out:List (Int×Int)),
 eR w W0 W h (ts.map RT.tb) (c++fs.drop i) i x a B out hf/\c.length=i/\out.length<=i/\
 eM {Su.zero with tabs:=ts.map RT.tb} [] (fs.zip b)=eM (x.su (ts.map RT.tb)) out ((fs.drop i).zip (b.drop i))
def M3 (w W0 W:af) (h:Hd) (ts:List RT) (fs:List (Int×Int)) (c:List aI) (i:Nat) (hf:Hd) (b:Int×Int):Prop:=∃(x:cc) (a:Int) (B:Nat->Prop) (d out:List (Int×Int)),
 eR w W0 W h (ts.map RT.tb) ((d++[b])++fs.drop (i+1)) (i+1) x a B out hf/\d.length=i/\out.length<=i/\
 eM {Su.zero with tabs:=ts.map RT.tb} [] (fs.zip c)=eM (x.su (ts.map RT.tb)) (if b.1=0 then out else out++[b]) ((fs.drop (i+1)).zip (c.drop (i+1)))
theorem Ez {w W0:af} {hv:ay} {h:Hd} {ts:List RT} {fs:List (Int×Int)} {m2:Nat} (b:List aI) (c:iO w W0 hv h ts fs m2) (d:w.heap.size+1+1+1+1+1<W0.heap.size):L3 w W0 W0 h ts fs b 0 aJ:=by
 obtain⟨a,b⟩:=eR.start (tabs:=ts.map RT.tb) c d;exact⟨_,a,_,[],[],by simpa using b,rfl,Nat.le_refl _,by simp[cc.su,Su.zero]⟩
theorem we {fs:List (Int×Int)} {b:List aI} {a:Nat} {c:Int×Int} {d:aI} (e:fs[a]?=some c) (f:b[a]?=some d):(fs.drop a).zip (b.drop a)=(c,d)::(fs.drop (a+1)).zip (b.drop (a+1)):=by
 obtain⟨a,b⟩:=List.getElem?_eq_some_iff.1 e;obtain⟨c,d⟩:=List.getElem?_eq_some_iff.1 f;rw[List.drop_eq_getElem_cons a,List.drop_eq_getElem_cons c,b,d];rfl
theorem L3.skip {w W0 W:af} {h:Hd} {ts:List RT} {fs:List (Int×Int)} {d:List aI} {i:Nat} {hf:Hd} (l:L3 w W0 W h ts fs d i hf) {b:Int×Int} {e:aI} (f:fs[i]?=some b) (g:d[i]?=some e) (c:b.1≠0\/gu e.kind=none):M3 w W0 W h ts fs d i hf b:=by
 obtain⟨x,a,B,j,out,k,m,n,o⟩:=l;obtain⟨d,p⟩:=List.getElem?_eq_some_iff.1 f;refine⟨x,a,B,j,out,?_,m,n,?_⟩
 ·have:=k.up (Nat.le_succ i)
  rw[List.drop_eq_getElem_cons d,p]at this;simpa using this
 have q:k7 (x.su (ts.map RT.tb)) b e=(x.su (ts.map RT.tb),b):=by
  unfold k7;rcases c with c|c
  ·rw[if_neg c]
  rw[c];split<;>rfl
 rw[o,we f g,vy,q]
theorem M3.next {w W0 W:af} {h:Hd} {ts:List RT} {fs:List (Int×Int)} {c:List aI} {i:Nat} {hf:Hd} {b:Int×Int} (l:M3 w W0 W h ts fs c i hf b) (e:b.1=0):L3 w W0 W h ts fs c (i+1) hf:=by
 obtain⟨x,a,B,f,out,g,j,k,d⟩:=l;rw[if_pos e]at d;exact⟨x,a,B,f++[b],out,g,by simp[j],by omega,d⟩
theorem M3.r6 {w W0 W W':af} {hv:ay} {h:Hd} {ts:List RT} {fs:List (Int×Int)} {m2:Nat} {d:List aI} {i:Nat} {hf:Hd} {x:cc} {a:Int} {B:Nat->Prop} {c out:List (Int×Int)} (m:iO w W0 hv h ts fs m2) (g:w.heap.size+1+1+1+1+1<W0.heap.size)
 (l:eR w W0 W h (ts.map RT.tb) (c++fs.drop i) i x a B out hf) (j:c.length=i) (n:out.length<=i) (o:eM {Su.zero with tabs:=ts.map RT.tb} [] (fs.zip d)=eM (x.su (ts.map RT.tb)) out ((fs.drop i).zip (d.drop i)))
 {f b:Int×Int} {e:aI} {v:ay} (k:fs[i]?=some f) (p:d[i]?=some e) (q:f.1=0) (r:gu e.kind=some v) (s:rO W (w.heap.size+1+1+1) (w.heap.size+1+1) W0.heap.size B h (ts.map RT.tb) (x.su (ts.map RT.tb)) e b W'):
 eQ W' (w.heap.size+1+1+1+1+1) (c++fs.drop i)/\ag W0 W0/\Kp [w.heap.size+1+1+1,w.heap.size+1+1+1+1+1] W0 W'/\
 M3 w W0 ((W'.setCell (ab (w.heap.size+1+1+1+1+1) (i*2)) b.1).setCell (ab (w.heap.size+1+1+1+1+1) (i*2+1)) b.2) h ts fs d i hf b:=by
 obtain⟨t,d⟩:=List.getElem?_eq_some_iff.1 k;obtain⟨l,s,u,y,d⟩:=l.r6 g s;have g:=d.Ew m g i b;rw[Ey c fs i b j t]at g;refine⟨d.fl,ag.refl _,d.kp,l,s,u,c,out,g,j,n,?_⟩;have b:k7 (x.su (ts.map RT.tb)) f e=(l.su (ts.map RT.tb),b):=by
  unfold k7;rw[if_pos q,r];exact y
 rw[o,we k p,vy,b]
theorem M3.same {w W0 W W':af} {h:Hd} {ts:List RT} {fs:List (Int×Int)} {b:List aI} {i:Nat} {hf:Hd} {c:Int×Int} (l:M3 w W0 W h ts fs b i hf c) (k:ag W W'):M3 w W0 W' h ts fs b i hf c:=by
 obtain⟨x,a,B,d,out,e,f,g,j⟩:=l;exact⟨x,a,B,d,out,e.same k,f,g,j⟩
theorem L3.same {w W0 W W':af} {h:Hd} {ts:List RT} {fs:List (Int×Int)} {b:List aI} {i:Nat} {hf:Hd} (l:L3 w W0 W h ts fs b i hf) (k:ag W W'):L3 w W0 W' h ts fs b i hf:=by
 obtain⟨x,a,B,c,out,d,e,f,g⟩:=l;exact⟨x,a,B,c,out,d.same k,e,f,g⟩
theorem M3.get {w W0 W:af} {h:Hd} {ts:List RT} {fs:List (Int×Int)} {c:List aI} {i:Nat} {hf:Hd} {b:Int×Int} (l:M3 w W0 W h ts fs c i hf b):∃fl,eQ W (w.heap.size+1+1+1+1+1) fl/\fl[i]?=some b:=by
 obtain⟨x,a,B,f,out,d,e,g,j⟩:=l;exact⟨_,d.fl,by subst e;simp⟩
theorem M3.row {w W0 W:af} {h:Hd} {ts:List RT} {fs:List (Int×Int)} {f:List aI} {i:Nat} {hf:Hd} {b:Int×Int} (l:M3 w W0 W h ts fs f i hf b) (j:w.heap.size+1+1+1+1+1<W0.heap.size) (k:b.1≠0):
 ∃out:List (Int×Int),W.ownsRow W0.heap.size 97 2 hf.val hf.n (out.flatMap dP)/\hf.n=out.length/\out.length<=i/\∀(d:Obj) (W':af) (A:aX) (c:Nat),W'.ownsRow W0.heap.size 97 2 (U A (hf.n+1) c) (hf.n+1) (out.flatMap dP++dP b)->(W.alloc d).grownBy W' hf.val.ownBlock->
  ((Value.slice A (hf.n+1) c).ownBlock=hf.val.ownBlock\/(Value.slice A (hf.n+1) c).ownBlock=some (W.alloc d).heap.size)->L3 w W0 W' h ts fs f (i+1) ⟨A,hf.n+1,c⟩:=by
 obtain⟨x,a,B,m,out,e,o,p,g⟩:=l;refine⟨out,e.ow,e.hn,p,λd W' A c c d f=>?_⟩;rw[if_neg k]at g;exact⟨x,a,B,m++[b],out++[b],e.push j c d f,by simp[o],by simp;omega,g⟩
structure fJ (lo:Nat) (w:af) (h:Hd) (ts:List RT) (x:cc):Prop where
 ta:bI w h ts
 l1:aF w 2 x.h1 Og.cells x.os
 l2:aF w 6 x.h2 Bk.cells x.bs
 l3:aF w 4 x.h3 ei.cells x.ms
 l4:aF w 3 x.h4 dR.cells x.ks
 l5:aF w 10 x.h5 cG.cells x.rs
 l6:aF w 9 x.h6 eu.cells x.qs
 i1:aS (λb=>lo<=b) x.h1
 i2:aS (λb=>lo<=b) x.h2
 i3:aS (λb=>lo<=b) x.h3
 i4:aS (λb=>lo<=b) x.h4
 i5:aS (λb=>lo<=b) x.h5
 i6:aS (λb=>lo<=b) x.h6
 m:∀t∈x.ms,fp w (λb=>lo<=b) t
 r:∀t∈x.rs,eZ w (λb=>lo<=b) t
 q:∀t∈x.qs,oI w (λb=>lo<=b) t
def wf (lo:Nat) (w:af) (a:ay) (b:Su):Prop:=∃(h:Hd) (ts:List RT) (x:cc),a=.agg #[h.val,x.h1.val,x.h2.val,x.h3.val,x.h4.val,x.h5.val,x.h6.val]/\x.su (ts.map RT.tb)=b/\fJ lo w h ts x
def hJ (lo:Nat) (w:af) (v:ay) (fs:List (Int×Int)):Prop:=∃h:Hd,v=h.val/\aF w 2 h dP fs/\aS (λa=>lo<=a) h
def gy (w:af) (a:Su×List (Int×Int)) (d:Ending) (w':af):Prop:=ag w w'/\∃b c,d=.returned (.tuple #[b,c])/\wf w.heap.size w' b a.1/\hJ w.heap.size w' c a.2
theorem jw {a:Type} {w:af} {b:Nat} {c:a->List Value}:aF w b aJ c []:=⟨rfl,by simp[aJ],λa d=>by cases d⟩
theorem mf {S:Nat->Prop}:aS S aJ:=λb b a=>by cases a
theorem qn (lo:Nat) (w:af):wf lo w (.agg b6) Su.zero:=
 ⟨aJ,[],⟨aJ,aJ,aJ,aJ,aJ,aJ,[],[],[],[],[],[]⟩,rfl,rfl,⟨jw,λb a=>by cases a⟩,jw,jw,jw,jw,jw,jw,mf,mf,mf,mf,mf,mf,(λb a=>by cases a),(λb a=>by cases a),(λb a=>by cases a)⟩
theorem aF.qp {e:Type} {w w':af} {m a:Nat} {h:Hd} {c:e->List Value} {d:List e} (e:aF w m h c d) (g:∀x∈d,∃v,(c x)[0]?=some v/\∀j,w.cell? (ab a j)≠some v) (k:Kp [a] w w'):aF w' m h c d:=by
 refine⟨e.1,e.2.1,λi f=>?_⟩;obtain⟨b,off,ha,hb,hc⟩:=e.2.2 i f;have hne:b≠a:=by
  rintro rfl;obtain⟨v,hv,a⟩:=g _ (List.getElem_mem f);exact a _ (hc 0 _ hv)
 exact GW
theorem bI.r7 {w w':af} {X:Nat} {h:Hd} {ts:List RT} (a:bI w h ts) (g:∀b v,ac w (ab X b) v->∃i n j,v=.slice i n j) (d:Kp [X] w w'):bI w' h ts:=by
 have f:∀(e:aw) b,w.cell? (ab X b)≠some (.string e):=λe b c=>by
  obtain⟨_,_,_,h⟩:=g b _ c;cases h
 have k:∀(n:Int) b,w.cell? (ab X b)≠some (.int .i64 n):=λn b c=>by
  obtain⟨_,_,_,h⟩:=g b _ c;cases h
 exact⟨a.1.qp (λb _=>⟨_,rfl,f b.name⟩) d,λb c=>⟨⟨(a.2 b c).1.1.qp (λg _=>⟨_,rfl,f g.at_.name⟩) d,λg i=>⟨⟨((a.2 b c).1.2 g i).1.1.qp (λe _=>⟨_,rfl,f e⟩) d,((a.2 b c).1.2 g i).1.2⟩,((a.2 b c).1.2 g i).2⟩⟩,
  (a.2 b c).2.1.qp (λn _=>⟨_,rfl,k n⟩) d,(a.2 b c).2.2⟩⟩
theorem m3 (a:Nat) (v:ay) (h:b6[a]?=some v):∃b n c,v=.slice b n c:=by
 match a with
 |0|1|2|3|4|5|6=>exact⟨_,_,_,(Option.some.inj h).symm⟩
 |_+7=>cases h
section
variable {lo:Nat} {w w':af} {h:Hd} {ts:List RT} {x:cc}
theorem fJ.kp (a:fJ lo w h ts x) {g:Nat} (b:g<lo) (i:∀b v,ac w (ab g b) v->∃b n c,v=.slice b n c) (k:Kp [g] w w'):fJ lo w' h ts x:=
 have d:∀b∈[g],¬lo<=b:=λb c=>by rw[aA c];omega
 have b:∀{f:Hd},aS (λb=>lo<=b) f->∀b e,f.a=some ⟨b,e,none⟩->b∉[g]:=λf b e j c=>d b c (f b e j)
 {
  ta:=a.ta.r7 i k,l1:=a.l1.kp k (b a.i1),l2:=a.l2.kp k (b a.i2),l3:=a.l3.kp k (b a.i3),l4:=a.l4.kp k (b a.i4),l5:=a.l5.kp k (b a.i5),l6:=a.l6.kp k (b a.i6),i1:=a.i1,i2:=a.i2,i3:=a.i3,i4:=a.i4,i5:=a.i5,i6:=a.i6
  m:=λb c=>fp.keep _ _ _ _ _ (a.m b c) k d,r:=λb c=>(a.r b c).keep k d,q:=λb c=>dJ.keep (a.q b c) k d}
theorem fJ.same (a:fJ lo w h ts x) (s:ag w w'):fJ lo w' h ts x:=
 have d:=Kp.of_same (l:=[]) s
 {
  ta:=a.ta.same s,l1:=a.l1.same s,l2:=a.l2.same s,l3:=a.l3.same s,l4:=a.l4.same s,l5:=a.l5.same s,l6:=a.l6.same s,i1:=a.i1,i2:=a.i2,i3:=a.i3,i4:=a.i4,i5:=a.i5,i6:=a.i6
  m:=λb c=>fp.keep _ _ _ _ _ (a.m b c) d ai,r:=λb c=>(a.r b c).keep d ai,q:=λb c=>dJ.keep (a.q b c) d ai}
theorem fJ.low (a:fJ lo w h ts x) {l2:Nat} (c:l2<=lo):fJ l2 w h ts x:=
 have b:∀b,lo<=b->l2<=b:=λb b=>bR c b
 {
  ta:=a.ta,l1:=a.l1,l2:=a.l2,l3:=a.l3,l4:=a.l4,l5:=a.l5,l6:=a.l6,i1:=a.i1.mono b,i2:=a.i2.mono b,i3:=a.i3.mono b,i4:=a.i4.mono b,i5:=a.i5.mono b,i6:=a.i6.mono b
  m:=λc d=>fp.mono _ _ _ _ (a.m c d) b,r:=λc d=>(a.r c d).mono b,q:=λc d=>dJ.mono (a.q c d) b}
end
theorem EA {W:af} {h:Hd} {ts:List RT} {X d e n:Nat} {x:cc} {a:Int} {B:Nat->Prop} (k:bI W h ts) (c:x.Fit) (f:gV (x.su (ts.map RT.tb)) n) (b:cK W X d e B [h.val] [] x.rows false [] [] a) (d:n<=1000):fJ e W h ts x:=by
 obtain⟨d,f,g,i,j,l⟩:=f.short d;have e:∀(f:List ej) (d:Nat),rL B f [] d->e<=d:=λf d e=>(b.lt d e.1).1;have d:oK x.h1 x.os∈x.rows:=gh
 have m2:oL x.h2 x.bs∈x.rows:=gh
 have f:oM x.h3 x.ms∈x.rows:=gh
 have j:oN x.h4 x.ks∈x.rows:=gh
 have g:k6 x.h5 x.rs∈x.rows:=gh
 have i:oO x.h6 x.qs∈x.rows:=gh
 exact{
  ta:=k,l1:=cF (h:=x.h1) (λ_=>rfl) c.e1 (by rw[<-c.e1];omega) (b.own _ d),l2:=cF (h:=x.h2) (λ_=>rfl) c.e2 (by rw[<-c.e2];omega) (b.own _ m2),l3:=cF (h:=x.h3) (λ_=>rfl) c.e3 (by rw[<-c.e3];omega) (b.own _ f)
  l4:=cF (h:=x.h4) (λ_=>rfl) c.e4 (by rw[<-c.e4];omega) (b.own _ j),l5:=cF (h:=x.h5) (λ_=>rfl) c.e5 (by rw[<-c.e5];omega) (b.own _ g),l6:=cF (h:=x.h6) eu.len c.e6 (by rw[<-c.e6];omega) (b.own _ i)
  i1:=k8 (h:=x.h1) (b.own _ d),i2:=k8 (h:=x.h2) (b.own _ m2),i3:=k8 (h:=x.h3) (b.own _ f),i4:=k8 (h:=x.h4) (b.own _ j),i5:=k8 (h:=x.h5) (b.own _ g),i6:=k8 (h:=x.h6) (b.own _ i)
  m:=λc d=>fp.mono _ _ _ _ (b.nest _ f c d) (e _),r:=λc d=>(b.nest _ g c d).mono (e _),q:=λc d=>dJ.mono (b.nest _ i c d) (e _)}
def ev (b:List Tb) (a c:Int):Prop:=(0<=a/\a<b.length)/\0<=c/\c<(dw b a).attrs.length
theorem qz {b:List Tb} {c a:Int} {d:aw} (h:dS b c d=.ok a):0<=a/\a<b.length:=by
 unfold dS at h;obtain⟨e,h⟩:=RO.ce h;injection h with h
 subst h;exact⟨by simpa using e,(lr _ _).2⟩
theorem m6 {b:List At} {c a:Int} {d:aw} (h:cO c b d=.ok a):0<=a/\a<b.length:=by
 unfold cO at h;obtain⟨e,h⟩:=RO.ce h;injection h with h
 subst h;exact⟨by simpa using e,(nj _ _).2⟩
theorem qA {b:List Tb} {c:Int} {d e:aw} {a:Int×Int×Int} (h:fC b c d e=.ok a):ev b a.1 a.2.1:=by
 unfold fC at h;obtain⟨a,f,h⟩:=RO.ct h;obtain⟨a,g,h⟩:=RO.ct h;injection h with h
 subst h;exact⟨qz f,m6 g⟩
theorem so {i:Int} {f:List At}:∀(e:bm) (b c:List Int),dv i f b e=.ok c->(∀a∈b,0<=a/\a<f.length)->b.Nodup->(∀a∈c,0<=a/\a<f.length)/\c.Nodup/\c.length=b.length+e.length
 |[],b,c,h,hl,hd=>by
  rw[dv]at h;injection h with h
  subst h;exact⟨hl,hd,by simp⟩
 |s::e,b,c,h,hl,hd=>by
  rw[dv]at h;obtain⟨a,f,h⟩:=RO.ct h;obtain⟨g,h⟩:=RO.ce h;have j:=m6 f;have k:a∉b:=λf=>by
   have:b.any (λd=>decide (d=a))=true:=List.any_eq_true.2 ⟨a,f,by simp⟩;rw[this]at g;cases g
  have:=so e (b++[a]) c h (λl d=>by
   rcases cY d with d|d
   ·exact hl l d
   ·rw[aA d];exact j) (by
   rw[List.nodup_append];exact⟨hd,by simp,λa b a c a=>k (by rw[aA c]at a;exact a▸b)⟩)
  refine⟨this.1,this.2.1,?_⟩;rw[this.2.2];simp;omega
def kw (c:List Tb) (b:List Int) (a:Sd):Prop:=(a.var= -1/\a.v.ok=true)\/(0<=a.var/\a.var<b.length/\ev c ((b[a.var.toNat]?).getD 0) a.col)
structure wO (tabs:List Tb) (r:Ru):Prop where
 cD:∀c∈r.cD,ev tabs r.table c
 fixed:∀f∈r.fixed,ev tabs r.table f.col
 tests:∀t∈r.tests,kw tabs r.tables t.l/\kw tabs r.tables t.r
 col:(r.kind=4/\r.tables≠[])\/ev tabs r.table r.col
 other:r.kind=3->ev tabs r.other r.lA
structure hO (s:Su):Prop where
 b:∀x∈s.blocks,ev s.tabs x.table x.col
 k:∀x∈s.keeps,ev s.tabs x.table x.col
 m:∀x∈s.kG,∀y∈x.terms,ev s.tabs x.table y.col
 r:∀x∈s.rules,wO s.tabs x
theorem gA {a:Type} {x b:a} {l:List a} (h:x∈l++[b]):x∈l\/x=b:=by
 rcases cY h with h|h
 ·exact .inl h
 exact .inr (aA h)
theorem wP {f:List At} {i:Int}:∀(g:List cL) (e c:List Wg),fe f i e g=.ok c->(∀b∈e,0<=b.col/\b.col<f.length)->∀b∈c,0<=b.col/\b.col<f.length
 |[],e,c,h,hl=>by
  rw[fe]at h;injection h with h
  subst h;exact hl
 |b::g,e,c,h,hl=>by
  rw[fe]at h;obtain⟨b,a,h⟩:=RO.ct h;refine wP g _ c h (λj d=>?_);rcases gA d with d|d
  ·exact hl j d
  subst d;unfold pe at a;obtain⟨b,k,a⟩:=RO.ct a;obtain⟨_,a⟩:=RO.ce a;obtain⟨_,a⟩:=RO.ce a;obtain⟨_,a⟩:=RO.ce a;injection a with a
  subst a;exact m6 k
theorem wQ {e:List At} {b:Int}:∀(g:List du) (d a:List Fx),fg e b d g=.ok a->(∀b∈d,0<=b.col/\b.col<e.length)->∀b∈a,0<=b.col/\b.col<e.length
 |[],d,a,h,hl=>by
  rw[fg]at h;injection h with h
  subst h;exact hl
 |f::g,d,a,h,hl=>by
  rw[fg]at h;obtain⟨b,i,h⟩:=RO.ct h;obtain⟨_,h⟩:=RO.ce h;obtain⟨_,h⟩:=RO.ce h;obtain⟨_,h⟩:=RO.ce h;refine wQ g _ a h (λj c=>?_);rcases gA c with c|c
  ·exact hl j c
  subst c;exact m6 i
theorem wR {b:List Tb} {e:aI} {d:Int} {a:Ru} (h:jJ b e d=.ok a):(0<=a.table/\a.table<b.length)/\(∀e∈a.cD,0<=e/\e<(dw b a.table).attrs.length)/\a.cD≠[]/\a.kind=d/\a.fixed=[]/\a.tests=[]/\a.col=0:=by
 unfold jJ at h;obtain⟨a,f,h⟩:=RO.ct h;obtain⟨c,h⟩:=RO.ce h;obtain⟨g,i,h⟩:=RO.ct h;injection h with h
 subst h;have b:=so _ _ _ i ai ai;refine⟨qz f,b.1,λa=>?_,rfl,rfl,rfl,rfl⟩;have b:=b.2.2;have a:g=[]:=a;rw[a]at b;simp at c b;rw[b]at c;simp at c
theorem wS {m:Int} {j:dG->RO (Sd×Int)} {P:Sd->Prop} (n:∀d b,j d=.ok b->P b.1) (o:∀f:V,f.ok=true->P ⟨-1,0,f⟩):∀(k:List bB) (i e:List cT),eT m j i k=.ok e->(∀f∈i,P f.l/\P f.r)->∀f∈e,P f.l/\P f.r
 |[],i,e,h,hl=>by
  rw[eT]at h;injection h with h
  subst h;exact hl
 |c::k,i,e,h,hl=>by
  rw[eT]at h;obtain⟨f,a,h⟩:=RO.ct h;refine wS n o k _ e h (λq g=>?_);rcases gA g with g|g
  ·exact hl q g
  subst g;unfold jL at a;obtain⟨_,a⟩:=RO.ce a;obtain⟨b,s,a⟩:=RO.ct a;obtain⟨e,t,a⟩:=RO.ct a;obtain⟨_,a⟩:=RO.ce a;obtain⟨_,a⟩:=RO.ce a;injection a with a
  subst a;have p:∀d b,jK m j d=.ok b->P b.1:=λd b h=>by
   unfold jK at h;split at h
   ·obtain⟨u,h⟩:=RO.ce h
    injection h with h
    subst h;exact o _ u
   exact n d b h
  exact⟨p _ _ s,p _ _ t⟩
theorem wT {f:List Tb} {c:Int}:∀(e:List Vr) (b a:List (ByteArray×Int)),gG f c b e=.ok a->(∀c∈b,0<=c.2/\c.2<f.length)->(∀c∈a,0<=c.2/\c.2<f.length)/\a.length=b.length+e.length
 |[],b,a,h,hl=>by
  rw[gG]at h;injection h with h
  subst h;exact⟨hl,by simp⟩
 |v::e,b,a,h,hl=>by
  rw[gG]at h;obtain⟨_,h⟩:=RO.ce h;obtain⟨b,g,h⟩:=RO.ct h;have:=wT e _ a h (λi d=>by
   rcases gA d with d|d
   ·exact hl i d
   subst d;exact qz g)
  refine⟨this.1,?_⟩;rw[this.2];simp;omega
theorem FT {d:List Tb} {g:Int} {a:List (ByteArray×Int)} (i:∀e∈a,0<=e.2/\e.2<d.length) {f:dG} {b:Sd×Int} (h:hY d g a f=.ok b):kw d (a.map (·.2)) b.1:=by
 unfold hY at h;obtain⟨j,h⟩:=RO.ce h;dsimp only at h;obtain⟨d,k,h⟩:=RO.ct h;injection h with h
 subst h;obtain⟨e,d,l⟩:=List.any_eq_true.1 j;obtain⟨m,n,o⟩:=List.mem_iff_getElem.1 d;rcases mj (λb:ByteArray×Int=>decide (b.1=f.var)) a with⟨_,p⟩|⟨r,c,q,_,_⟩
 ·have:=p m n
  rw[o,l]at this;cases this
 right
 have a:=m6 k;rw[q]at a⊢;refine⟨by simp,by simpa using c,?_,?_⟩
 ·simp[c]
  exact i _ (List.getElem_mem c)
 simpa[c]using a
theorem hO.part {d j:Su} {o:aI} (a:hO d) (h:db d o=.ok j):hO j:=by
 have g:∀e:Ru,wO d.tabs e->hO {d with rules:=d.rules++[e]}:=λe p=>⟨a.b,a.k,a.m,λf c=>by
  rcases gA c with c|c
  ·exact a.r f c
  subst c;exact p⟩
 unfold db at h;split at h
 ·unfold nD at h
  obtain⟨_,h⟩:=RO.ce h;obtain⟨_,h⟩:=RO.ce h;injection h with h
  subst h;exact⟨a.b,a.k,a.m,a.r⟩
 split at h
 ·unfold mr at h
  obtain⟨j,l,h⟩:=RO.ct h;obtain⟨j,c,h⟩:=RO.ct h;injection h with h
  subst h;refine⟨λn f=>?_,a.k,a.m,a.r⟩;rcases gA f with f|f
  ·exact a.b n f
  subst f;have i:=qA l;split at c
  ·injection c with c;subst c;exact i
  split at c
  ·obtain⟨_,c⟩:=RO.ce c
   injection c with c;subst c;exact i
  split at c
  ·obtain⟨_,c⟩:=RO.ce c
   injection c with c;subst c;exact i
  cases c
 split at h
 ·unfold mu at h
  obtain⟨j,f,h⟩:=RO.ct h;obtain⟨_,h⟩:=RO.ce h;obtain⟨_,h⟩:=RO.ce h;obtain⟨j,i,h⟩:=RO.ct h;injection h with h
  subst h;refine⟨a.b,a.k,λl c=>?_,a.r⟩;rcases gA c with c|c
  ·exact a.m l c
  subst c;exact λc j=>⟨qz f,wP _ _ _ i ai c j⟩
 split at h
 ·unfold mv at h
  obtain⟨j,f,h⟩:=RO.ct h;obtain⟨_,h⟩:=RO.ce h;obtain⟨_,h⟩:=RO.ce h;obtain⟨_,h⟩:=RO.ce h;injection h with h
  subst h;refine⟨a.b,λi c=>?_,a.m,a.r⟩;rcases gA c with c|c
  ·exact a.k i c
  subst c;exact qA f
 split at h
 ·unfold pf at h
  obtain⟨e,i,h⟩:=RO.ct h;injection h with h
  subst h;obtain⟨i,l,q,j,o,p,s⟩:=wR i;refine g e ⟨λc f=>⟨i,l c f⟩,by rw[o];simp,by rw[p];simp,.inr ⟨i,?_⟩,λn=>by rw[j]at n;cases n⟩;rw[s];obtain⟨c,f⟩:=List.exists_mem_of_ne_nil _ q;have:=l c f;exact⟨Int.le_refl _,by omega⟩
 split at h
 ·unfold mw at h
  obtain⟨e,i,h⟩:=RO.ct h;obtain⟨f,l,h⟩:=RO.ct h;obtain⟨_,h⟩:=RO.ce h;obtain⟨e,c,h⟩:=RO.ct h;injection h with h
  subst h;obtain⟨e,i,o,j,p,n,q⟩:=wR i;exact g _ ⟨λf o=>⟨e,i f o⟩,λf i=>⟨e,wQ _ _ _ c ai f i⟩,by dsimp only;rw[n];simp,.inr ⟨e,m6 l⟩,λc=>by dsimp only at c;rw[j]at c;cases c⟩
 split at h
 ·unfold mx at h
  obtain⟨e,c,h⟩:=RO.ct h;obtain⟨e,f,h⟩:=RO.ct h;obtain⟨_,h⟩:=RO.ce h;injection h with h
  subst h;exact g _ ⟨by simp[Ru.zero],by simp[Ru.zero],by simp[Ru.zero],.inr (qA c),λ_=>qA f⟩
 split at h
 ·unfold my at h
  obtain⟨f,h⟩:=RO.ce h;obtain⟨i,n,h⟩:=RO.ct h;obtain⟨e,q,h⟩:=RO.ct h;injection h with h
  subst h;have l:=wT _ _ _ n ai;refine g _ ⟨by simp[Ru.zero],by simp[Ru.zero],wS (P:=kw d.tabs (i.map (·.2))) (λc c c=>FT l.1 c) (λc c=>.inl ⟨rfl,c⟩) _ _ _ q ai,.inl ⟨rfl,λc=>?_⟩,λs=>by cases s⟩;have c:i.map (·.2)=[]:=c;have d:=l.2;rw[List.map_eq_nil_iff]at c;rw[c]at d;simp[aZ]at f d;rw[<-d]at f;simp at f
 split at h
 ·unfold lE at h
  obtain⟨c,_,h⟩:=RO.ct h;injection h with h
  subst h;exact⟨a.b,a.k,a.m,a.r⟩
 injection h with h
 subst h;exact a
theorem hO.second (c:List ((Int×Int)×aI)):∀(a:Su) (b:List (Int×Int)),hO a->hO (eM a b c).1/\(eM a b c).1.tabs=a.tabs:=by
 induction c with
 |nil=>intro a b h;exact⟨h,rfl⟩
 |cons e c d=>
  intro a b h;obtain⟨i,f⟩:=e;rw[eM];split
  ·cases hp:db a f with
   |ok g=>
    have:=d g b (h.part hp);exact⟨this.1,this.2.trans (r5 hp).tabs⟩
   |bad g j=>
    dsimp only;split
    ·exact d a b h
    exact d a _ h
  exact d a _ h
theorem wU {n:Int}:∀(g:List dl) (l b:List At),fy n l g=.ok b->((∀e∈l,gB e=true)/\(∀x∈d9 l,bD x=true)/\(d9 l).Nodup)->(∀e∈b,gB e=true)/\(∀x∈d9 b,bD x=true)/\(d9 b).Nodup
 |[],l,b,h,hl=>by
  rw[fy]at h;injection h with h
  subst h;exact hl
 |c::g,l,b,h,hl=>by
  rw[fy]at h;obtain⟨i,h⟩:=RO.ce h;obtain⟨o,h⟩:=RO.ce h;obtain⟨p,h⟩:=RO.ce h;obtain⟨j,h⟩:=RO.ce h;obtain⟨q,r,s⟩:=hl;have t:=D4 (l:=l) (x:=c.name) (by simpa using o);simp only[aZ,Bool.and_eq_true,decide_eq_true_eq]at i;have m:d9 (l++[⟨c.name,c.k,[],c.d⟩])=d9 l++[c.name]:=by rw[D3];rfl
  refine wU g _ b h ⟨λe f=>?_,λx a=>?_,?_⟩
  ·rcases gA f with f|f
   ·exact q e f
   subst f;simp only[gB,ky,hP,Bool.and_eq_true,decide_eq_true_eq,Bool.or_eq_true];simp only[Bool.or_eq_true,decide_eq_true_eq]at j;exact⟨i.2,p,j⟩
  ·rw[m]at a
   rcases gA a with a|a
   ·exact r x a
   subst a;exact i.1
  rw[m,List.nodup_append];exact⟨s,by simp,λx a b e b=>t (by rw[aA e]at b;exact b▸a)⟩
theorem FU {e:Nat} {a:List Int} (h:∀c∈a,0<=c/\c<(e:Int)) (g:a.Nodup):∀b,b<(d2 a).length->gl e (d2 a) b=true:=by
 intro b d;have f:=oJ a;have i:=rJ a;have g:(d2 a).Nodup:=f.nodup_iff.2 g;have e:∀c∈d2 a,0<=c/\c<(e:Int):=λc e=>h c (f.mem_iff.1 e);rw[oR];have c:(d2 a).getD b 0=(d2 a)[b]:=by simp[d]
 refine⟨by rw[c];exact e _ (List.getElem_mem d),?_⟩;by_cases e:b=0
 ·exact .inl e
 right
 have a:(d2 a).getD (b-1) 0=(d2 a)[b-1]'ae:=by simp[show b-1<(d2 a).length by omega]
 rw[c,a];have a:=List.pairwise_iff_getElem.1 i (b-1) b ae d ae;have a:=List.pairwise_iff_getElem.1 g (b-1) b ae d ae;omega
theorem FV {e:List Tb} {a:aI} {c:Tb} (k:bD a.name=true) (h:fL e a=.ok c):mc c/\c.name=a.name/\e.length<20:=by
 unfold fL at h;obtain⟨f,h⟩:=RO.ce h;obtain⟨g,i,h⟩:=RO.ct h;obtain⟨d,h⟩:=RO.ce h;obtain⟨j,l,h⟩:=RO.ct h;injection h with h
 subst h;have m:=r4 _ _ _ _ i;have c:=wU _ _ _ i ⟨by simp,by simp[d9],by simp[d9]⟩;have e:=so _ _ _ l ai ai;simp[aZ]at f m d;have i:=e.2.2;simp at i;refine⟨⟨k,?_,?_,?_,c.1,c.2.1,c.2.2,FU e.1 e.2.1⟩,rfl,f.1⟩
 ·show 1<=g.length
  omega
 ·show g.length<=12
  omega
 show 1<=(d2 j).length;rw[(oJ j).length_eq];have:0<a.names.length:=by
  rcases Nat.eq_zero_or_pos a.names.length with b|b
  ·simp at b;rw[b]at d;simp at d
  exact b
 omega
structure ll (tabs:List Tb) (u:cI):Prop where
 n:tabs.length<=20
 r:∀t∈tabs,mc t
 d:(tabs.map Tb.name).Nodup
 u:∀t∈tabs,ec u 1 t.name=true
theorem FW {a:cI} {d:Int×ByteArray} {b:Int} {c:aw} (h:ec a b c=true):ec (d::a) b c=true:=by
 unfold ec at*;rw[List.any_cons,h,Bool.or_true]
theorem wV {a:cI} {d:aI} {b:Int} {c:aw} (h:ec a b c=true):ec (eo a d).1 b c=true:=by
 unfold eo;repeat' split
 all_goals first|exact h|exact FW h
theorem FX {b:cI} {a:aI} (c:a.kind=1) (h:(eo b a).2=0):bD a.name=true/\ec b 1 a.name=false/\ec (eo b a).1 1 a.name=true:=by
 have d:aZ a.kind 1 10=true:=by rw[c];rfl
 have e:¬a.kind=5:=ae
 have f:fQ a.kind=1:=by rw[c];rfl
 have c:eo b a=if bD a.name then(if ec b 1 a.name then(b,9)else((1,a.name)::b,0))else(b,1):=by
  unfold eo;rw[if_pos d,if_neg e,f]
 rw[c]at h⊢;clear c;cases hn:bD a.name with
 |false=>rw[hn]at h;cases h
 |true=>
  rw[hn]at h;cases hu:ec b 1 a.name with
  |true=>rw[hu]at h;cases h
  |false=>exact⟨rfl,rfl,by simp[ec]⟩
theorem ll.first:∀(xs:List aI) (b:List Tb) (u:cI) (f:List (Int×Int)),ll b u->∃k,ll (ep b u f xs).1 k
 |[],b,u,f,h=>⟨u,by rw[ep];exact h⟩
 |x::xs,b,u,f,h=>by
  rw[p0];refine ll.first xs _ _ _ ?_;have e:ll b (eo u x).1:=⟨h.n,h.r,h.d,λa c=>wV (h.u a c)⟩;unfold fI;split
  ·exact e
  rename_i l
  split
  ·rename_i m
   cases c:fL b x with
   |ok o=>
    obtain⟨b,p,q⟩:=FX m (by simpa using l);obtain⟨s,j,b⟩:=FV b c;refine⟨by simp;omega,λg a=>?_,?_,λg a=>?_⟩
    ·rcases gA a with a|a
     ·exact h.r g a
     subst a;exact s
    ·rw[List.map_append,List.nodup_append]
     refine⟨h.d,by simp,λb t v i w=>?_⟩;obtain⟨y,z,rfl⟩:=List.mem_map.1 t;have i:v=o.name:=by simpa using i
     have:=h.u y z;rw[w,i,j,p]at this;cases this
    rcases gA a with a|a
    ·exact wV (h.u g a)
    subst a;rw[j];exact q
   |bad a g=>exact e
  exact e
def HG (l:List At) (a:Sd):Int:=if a.var= -1 then a.v.k else if a.var≠0\/a.col<0\/(l.length:Int)<=a.col then 0 else(cE l a.col).kind
def Ie (d:List At) (b a c:Int):Prop:=(b=1/\a= -1/\c=2)\/(b≠1/\(0<=a/\a<d.length)/\c=(cE d a).kind/\(b=2->c=2))
def Pl.kids:Pl->List Pl
 |.mk _ _ ks _ _ _ _ _=>ks
inductive HI (tabs:List Tb):Pl->Prop
 |table {t:Int} (h1:0<=t/\t<tabs.length) (h2:∀i (h:i<(dw tabs t).attrs.length),bH (dw tabs t).attrs (iY (dw tabs t).attrs[i]).name=i):HI tabs (.mk 1 t [] [] [] 0 0 ((dw tabs t).attrs.map iY))
 |select {k:Pl} {ts:List cT} (h:∀t∈ts,HG k.attrs t.l≠0/\HG k.attrs t.l=HG k.attrs t.r):HI tabs (.mk 2 0 [k] ts [] 0 0 k.attrs)
 |project {k:Pl} {cs:List Int} (h:∀c∈cs,0<=c/\c<k.attrs.length):HI tabs (.mk 3 0 [k] [] cs 0 0 (cs.map (cE k.attrs)))
 |join {a b:Pl} (h:∀x∈b.attrs,ed a.attrs x.name<0\/(cE a.attrs (ed a.attrs x.name)).kind=x.kind):HI tabs (.mk 4 0 [a,b] [] [] 0 0 (a.attrs++b.attrs.filter λx=>decide (ed a.attrs x.name<0)))
 |both {kind:Int} {a b:Pl} (hk:kind=5\/kind=6) (h:fh a.attrs b.attrs=true):HI tabs (.mk kind 0 [a,b] [] [] 0 0 a.attrs)
 |rename {k:Pl} {col:Int} {nm:aw} (h:0<=col/\col<k.attrs.length):HI tabs (.mk 7 0 [k] [] [] col 0 (k.attrs.modify col.toNat λa=>{a with name:=nm}))
 |group {k:Pl} {cs:List Int} {col agg:Int} {q:At} (h:∀c∈cs,0<=c/\c<k.attrs.length) (g:Ie k.attrs agg col q.kind):HI tabs (.mk 8 0 [k] [] cs col agg (cs.map (cE k.attrs)++[q]))
mutual
def Pl.Ty (i:List Tb):Pl->Prop
 |.mk a b ks c d e f g=>HI i (.mk a b ks c d e f g)/\Pl.HU i ks
def Pl.HU (a:List Tb):List Pl->Prop
 |[]=>True
 |p::ps=>p.Ty a/\Pl.HU a ps
end
def rd (a:List At):Prop:=(a.map At.name).Nodup
theorem rd.ne {l:List At} (h:rd l) {a b:Nat} (d:a<l.length) (e:b<l.length) (f:l[a].name=l[b].name):a=b:=
 Decidable.byContradiction λi=>by
  have g:=List.pairwise_iff_getElem.1 h;rcases Nat.lt_or_gt_of_ne i with c|c
  ·exact g a b (by simpa using d) (by simpa using e) c (by simpa using f)
  exact g b a (by simpa using e) (by simpa using d) c (by simpa using f.symm)
theorem H2 (a:List At) (b:aw):(ed a b= -1/\∀d∈a,d.name≠b)\/∃(c:Nat) (h:c<a.length),ed a b=c/\a[c].name=b:=by
 rcases mj (λd:At=>decide (d.name=b)) a with⟨h,e⟩|⟨c,f,h,g,_⟩
 ·refine .inl ⟨h,λd i j=>?_⟩
  obtain⟨k,l,rfl⟩:=List.mem_iff_getElem.1 i;have:=e k l;simp[j]at this
 exact .inr ⟨c,f,h,by simpa using g⟩
theorem HJ {l:List At} {a:Nat} (h:a<l.length):cE l (a:Int)=l[a]:=by
 unfold cE;rw[Int.toNat_natCast,List.getElem?_eq_getElem h];rfl
theorem H4 {a:List At} {f b:Int} {c:aw} (h:ee f a c=.ok b):(0<=b/\b<a.length)/\(cE a b).name=c:=by
 unfold ee at h;obtain⟨e,h⟩:=RO.ce h;injection h with h
 subst h;rcases H2 a c with⟨d,_⟩|⟨j,g,d,i⟩
 ·rw[d]at e;simp at e
 rw[d,HJ g];exact⟨⟨by omega,by omega⟩,i⟩
theorem If {i:Int} {b:List At}:∀(k:List bB) (j e:List cT),eT i (lD i b) j k=.ok e->(∀d∈j,HG b d.l≠0/\HG b d.l=HG b d.r)->∀d∈e,HG b d.l≠0/\HG b d.l=HG b d.r
 |[],j,e,h,hl=>by
  rw[eT]at h;injection h with h
  subst h;exact hl
 |c::k,j,e,h,hl=>by
  rw[eT]at h;obtain⟨d,a,h⟩:=RO.ct h;refine If k _ e h (λo f=>?_);rcases gA f with f|f
  ·exact hl o f
  subst f;unfold jL at a;obtain⟨_,a⟩:=RO.ce a;obtain⟨g,p,a⟩:=RO.ct a;obtain⟨d,q,a⟩:=RO.ct a;obtain⟨_,a⟩:=RO.ce a;obtain⟨m,a⟩:=RO.ce a;injection a with a
  subst a;have n:∀a g,jK i (lD i b) a=.ok g->HG b g.1=g.2:=λa g h=>by
   unfold jK at h;split at h
   ·obtain⟨_,h⟩:=RO.ce h
    injection h with h
    subst h;rfl
   unfold lD at h;obtain⟨_,h⟩:=RO.ce h;obtain⟨a,s,h⟩:=RO.ct h;injection h with h
   subst h;have:=(H4 s).1;unfold HG;rw[if_neg ai,if_neg aC]
  rw[n _ _ p,n _ _ q];simp only[Bool.and_eq_true,Bool.not_eq_true',decide_eq_true_eq,decide_eq_false_iff_not]at m;exact⟨m.2.2.1,m.2.1⟩
theorem H7 {i:Int} {d:List At}:∀(g:bm) (b:List Int) (e:List At) (a:List Int×List At),fz i d b e g=.ok a->(∀c∈b,0<=c/\c<d.length)->e=b.map (cE d)->b.Nodup->
 (∀c∈a.1,0<=c/\c<d.length)/\a.2=a.1.map (cE d)/\a.1.Nodup/\a.2.map At.name=e.map At.name++g
 |[],b,e,a,h,hc,ha,hd=>by
  rw[fz]at h;injection h with h
  subst h;exact⟨hc,ha,hd,by simp⟩
 |n::g,b,e,a,h,hc,ha,hd=>by
  rw[fz]at h;obtain⟨i,k,h⟩:=RO.ct h;obtain⟨j,h⟩:=RO.ce h;obtain⟨l,m⟩:=H4 k;have o:i∉b:=λk=>by
   rw[Bool.not_eq_true',List.any_eq_false]at j;exact j i k ai
  obtain⟨p,q,r,s⟩:=H7 g (b++[i]) (e++[cE d i]) a h
   (
    λc f=>by
    rcases gA f with f|f
    ·exact hc c f
    subst f;exact l) (by rw[ha];simp)
   (List.nodup_append.2 ⟨hd,by simp,λc b a c a=>o (by rw[aA c]at a;exact a▸b)⟩)
  exact⟨p,q,r,by rw[s];simp[m]⟩
theorem Ig {b:List At} (f:rd b) {c:List Int} (d:∀a∈c,0<=a/\a<b.length) (g:c.Nodup):rd (c.map (cE b)):=by
 unfold rd;rw[List.map_map];refine List.Pairwise.map _ (R:=λa c=>(cE b a).name≠(cE b c).name) (λ_ _ h=>h) ?_;refine List.Pairwise.imp_of_mem (R:=λa b=>a≠b) (λ{a b} c i j e=>j ?_) g;obtain⟨k,a⟩:=d a c;obtain⟨l,a⟩:=d b i;obtain⟨m,rfl⟩:=Int.eq_ofNat_of_zero_le k;obtain⟨n,rfl⟩:=Int.eq_ofNat_of_zero_le l;rw[HJ ae,HJ ae]at e;exact congrArg _ (f.ne ae ae e)
theorem H8 {j:Int} {e:List At}:∀(c f d:List At),hZ j e f c=.ok d->d=f++c.filter (λb=>decide (ed e b.name<0))/\∀b∈c,ed e b.name<0\/(cE e (ed e b.name)).kind=b.kind
 |[],f,d,h=>by
  rw[hZ]at h;injection h with h
  subst h;exact⟨by simp,λb g=>by cases g⟩
 |a::c,f,d,h=>by
  rw[hZ]at h;split at h
  ·rename_i i
   obtain⟨e,k⟩:=H8 c _ d h;refine⟨by rw[e,List.filter_cons_of_pos (by simpa using i)];simp,λb g=>?_⟩;rcases dd g with rfl|g
   ·exact .inl i
   exact k b g
  rename_i e
  obtain⟨i,h⟩:=RO.ce h;obtain⟨c,k⟩:=H8 c _ d h;refine⟨by rw[c,List.filter_cons_of_neg (by simpa using e)],λb g=>?_⟩;rcases dd g with rfl|g
  ·exact .inr (by simpa using i)
  exact k b g
theorem Iq {a b:List At} (d:rd a) (e:rd b):rd (a++b.filter (λb=>decide (ed a b.name<0))):=by
 unfold rd at*;rw[List.map_append];refine List.nodup_append.2 ⟨d,e.sublist (List.filter_sublist.map _),λb f b g i=>?_⟩;obtain⟨j,k,rfl⟩:=List.mem_map.1 f;obtain⟨l,m,rfl⟩:=List.mem_map.1 g;have c:=(List.mem_filter.1 m).2;rcases H2 a l.name with⟨_,n⟩|⟨p,q,o,_⟩
 ·exact n j k i
 rw[o]at c;simp at c;omega
theorem Ir {b:List At} (g:rd b) {e:Nat} (j:e<b.length) {s:aw} (h:∀(c:Nat) (d:c<b.length),b[c].name=s->c=e):rd (b.modify e λb=>{b with name:=s}):=by
 unfold rd List.Nodup;rw[List.pairwise_iff_getElem];intro c i d f b a;simp only[List.length_map,List.length_modify]at d f;simp only[List.getElem_map,List.getElem_modify]at a;split at a
 ·split at a
  ·omega
  have:=h i f a.symm;omega
 split at a
 ·have:=h c d a;omega
 have:=g.ne d f a;omega
theorem Is {l:List Tb} (n:∀i∈l,∀e (h:e<i.attrs.length),bH i.attrs (iY i.attrs[e]).name=e) {d:Int} {z:aw} {u:List bB} {s:bm} {A j:aw} {B C:Int} {f:List Pl}
 (g:∀a∈f,rd a.attrs) {o:Pl} (h:cy l d z u s A j B C f=.ok o):HI l o/\o.kids=f/\rd o.attrs:=by
 unfold cy at h;obtain⟨b,h⟩:=RO.ce h;have b:ef d=some f.length:=by simpa using b
 dsimp only at h;split at h
 ·rename_i k
  subst k;obtain⟨i,k,h⟩:=RO.ct h;injection h with h
  subst h;have c:f=[]:=List.eq_nil_of_length_eq_zero (by simpa[ef]using b.symm);subst c;have p:=qz k;have m:dw l i∈l:=by
   obtain⟨e,rfl⟩:=Int.eq_ofNat_of_zero_le p.1;unfold dw;rw[Int.toNat_natCast,List.getElem?_eq_getElem ae];exact List.getElem_mem _
  refine⟨.table p (n _ m),rfl,?_⟩;show rd ((dw l i).attrs.map iY);unfold rd List.Nodup;rw[List.pairwise_iff_getElem];intro e o k l p c;simp only[List.length_map]at k l;simp only[List.getElem_map]at c;have k:=n _ m e k;rw[c,n _ m o l]at k;omega
 rename_i t
 have p:d=2\/d=3\/d=7\/d=8->∃a,f=[a]:=λh=>by
  have:ef d=some 1:=by unfold ef;rw[if_neg t,if_pos h]
  rw[this]at b;exact List.length_eq_one_iff.1 (Option.some.inj b).symm
 have v:d=4\/d=5\/d=6->∃k m,f=[k,m]:=λh=>by
  have:ef d=some 2:=by unfold ef;rw[if_neg t,if_neg ae,if_pos h]
  rw[this]at b;have b:=Option.some.inj b;match f,b with
  |[k,m],_=>exact⟨k,m,rfl⟩
 split at h
 ·rename_i c
  subst c;obtain⟨a,rfl⟩:=p ai;obtain⟨_,h⟩:=RO.ce h;obtain⟨q,c,h⟩:=RO.ct h;injection h with h
  subst h;exact⟨.select (If u [] q c (λi n=>by cases n)),rfl,g a ai⟩
 split at h
 ·rename_i c
  subst c;obtain⟨a,rfl⟩:=p ai;obtain⟨r,c,h⟩:=RO.ct h;injection h with h
  subst h;obtain⟨q,w,x,_⟩:=H7 s [] [] r c (λc q=>by cases q) rfl List.nodup_nil;rw[w];exact⟨.project q,rfl,Ig (g a ai) q x⟩
 split at h
 ·rename_i c
  subst c;obtain⟨k,m,rfl⟩:=v ai;obtain⟨f,c,h⟩:=RO.ct h;obtain⟨_,h⟩:=RO.ce h;injection h with h
  subst h;obtain⟨q,r⟩:=H8 _ _ _ c;subst q;exact⟨.join r,rfl,Iq (g k ai) (g m ai)⟩
 split at h
 ·rename_i c
  obtain⟨k,m,rfl⟩:=v (.inr c);obtain⟨q,h⟩:=RO.ce h;injection h with h
  subst h;exact⟨.both c q,rfl,g k ai⟩
 split at h
 ·rename_i c
  subst c;obtain⟨a,rfl⟩:=p ai;obtain⟨f,c,h⟩:=RO.ct h;obtain⟨_,h⟩:=RO.ce h;obtain⟨x,h⟩:=RO.ce h;injection h with h
  subst h;obtain⟨q,_⟩:=H4 c;obtain⟨e,rfl⟩:=Int.eq_ofNat_of_zero_le q.1;have c:e<a.attrs.length:=by have:=q.2;exact Int.ofNat_lt.1 this
  refine⟨.rename q,rfl,?_⟩;show rd (a.attrs.modify e _);refine Ir (g a ai) c (λc r w=>?_);have y:(decide (ed a.attrs j<0)||decide (ed a.attrs j=(e:Int)))=true:=x;have D:ed a.attrs j<0\/ed a.attrs j=(e:Int):=by simpa using y
  rcases H2 a.attrs j with⟨_,E⟩|⟨I,F,G,H⟩
  ·exact absurd w (E _ (List.getElem_mem r))
  have:=(g a ai).ne r F (w.trans H.symm);rw[G]at D;omega
 rename_i e e e e e
 have D:d=8:=by
  unfold ef at b;rw[if_neg t]at b;split at b
  ·omega
  split at b
  ·omega
  cases b
 subst D;obtain⟨a,rfl⟩:=p ai;obtain⟨q,E,h⟩:=RO.ct h;obtain⟨_,h⟩:=RO.ce h;obtain⟨b,c,h⟩:=RO.ct h;obtain⟨w,h⟩:=RO.ce h;injection h with h
 subst h;obtain⟨x,r,F,G⟩:=H7 s [] [] q E (λb r=>by cases r) rfl List.nodup_nil;have r:q.2=q.1.map (cE a.attrs):=r;have y:=Ig (g a ai) x F;refine⟨?_,rfl,?_⟩
 ·rw[r]
  refine .group x ?_;split at c
  ·rename_i H
   obtain⟨_,c⟩:=RO.ce c;injection c with c
   subst c;exact .inl ⟨H,rfl,rfl⟩
  rename_i H
  obtain⟨a,I,c⟩:=RO.ct c;obtain⟨J,c⟩:=RO.ce c;injection c with c
  subst c;exact .inr ⟨H,(H4 I).1,rfl,λa=>by simpa[a]using J⟩
 show rd (q.2++[_]);unfold rd;rw[List.map_append];rw[<-r]at y;refine List.nodup_append.2 ⟨y,by simp,λb a c d e=>?_⟩;rw[G,List.map_nil,List.nil_append]at a;have c:c=j:=by simpa using d
 rw[Bool.not_eq_true',List.any_eq_false]at w;exact w b a (by rw[e,c];simp)
mutual
theorem Ih {b:List Tb} (e:∀c∈b,∀d (h:d<c.attrs.length),bH c.attrs (iY c.attrs[d]).name=d):∀(f:Ex) (a:Pl×Int),fR b f=.ok a->a.1.Ty b/\rd a.1.attrs
 |.mk _ _ kids _ _ _ _ _ _,a,h=>by
  rw[fR]at h;obtain⟨i,j,h⟩:=RO.ct h;obtain⟨_,h⟩:=RO.ce h;obtain⟨k,l,h⟩:=RO.ct h;injection h with h
  subst h;obtain⟨m,a⟩:=Ii e kids i j;obtain⟨n,g,o⟩:=Is e a l;obtain⟨p,q,r,s,t,f,u,v⟩:=k;dsimp only[Pl.kids]at g;subst g;exact⟨by rw[Pl.Ty];exact⟨n,m⟩,o⟩
theorem Ii {c:List Tb} (i:∀d∈c,∀f (h:f<d.attrs.length),bH d.attrs (iY d.attrs[f]).name=f):∀(d:List Ex) (a:List Pl×Int),fi c d=.ok a->Pl.HU c a.1/\∀b∈a.1,rd b.attrs
 |[],a,h=>by
  rw[fi]at h;injection h with h
  subst h;exact⟨by rw[Pl.HU];trivial,λb g=>by cases g⟩
 |e::es,a,h=>by
  rw[fi]at h;obtain⟨j,k,h⟩:=RO.ct h;obtain⟨l,m,h⟩:=RO.ct h;injection h with h
  subst h;obtain⟨a,n⟩:=Ih i e j k;obtain⟨c,o⟩:=Ii i es l m;refine⟨by rw[Pl.HU];exact⟨a,c⟩,λb g=>?_⟩;rcases dd g with rfl|g
  ·exact n
  exact o b g
end
theorem mc.old {t:Tb} (a:mc t) (i:Nat) (h:i<t.attrs.length):bH t.attrs (iY t.attrs[i]).name=i:=by
 refine Ip (Ib a.nodup) i h _ ?_;show t.attrs[i].has ((t.attrs[i].was++[t.attrs[i].name]).headD e0);cases hw:t.attrs[i].was with
 |nil=>exact .inl rfl
 |cons b c=>exact .inr (by rw[hw];exact List.mem_cons_self ..)
theorem It {a b:Su} {c:aI} (d:c.kind≠10) (h:db a c=.ok b):b.queries=a.queries:=by
 unfold db at h;split at h
 ·unfold nD at h
  obtain⟨_,h⟩:=RO.ce h;obtain⟨_,h⟩:=RO.ce h;injection h with h
  subst h;rfl
 split at h
 ·unfold mr at h
  exact Ij
 split at h
 ·unfold mu at h
  obtain⟨_,_,h⟩:=RO.ct h;obtain⟨_,h⟩:=RO.ce h;obtain⟨_,h⟩:=RO.ce h;obtain⟨_,_,h⟩:=RO.ct h;injection h with h
  subst h;rfl
 split at h
 ·unfold mv at h
  obtain⟨_,_,h⟩:=RO.ct h;obtain⟨_,h⟩:=RO.ce h;obtain⟨_,h⟩:=RO.ce h;obtain⟨_,h⟩:=RO.ce h;injection h with h
  subst h;rfl
 split at h
 ·obtain⟨_,_,h⟩:=RO.ct h
  injection h with h
  subst h;rfl
 split at h
 ·unfold mw at h
  obtain⟨_,_,h⟩:=RO.ct h;obtain⟨_,_,h⟩:=RO.ct h;obtain⟨_,h⟩:=RO.ce h;obtain⟨_,_,h⟩:=RO.ct h;injection h with h
  subst h;rfl
 split at h
 ·unfold mx at h
  obtain⟨_,_,h⟩:=RO.ct h;obtain⟨_,_,h⟩:=RO.ct h;obtain⟨_,h⟩:=RO.ce h;injection h with h
  subst h;rfl
 split at h
 ·unfold my at h
  obtain⟨_,h⟩:=RO.ce h;exact Ij
 injection h with h
 subst h;rfl
theorem Iu {a d:Su} {e:aI} (j:∀f∈a.tabs,mc f) (g:∀b∈a.queries,b.plan.Ty a.tabs/\rd b.plan.attrs) (h:db a e=.ok d):d.tabs=a.tabs/\∀b∈d.queries,b.plan.Ty a.tabs/\rd b.plan.attrs:=by
 have k:=(r5 h).tabs;refine⟨k,?_⟩;by_cases i:e.kind=10
 ·unfold db at h
  simp only[i]at h;have h:lE a e=.ok d:=h;unfold lE at h;obtain⟨a,l,h⟩:=RO.ct h;injection h with h
  subst h;intro b c;rcases gA c with c|c
  ·exact g b c
  subst c;exact Ih (λf a=>(j f a).old) _ _ l
 rw[It i h];exact g
theorem H0:∀(b:List ((Int×Int)×aI)) (a:Su) (c:List (Int×Int)),(∀d∈a.tabs,mc d)->(∀d∈a.queries,d.plan.Ty a.tabs/\rd d.plan.attrs)->
 (eM a c b).1.tabs=a.tabs/\∀d∈(eM a c b).1.queries,d.plan.Ty a.tabs/\rd d.plan.attrs
 |[],a,c,ht,hq=>by rw[eM];exact⟨rfl,hq⟩
 |(g,x)::b,a,c,ht,hq=>by
  rw[eM];split
  ·cases hp:db a x with
   |ok e=>
    obtain⟨d,h⟩:=Iu ht hq hp;have:=H0 b e c (by rw[d];exact ht) (by rw[d];exact h);rw[d]at this;exact this
   |bad e f=>
    dsimp only;split
    ·exact H0 b a c ht hq
    exact H0 b a _ ht hq
  exact H0 b a _ ht hq
theorem Iv (a:List aI):∀b∈(cP a []).1.queries,b.plan.Ty (cP a []).1.tabs/\rd b.plan.attrs:=by
 unfold cP;split
 ·dsimp only
  rw[fS];dsimp only;obtain⟨f,d⟩:=ll.first a [] [] [] ⟨by simp,by simp,by simp,by simp⟩;have c:=H0 ((ep [] [] [] a).2.zip a) {Su.zero with tabs:=(ep [] [] [] a).1} [] d.r (λb c=>by cases c);split
  ·rw[c.1]
   exact c.2
  exact λb e=>by cases e
 exact λb c=>by cases c
end Go.Proofs.YteamkimbmdgdbaaGreatDoor
