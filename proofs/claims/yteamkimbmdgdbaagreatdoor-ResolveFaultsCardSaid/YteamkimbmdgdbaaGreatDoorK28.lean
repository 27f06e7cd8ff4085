import Derived.Test.YteamkimbmdgdbaaGreatDoorK26
import Derived.Test.YteamkimbmdgdbaaGreatDoorK27
set_option linter.unusedSimpArgs false
set_option linter.unusedVariables false
set_option maxHeartbeats 16000000
set_option maxRecDepth 100000
namespace Go.Proofs.YteamkimbmdgdbaaGreatDoor
open Go.RowKit
theorem k0.tabs {g:af} {X j c:Nat} {i:Nat->Prop} {d:List RT} {u:cI} {l:Int} (f:k0 g X j c i d u l) (i:d.length<=1000):
 ∃h:Hd,h.n=d.length/\bI g h d/\(∀i,i<c->gN i d)/\(∀c∈d,∀d∈c.ra,gL d)/\
  J g X 157 #[h.val,aa,aa,aa,aa,aa,aa,.map (some j),l]:=by
 obtain⟨h,j,g,d⟩:=f;have j:=d.nest _ (List.mem_singleton.2 rfl);refine⟨h,g,⟨cF (h:=h) RT.CN g.symm (by rw[g];omega) (d.own _ (List.mem_singleton.2 rfl)),λc e=>(j c e).a⟩,λi g c e k m o g=>?_,λc e=>(j c e).b,d.bx⟩;have c:=(d.lt k ((j c e).ik k m o).1).1;omega
theorem gN.next {X a:Nat} {b c:List RT} (i:gN X b) (j:iM a b c) (b:X<a):gN X c:=λd k e f g=>by
 rcases j d k with h|h
 ·exact i d h e f g
 have:=h e f g;omega
theorem Eo {a:List Tb} {b:Cg} {c:List Cg} (h:dj a b=0):fS a (b::c)=fS (gC a b) c:=by
 rw[fS,if_pos h]
theorem Ep {a:List Tb} {b:Cg} {cs:List Cg} (h:dj a b≠0):fS a (b::cs)=.bad (dj a b) (-1):=by
 rw[fS,if_neg h]
def gU (a:List Tb) (b:Nat):Prop:=∀c∈a,∀a∈c.attrs,a.was.length<=b
theorem gU.apply {S:List Tb} {d:Cg} {n:Nat} (l:gU S n) (h:dj S d=0):gU (gC S d) (n+1):=by
 obtain⟨p,z,m,q,r,A,s,B⟩:=rY h;intro z t b a;obtain⟨e,o,rfl⟩:=List.mem_iff_getElem.1 t;have f:e<S.length:=by rw[r1]at o;exact o
 rw[vX q r e f]at a;by_cases g:m=e
 ·rw[if_pos g]at a
  subst g;have c:=l _ (List.getElem_mem f);have u:d.kind≠1->0<=bH S[m].attrs d.attr:=λd=>by have:=s d;omega
  rcases vY p u with⟨_,i⟩|⟨v,w,x,i,_,y⟩
  ·rw[i]at a
   simp only[List.mem_append,List.mem_singleton]at a;rcases a with a|rfl
   ·have:=c b a;omega
   simp
  rw[i]at c;have d:=c w ai;have j:=λd (e:d∈v)=>c d (by simp[e]);have k:=λd (e:d∈x)=>c d (by simp[e]);rcases y with⟨_,hA2⟩|⟨_,hA2⟩|⟨_,hA2⟩
  ·rw[hA2]at a
   simp only[List.mem_append]at a;rcases a with a|a
   ·have:=j b a;omega
   have:=k b a;omega
  ·rw[hA2]at a
   simp only[List.mem_append,List.mem_cons]at a;rcases a with a|rfl|a
   ·have:=j b a;omega
   ·simp;omega
   have:=k b a;omega
  rw[hA2]at a;simp only[List.mem_append,List.mem_cons]at a;rcases a with a|rfl|a
  ·have:=j b a;omega
  ·simp;omega
  have:=k b a;omega
 rw[if_neg g]at a;have:=l _ (List.getElem_mem f) b a;omega
theorem v8 {a:List RT} {S:List Tb} {b:Nat} (c:a.map RT.tb=S) (w:gU S b) (d:b<=1000000):dh a:=by
 intro a b d e;have:=w a.tb (by rw[<-c];exact List.mem_map_of_mem b) d.at_ (List.mem_map_of_mem e);omega
def k9 (a:List Tb) (b:Nat):Prop:=∀c∈a,c.attrs.length<=b
theorem k9.apply {S:List Tb} {a:Cg} {n:Nat} (g:k9 S n) (h:dj S a=0):k9 (gC S a) (n+1):=by
 obtain⟨k,s,i,l,m,t,o,u⟩:=rY h;intro s p;obtain⟨b,j,rfl⟩:=List.mem_iff_getElem.1 p;have c:b<S.length:=by rw[r1]at j;exact j
 rw[vX l m b c];by_cases d:i=b
 ·rw[if_pos d]
  subst d;have e:=g _ (List.getElem_mem c);have q:a.kind≠1->0<=bH S[i].attrs a.attr:=λa=>by have:=o a;omega
  rcases vY k q with⟨_,f⟩|⟨v,w,x,f,_,r⟩
  ·rw[f]
   simp;exact e
  rw[f]at e;simp at e;rcases r with⟨_,hA2⟩|⟨_,hA2⟩|⟨_,hA2⟩<;>(rw[hA2];simp;omega)
 rw[if_neg d];have:=g _ (List.getElem_mem c);omega
theorem r4 (e:Int):∀(b:List dl) (d a:List At),fy e d b=.ok a->a.length=d.length+b.length
 |[],d,a,h=>by
  rw[fy]at h;injection h with h
  simp[h]
 |c::b,d,a,h=>by
  rw[fy]at h;unfold RO.ap at h;split at h
  ·split at h
   ·split at h
    ·split at h
     ·have:=r4 e b _ a h
      simp at this;simp;omega
     cases h
    cases h
   cases h
  cases h
theorem Er {d:List Tb} {a:aI} {b:Tb} (h:fL d a=.ok b):b.attrs.length<=12:=by
 unfold fL RO.ap at h;split at h
 ·rename_i e
  cases hc:fy a.at_ [] a.cD with
  |bad b b=>rw[hc]at h;cases h
  |ok c=>
   rw[hc]at h;simp only[RO.bind]at h;split at h
   ·cases hk:dv a.at_ c [] a.names with
    |bad a a=>rw[hk]at h;cases h
    |ok a=>
     rw[hk]at h;injection h with h
     subst h;have:=r4 _ _ _ _ hc;simp[aZ]at e this;show c.length<=12;omega
   cases h
 cases h
theorem wa:∀(c:List aI) (a:List Tb) (d:cI) (e:List (Int×Int)),k9 a 12->k9 (ep a d e c).1 12
 |[],a,d,e,h=>by rw[ep];exact h
 |x::c,a,d,e,h=>by
  rw[p0];refine wa c _ _ _ ?_;unfold fI;split
  ·exact h
  split
  ·cases ht:fL a x with
   |ok a=>
    intro f b;rcases cY b with b|b
    ·exact h f b
    rw[aA b];exact Er ht
   |bad a a=>exact h
  exact h
theorem Es {a:List RT} {b c:Nat} (d:gU (a.map RT.tb) b) (e:k9 (a.map RT.tb) c) (f:b<=1000000) (g:c<=10000):kR (a.map RT.tb):=λa b=>⟨bR (e a b) g,λc e=>bR (d a b c e) f⟩
def L2 (a b:af) (hv:ay) (e:List (Int×Int)) (f:List Tb) (cs:List Cg) (d:Nat):Prop:=∃(h:Hd) (c:List RT) (g:Int),ag a b/\J b a.heap.size 24 #[hv]/\J b (a.heap.size+1) 37 b6/\
 J b (a.heap.size+1+1+1+1) 154 #[aj (a.heap.size+1+1+1)]/\eQ b (a.heap.size+1+1+1+1+1) e/\
 J b (a.heap.size+1+1+1) 157 #[h.val,aa,aa,aa,aa,aa,aa,.map (some (a.heap.size+1+1)),g]/\
 bI b h c/\(∀b,b<a.heap.size+1+1+1+1+1+1->gN b c)/\gU (c.map RT.tb) d/\k9 (c.map RT.tb) (12+d)/\fS f cs=fS (c.map RT.tb) (cs.drop d)
theorem Et {d e:af} {hv:ay} {a:List RI} {cs:List Cg} (l:L1 d e hv a a.length) (f:a.length<=200):∃(b:List (Int×Int)) (g:List Tb),b.length=a.length/\ep [] [] [] (a.map RI.it)=(g,b)/\L2 d e hv b g cs 0:=by
 obtain⟨d,b,q,s,e,sm,g,l,m,n,o,v,p,i⟩:=l;obtain⟨h,v,p,q,r,s⟩:=p.tabs ae;refine⟨b,d.map RT.tb,o,by rw[i];simp[ep],h,d,e,sm,g,l,m,by simpa using n,s,p,q,λb c b k=>?_,?_,by simp⟩;rotate_left
 ·have j:=wa (a.map RI.it) [] [] [] (λa c=>by cases c)
  rw[i]at j;simpa[ep]using j
 obtain⟨j,t,rfl⟩:=List.mem_map.1 c;obtain⟨u,f,rfl⟩:=List.mem_map.1 k;exact Nat.le_of_eq (by rw[(r j t u f).2];rfl)
theorem Eu {a b m e:af} {hv:ay} {s:List (Int×Int)} {t:List Tb} {cs:List Cg} {f:Nat} {n:Cg} {h g:Hd} {c k:List RT} {o:Int} (z:cs[f]?=some n) (q:dj (c.map RT.tb) n=0) (sm:ag a b) (A:J b a.heap.size 24 #[hv]) (B:J b (a.heap.size+1) 37 b6)
 (C:J b (a.heap.size+1+1+1+1) 154 #[aj (a.heap.size+1+1+1)]) (v:eQ b (a.heap.size+1+1+1+1+1) s)
 (w:J b (a.heap.size+1+1+1) 157 #[h.val,aa,aa,aa,aa,aa,aa,.map (some (a.heap.size+1+1)),o])
 (D:∀i,i<a.heap.size+1+1+1+1+1+1->gN i c) (E:gU (c.map RT.tb) f) (F:k9 (c.map RT.tb) (12+f)) (G:fS t cs=fS (c.map RT.tb) (cs.drop f)) (x:ag b m) (b:ag m e) (H:bI e g k) (r:k.map RT.tb=gC (c.map RT.tb) n) (I:iM m.heap.size c k):
 L2 a (e.setCell (ab (a.heap.size+1+1+1) 0) g.val) hv s t cs (f+1):=by
 have y:=x.trans b;have d:=Kp.aE (l:=[a.heap.size+1+1+1]) (p:=(ab (a.heap.size+1+1+1) 0)) ai (Kp.refl [a.heap.size+1+1+1] e) g.val;have b:=w.lt;have j:=Kp.of_same (l:=[]) y;have qB:=j.blk w ai;have L:mR [.slice none 0 0,.slice none 0 0,.slice none 0 0,.slice none 0 0,.slice none 0 0,.slice none 0 0,.map (some (a.heap.size+1+1))]:=⟨rfl,λb hv b K=>by
  subst K;simp at hv⟩
 have f:jp e (a.heap.size+1+1+1):=gv.g9 (h:=h) (u:=[.slice none 0 0,.slice none 0 0,.slice none 0 0,.slice none 0 0,.slice none 0 0,.slice none 0 0,.map (some (a.heap.size+1+1))]) ⟨o,qB⟩ L;have hF:=J.lt v;have e:=λi (b:i<a.heap.size+1+1+1+1+1+1)=>(D i b).next I (aT ae x.size);have a:∀b,b≠a.heap.size+1+1+1->b∉[a.heap.size+1+1+1]:=λb c a=>c (aA a);refine⟨g,k,o,d.g4 (sm.trans y) (λb c=>by rw[aA c];omega),d.blk (j.blk A ai) (a _ ae),d.blk (j.blk B ai) (a _ ae),d.blk (j.blk C ai) (a _ ae),(v.kp j ai).kp d (a _ ae),?_,H.iG f (e _ ae) d,e,?_,?_,?_⟩
 ·simpa using qB.aP 0 g.val
 ·rw[r]
  exact E.apply q
 ·rw[r]
  exact F.apply q
 obtain⟨a,b⟩:=List.getElem?_eq_some_iff.1 z;rw[G,List.drop_eq_getElem_cons a,b,Eo q,r]
theorem RO.ct {c d:Type} {b:RO c} {e:c->RO d} {c:d} (h:b.bind e=.ok c):∃a,b=.ok a/\e a=.ok c:=by
 cases b with
 |ok a=>exact⟨a,rfl,h⟩
 |bad b a=>cases h
theorem RO.ce {b:Type} {c:Bool} {f a:Int} {d:RO b} {e:b} (h:RO.ap c f a d=.ok e):c=true/\d=.ok e:=by
 unfold RO.ap at h;split at h
 ·rename_i b
  exact⟨b,h⟩
 cases h
inductive hI (s:Su):Su->Prop
 |none:hI s s
 |origin (o:Og) (h:s.origins.length<64):hI s {s with origins:=s.origins++[o]}
 |block (o:Bk):hI s {s with blocks:=s.blocks++[o]}
 |match_ (o:Mt):hI s {s with kG:=s.kG++[o]}
 |keep (o:dR):hI s {s with keeps:=s.keeps++[o]}
 |rule (o:Ru):hI s {s with rules:=s.rules++[o]}
 |query (o:Qy):hI s {s with queries:=s.queries++[o]}
theorem Ev {b c:Su} {d:RO Ru} (h:d.bind (nE b)=.ok c):hI b c:=by
 obtain⟨a,_,h⟩:=RO.ct h;injection h with h
 subst h;exact .rule a
theorem r5 {a b:Su} {x:aI} (h:db a x=.ok b):hI a b:=by
 unfold db at h;split at h
 ·unfold nD at h
  obtain⟨c,h⟩:=RO.ce h;obtain⟨_,h⟩:=RO.ce h;injection h with h
  subst h;exact .origin _ (by simpa using c)
 split at h
 ·unfold mr at h
  obtain⟨a,_,h⟩:=RO.ct h;obtain⟨c,_,h⟩:=RO.ct h;injection h with h
  subst h;exact .block c
 split at h
 ·unfold mu at h
  obtain⟨a,_,h⟩:=RO.ct h;obtain⟨_,h⟩:=RO.ce h;obtain⟨_,h⟩:=RO.ce h;obtain⟨a,_,h⟩:=RO.ct h;injection h with h
  subst h;exact .match_ _
 split at h
 ·unfold mv at h
  obtain⟨a,_,h⟩:=RO.ct h;obtain⟨_,h⟩:=RO.ce h;obtain⟨_,h⟩:=RO.ce h;obtain⟨_,h⟩:=RO.ce h;injection h with h
  subst h;exact .keep _
 split at h
 ·exact Ev h
 split at h
 ·unfold mw at h
  obtain⟨a,_,h⟩:=RO.ct h;obtain⟨a,_,h⟩:=RO.ct h;obtain⟨_,h⟩:=RO.ce h;obtain⟨a,_,h⟩:=RO.ct h;injection h with h
  subst h;exact .rule _
 split at h
 ·unfold mx at h
  obtain⟨a,_,h⟩:=RO.ct h;obtain⟨a,_,h⟩:=RO.ct h;obtain⟨_,h⟩:=RO.ce h;injection h with h
  subst h;exact .rule _
 split at h
 ·unfold my at h
  obtain⟨_,h⟩:=RO.ce h;obtain⟨a,_,h⟩:=RO.ct h;obtain⟨ts,_,h⟩:=RO.ct h;injection h with h
  subst h;exact .rule _
 split at h
 ·unfold lE at h
  obtain⟨a,_,h⟩:=RO.ct h;injection h with h
  subst h;exact .query _
 injection h with h
 subst h;exact .none
theorem hI.tabs {s a:Su} (h:hI s a):a.tabs=s.tabs:=by cases h<;>rfl
structure gV (s:Su) (n:Nat):Prop where
 o:s.origins.length<=64
 b:s.blocks.length<=n
 m:s.kG.length<=n
 k:s.keeps.length<=n
 r:s.rules.length<=n
 q:s.queries.length<=n
theorem gV.add {c d:Su} {n:Nat} (h:gV c n) (a:hI c d):gV d (n+1):=by
 obtain⟨b,c,d,e,f,g⟩:=h;cases a with
 |none=>exact⟨b,by omega,by omega,by omega,by omega,by omega⟩
 |origin c c=>exact⟨by simp;omega,by dsimp only;omega,by dsimp only;omega,by dsimp only;omega,by dsimp only;omega,by dsimp only;omega⟩
 |block c=>exact⟨b,by simp;omega,by dsimp only;omega,by dsimp only;omega,by dsimp only;omega,by dsimp only;omega⟩
 |match_ c=>exact⟨b,by dsimp only;omega,by simp;omega,by dsimp only;omega,by dsimp only;omega,by dsimp only;omega⟩
 |keep c=>exact⟨b,by dsimp only;omega,by dsimp only;omega,by simp;omega,by dsimp only;omega,by dsimp only;omega⟩
 |rule c=>exact⟨b,by dsimp only;omega,by dsimp only;omega,by dsimp only;omega,by simp;omega,by dsimp only;omega⟩
 |query c=>exact⟨b,by dsimp only;omega,by dsimp only;omega,by dsimp only;omega,by dsimp only;omega,by simp;omega⟩
theorem gV.second {b:Su} {n:Nat} (h:gV b n) (x:aI):gV (iK b x).1 (n+1):=by
 unfold iK;cases hp:db b x with
 |ok b=>exact h.add (r5 hp)
 |bad b a=>exact h.add .none
theorem gV.up {c:Su} {n d:Nat} (h:gV c n) (a:n<=d):gV c d:=
 ⟨h.o,bR h.b a,bR h.m a,bR h.k a,bR h.r a,bR h.q a⟩
theorem gV.short {x:cc} {tabs:List Tb} {n:Nat} (h:gV (x.su tabs) n) (a:n<=1000):x.Short 64:=by
 obtain⟨a,b,c,d,e,f⟩:=h;simp only[cc.su,List.length_map]at a b c d e f;exact⟨a,by omega,by omega,by omega,by omega,by omega⟩
theorem aF.oT {f:Type} {w w':af} {b:Nat} {c:List Nat} {h:Hd} {d:f->List Value} {e:List f} (a:aF w b h d e) (f:∀x∈e,∃j,(d x)[0]?=some (.string j)) (n:∀k∈c,jp w k) (k:Kp c w w'):aF w' b h d e:=by
 refine⟨a.1,a.2.1,λg i=>?_⟩;obtain⟨d,e,o,l,m⟩:=a.2.2 g i;have q:d∉c:=by
  intro c;obtain⟨j,f⟩:=f _ (List.getElem_mem i);exact n _ c _ _ (m 0 _ f)
 exact⟨d,e,o,aT l k.size,λc f hv=>(k.cell (p:=(ab d (e+g*b+c))) l q).trans (m c f hv)⟩
theorem bI.oT {w w':af} {b:List Nat} {h:Hd} {ts:List RT} (a:bI w h ts) (e:∀c∈b,jp w c) (i:∀c∈b,gN c ts) (d:Kp b w w'):bI w' h ts:=
 ⟨a.1.oT (λb _=>⟨b.name,rfl⟩) e d,λb c=>⟨⟨(a.2 b c).1.1.oT (λf _=>⟨f.at_.name,rfl⟩) e d,λf g=>⟨⟨((a.2 b c).1.2 f g).1.1.oT (λj _=>⟨j,rfl⟩) e d,((a.2 b c).1.2 f g).1.2⟩,((a.2 b c).1.2 f g).2⟩⟩,
  (a.2 b c).2.1.kp d (λd e f g=>i d g b c d e f rfl),(a.2 b c).2.2⟩⟩
theorem wb:∀(fs:List (Int×Int)) (a:aw),Value.string a∉fs.flatMap dP
 |[],a,h=>by cases h
 |f::fs,a,h=>by
  rw[List.flatMap_cons]at h;rcases cY h with h|h
  ·simp[dP]at h
  exact wb fs a h
theorem eQ.g9 {w:af} {a:Nat} {fs:List (Int×Int)} (h:eQ w a fs):jp w a:=by
 intro b c a;rw[J.cell h b]at a;exact wb fs c (List.mem_of_getElem? (by simpa using a))
structure iO (w W0:af) (hv:ay) (h:Hd) (ts:List RT) (fs:List (Int×Int)) (m2:Nat):Prop where
 sm:ag w W0
 bP:J W0 w.heap.size 24 #[hv]
 bS:J W0 (w.heap.size+1) 37 b6
 bp:J W0 (w.heap.size+1+1+1+1) 154 #[aj (w.heap.size+1+1+1)]
 fl:eQ W0 (w.heap.size+1+1+1+1+1) fs
 bx:∃a:Int,J W0 (w.heap.size+1+1+1) 157 #[h.val,aa,aa,aa,aa,aa,aa,.map (some (w.heap.size+1+1)),a]
 ta:bI W0 h ts
 ko:∀Y,Y<w.heap.size+1+1+1+1+1+1->gN Y ts
 fa:kR (ts.map RT.tb)
 mp:cH (.int .i64) W0 m2 lP
 hm:w.heap.size+1+1+1+1+1<m2
structure eR (w W0 W:af) (h:Hd) (tabs:List Tb) (fl:List (Int×Int)) (n:Nat) (x:cc) (a:Int) (B:Nat->Prop) (out:List (Int×Int)) (hf:Hd):Prop where
 kp:Kp [w.heap.size+1+1+1,w.heap.size+1+1+1+1+1] W0 W
 fl:eQ W (w.heap.size+1+1+1+1+1) fl
 ft:x.Fit
 ss:gV (x.su tabs) n
 wk:cK W (w.heap.size+1+1+1) (w.heap.size+1+1) W0.heap.size B [h.val] [] x.rows false [] [] a
 ow:W.ownsRow W0.heap.size 97 2 hf.val hf.n (out.flatMap dP)
 hn:hf.n=out.length
 nb:∀b,hf.val.ownBlock=some b->¬B b
section
variable {w W0 W W':af} {hv:ay} {h:Hd} {ts:List RT} {fs fl:List (Int×Int)} {m2 n:Nat} {tabs:List Tb} {x:cc} {a:Int} {B:Nat->Prop} {out:List (Int×Int)} {hf:Hd}
theorem iO.g9 (b:iO w W0 hv h ts fs m2):∀d∈[w.heap.size+1+1+1,w.heap.size+1+1+1+1+1],jp W0 d:=by
 intro d e;rcases dd e with c|c
 ·subst c
  obtain⟨a,d⟩:=b.bx;exact gv.g9 (h:=h) (u:=[.slice none 0 0,.slice none 0 0,.slice none 0 0,.slice none 0 0,.slice none 0 0,.slice none 0 0,.map (some (w.heap.size+1+1))]) ⟨a,d⟩ ⟨rfl,λd hv d b=>by
   subst b;simp at hv⟩
 rw[aA c];exact b.fl.g9
theorem iO.wd (a:iO w W0 hv h ts fs m2) (c:Kp [w.heap.size+1+1+1,w.heap.size+1+1+1+1+1] W0 W):bI W h ts:=
 a.ta.oT a.g9 (λd e=>a.ko d (by
  rcases dd e with b|b
  ·omega
  have:=aA b;omega)) c
theorem iO.same (e:iO w W0 hv h ts fs m2) (k:Kp [w.heap.size+1+1+1,w.heap.size+1+1+1+1+1] W0 W):ag w W:=
 k.g4 e.sm (λc b=>by
  rcases dd b with a|a
  ·omega
  have:=aA a;omega)
theorem ql {a p:Nat} (c:a≠p+1+1+1) (d:a≠p+1+1+1+1+1):a∉[p+1+1+1,p+1+1+1+1+1]:=λe=>by
 rcases dd e with b|b
 ·exact c b
 exact d (aA b)
theorem eR.same (s:eR w W0 W h tabs fl n x a B out hf) (k:ag W W'):eR w W0 W' h tabs fl n x a B out hf:=
 ⟨s.kp.trans (Kp.of_same k),s.fl.kp (Kp.of_same (l:=[]) k) ai,s.ft,s.ss,s.wk.kp (Kp.of_same (l:=[]) k) (λc b=>by cases b),aH k s.ow,s.hn,s.nb⟩
theorem eR.up (b:eR w W0 W h tabs fl n x a B out hf) {c:Nat} (d:n<=c):eR w W0 W h tabs fl c x a B out hf:=
 ⟨b.kp,b.fl,b.ft,b.ss.up d,b.wk,b.ow,b.hn,b.nb⟩
theorem eR.start (b:iO w W0 hv h ts fs m2) (e:w.heap.size+1+1+1+1+1<W0.heap.size):
 ∃a,eR w W0 W0 h tabs fs 0 ⟨aJ,aJ,aJ,aJ,aJ,aJ,[],[],[],[],[],[]⟩ a (λ_=>False) [] aJ:=by
 obtain⟨a,g⟩:=b.bx;have d:∀c∈(⟨aJ,aJ,aJ,aJ,aJ,aJ,[],[],[],[],[],[]⟩:cc).rows,c.own=none/\c.cs=[]/\c.h=aJ:=by
  intro c d;simp only[cc.rows,List.mem_cons,List.mem_nil_iff,or_false]at d;rcases d with b|b|b|b|b|b<;>(subst b;exact⟨rfl,rfl,rfl⟩)
 refine⟨a,Kp.refl _ _,b.fl,⟨rfl,rfl,rfl,rfl,rfl,rfl⟩,⟨by simp[cc.su],by simp[cc.su],by simp[cc.su],by simp[cc.su],by simp[cc.su],by simp[cc.su]⟩,?_,⟨rfl,.inl ⟨rfl,rfl⟩⟩,rfl,λ_ _ h=>h⟩;exact
 {
  bx:=g,hX:=by omega,hM:=by omega,hb:=Nat.le_refl _,lt:=(λ_ h=>h.elim),na:=(λh=>by cases h),nin:=(λg f=>by cases f),gO:=(λg f=>by cases f)
  own:=λc h=>by
   obtain⟨_,f,g⟩:=d c h;rw[f,g];exact⟨by simp[aJ],.inl ⟨rfl,rfl⟩⟩
  eP:=λc h i e=>by rw[(d c h).1]at e;cases e
  one:=λe e c e i e g f g=>by rw[(d c (List.mem_of_getElem? e)).1]at f;cases f
  fine:=λc h=>by
   simp only[cc.rows,List.mem_cons,List.mem_nil_iff,or_false]at h;rcases h with b|b|b|b|b|b<;>subst b
   ·exact vr _ _
   ·exact vt _ _
   ·exact vv _ _
   ·exact vu _ _
   ·exact vw _ _
   exact vx _ _
  nest:=λc h=>by
   simp only[cc.rows,List.mem_cons,List.mem_nil_iff,or_false]at h;rcases h with b|b|b|b|b|b<;>subst b
   ·trivial
   ·trivial
   ·exact λb j=>by cases j
   ·trivial
   ·exact λb j=>by cases j
   exact λb j=>by cases j}
theorem eR.Ew (b:iO w W0 hv h ts fs m2) (g:w.heap.size+1+1+1+1+1<W0.heap.size) (b:eR w W0 W h tabs fl n x a B out hf) (d:Nat) (e:Int×Int):
 eR w W0 ((W.setCell (ab (w.heap.size+1+1+1+1+1) (d*2)) e.1).setCell (ab (w.heap.size+1+1+1+1+1) (d*2+1)) e.2) h tabs (fl.set d e) n x a B out hf:=by
 have i:=Kp.aE (l:=[w.heap.size+1+1+1+1+1]) (p:=(ab (w.heap.size+1+1+1+1+1) (d*2+1))) ai (Kp.aE (p:=(ab (w.heap.size+1+1+1+1+1) (d*2))) ai (Kp.refl [w.heap.size+1+1+1+1+1] W) e.1) e.2;have k:∀c,B c->w.heap.size+1+1+1+1+1<c:=λc f=>aT g (b.wk.lt c f).1;refine⟨b.kp.trans (i.mono (λc g=>by rw[aA g];simp)),b.fl.set d e,b.ft,b.ss,b.wk.kp i (λc f=>?_),l8 b.ow i (λc f j=>?_),b.hn,b.nb⟩
 ·rw[aA f]
  exact⟨by omega,by omega,λd=>by have:=k _ d;omega⟩
 have b:=(b3 b.ow c f).1;rw[aA j]at b;omega
theorem eR.r6 (c:eR w W0 W h tabs fl n x a B out hf) (o:w.heap.size+1+1+1+1+1<W0.heap.size) {g:aI} {o:Int×Int} (s:rO W (w.heap.size+1+1+1) (w.heap.size+1+1) W0.heap.size B h tabs (x.su tabs) g o W'):
 ∃(f:cc) (i:Int) (j:Nat->Prop),iK (x.su tabs) g=(f.su tabs,o)/\eR w W0 W' h tabs fl (n+1) f i j out hf:=by
 obtain⟨⟨o,k,l⟩,s,j,p,⟨f,i,t,u,v⟩,y⟩:=s;have q:∀b,B b->W0.heap.size<=b:=λb d=>(c.wk.lt b d).1;subst u;refine⟨f,i,j,p,?_,c.fl.kp k (λe=>?_),t,?_,v,l8 c.ow k (λb d e=>?_),c.hn,λb d r=>?_⟩
 ·refine k.old c.kp (λb e f=>?_)
  rcases l b e with m|m
  ·rw[m];simp
  have:=q b m;omega
 ·rcases l _ e with m|m
  ·omega
  have:=q _ m;omega
 ·have:=c.ss.second g
  rw[p]at this;exact this
 ·rcases l _ e with m|m
  ·have:=(b3 c.ow b d).1
   omega
  exact c.nb b d m
 rcases y b r with m|m
 ·exact c.nb b d m
 have:=(b3 c.ow b d).2;omega
theorem eR.push (c:eR w W0 W h tabs fl n x a B out hf) (d:w.heap.size+1+1+1+1+1<W0.heap.size) {g:Int×Int} {e:aX} {f:Nat} {i:Obj}
 (q:W'.ownsRow W0.heap.size 97 2 (U e (hf.n+1) f) (hf.n+1) (out.flatMap dP++dP g)) (d:(W.alloc i).grownBy W' hf.val.ownBlock) (r:(Value.slice e (hf.n+1) f).ownBlock=hf.val.ownBlock\/(Value.slice e (hf.n+1) f).ownBlock=some (W.alloc i).heap.size):
 eR w W0 W' h tabs fl n x a B (out++[g]) ⟨e,hf.n+1,f⟩:=by
 have k:Kp hf.val.ownBlock.toList W W':=((Kp.refl _ W).alloc i).grown d (λb b=>.inl (by rw[b];simp));have j:∀b∈hf.val.ownBlock.toList,hf.val.ownBlock=some b:=λb d=>jm (v:=hf.val) d;refine⟨k.old c.kp (λb d l=>?_),c.fl.kp k (λd=>?_),c.ft,c.ss,c.wk.kp k (λb d=>?_),?_,by simp[c.hn],λb o p=>?_⟩
 ·have:=(b3 c.ow b (j b d)).1
  omega
 ·have:=(b3 c.ow _ (j _ d)).1
  omega
 ·have:=(b3 c.ow b (j b d)).1
  exact⟨by omega,by omega,c.nb b (j b d)⟩
 ·rw[List.flatMap_append,show[g].flatMap dP=dP g by simp]
  exact q
 rcases r with l|l
 ·exact c.nb b (l▸o) p
 have m:(Value.slice e (hf.n+1) f).ownBlock=some b:=o;rw[l]at m;injection m with m
 have b:=(c.wk.lt b p).2;have b:(W.alloc i).heap.size=W.heap.size+1:=ai
 omega
end
theorem Ey (b fs:List (Int×Int)) (a:Nat) (c:Int×Int) (h:b.length=a) (d:a<fs.length):(b++fs.drop a).set a c=(b++[c])++fs.drop (a+1):=by
 subst h;rw[List.set_append_right _ _ (Nat.le_refl _),Nat.sub_self,List.drop_eq_getElem_cons d,List.set_cons_zero,List.append_assoc];rfl
def L3 (w W0 W:af) (h:Hd) (ts:List RT) (fs:List (Int×Int)) (b:List aI) (i:Nat) (hf:Hd):Prop:=∃(x:cc) (a:Int) (B:Nat->Prop) (c out:List (Int×Int)),
 eR w W0 W h (ts.map RT.tb) (c++fs.drop i) i x a B out hf/\c.length=i/\out.length<=i/\
 eM {Su.zero with tabs:=ts.map RT.tb} [] (fs.zip b)=eM (x.su (ts.map RT.tb)) out ((fs.drop i).zip (b.drop i))
def M3 (w W0 W:af) (h:Hd) (ts:List RT) (fs:List (Int×Int)) (c:List aI) (i:Nat) (hf:Hd) (b:Int×Int):Prop:=∃(x:cc) (a:Int) (B:Nat->Prop) (d out:List (Int×Int)),
 eR w W0 W h (ts.map RT.tb) ((d++[b])++fs.drop (i+1)) (i+1) x a B out hf/\d.length=i/\out.length<=i/\
 eM {Su.zero with tabs:=ts.map RT.tb} [] (fs.zip c)=eM (x.su (ts.map RT.tb)) (if b.1=0 then out else out++[b]) ((fs.drop (i+1)).zip (c.drop (i+1)))
theorem Ez {w W0:af} {hv:ay} {h:Hd} {ts:List RT} {fs:List (Int×Int)} {m2:Nat} (b:List aI) (c:iO w W0 hv h ts fs m2) (d:w.heap.size+1+1+1+1+1<W0.heap.size):L3 w W0 W0 h ts fs b 0 aJ:=by
 obtain⟨a,b⟩:=eR.start (tabs:=ts.map RT.tb) c d;exact⟨_,a,_,[],[],by simpa using b,rfl,Nat.le_refl _,by simp[cc.su,Su.zero]⟩
theorem we {fs:List (Int×Int)} {b:List aI} {a:Nat} {c:Int×Int} {d:aI} (e:fs[a]?=some c) (f:b[a]?=some d):(fs.drop a).zip (b.drop a)=(c,d)::(fs.drop (a+1)).zip (b.drop (a+1)):=by
 obtain⟨a,b⟩:=List.getElem?_eq_some_iff.1 e;obtain⟨c,d⟩:=List.getElem?_eq_some_iff.1 f;rw[List.drop_eq_getElem_cons a,List.drop_eq_getElem_cons c,b,d];rfl
theorem L3.skip {w W0 W:af} {h:Hd} {ts:List RT} {fs:List (Int×Int)} {d:List aI} {i:Nat} {hf:Hd} (l:L3 w W0 W h ts fs d i hf) {b:Int×Int} {e:aI} (f:fs[i]?=some b) (g:d[i]?=some e) (c:b.1≠0\/gu e.kind=none):M3 w W0 W h ts fs d i hf b:=by
 obtain⟨x,a,B,d,out,j,k,m,n⟩:=l;obtain⟨o,p⟩:=List.getElem?_eq_some_iff.1 f;refine⟨x,a,B,d,out,?_,k,m,?_⟩
 ·have:=j.up (Nat.le_succ i)
  rw[List.drop_eq_getElem_cons o,p]at this;simpa using this
 have q:k7 (x.su (ts.map RT.tb)) b e=(x.su (ts.map RT.tb),b):=by
  unfold k7;rcases c with c|c
  ·rw[if_neg c]
  rw[c];split<;>rfl
 rw[n,we f g,vy,q]
theorem M3.next {w W0 W:af} {h:Hd} {ts:List RT} {fs:List (Int×Int)} {c:List aI} {i:Nat} {hf:Hd} {b:Int×Int} (l:M3 w W0 W h ts fs c i hf b) (d:b.1=0):L3 w W0 W h ts fs c (i+1) hf:=by
 obtain⟨x,a,B,e,out,f,g,j,c⟩:=l;rw[if_pos d]at c;exact⟨x,a,B,e++[b],out,f,by simp[g],by omega,c⟩
theorem M3.r6 {w W0 W W':af} {hv:ay} {h:Hd} {ts:List RT} {fs:List (Int×Int)} {m2:Nat} {d:List aI} {i:Nat} {hf:Hd} {x:cc} {a:Int} {B:Nat->Prop} {c out:List (Int×Int)} (m:iO w W0 hv h ts fs m2) (g:w.heap.size+1+1+1+1+1<W0.heap.size)
 (l:eR w W0 W h (ts.map RT.tb) (c++fs.drop i) i x a B out hf) (j:c.length=i) (n:out.length<=i) (o:eM {Su.zero with tabs:=ts.map RT.tb} [] (fs.zip d)=eM (x.su (ts.map RT.tb)) out ((fs.drop i).zip (d.drop i)))
 {f b:Int×Int} {e:aI} {v:ay} (k:fs[i]?=some f) (p:d[i]?=some e) (q:f.1=0) (r:gu e.kind=some v) (s:rO W (w.heap.size+1+1+1) (w.heap.size+1+1) W0.heap.size B h (ts.map RT.tb) (x.su (ts.map RT.tb)) e b W'):
 eQ W' (w.heap.size+1+1+1+1+1) (c++fs.drop i)/\ag W0 W0/\Kp [w.heap.size+1+1+1,w.heap.size+1+1+1+1+1] W0 W'/\
 M3 w W0 ((W'.setCell (ab (w.heap.size+1+1+1+1+1) (i*2)) b.1).setCell (ab (w.heap.size+1+1+1+1+1) (i*2+1)) b.2) h ts fs d i hf b:=by
 obtain⟨t,d⟩:=List.getElem?_eq_some_iff.1 k;obtain⟨l,s,u,y,d⟩:=l.r6 g s;have g:=d.Ew m g i b;rw[Ey c fs i b j t]at g;refine⟨d.fl,ag.refl _,d.kp,l,s,u,c,out,g,j,n,?_⟩;have b:k7 (x.su (ts.map RT.tb)) f e=(l.su (ts.map RT.tb),b):=by
  unfold k7;rw[if_pos q,r];exact y
 rw[o,we k p,vy,b]
theorem M3.same {w W0 W W':af} {h:Hd} {ts:List RT} {fs:List (Int×Int)} {b:List aI} {i:Nat} {hf:Hd} {c:Int×Int} (l:M3 w W0 W h ts fs b i hf c) (k:ag W W'):M3 w W0 W' h ts fs b i hf c:=by
 obtain⟨x,a,B,b,out,c,d,e,f⟩:=l;exact⟨x,a,B,b,out,c.same k,d,e,f⟩
theorem L3.same {w W0 W W':af} {h:Hd} {ts:List RT} {fs:List (Int×Int)} {b:List aI} {i:Nat} {hf:Hd} (l:L3 w W0 W h ts fs b i hf) (k:ag W W'):L3 w W0 W' h ts fs b i hf:=by
 obtain⟨x,a,B,b,out,c,d,e,f⟩:=l;exact⟨x,a,B,b,out,c.same k,d,e,f⟩
theorem M3.get {w W0 W:af} {h:Hd} {ts:List RT} {fs:List (Int×Int)} {c:List aI} {i:Nat} {hf:Hd} {b:Int×Int} (l:M3 w W0 W h ts fs c i hf b):∃fl,eQ W (w.heap.size+1+1+1+1+1) fl/\fl[i]?=some b:=by
 obtain⟨x,a,B,c,out,b,d,e,f⟩:=l;exact⟨_,b.fl,by subst d;simp⟩
theorem M3.row {w W0 W:af} {h:Hd} {ts:List RT} {fs:List (Int×Int)} {e:List aI} {i:Nat} {hf:Hd} {b:Int×Int} (l:M3 w W0 W h ts fs e i hf b) (m:w.heap.size+1+1+1+1+1<W0.heap.size) (o:b.1≠0):
 ∃out:List (Int×Int),W.ownsRow W0.heap.size 97 2 hf.val hf.n (out.flatMap dP)/\hf.n=out.length/\out.length<=i/\∀(d:Obj) (W':af) (A:aX) (c:Nat),W'.ownsRow W0.heap.size 97 2 (U A (hf.n+1) c) (hf.n+1) (out.flatMap dP++dP b)->(W.alloc d).grownBy W' hf.val.ownBlock->
  ((Value.slice A (hf.n+1) c).ownBlock=hf.val.ownBlock\/(Value.slice A (hf.n+1) c).ownBlock=some (W.alloc d).heap.size)->L3 w W0 W' h ts fs e (i+1) ⟨A,hf.n+1,c⟩:=by
 obtain⟨x,a,B,p,out,e,q,r,f⟩:=l;refine⟨out,e.ow,e.hn,r,λd W' A c g j k=>?_⟩;rw[if_neg o]at f;exact⟨x,a,B,p++[b],out++[b],e.push m g j k,by simp[q],by simp;omega,f⟩
structure fJ (lo:Nat) (w:af) (h:Hd) (ts:List RT) (x:cc):Prop where
 ta:bI w h ts
 l1:aF w 2 x.h1 Og.cells x.os
 l2:aF w 6 x.h2 Bk.cells x.bs
 l3:aF w 4 x.h3 ei.cells x.ms
 l4:aF w 3 x.h4 dR.cells x.ks
 l5:aF w 10 x.h5 cG.cells x.rs
 l6:aF w 9 x.h6 eu.cells x.qs
 i1:aS (λb=>lo<=b) x.h1
 i2:aS (λb=>lo<=b) x.h2
 i3:aS (λb=>lo<=b) x.h3
 i4:aS (λb=>lo<=b) x.h4
 i5:aS (λb=>lo<=b) x.h5
 i6:aS (λb=>lo<=b) x.h6
 m:∀t∈x.ms,fp w (λb=>lo<=b) t
 r:∀t∈x.rs,eZ w (λb=>lo<=b) t
 q:∀t∈x.qs,oI w (λb=>lo<=b) t
def wf (lo:Nat) (w:af) (a:ay) (b:Su):Prop:=∃(h:Hd) (ts:List RT) (x:cc),a=.agg #[h.val,x.h1.val,x.h2.val,x.h3.val,x.h4.val,x.h5.val,x.h6.val]/\x.su (ts.map RT.tb)=b/\fJ lo w h ts x
def hJ (lo:Nat) (w:af) (v:ay) (fs:List (Int×Int)):Prop:=∃h:Hd,v=h.val/\aF w 2 h dP fs/\aS (λa=>lo<=a) h
def gy (w:af) (a:Su×List (Int×Int)) (d:Ending) (w':af):Prop:=ag w w'/\∃b c,d=.returned (.tuple #[b,c])/\wf w.heap.size w' b a.1/\hJ w.heap.size w' c a.2
theorem jw {a:Type} {w:af} {b:Nat} {c:a->List Value}:aF w b aJ c []:=⟨rfl,by simp[aJ],λa d=>by cases d⟩
theorem mf {S:Nat->Prop}:aS S aJ:=λb b a=>by cases a
theorem qn (lo:Nat) (w:af):wf lo w (.agg b6) Su.zero:=
 ⟨aJ,[],⟨aJ,aJ,aJ,aJ,aJ,aJ,[],[],[],[],[],[]⟩,rfl,rfl,⟨jw,λb a=>by cases a⟩,jw,jw,jw,jw,jw,jw,mf,mf,mf,mf,mf,mf,(λb a=>by cases a),(λb a=>by cases a),(λb a=>by cases a)⟩
theorem aF.qp {e:Type} {w w':af} {m a:Nat} {h:Hd} {c:e->List Value} {d:List e} (e:aF w m h c d) (g:∀x∈d,∃v,(c x)[0]?=some v/\∀j,w.cell? (ab a j)≠some v) (k:Kp [a] w w'):aF w' m h c d:=by
 refine⟨e.1,e.2.1,λi f=>?_⟩;obtain⟨b,off,ha,hb,hc⟩:=e.2.2 i f;have hne:b≠a:=by
  rintro rfl;obtain⟨v,hv,a⟩:=g _ (List.getElem_mem f);exact a _ (hc 0 _ hv)
 exact GU
theorem bI.r7 {w w':af} {X:Nat} {h:Hd} {ts:List RT} (a:bI w h ts) (g:∀b v,ac w (ab X b) v->∃i n j,v=.slice i n j) (d:Kp [X] w w'):bI w' h ts:=by
 have f:∀(e:aw) b,w.cell? (ab X b)≠some (.string e):=λe b c=>by
  obtain⟨_,_,_,h⟩:=g b _ c;cases h
 have k:∀(n:Int) b,w.cell? (ab X b)≠some (.int .i64 n):=λn b c=>by
  obtain⟨_,_,_,h⟩:=g b _ c;cases h
 exact⟨a.1.qp (λb _=>⟨_,rfl,f b.name⟩) d,λb c=>⟨⟨(a.2 b c).1.1.qp (λg _=>⟨_,rfl,f g.at_.name⟩) d,λg i=>⟨⟨((a.2 b c).1.2 g i).1.1.qp (λe _=>⟨_,rfl,f e⟩) d,((a.2 b c).1.2 g i).1.2⟩,((a.2 b c).1.2 g i).2⟩⟩,
  (a.2 b c).2.1.qp (λn _=>⟨_,rfl,k n⟩) d,(a.2 b c).2.2⟩⟩
theorem m3 (a:Nat) (v:ay) (h:b6[a]?=some v):∃b n c,v=.slice b n c:=by
 match a with
 |0|1|2|3|4|5|6=>exact⟨_,_,_,(Option.some.inj h).symm⟩
 |_+7=>cases h
section
variable {lo:Nat} {w w':af} {h:Hd} {ts:List RT} {x:cc}
theorem fJ.kp (a:fJ lo w h ts x) {g:Nat} (b:g<lo) (i:∀b v,ac w (ab g b) v->∃b n c,v=.slice b n c) (k:Kp [g] w w'):fJ lo w' h ts x:=
 have d:∀b∈[g],¬lo<=b:=λb c=>by rw[aA c];omega
 have b:∀{f:Hd},aS (λb=>lo<=b) f->∀b e,f.a=some ⟨b,e,none⟩->b∉[g]:=λf b e j c=>d b c (f b e j)
 {
  ta:=a.ta.r7 i k,l1:=a.l1.kp k (b a.i1),l2:=a.l2.kp k (b a.i2),l3:=a.l3.kp k (b a.i3),l4:=a.l4.kp k (b a.i4),l5:=a.l5.kp k (b a.i5),l6:=a.l6.kp k (b a.i6),i1:=a.i1,i2:=a.i2,i3:=a.i3,i4:=a.i4,i5:=a.i5,i6:=a.i6
  m:=λb c=>fp.keep _ _ _ _ _ (a.m b c) k d,r:=λb c=>(a.r b c).keep k d,q:=λb c=>dJ.keep (a.q b c) k d}
theorem fJ.same (a:fJ lo w h ts x) (s:ag w w'):fJ lo w' h ts x:=
 have d:=Kp.of_same (l:=[]) s
 {
  ta:=a.ta.same s,l1:=a.l1.same s,l2:=a.l2.same s,l3:=a.l3.same s,l4:=a.l4.same s,l5:=a.l5.same s,l6:=a.l6.same s,i1:=a.i1,i2:=a.i2,i3:=a.i3,i4:=a.i4,i5:=a.i5,i6:=a.i6
  m:=λb c=>fp.keep _ _ _ _ _ (a.m b c) d ai,r:=λb c=>(a.r b c).keep d ai,q:=λb c=>dJ.keep (a.q b c) d ai}
theorem fJ.low (a:fJ lo w h ts x) {l2:Nat} (c:l2<=lo):fJ l2 w h ts x:=
 have b:∀b,lo<=b->l2<=b:=λb b=>bR c b
 {
  ta:=a.ta,l1:=a.l1,l2:=a.l2,l3:=a.l3,l4:=a.l4,l5:=a.l5,l6:=a.l6,i1:=a.i1.mono b,i2:=a.i2.mono b,i3:=a.i3.mono b,i4:=a.i4.mono b,i5:=a.i5.mono b,i6:=a.i6.mono b
  m:=λc d=>fp.mono _ _ _ _ (a.m c d) b,r:=λc d=>(a.r c d).mono b,q:=λc d=>dJ.mono (a.q c d) b}
end
theorem EA {W:af} {h:Hd} {ts:List RT} {X d e n:Nat} {x:cc} {a:Int} {B:Nat->Prop} (k:bI W h ts) (c:x.Fit) (f:gV (x.su (ts.map RT.tb)) n) (b:cK W X d e B [h.val] [] x.rows false [] [] a) (d:n<=1000):fJ e W h ts x:=by
 obtain⟨d,f,g,i,j,l⟩:=f.short d;have e:∀(f:List ej) (d:Nat),rL B f [] d->e<=d:=λf d e=>(b.lt d e.1).1;have d:oK x.h1 x.os∈x.rows:=gh
 have m2:oL x.h2 x.bs∈x.rows:=gh
 have f:oM x.h3 x.ms∈x.rows:=gh
 have j:oN x.h4 x.ks∈x.rows:=gh
 have g:k6 x.h5 x.rs∈x.rows:=gh
 have i:oO x.h6 x.qs∈x.rows:=gh
 exact{
  ta:=k,l1:=cF (h:=x.h1) (λ_=>rfl) c.e1 (by rw[<-c.e1];omega) (b.own _ d),l2:=cF (h:=x.h2) (λ_=>rfl) c.e2 (by rw[<-c.e2];omega) (b.own _ m2),l3:=cF (h:=x.h3) (λ_=>rfl) c.e3 (by rw[<-c.e3];omega) (b.own _ f)
  l4:=cF (h:=x.h4) (λ_=>rfl) c.e4 (by rw[<-c.e4];omega) (b.own _ j),l5:=cF (h:=x.h5) (λ_=>rfl) c.e5 (by rw[<-c.e5];omega) (b.own _ g),l6:=cF (h:=x.h6) eu.len c.e6 (by rw[<-c.e6];omega) (b.own _ i)
  i1:=k8 (h:=x.h1) (b.own _ d),i2:=k8 (h:=x.h2) (b.own _ m2),i3:=k8 (h:=x.h3) (b.own _ f),i4:=k8 (h:=x.h4) (b.own _ j),i5:=k8 (h:=x.h5) (b.own _ g),i6:=k8 (h:=x.h6) (b.own _ i)
  m:=λc d=>fp.mono _ _ _ _ (b.nest _ f c d) (e _),r:=λc d=>(b.nest _ g c d).mono (e _),q:=λc d=>dJ.mono (b.nest _ i c d) (e _)}
theorem RI.one (a:RI):a.cells.toArray.all (·.oneCell')=true:=by
 obtain⟨a,c,d,e,f,g,i,j,k,l,m,n,o,p,q,r,s,t,u,v,w,x,b⟩:=a;cases b;simp[RI.cells,RE.cells,Hd.val,Value.oneCell']
theorem se:b6.all (·.oneCell')=true:=by simp[b6,Value.oneCell']
theorem Tryz.lg:(Tryz.prog.info? 37).map (·.size)=some b6.size:=ak
theorem Fa {a:Int} {v:ay} (h:gu a=some v):∃a,v=.func (.func a) #[] #[]:=by
 unfold gu at h;repeat' split at h
 all_goals first|exact⟨_,(Option.some.inj h).symm⟩|cases h
theorem oX (a:Act):a.put none undef=a:=rfl
theorem jy {b:Program} {g:Func} {p u:Tmp} {c:bb} (h:g.results=#[.cell p c,.tmp u]) (d:aO) (a:af) (e:Nat) (i:bb) (cs:aO) (f:TypeDesc)
 (j:d.getD p undef=.pointer (some ⟨e,0,none⟩)) (k:a.heap[e]?=some (.cells cs i (0,0))) (l:b.underlying c=some f) (m:(match f with|.struct _|.array _ _=>true|_=>false)=true) (n:(b.info? c).map (·.size)=some cs.size):
 (results g d).run b a=.ok (.tuple #[.agg cs,d.getD u undef]) a:=by
 have b:(asAddr (d.getD p undef)).run b a=.ok ⟨e,0,none⟩ a:=by rw[j];rfl
 rw[results_cell_tmp h,b];simp[Result.andThen,run_loadVar_row a e i c cs (0,0) f k l m n]
theorem Fb (h aU:Hd) (rs:List RI) (cs:List Cg) (d:af) (aV:Ending->World->Prop) (aW:Hid (aV=gy d (cP (rs.map RI.it) cs))) (aZ:aF d 25 h RI.cells rs) (bq:∀a0∈rs,df d (λj=>j<d.heap.size) a0) (br:∀a0∈rs,a0.it.dh) (bs:h.n<=200) (a1:aF d 8 aU Cg.cells cs) (bt:∀a0∈cs,aG a0.name/\aG a0.dflt.s) (a0:cs.length<=1000):
 Calls Tryz.prog 37 #[.agg #[h.val],aU.val] d aV:=by
 obtain⟨H,a2,L⟩:=h;obtain⟨bu,cl,cm⟩:=aU;have cn:rs.length=a2:=aZ.1;subst cn;have co:cs.length=cl:=a1.1;subst co;have cp:=Z a1;have bv:=Z bt;have bw:=Z aZ;have bz:=Z bq;have aI:=Z br;have a3:rs.length<=200:=bs;have ao:decide ((200:Int)<(rs.length:Int))=false:=by
  simp;omega
 clear aZ bq bs br a1 bt;have cq:=@run_makeMap Tryz.prog;have cr:=Dh rs.length ae;show Calls Tryz.prog 37 #[.agg #[U H rs.length L],U bu cs.length cm] d aV;go_enter Tryz.func37,Tryz.ntmps37
 go_upto_region 5 with(fail)
 have aL:=Z (Di d (U H rs.length L) rs);unfold b6 at aL;obtain⟨aV,aU⟩:∃b,b=((((((d.alloc (.cells #[U H rs.length L] 24)).alloc (.cells #[aa,aa,aa,aa,aa,aa,aa] 37)).alloc (.map #[] 0)).alloc (.cells #[aa,aa,aa,aa,aa,aa,aa,.map (some (d.heap.size+1+1)),O 0] 157)).alloc (.cells #[aj (d.heap.size+1+1+1)] 154)).alloc (.cells ((List.replicate rs.length ((0:Int),(0:Int))).flatMap dP).toArray 97)):=⟨_,rfl⟩;rw[<-aU]at aL⊢;clear aU cr cq ao;obtain⟨aV,aZ,u0,a0,a1,bq,aU,br,bs,bt,cl,cm,cn,co⟩:=id aL.out;have ct:=az aU;clear bq aU br bs bt cl cm cn co aV aZ u0 a0 a1;go_upto_region 6 with(fail)
 go_loopg [41] (rs.length+1) (λm o wr=>∃i:Nat,o=.int .i64 i/\i<=rs.length/\rs.length-i<m/\Hid (L1 d wr (U H rs.length L) rs i))
 case atStart=>exact⟨0,rfl,by omega,by omega,aL⟩
 obtain⟨i,rfl,cu,W,E⟩:=hrel;have Gk:=Z W;clear W;by_cases ao:i<rs.length
 case neg=>
  have cv:¬(i:Int)<rs.length:=ae
  have aM:i=rs.length:=ae
  obtain⟨ap,bA,C,aL,bB⟩:=Et (cs:=cs) (by have:=E.out;rw[aM]at this;exact this) a3;have bC:=Z aL;have bD:=Z C;clear aL C E aM;go_upto_region 11 with(fail)
  clear cv;go_loopg [57] (cs.length+1) (λo r w=>∃m:Nat,r=.int .i64 m/\m<=cs.length/\cs.length-m<o/\Hid (L2 d w (U H rs.length L) ap bA cs m))
  case atStart=>exact⟨0,rfl,by omega,by omega,bB⟩
  obtain⟨o,rfl,cV,bE,E⟩:=hrel;have bF:=Z bE;clear bE bB;by_cases aN:o<cs.length
  case neg=>
   have cg:¬(o:Int)<cs.length:=ae
   have ch:o=cs.length:=ae
   subst ch;obtain⟨D,M,bB,aL,aU,aV,aZ,N,a0,a1,bq,br,bs,bt⟩:=E.out;have ci:=Z (show fS bA cs=.ok (M.map RT.tb) by rw[bt];simp[fS]);have cj:=Z (Ap wr);have hF:=J.lt N;have ck:=Z (λr (w:ag wr r) (x:cH (.int .i64) r wr.heap.size lP)=>(have m:=Kp.of_same (l:=[]) w;⟨aL.trans w,m.blk aU ai,m.blk aV ai,m.blk aZ ai,N.kp m ai,⟨bB,m.blk a0 ai⟩,a1.same w,bq,Es br bs ae ae,x,hF⟩:iO d r (U H rs.length L) D M ap wr.heap.size));clear aL aU aV aZ N a0 a1 bq br bs bt E;go_wp2_with fail
   refine cj.out.mono ?_;rintro G I ⟨V,a4,bG⟩;subst V;have w:=Z (ck I a4 bG);have aq:=aT hF a4.size;have cw:=Z (Ez (rs.map RI.it) w aq);have ct:ac I (am d 0) (U H rs.length L):=J.cell w.bP 0;clear a4 bG;go_upto_region 21 with(fail)
   clear cg;go_loopg [87,14] (rs.length+1) (λm r x B=>∃(i:Nat) (fA:aX) (fn fc:Nat),r=.int .i64 i/\x=.slice fA fn fc/\i<=rs.length/\rs.length-i<m/\Hid (L3 d I B D M ap (rs.map RI.it) i ⟨fA,fn,fc⟩))
   case atStart=>exact⟨0,none,0,0,rfl,rfl,by omega,by omega,cw⟩
   obtain⟨i,fA,fn,fc,rfl,rfl,cu,W,E⟩:=hrel;have Gk:=Z W;clear W;obtain⟨b,cx,cy,aU,out,B,W,aL,V⟩:=id E.out;have ar:=Z W;have bH:=Z aL;have bJ:=Z V;have a5:=Z (w.same B.kp);have aO:=Z (show fn=out.length from B.hn);clear W aL V;by_cases aP:i<rs.length
   case neg=>
    have aM:i=rs.length:=ae
    have W:eM {Su.zero with tabs:=M.map RT.tb} [] (ap.zip (rs.map RI.it))=(b.su (M.map RT.tb),out):=by
     rw[bJ.out,aM,List.drop_eq_nil_of_le (by rw[bD.out];exact Nat.le_refl _)];rfl
    have ax:=Z (show cP (rs.map RI.it) cs=(if out=[]then(b.su (M.map RT.tb),[])else(Su.zero,out)) by
     unfold cP;rw[if_pos (by simpa using a3),bC.out];dsimp only;rw[ci.out];dsimp only;rw[W])
    clear W;have r:=Z (B.kp.blk w.bS (ql ae ae));have W:=Z (B.kp.blk w.bp (ql ae ae));have aQ:=Z B.wk.bx;have W:=az W;have aR:=se;have T:=Tryz.lg;have a6:(#[D.val,b.h1.val,b.h2.val,b.h3.val,b.h4.val,b.h5.val,b.h6.val]:Array Value).all (·.oneCell')=true:=by simp[Hd.val,Value.oneCell']
    by_cases Y:out=[]
    case pos=>
     have a7:fn=0:=by rw[aO.out,Y];rfl
     subst a7;have a8:∀m x,[D.val,b.h1.val,b.h2.val,b.h3.val,b.h4.val,b.h5.val,b.h6.val][m]?=some x->ac wr (ab (d.heap.size+1+1+1) (0+m)) x:=λm x R=>by
      have W:m<7:=(List.getElem?_eq_some_iff.1 R).1;rw[J.cell aQ.out (0+m),Nat.zero_add];have:m=0\/m=1\/m=2\/m=3\/m=4\/m=5\/m=6:=ae
      rcases this with G|G|G|G|G|G|G<;>(subst G;exact R)
     have a9:(some 7:Option Nat)=some [D.val,b.h1.val,b.h2.val,b.h3.val,b.h4.val,b.h5.val,b.h6.val].length:=rfl;go_wp2_with (first|(refine mZ rfl 37 (.tmp 135) rfl (d.heap.size+1+1+1) 0 [D.val,b.h1.val,b.h2.val,b.h3.val,b.h4.val,b.h5.val,b.h6.val] rfl a8 _ Tryz.underlying37 rfl a9 ?_)|(refine wpList_store_row rfl 37 (.tmp 4) (.tmp 136) rfl (d.heap.size+1) #[D.val,b.h1.val,b.h2.val,b.h3.val,b.h4.val,b.h5.val,b.h6.val] rfl rfl 37 b6 r.out T rfl a6 ?_)|fail)
     have W:=jZ wr (d.heap.size+1) #[D.val,b.h1.val,b.h2.val,b.h3.val,b.h4.val,b.h5.val,b.h6.val];have ba:=kM r #[D.val,b.h1.val,b.h2.val,b.h3.val,b.h4.val,b.h5.val,b.h6.val];have aw:=(Kp.refl [d.heap.size+1] _).grown W (λW aw=>.inl (by injection aw with aw;simp[aw]));have aL:=B.wk.kp aw (λj W=>by
      rw[aA W];exact⟨by omega,by omega,λW=>by have:=(B.wk.lt _ W).1;omega⟩)
     have W:=(w.out.wd B.kp).r7 (X:=d.heap.size+1) (λm x R=>by
      rw[J.cell r.out m]at R;exact m3 m x R) aw
     have m:=EA W B.ft B.ss aL ae;refine bodyPost_end (v:=.tuple #[.agg #[D.val,b.h1.val,b.h2.val,b.h3.val,b.h4.val,b.h5.val,b.h6.val],aa]) (jy (p:=4) (u:=5) rfl _ _ (d.heap.size+1) 37 #[D.val,b.h1.val,b.h2.val,b.h3.val,b.h4.val,b.h5.val,b.h6.val] _ rfl ba Tryz.underlying37 rfl T) rfl ?_;rw[aW.out,ax.out,if_pos Y];exact⟨aw.g4 a5.out (λj x=>by rw[aA x];omega),_,_,rfl,⟨D,M,b,rfl,rfl,m.low w.out.sm.size⟩,⟨aJ,rfl,jw,mf⟩⟩
    have x:0<fn:=by rw[aO.out];exact List.length_pos_iff.2 Y
    go_wp2_with (first|(refine wpList_store_row rfl 37 (.tmp 4) (.tmp 131) rfl (d.heap.size+1) b6 rfl rfl 37 b6 r.out T rfl aR ?_)|fail)
    have x:=jZ wr (d.heap.size+1) b6;have R:=kM r b6;have m:=(Kp.refl [d.heap.size+1] _).grown x (λr m=>.inl (by injection m with m;simp[m]));have x:=cF (h:=⟨fA,fn,fc⟩) p1 aO.out.symm (by show fn<=_;have:=bH.out;have:=aO.out;omega) (l8 B.ow m (λj r a2=>by
     have r:=(b3 B.ow j r).1;rw[aA a2]at r;omega))
    refine bodyPost_ret (v:=.tuple #[.agg b6,U fA fn fc]) (jy (p:=4) (u:=5) rfl _ _ (d.heap.size+1) 37 b6 _ rfl R Tryz.underlying37 rfl T) rfl ?_;rw[aW.out,ax.out,if_neg Y];exact⟨m.g4 a5.out (λj m=>by rw[aA m];omega),_,_,rfl,qn _ _,⟨_,rfl,x,λj m G=>bR w.out.sm.size (k8 (h:=⟨fA,fn,fc⟩) B.ow j m G)⟩⟩
   have W:(i:Int)<rs.length:=ae
   obtain⟨a6,bK,bL,cz,bM⟩:=bw.out.2.2 i aP;have cA:H=some ⟨a6,bK,none⟩:=bL;subst cA;have a7:=λo bN aw=>(a5.cell (p:=⟨a6,_,none⟩) cz).trans (bM o bN aw);have bO:(some 25:Option Nat)=some (rs[i]).cells.length:=by simp[RI.len]
   obtain⟨r,W⟩:∃r,r=rs[i]:=⟨_,rfl⟩;rw[<-W]at a7 bO;have bT:=Z W;clear W bM bL;have cB:(some 25:Option Nat)=some r.cells.toArray.size:=by simp[RI.len]
   have bU:(#[O 0,ah,O 0,ah,ah,aa,aa,O 0,O 0,O 0,aa,ah,ah,aa,aa,aa,O 0,ah,aa,aa,aa,ah,ah,O 0,O 0]:Array Value).size=r.cells.toArray.size:=by simp[RI.len]
   have bW:=RI.one r;have bX:=fx wr (.cells #[O 0,ah,O 0,ah,ah,aa,aa,O 0,O 0,O 0,aa,ah,ah,aa,aa,aa,O 0,ah,aa,aa,aa,ah,ah,O 0,O 0] 95);have bY:=World.setRow_alloc_new wr #[O 0,ah,O 0,ah,ah,aa,aa,O 0,O 0,O 0,aa,ah,ah,aa,aa,aa,O 0,ah,aa,aa,aa,ah,ah,O 0,O 0] r.cells.toArray 95;go_upto_region 23 with(first|(refine mZ rfl 95 (.tmp 90) rfl a6 (bK+i*25) r.cells rfl a7 _ Tryz.underlying95 rfl bO ?_)|(refine wpList_store_row rfl 95 (.tmp 17) (.tmp 91) rfl wr.heap.size r.cells.toArray rfl rfl 95 #[O 0,ah,O 0,ah,ah,aa,aa,O 0,O 0,O 0,aa,ah,ah,aa,aa,aa,O 0,ah,aa,aa,aa,ah,ah,O 0,O 0] bX cB bU bW ?_;rw[bY])|fail)
   rw[oX];obtain⟨x,W⟩:∃b,b=wr.alloc (.cells r.cells.toArray 95):=⟨_,rfl⟩;have a8:=Z (show ag wr x by rw[W];exact(ag.refl wr).alloc _);have aL:wr.heap.size+1<=x.heap.size:=by rw[W];simp
   have aL:x.heap.size<=wr.heap.size+1:=by rw[W];simp
   have bZ:=Z (show J x wr.heap.size 95 r.cells.toArray by rw[W];exact J.new wr _ _);rw[<-W];clear W bY bX bW bU a7;have W:=J.lt B.fl;have aQ:=Z (B.same a8);have aR:r∈rs:=by rw[bT.out];exact List.getElem_mem aP
   have a9:=az bZ;have ba:=Z (show(rs.map RI.it)[i]?=some r.it by rw[List.getElem?_map,List.getElem?_eq_getElem aP,bT.out];rfl);obtain⟨m,B⟩:∃m,ap[i]?=some m:=⟨_,List.getElem?_eq_getElem (by rw[bD.out];exact aP)⟩;have ax:=Z B;clear B;have b0:=Z (aQ.fl.get (i:=i) (p:=m) (by rw[List.getElem?_append_right (by rw[ar.out];exact Nat.le_refl _),ar.out,Nat.sub_self,List.getElem?_drop,Nat.add_zero];exact ax.out));have cD:=Z (w.mp.kp aQ.kp (ql (by have:=w.out.hm;omega) (by have:=w.out.hm;omega)));have bb:=Aq;have bf:=Ar;have hF:=J.lt aQ.fl;rcases Ao cD.out r.kind with⟨b4,cE⟩|⟨bN,aw,cE⟩
   case inl=>
    have y:=Z ((E.same (a8.trans ((ag.refl x).alloc (.cells #[.nilFunc] 162)))).skip ax ba (.inr b4));clear b4;go_upto_region 26 with(fail)
    obtain⟨g,B⟩:∃g:World,g=x.alloc (.cells #[.nilFunc] 162):=⟨_,rfl⟩;rw[<-B]at y⊢;clear B bb bf;try clear a9
    obtain⟨N,C,B⟩:=y.out.get;have e0:=(C.get B).1;have W:=(C.get B).2;clear C B N;by_cases hp:m.1=0
    case pos=>
     have LN:=Z (y.next hp);have B:(m.1==0)=true:=by simpa using hp
     exact wh
    case neg=>
    obtain⟨T,W,Y,ap,B⟩:=y.out.row aq hp;have b8:=Z B;have ap:(m.1==0)=false:=by simpa using hp
    obtain⟨b9,ca,cb,cc,ce⟩:=info_parts Tryz.p2;have ap:I.heap.size<=g.heap.size:=by
     obtain⟨_,_,_,_,_,R,_⟩:=y.out;exact R.kp.size
    have cf:=Z (aH ((ag.refl g).alloc (.cells #[m.1,m.2] 97)) W);have cG:=Z (cC g #[m.1,m.2] 97 2 rfl);have ap:fn<=200:=by have:fn=T.length:=Y;omega
    clear hp B W Y;go_wp2_with (first|(at_builtin;refine d6 _ rfl (.tmp 120) (.tmp 125) 38 rfl I.heap.size 97 b9 _ 2 16 Tryz.underlying38 ca cb cc ce rfl au (U fA fn fc) fn (T.flatMap dP) rfl cf.out (g.heap.size+1) (some ⟨g.heap.size,0,none⟩) 1 1 (#[m.1,m.2]:Array Value).toList rfl cG.out bl b1 ae aC ?_;intro B B R bg b5;obtain⟨ad,al,rfl,cI⟩:=bo R;have LN:=Z (b8.out _ _ _ _ R bg b5);clear R bg b5 cI)|fail)
    go_roundg (rs.length-i)
    case measure=>have:=Gk.out;omega
    exact⟨i+1,ad,fn+1,al,by go_num,rfl,by omega,by have:=Gk.out;omega,LN⟩
   case inr=>
   obtain⟨Y,cG⟩:=Fa aw;subst cG;have b5:=Z aw;clear aw;by_cases R:m.1=0
   case neg=>
    have y:=Z ((E.same (a8.trans ((ag.refl x).alloc (.cells #[.func (.func Y) #[] #[]] 162)))).skip ax ba (.inl R));have B:(m.1==0)=false:=by simpa using R
    have e0:=b0.1;have ca:=Z R;clear R;go_upto_region 26 with(fail)
    obtain⟨g,B⟩:∃g:World,g=x.alloc (.cells #[.func (.func Y) #[] #[]] 162):=⟨_,rfl⟩;rw[<-B]at y⊢;clear B bb bf;try clear a9
    obtain⟨N,C,B⟩:=y.out.get;have e0:=(C.get B).1;have W:=(C.get B).2;clear C B N;have hp:=ca.out;obtain⟨bg,W,ap,aw,B⟩:=y.out.row aq hp;have cb:=Z B;have aw:(m.1==0)=false:=by simpa using hp
    obtain⟨cc,ce,cf,cI,cJ⟩:=info_parts Tryz.p2;have aw:I.heap.size<=g.heap.size:=by
     obtain⟨_,_,_,_,_,T,_⟩:=y.out;exact T.kp.size
    have cK:=Z (aH ((ag.refl g).alloc (.cells #[m.1,m.2] 97)) W);have cL:=Z (cC g #[m.1,m.2] 97 2 rfl);have aw:fn<=200:=by have:fn=bg.length:=ap;omega
    clear hp B W ap;go_wp2_with (first|(at_builtin;refine d6 _ rfl (.tmp 120) (.tmp 125) 38 rfl I.heap.size 97 cc _ 2 16 Tryz.underlying38 ce cf cI cJ rfl au (U fA fn fc) fn (bg.flatMap dP) rfl cK.out (g.heap.size+1) (some ⟨g.heap.size,0,none⟩) 1 1 (#[m.1,m.2]:Array Value).toList rfl cL.out bl b1 ae aC ?_;intro B B T b8 b9;obtain⟨ad,al,rfl,cM⟩:=bo T;have LN:=Z (cb.out _ _ _ _ T b8 b9);clear T b8 b9 cM)|fail)
    go_roundg (rs.length-i)
    case measure=>have:=Gk.out;omega
    exact⟨i+1,ad,fn+1,al,by go_num,rfl,by omega,by have:=Gk.out;omega,LN⟩
   case pos=>
   have e0:ac x (ab (d.heap.size+1+1+1+1+1) (i*2)) (O 0):=by rw[<-R];exact b0.out.1
   have cI:=Z R;clear R;go_upto_region 25 with(fail)
   have B:=Z (show ag x (x.alloc (.cells #[.func (.func Y) #[] #[]] 162))from(ag.refl x).alloc _);have b8:=Z (J.new x 162 #[.func (.func Y) #[] #[]]);have W:x.heap.size+1<=(x.alloc (.cells #[.func (.func Y) #[] #[]] 162)).heap.size:=ai
   obtain⟨b9,R⟩:∃g:World,g=x.alloc (.cells #[.func (.func Y) #[] #[]] 162):=⟨_,rfl⟩;rw[<-R]at B b8 W⊢;clear R;have T:=Z (aQ.same B);have ca:=Z ((Kp.of_same (l:=[]) B).blk bZ ai);have cb:=Z (T.kp.blk w.bp (ql ae ae));have B:=Z (w.same T.kp);have cJ:=Z (show mY b9 (d.heap.size+1+1+1) D M (λj=>j<d.heap.size) r from⟨w.out.wd T.out.kp,w.out.ko _ ae,w.out.fa,(bz.out r aR).keep (Kp.of_same (l:=[]) B.out) (λj bg=>by cases bg),by omega,λj B=>by omega,(aI.out r aR).e,(aI.out r aR).n,(aI.out r aR).f⟩);have cK:=Z (De (d.heap.size+1+1+1) (d.heap.size+1+1) I.heap.size x.heap.size (d.heap.size+1+1+1+1) wr.heap.size r cy (λj=>j<d.heap.size) D M b cx _ b9 T.ft T.wk cJ (T.ss.short ae) b5 b8 cb ca ae ae ae);have r:=az cb;have r:=bh ca;go_upto_region 26 with(first|(go_at_call 59;refine cK.out.mono ?_;rintro G bi ⟨F,V,bg⟩;subst V;have r:=M3.r6 w.out aq T.out ar.out bH.out bJ.out ax.out ba.out cI.out b5.out bg;have w:=Z r.1;have y:=Z r.2.2.2;have m:=w.out.get (i:=i) (p:=m) (by rw[List.getElem?_append_right (by rw[ar.out];exact Nat.le_refl _),ar.out,Nat.sub_self,List.getElem?_drop,Nat.add_zero];exact ax.out);have x:=m.1;have x:=m.2;have x:=λx=>J.frozen w.out x;have w:d.heap.size+1+1+1+1+1<bi.heap.size:=J.lt w.out;clear r m bg)|fail)
   obtain⟨g,m⟩:∃g:World,g=((bi.setCell (ab (d.heap.size+1+1+1+1+1) (i*2)) F.1).setCell (ab (d.heap.size+1+1+1+1+1) (i*2+1)) F.2):=⟨_,rfl⟩;rw[<-m]at y⊢;clear m bb bf;try clear a9
   obtain⟨N,C,m⟩:=y.out.get;have e0:=(C.get m).1;have r:=(C.get m).2;clear C m N;by_cases hp:F.1=0
   case pos=>
    have LN:=Z (y.next hp);have m:(F.1==0)=true:=by simpa using hp
    exact wh
   case neg=>
   obtain⟨cc,r,w,x,m⟩:=y.out.row aq hp;have cL:=Z m;have x:(F.1==0)=false:=by simpa using hp
   obtain⟨cM,cN,cO,cQ,cR⟩:=info_parts Tryz.p2;have x:I.heap.size<=g.heap.size:=by
    obtain⟨_,_,_,_,_,x,_⟩:=y.out;exact x.kp.size
   have cS:=Z (aH ((ag.refl g).alloc (.cells #[F.1,F.2] 97)) r);have cT:=Z (cC g #[F.1,F.2] 97 2 rfl);have x:fn<=200:=by have:fn=cc.length:=w;omega
   clear hp m r w;go_wp2_with (first|(at_builtin;refine d6 _ rfl (.tmp 120) (.tmp 125) 38 rfl I.heap.size 97 cM _ 2 16 Tryz.underlying38 cN cO cQ cR rfl au (U fA fn fc) fn (cc.flatMap dP) rfl cS.out (g.heap.size+1) (some ⟨g.heap.size,0,none⟩) 1 1 (#[F.1,F.2]:Array Value).toList rfl cT.out bl b1 ae aC ?_;intro m m bg ce cf;obtain⟨ad,al,rfl,cU⟩:=bo bg;have LN:=Z (cL.out _ _ _ _ bg ce cf);clear bg ce cf cU)|fail)
   go_roundg (rs.length-i)
   case measure=>have:=Gk.out;omega
   exact⟨i+1,ad,fn+1,al,by go_num,rfl,by omega,by have:=Gk.out;omega,LN⟩
  have C:(o:Int)<cs.length:=ae
  obtain⟨aR,I,C,ar,a4,a5,a6,a7,a8,a9,ba,bb,bf,bg⟩:=E.out;obtain⟨aw,bG,bH,cw,bJ⟩:=cp.out.2.2 o aN;have cx:bu=some ⟨aw,bG,none⟩:=bH;subst cx;have ax:=λb bK N=>(ar.cell (p:=⟨aw,_,none⟩) cw).trans (bJ b bK N);obtain⟨r,C⟩:∃r,r=cs[o]:=⟨_,rfl⟩;rw[<-C]at ax;have aO:=Z C;clear C bJ bH;have cy:(some 8:Option Nat)=some r.cells.length:=rfl;have cz:(some 8:Option Nat)=some r.cells.toArray.size:=rfl;have bL:(#[O 0,ah,ah,ah,O 0,O 0,O 0,ah]:Array Value).size=r.cells.toArray.size:=rfl;have bM:r.cells.toArray.all (·.oneCell')=true:=by simp[Cg.cells,Value.oneCell']
  have bN:=fx wr (.cells #[O 0,ah,ah,ah,O 0,O 0,O 0,ah] 99);have bO:=World.setRow_alloc_new wr #[O 0,ah,ah,ah,O 0,O 0,O 0,ah] r.cells.toArray 99;have cA:=Z a7;have bT:=Z ar;have cB:=Z a4;have aP:=Z a5;have bU:=Z a6;have bW:=Z a8;have cD:=Z a9;have cE:=Z ba;have bX:=Z bb;have cG:=Z bf;have bY:=Z bg;clear a7 ar a4 a5 a6 a8 a9 ba bb bf bg E;go_upto_region 13 with(first|(refine mZ rfl 99 (.tmp 59) rfl aw (bG+o*8) r.cells rfl ax _ Tryz.underlying99 rfl cy ?_)|(refine wpList_store_row rfl 99 (.tmp 11) (.tmp 60) rfl wr.heap.size r.cells.toArray rfl rfl 99 #[O 0,ah,ah,ah,O 0,O 0,O 0,ah] bN cz bL bM ?_;rw[bO])|fail)
  have m:=Z (show ag wr (wr.alloc (.cells r.cells.toArray 99))from(ag.refl wr).alloc _);have x:=Z (J.new wr 99 r.cells.toArray);rw[oX];obtain⟨w,C⟩:∃b,b=wr.alloc (.cells r.cells.toArray 99):=⟨_,rfl⟩;rw[<-C]at m x⊢;clear C bO bN bM bL ax;have C:=Z (Kp.of_same (l:=[]) m);have T:=Z (C.blk bW ai);have V:=Z (C.blk bU ai);have C:r∈cs:=by rw[aO.out];exact List.getElem_mem aN
  have Y:=Z (λB (D:ag w B)=>En aR I r B ((cD.same m).same D) (v8 rfl bX ae) (bv r C).1 (bv r C).2);have bZ:=az V;have C:=az T;obtain⟨hA2,b0,b4⟩:=aR;have b5:ac w (ab (d.heap.size+1+1+1) 0) (U hA2 b0 b4):=C;have b8:=az x;have b9:=aY x;have ca:=bh x;have cb:=bj x;have cc:=bn x;have ce:=bQ x;have cf:=cd x;have cg:=b7 x;by_cases D:dj (I.map RT.tb) r=0
  case pos=>
   go_cut [57,12,13]from 57 to 82 (λC G M g=>∃(j:Nat) (B:Hd) (K:List RT),C=.int .i64 o/\G=.pointer (some ⟨j,0,none⟩)/\M=.int .i64 0/\Hid (ag w g/\J g j 29 #[B.val]/\bI g B K/\K.map RT.tb=gC (I.map RT.tb) r/\iM w.heap.size I K))
   case first=>
    have C:=J.lt V;have cI:=J.lt T;have B:=J.lt x;refine ez 12 (S:=λw'=>ag w w') (ag.refl w).drew (λk=>?_);refine tk 0 k ?_ (hy:=by refine Or.inl ⟨rfl,?_⟩;intro w' hSw;have C:=(ag.cell hSw (p:=(ab (d.heap.size+1+1+1+1) 0)) C).trans bZ;go_simp;try with_reducible rfl);refine tk 1 k ?_;refine tk 2 k ?_;refine tk 3 k ?_;refine tk 4 k ?_ (hy:=by refine Or.inl ⟨rfl,?_⟩;intro w' hSw;have C:=(ag.cell hSw (p:=(ab (d.heap.size+1+1+1) 0)) cI).trans b5;go_simp;try with_reducible rfl);refine tk 5 k ?_ (hy:=by refine Or.inl ⟨rfl,?_⟩;intro w' hSw;have C:=(ag.cell hSw (p:=(am wr 0)) B).trans b8;have C:=(ag.cell hSw (p:=(am wr 1)) B).trans b9;have C:=(ag.cell hSw (p:=(am wr 2)) B).trans ca;have C:=(ag.cell hSw (p:=(am wr 3)) B).trans cb;have C:=(ag.cell hSw (p:=(am wr 4)) B).trans cc;have C:=(ag.cell hSw (p:=(am wr 5)) B).trans ce;have C:=(ag.cell hSw (p:=(am wr 6)) B).trans cf;have B:=(ag.cell hSw (p:=(am wr 7)) B).trans cg;go_simp;try with_reducible rfl);obtain⟨G,B⟩:∃b,b=w.drew:=⟨_,rfl⟩;rw[<-B]at k⊢;clear B;have aQ:=k.size;refine qM 6 10 (λB q=>?ak) (λB q=>?ay)
    case' ak=>
     go_simp;refine(Y.out G k).mono ?_;rintro R M ⟨cJ,aq⟩;rcases cJ with⟨cK,_⟩|⟨_,⟨hA3,P,Q⟩,K,ch,ci,cj,ck⟩
     ·exact absurd D cK
     have cL:R=.returned (.tuple #[.agg #[U hA3 P Q],O 0]):=ch;clear ch;subst cL;have cM:=Z ci;have bk:=Z cj;have bm:Hid (iM w.heap.size I K):=Z (λB C=>(ck B C).imp id (λh j B R=>bR aQ (h j B R)));clear ci cj ck;have m:=Z (k.trans aq);clear aq;refine q.out _ _ (λ_=>m.out) ?_;refine av ?_;refine tk 7 m.out ?_;refine tk 8 m.out ?_;refine tk 9 m.out ?_;refine aK 10 (λB q=>?_);go_simp;have t:=Z (m.trans ((ag.refl M).alloc (.cells #[aa] 29)));refine q.out _ _ (λ_=>t.out) ?_;refine av ?_;have z:=Z (J.new M 29 #[aa]);have aS:=Z (cM.same ((ag.refl M).alloc (.cells #[aa] 29)));obtain⟨g,C⟩:∃b,b=M.alloc (.cells #[aa] 29):=⟨_,rfl⟩;obtain⟨A,B⟩:∃b,b=M.heap.size:=⟨_,rfl⟩;have an:w.heap.size<=A:=by rw[B];exact m.out.size
     rw[<-C]at t z aS⊢;rw[<-B]at z⊢;clear C B
    case' ay=>
     go_simp;have M:=Z (k.trans ((ag.refl G).alloc (.cells #[aa] 29)));refine q.out _ _ (λ_=>M.out) ?_;refine av ?_;refine aK 6 (λB q=>?_);go_simp;refine(Y.out (G.alloc (.cells #[aa] 29)) M.out).mono ?_;rintro R g ⟨cJ,aq⟩;rcases cJ with⟨cK,_⟩|⟨_,⟨hA3,P,Q⟩,K,ch,ci,cj,ck⟩
     ·exact absurd D cK
     have cL:R=.returned (.tuple #[.agg #[U hA3 P Q],O 0]):=ch;clear ch;subst cL;have B:=Z ci;have bk:=Z cj;have bm:Hid (iM w.heap.size I K):=Z (λC W=>(ck C W).imp id (λh j C R=>bR (M.size) (h j C R)));clear ci cj ck;have t:=Z (M.trans aq);have z:=Z ((Kp.of_same (l:=[]) aq).blk (J.new G 29 #[aa]) ai);have aS:=B;clear aq;refine q.out _ _ (λ_=>t.out) ?_;refine av ?_;refine tk 7 t.out ?_;refine tk 8 t.out ?_;refine tk 9 t.out ?_;obtain⟨A,B⟩:∃b,b=G.heap.size:=⟨_,rfl⟩;have an:w.heap.size<=A:=by rw[B];exact aQ
     rw[<-B]at z⊢;clear B
    all_goals
     have B:=az z;have B:=λo=>J.frozen z o;have M:=Kp.aE (l:=[A]) (p:=(ab A 0)) ai (Kp.refl [A] g) (U hA3 P Q);have R:=Z (M.g4 t (λj B=>by rw[aA B];exact an));refine aK 11 (λB q=>?_);go_simp;refine q.out _ _ (λ_=>R.out) ?_;refine av ?_;refine b2 ?_;refine tq 12 ?_;refine bV ?_;have aq:=Z (jB z (U hA3 P Q));have ch:=Z (aS.out.r7 (X:=A) (λo bK N=>by
      rw[J.cell z.out o]at N;match o with
      |0=>exact⟨_,_,_,(Option.some.inj N).symm⟩
      |_+1=>cases N) M)
     go_wp2_with fail
     go_meet;exact⟨A,⟨hA3,P,Q⟩,K,rfl,rfl,rfl,Z ⟨R.out,aq.out,ch.out,bk.out,bm.out⟩⟩
   case rest=>
   obtain⟨j,⟨hA3,P,Q⟩,K,rfl,rfl,rfl,B⟩:=hcut;obtain⟨g,C⟩:∃g:World,g=wc:=⟨_,rfl⟩;rw[<-C]at B⊢;clear C;have C:=Z B.1;have G:=Z B.2.1;have M:=Z B.2.2.1;have N:=Z B.2.2.2.1;have R:=Z B.2.2.2.2;clear B;have W:=Z ((Kp.of_same (l:=[]) C).blk V ai);have B:=Z ((Kp.of_same (l:=[]) C).blk T ai);have G:ac g (ab j 0) (U hA3 P Q):=J.cell G 0;have G:=az W;have G:ac g (ab (d.heap.size+1+1+1) 0) (U hA2 b0 b4):=J.cell B 0;have B:=λG=>J.frozen B G;have LN:=Z (Eu (hv:=.slice H rs.length L) (by rw[aO.out];exact List.getElem?_eq_getElem aN) D bT cB aP bU cA bW cE bX cG bY m C M N R);go_wp2_with fail
   go_roundg (cs.length-o)
   case measure=>have:=bF.out;omega
   exact⟨o+1,by go_num,by omega,by have:=bF.out;omega,LN⟩
  obtain⟨B,M⟩:∃B,B=dj (I.map RT.tb) r:=⟨_,rfl⟩;go_cut [57,12,13]from 57 to 82 (λr C C g=>r=.int .i64 o/\C=.int .i64 B/\Hid (ag w g))
  case first=>
   have r:=J.lt V;have ci:=J.lt T;have G:=J.lt x;refine ez 12 (S:=λw'=>ag w w') (ag.refl w).drew (λk=>?_);refine tk 0 k ?_ (hy:=by refine Or.inl ⟨rfl,?_⟩;intro w' hSw;have r:=(ag.cell hSw (p:=(ab (d.heap.size+1+1+1+1) 0)) r).trans bZ;go_simp;try with_reducible rfl);refine tk 1 k ?_;refine tk 2 k ?_;refine tk 3 k ?_;refine tk 4 k ?_ (hy:=by refine Or.inl ⟨rfl,?_⟩;intro w' hSw;have r:=(ag.cell hSw (p:=(ab (d.heap.size+1+1+1) 0)) ci).trans b5;go_simp;try with_reducible rfl);refine tk 5 k ?_ (hy:=by refine Or.inl ⟨rfl,?_⟩;intro w' hSw;have r:=(ag.cell hSw (p:=(am wr 0)) G).trans b8;have r:=(ag.cell hSw (p:=(am wr 1)) G).trans b9;have r:=(ag.cell hSw (p:=(am wr 2)) G).trans ca;have r:=(ag.cell hSw (p:=(am wr 3)) G).trans cb;have r:=(ag.cell hSw (p:=(am wr 4)) G).trans cc;have r:=(ag.cell hSw (p:=(am wr 5)) G).trans ce;have r:=(ag.cell hSw (p:=(am wr 6)) G).trans cf;have r:=(ag.cell hSw (p:=(am wr 7)) G).trans cg;go_simp;try with_reducible rfl);obtain⟨R,r⟩:∃b,b=w.drew:=⟨_,rfl⟩;rw[<-r]at k⊢;clear r;have cj:=k.size;refine qM 6 10 (λr q=>?aB) (λr q=>?aD)
   case' aB=>
    go_simp;refine(Y.out R k).mono ?_;rintro r aq ⟨ck,aQ⟩;rcases ck with⟨_,ch⟩|⟨cI,_⟩
    case inr=>exact absurd cI D
    rw[<-M]at ch;subst ch;have m:=Z (k.trans aQ);clear aQ;refine q.out _ _ (λ_=>m.out) ?_;refine av ?_;refine tk 7 m.out ?_;refine tk 8 m.out ?_;refine tk 9 m.out ?_;refine aK 10 (λr q=>?_);go_simp;have t:=Z (m.trans ((ag.refl aq).alloc (.cells #[aa] 29)));refine q.out _ _ (λ_=>t.out) ?_;refine av ?_;have z:=Z (J.new aq 29 #[aa]);obtain⟨g,x⟩:∃b,b=aq.alloc (.cells #[aa] 29):=⟨_,rfl⟩;obtain⟨A,r⟩:∃b,b=aq.heap.size:=⟨_,rfl⟩;have an:w.heap.size<=A:=by rw[r];exact m.out.size
    rw[<-x]at t z⊢;rw[<-r]at z⊢;clear x r
   case' aD=>
    go_simp;have aq:=Z (k.trans ((ag.refl R).alloc (.cells #[aa] 29)));refine q.out _ _ (λ_=>aq.out) ?_;refine av ?_;refine aK 6 (λr q=>?_);go_simp;refine(Y.out (R.alloc (.cells #[aa] 29)) aq.out).mono ?_;rintro r g ⟨ck,aQ⟩;rcases ck with⟨_,ch⟩|⟨cI,_⟩
    case inr=>exact absurd cI D
    rw[<-M]at ch;subst ch;have t:=Z (aq.trans aQ);have z:=Z ((Kp.of_same (l:=[]) aQ).blk (J.new R 29 #[aa]) ai);clear aQ;refine q.out _ _ (λ_=>t.out) ?_;refine av ?_;refine tk 7 t.out ?_;refine tk 8 t.out ?_;refine tk 9 t.out ?_;obtain⟨A,r⟩:∃b,b=R.heap.size:=⟨_,rfl⟩;have an:w.heap.size<=A:=by rw[r];exact cj
    rw[<-r]at z⊢;clear r
   all_goals
    have r:=az z;have o:=λo=>J.frozen z o;have o:=Kp.aE (l:=[A]) (p:=(ab A 0)) ai (Kp.refl [A] g) aa;have aq:=Z (o.g4 t (λj o=>by rw[aA o];exact an));refine aK 11 (λo q=>?_);go_simp;refine q.out _ _ (λ_=>aq.out) ?_;refine av ?_;refine b2 ?_;refine tq 12 ?_;refine bV ?_;go_wp2_with fail
    go_meet;exact⟨rfl,by rw[M],aq⟩
  case rest=>
  obtain⟨rfl,rfl,G⟩:=hcut;obtain⟨g,o⟩:∃g:World,g=wc:=⟨_,rfl⟩;rw[<-o]at G⊢;clear o;have aq:=Z (((Kp.of_same (l:=[]) (m.trans G)).blk aP ai).alloc (.cells #[B,O (-1)] 97));have o:(B==0)=false:=by rw[M];simpa using D
  have HEq:=Z M;have ci:=Z D;clear M D;have cj:=se;have aQ:=Tryz.lg;go_wp2_with (first|(refine wpList_store_row rfl 37 (.tmp 4) (.tmp 73) rfl (d.heap.size+1) b6 rfl rfl 37 b6 aq.out aQ rfl cj ?_)|fail)
  have ck:=kM aq b6;have o:=jZ (g.alloc (.cells #[B,O (-1)] 97)) (d.heap.size+1) b6;have ch:=bT.trans (m.trans G);have R:=(Kp.refl [d.heap.size+1] _).grown o (λo R=>.inl (by injection R with R;simp[R]));have m:=aT (J.lt aP) (m.trans G).size;have m:cP (rs.map RI.it) cs=(Su.zero,[(B,-1)]):=by
   unfold cP;rw[if_pos (by simpa using a3),bC.out];dsimp only;rw[bY.out,List.drop_eq_getElem_cons aN,<-aO.out,Ep ci.out,<-HEq.out]
  refine bodyPost_ret (v:=.tuple #[.agg b6,U (some ⟨g.heap.size,0,none⟩) 1 1]) (jy (p:=4) (u:=5) rfl _ _ (d.heap.size+1) 37 b6 _ rfl ck Tryz.underlying37 rfl aQ) rfl ?_;rw[aW.out,m];have m:=cF (h:=⟨some ⟨g.heap.size,0,none⟩,1,1⟩) (xs:=[(B,(-1:Int))]) p1 rfl ai (ie g #[B,O (-1)] 97 2 g.heap.size rfl (Nat.le_refl _));exact⟨R.g4 (ch.alloc _) (λj o=>by rw[aA o];omega),_,_,rfl,qn _ _,⟨_,rfl,m.kp R (λj m m o=>by
   have m:g.heap.size=j:=congrArg Addr.block (Option.some.inj m);have:=aA o;omega),λj m m=>by
   have m:g.heap.size=j:=congrArg Addr.block (Option.some.inj m);have:=ch.size;omega⟩⟩
 have W:(i:Int)<rs.length:=ae
 obtain⟨bH,bG,bL,bK,bJ,G,V,Y,ap,aq,ar,aw,⟨r,ax,aM,aN⟩,aO⟩:=E.out;obtain⟨B,I,aP,bM,aQ⟩:=bw.out.2.2 i ao;have bN:H=some ⟨B,I,none⟩:=aP;subst bN;have N:=λM H W=>(G.cell (p:=⟨B,_,none⟩) bM).trans (aQ M H W);have aR:(some 25:Option Nat)=some (rs[i]).cells.length:=by simp[RI.len]
 obtain⟨m,H⟩:∃m,m=rs[i]:=⟨_,rfl⟩;rw[<-H]at N aR;have a4:=Z H;clear H aQ aP;have bO:(some 25:Option Nat)=some m.cells.toArray.size:=by simp[RI.len]
 have a5:(#[O 0,ah,O 0,ah,ah,aa,aa,O 0,O 0,O 0,aa,ah,ah,aa,aa,aa,O 0,ah,aa,aa,aa,ah,ah,O 0,O 0]:Array Value).size=m.cells.toArray.size:=by simp[RI.len]
 have a6:=RI.one m;have a7:=fx wr (.cells #[O 0,ah,O 0,ah,ah,aa,aa,O 0,O 0,O 0,aa,ah,ah,aa,aa,aa,O 0,ah,aa,aa,aa,ah,ah,O 0,O 0] 95);have a8:=World.setRow_alloc_new wr #[O 0,ah,O 0,ah,ah,aa,aa,O 0,O 0,O 0,aa,ah,ah,aa,aa,aa,O 0,ah,aa,aa,aa,ah,ah,O 0,O 0] m.cells.toArray 95;have bT:=Z aO;have w:=Z aN;have bU:=Z aq;have a9:=Z G;have bW:=Z V;have bX:=Z Y;have bY:=Z ap;have ba:=Z aw;have bb:=Z ar;have bf:=Z aM;clear aO aN aq G V Y ap aw ar aM E;go_upto_region 8 with(first|(refine mZ rfl 95 (.tmp 44) rfl B (I+i*25) m.cells rfl N _ Tryz.underlying95 rfl aR ?_)|(refine wpList_store_row rfl 95 (.tmp 9) (.tmp 45) rfl wr.heap.size m.cells.toArray rfl rfl 95 #[O 0,ah,O 0,ah,ah,aa,aa,O 0,O 0,O 0,aa,ah,ah,aa,aa,aa,O 0,ah,aa,aa,aa,ah,ah,O 0,O 0] a7 bO a5 a6 ?_;rw[a8])|fail)
 obtain⟨C,b⟩:∃b,b=wr.alloc (.cells m.cells.toArray 95):=⟨_,rfl⟩;have R:=Z (show ag wr C by rw[b];exact(ag.refl wr).alloc _);have E:C.heap.size=wr.heap.size+1:=by rw[b];simp
 have bg:=Z (show J C wr.heap.size 95 m.cells.toArray by rw[b];exact J.new wr _ _);rw[<-b];clear b a8 a7 a6 a5 N;have x:=Z (Kp.of_same (l:=[]) R);have bZ:=Z (w.kp x (λj o=>by cases o));have T:=Z (x.blk bY ai);have bA:m∈rs:=by rw[a4.out];exact List.getElem_mem ao
 have b0:=Z (((bz m bA).keep (Kp.of_same (l:=[]) a9) (λj o=>by cases o)).keep (Kp.of_same (l:=[]) R.out) (λj o=>by cases o));have D:=w.lt;have b:=w.hb;have b4:=Z (C0 (d.heap.size+1+1+1) (d.heap.size+1+1) (d.heap.size+1+1+1+1+1+1) (d.heap.size+1+1+1+1) wr.heap.size m bK (λj=>j<d.heap.size) r.a r.n r.c bH ax bL bJ C bZ.out bf.out.symm (by have:=bf.out;have:=ba.out;omega) T.out bg.out ⟨by omega,by omega,λb=>by have:=(D _ b).1;omega⟩ ⟨by omega,by omega,λb=>by have:=(D _ b).2;omega⟩ b0.out (λj b=>by omega) (aI.out m bA).n);have b:=az T;have b:=bh bg;go_wp2_with fail
 refine b4.out.mono ?_;rintro o b ⟨F,bB,⟨bC,b,bD,b,bE,b5⟩⟩;subst bB;have bF:∀j∈(d.heap.size+1+1+1)::(dm (d.heap.size+1+1) ax++(Value.slice r.a r.n r.c).ownBlock.toList),j=d.heap.size+1+1\/j=d.heap.size+1+1+1\/d.heap.size+1+1+1+1+1<j:=λj b8=>by
  rcases dd b8 with o|o
  ·exact .inr (.inl o)
  rcases cY o with o|o
  ·rcases dd o with o|o
   ·exact .inl o
   obtain⟨b,d,bB⟩:=List.mem_map.1 o;have:=(D _ (w.out.nin b d)).1;exact .inr (.inr ae)
  have:=(D _ (w.out.eP _ (List.mem_singleton.2 rfl) j (jm o))).1;exact .inr (.inr ae)
 have b:=Dl (hv:=.slice (some ⟨B,I,none⟩) rs.length L) ao a4 (a9.trans R) (x.blk bW ai) (x.blk bX ai) T (bU.kp x ai) bb ba ae bT bC bF bD bE;have L3:=Z b.2;have d:=Z b.1;have j:(bG++List.replicate (rs.length-i) ((0:Int),(0:Int)))[i]?=some (0,0):=by
  have:=bb.out;rw[List.getElem?_append_right ae,List.getElem?_replicate,if_pos ae]
 have e0:=(d.get j).1;have m:=(d.get j).2;have d:=λM=>J.frozen d M;clear b j bC bD bE b5 bF;go_wp2_with fail
 go_roundg (rs.length-i)
 case measure=>have:=Gk.out;omega
 exact⟨i+1,by go_num,by omega,by have:=Gk.out;omega,L3⟩
theorem Fc (h k:Hd) (b:List RI) (l:List Cg) (a:af) (j:Ending->World->Prop) (s:Hid (j=gy a (cP (b.map RI.it) l))) (i:aF a 25 h RI.cells b) (t:200<h.n):
 Calls Tryz.prog 37 #[.agg #[h.val],k.val] a j:=by
 obtain⟨f,m,g⟩:=h;obtain⟨w,x,y⟩:=k;have z:b.length=m:=i.1;have k:m<=9223372036854775807:=i.2.1;subst z;have o:200<b.length:=t;have k:decide ((200:Int)<(b.length:Int))=true:=by
  simp;omega
 obtain⟨c,d,q,k,r⟩:=i.2.2 200 o;have A:f=some ⟨c,d,none⟩:=q;subst A;obtain⟨e,f⟩:∃e,e=b[200].at_:=⟨_,rfl⟩;have k:ac a (ab c (d+200*25+2)) e:=r 2 _ (by rw[f];rfl);have B:=Z (show cP (b.map RI.it) l=(Su.zero,[(3,e)]) by
  unfold cP;rw[if_neg aC,f];simp[o];rfl)
 clear r q i f;have f:(200:Int)<b.length:=ae
 show Calls Tryz.prog 37 #[.agg #[U (some ⟨c,d,none⟩) b.length g],U w x y] a j;go_enter Tryz.func37,Tryz.ntmps37
 go_upto_region 2 with(fail)
 go_region
 go_wp2;have i:=J.new (a.alloc (.cells #[U (some ⟨c,d,none⟩) b.length g] 24)) 37 b6;have f:=ie ((a.alloc (.cells #[U (some ⟨c,d,none⟩) b.length g] 24)).alloc (.cells b6 37)) #[O 3,e] 97 2 0 rfl (Nat.zero_le _);have i:=(Kp.refl [] _).drew.blk (i.alloc (.cells #[O 3,e] 97)) ai;have j:(a.alloc (.cells #[U (some ⟨c,d,none⟩) b.length g] 24)).heap.size=a.heap.size+1:=ai
 have b:((a.alloc (.cells #[U (some ⟨c,d,none⟩) b.length g] 24)).alloc (.cells b6 37)).heap.size=a.heap.size+1+1:=ai
 rw[j]at i;rw[b]at f;refine bodyPost_ret (v:=.tuple #[.agg b6,U (some ⟨a.heap.size+1+1,0,none⟩) 1 1]) (jy (p:=4) (u:=5) rfl _ _ (a.heap.size+1) 37 b6 _ rfl i Tryz.underlying37 rfl Tryz.lg) rfl ?_;rw[s.out,B.out];refine⟨(((((ag.refl a).alloc _).alloc _).alloc _).drew),_,_,rfl,qn _ _,⟨⟨some ⟨a.heap.size+1+1,0,none⟩,1,1⟩,rfl,?_,λb c c=>by
  have j:a.heap.size+1+1=b:=congrArg Addr.block (Option.some.inj c);omega⟩⟩
 exact(cF (h:=⟨some ⟨a.heap.size+1+1,0,none⟩,1,1⟩) (xs:=[((3:Int),e)]) p1 rfl ai f).same (ag.refl _).drew
theorem wB (h d:Hd) (b:List RI) (c:List Cg) (a:af) (f:aF a 25 h RI.cells b) (g:∀e∈b,df a (λi=>i<a.heap.size) e) (i:∀e∈b,e.it.dh) (j:aF a 8 d Cg.cells c) (k:∀e∈c,aG e.name/\aG e.dflt.s) (e:c.length<=1000):
 Calls Tryz.prog 37 #[.agg #[h.val],d.val] a (gy a (cP (b.map RI.it) c)):=by
 by_cases l:h.n<=200
 ·exact Fb h d b c a _ (Z rfl) f g i l j k e
 exact Fc h d b c a _ (Z rfl) f ae
def PO.Nz {a:Type} (b:PO a):Prop:=∀a c,b=.bad a c->a≠0
theorem PO.Nz.bind {c d:Type} {b:PO c} {f:c->List ao->PO d} (h:b.Nz) (e:∀a ts,(f a ts).Nz):(b.bind f).Nz:=by
 cases b with
 |bad b a=>exact λb c g=>h b c (by injection g with h1 h2;rw[h1,h2])
 |ok a ts=>exact e a ts
theorem PO.Nz.ok {α:Type} {a:α} {ts:List ao}:(PO.ok a ts).Nz:=by intro b b h;cases h
theorem PO.Nz.bad {α:Type} {a b:Int} (h:a≠0):(PO.bad a b:PO α).Nz:=by
 intro a a c;injection c with h1 h2
 exact h1▸h
theorem PO.Nz.ite {d:Type} {a:Prop} [Decidable a] {b c:PO d} (h:b.Nz) (d:c.Nz):(if a then b else c).Nz:=by split<;>assumption
theorem qv {c:Type} (d:Int) (a:List ao) {b:Int} (h:b≠0):(e8 d a b:PO c).Nz:=by cases a<;>exact .bad ae
theorem dz (c:Int) (b:bm):∀a:List ao,(aR c a b).Nz:=by
 induction b with
 |nil=>intro a;cases a<;>exact .ok
 |cons d b e=>
  intro a;have:aR c a (d::b)=if bu a d then aR c a.tail b else e8 c a 4:=by cases a<;>rfl
  rw[this];exact .ite (e _) (qv _ _ au)
theorem wC (b:Int) (a:List ao) (c:Int):(ey b a c).Nz:=by
 cases a with
 |nil=>exact .bad au
 |cons a a=>exact .ite .ok (.bad au)
theorem fq (a:Int) (b:List ao):(bW a b).Nz:=(wC a b 1).bind λ_ _=>.ok
theorem gz (a:Int) (b:List ao):(cq a b).Nz:=(wC a b 2).bind λ_ _=>.ok
theorem mh (a:Int) (b:List ao) (c:bm):(dK a b c).Nz:=by
 unfold dK;split
 ·exact .ok
 exact qv _ _ au
theorem Fh {d:Type} (f:aw) (e:List ao->PO d) (g:∀a,(e a).Nz):∀(b:Nat) (c:List d) (a:List ao),(da f e b c a).Nz:=by
 intro b;induction b with
 |zero=>intro c a;exact .ok
 |succ b b=>intro c a;exact .ite ((g _).bind λc a=>b _ _) .ok
theorem oZ {b:Type} (c:aw) (a:List ao->PO b) (d:∀b,(a b).Nz) (b:List ao):(dA c a b).Nz:=(d _).bind λ_ _=>Fh c a d _ _ _
theorem sf (a:Int) (b:List ao):(hT a b).Nz:=oZ _ _ (fq a) _
theorem wD (a:Int) (b:List ao):(fO a b).Nz:=by
 cases b with
 |nil=>exact .ok
 |cons b b=>exact .ite .ok (.ite .ok (.ite ((gz a b).bind λ_ _=>.ok) (.ite ((gz a b).bind λ_ _=>.ok) (.ite .ok (.ite .ok (.ite .ok .ok))))))
theorem wE (b:Int) (a:List ao):(jF b a).Nz:=(wD b a).bind λc a=>by cases c with|none=>exact qv _ _ au|some c=>exact .ok
theorem wF (b:Int) (a:List ao):(jG b a).Nz:=(wD b a).bind λc a=>by
 cases c with
 |none=>exact(fq b a).bind λd a=>.ite ((fq b _).bind λ_ _=>.ok) .ok
 |some c=>exact .ok
theorem Fi (a:Int) (b:List ao):(mn a b).Nz:=.ite (gz a _) (.ite ((gz a _).bind λ_ _=>.ok) .ok)
theorem Fj (a:Int) (b:List ao):(kB a b).Nz:=(wF a b).bind λ_ _=>(mh a _ _).bind λ_ _=>(wF a _).bind λ_ _=>(Fi a _).bind λ_ _=>.ok
theorem wG (a:Int) (b:List ao):(jH a b).Nz:=(dz a _ _).bind λ_ _=>oZ _ _ (Fj a) _
theorem Fk (a:Int) (b:List ao):(kC a b).Nz:=(fq a b).bind λ_ _=>(mh a _ _).bind λ_ _=>.ite ((wE a _).bind λ_ _=>.ok) .ok
theorem Fl (a:Int) (b:List ao):(kD a b).Nz:=(fq a b).bind λ_ _=>(dz a _ _).bind λ_ _=>(wE a _).bind λ_ _=>.ok
theorem Fm (a:Int) (b:List ao):(kE a b).Nz:=(fq a b).bind λ_ _=>(fq a _).bind λ_ _=>.ok
theorem Fo (a:Int) (b:List ao):(iU a b).Nz:=
 (fq a b).bind λ_ _=>(mh a _ _).bind λ_ _=>(PO.Nz.ite (gz a _) .ok).bind λ_ _=>(dz a _ _).bind λ_ _=>(gz a _).bind λ_ _=>(PO.Nz.ite (gz a _) .ok).bind λ_ _=>(dz a _ _).bind λ_ _=>(gz a _).bind λ_ _=>
  (PO.Nz.ite (gz a _) .ok).bind λ_ _=>(dz a _ _).bind λ_ _=>.ok
theorem qw (a:Int) (b:List ao):(gF a b).Nz:=(fq a b).bind λ_ _=>(dz a _ _).bind λ_ _=>(fq a _).bind λ_ _=>.ok
theorem wH (a:Int) (c:aw) (b:List ao):(lx a c b).Nz:=.ite .ok (sf a b)
theorem Fp (a:Int) (c:Nat) (b:List ao):(em a c b).Nz:=
 .ite ((wG a b).bind λ_ _=>.ok) (.ite ((dz a _ _).bind λ_ _=>(wH a _ _).bind λ_ _=>.ok) (.ite
  ((dz a _ _).bind λ_ _=>(fq a _).bind λ_ _=>(dz a _ _).bind λ_ _=>(fq a _).bind λ_ _=>.ok) (.ite
  (
   (
   dz a _ _).bind λ_ _=>(wH a _ _).bind λ_ _=>(dz a _ _).bind λ_ _=>(mh a _ _).bind λ_ _=>
   (PO.Nz.ite .ok (fq a _)).bind λ_ _=>(dz a _ _).bind λ_ _=>(fq a _).bind λ_ _=>.ok) .ok)))
theorem Fq (b:Int):∀(c:Nat) (a:List ao),(eb b c a).Nz:=by
 intro c;induction c with
 |zero=>intro a;exact qv _ _ au
 |succ c d=>
  intro a;unfold eb;cases hU a 0 fP with
  |none=>exact(fq b a).bind λ_ _=>.ok
  |some c=>exact(d _).bind λe a=>(PO.Nz.ite ((dz b _ _).bind λ_ _=>(d _).bind λ_ _=>.ok) .ok).bind λ_ _=>(Fp b c _).bind λ_ _=>(dz b _ _).bind λ_ _=>.ok
theorem Fr (d:Int):∀(b:Nat) (c:List cL) (a:List ao),(hV d b c a).Nz:=by
 intro b;induction b with
 |zero=>intro c a;exact .ok
 |succ b b=>intro c a;exact .ite .ok ((Fo d a).bind λc a=>b _ _)
theorem wI (a:Int) (b:aI) (c:List ao):(hW a b c).Nz:=(dz a _ _).bind λ_ _=>(fq a _).bind λ_ _=>(dz a _ _).bind λ_ _=>(sf a _).bind λ_ _=>(dz a _ _).bind λ_ _=>.ok
theorem Fs (a:Int) (b:aI) (c:List ao):(en a b c).Nz:=by
 unfold en;refine .ite ?_ (.ite ?_ (.ite ?_ (.ite ?_ (.ite ?_ (.ite ?_ (.ite ?_ (.ite ?_ (.ite ?_ ?_))))))))
 ·exact(dz a _ _).bind λ_ _=>(oZ _ _ (Fk a) _).bind λ_ _=>(dz a _ _).bind λ_ _=>(sf a _).bind λ_ _=>.ok
 ·exact(dz a _ _).bind λ_ _=>(gz a _).bind λ_ _=>.ok
 ·exact(dz a _ _).bind λ_ _=>(qw a _).bind λ_ _=>(dz a _ _).bind λ_ _=>(mh a _ _).bind λ_ _=>.ite ((gz a _).bind λ_ _=>.ok) (.ite ((gz a _).bind λ_ _=>(gz a _).bind λ_ _=>.ok) .ok)
 ·exact(dz a _ _).bind λ_ _=>(fq a _).bind λ_ _=>(dz a _ _).bind λ_ _=>(gz a _).bind λ_ _=>(dz a _ _).bind λ_ _=>(Fr a _ _ _).bind λ_ _=>.ok
 ·exact(qw a _).bind λ_ _=>(dz a _ _).bind λ_ _=>(mh a _ _).bind λ_ _=>.ok
 ·exact wI a b c
 ·exact(wI a b c).bind λb _=>(dz a _ _).bind λ_ _=>(fq a _).bind λ_ _=>.ite ((oZ _ _ (Fl a) _).bind λ_ _=>.ok) .ok
 ·exact(qw a _).bind λ_ _=>(dz a _ _).bind λ_ _=>(qw a _).bind λ_ _=>.ok
 ·exact(oZ _ _ (Fm a) _).bind λ_ _=>(wG a _).bind λ_ _=>.ok
 exact(dz a _ _).bind λ_ _=>(Fq a _ _).bind λ_ _=>.ok
theorem Ft (a:Int) (b:List ao):(iV a b).Nz:=
 (mh a _ _).bind λ_ _=>(PO.Nz.ite .ok (fq a _)).bind λ_ _=>(Fs a _ _).bind λ_ _=>(dz a _ _).bind λ_ _=>.ok
theorem Fu (d:Int):∀(a:Nat) (c:List aI) (b:List ao),(iW d a c b).Nz:=by
 intro a;induction a with
 |zero=>intro c b;exact .ok
 |succ a e=>
  intro c b;cases b with
  |nil=>exact .ok
  |cons a a=>
   rw[qu];split
   ·exact .bad au
   exact(Ft d _).bind λa _=>e _ _
theorem Fv (l:bL):(gi l).Nz:=by
 unfold gi;split
 ·exact Fu _ _ _ _
 rename_i h
 exact .bad h
end Go.Proofs.YteamkimbmdgdbaaGreatDoor
