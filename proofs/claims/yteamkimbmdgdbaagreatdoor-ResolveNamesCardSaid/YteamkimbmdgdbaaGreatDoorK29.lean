import Derived.Test.YteamkimbmdgdbaaGreatDoorK26
import Derived.Test.YteamkimbmdgdbaaGreatDoorK27
set_option linter.unusedSimpArgs false
set_option linter.unusedVariables false
set_option maxHeartbeats 16000000
set_option maxRecDepth 100000
namespace Go.Proofs.YteamkimbmdgdbaaGreatDoor
open Go.Proofs.Tryz
open Go.RowKit
theorem lK.tabs {g:ah} {X k l:Nat} {o:Nat->Prop} {d:List RT} {u:ch} {m:Int} (f:lK g X k l o d u m) (o:d.length<=1000):
 ∃h:Hd,h.n=d.length/\bJ g h d/\(∀i,i<l->g2 i d)/\(∀c∈d,∀d∈c.ra,gZ d)/\
  aa g X 157 #[h.val,ab,ab,ab,ab,ab,ab,.map (some k),m]:=by
 obtain⟨h,p,j,e⟩:=f;have d:=e.nest _ (List.mem_singleton.2 rfl);refine⟨h,j,⟨cI (h:=h) RT.FW j.symm (by rw[j];omega) (e.own _ (List.mem_singleton.2 rfl)),λc g=>(d c g).a⟩,λi g c g i j k l=>?_,λc g=>(d c g).b,e.bx⟩;have c:=(e.lt i ((d c g).ik i j k).1).1;omega
theorem g2.next {X a:Nat} {b c:List RT} (i:g2 X b) (j:jc a b c) (b:X<a):g2 X c:=λd k e f g=>by
 rcases j d k with h|h
 ·exact i d h e f g
 have:=h e f g;omega
theorem HM {a:List Tb} {b:Cg} {c:List Cg} (h:dA a b=0):gh a (b::c)=gh (gP a b) c:=by
 rw[gh,if_pos h]
theorem HU {a:List Tb} {b:Cg} {cs:List Cg} (h:dA a b≠0):gh a (b::cs)=.bad (dA a b) (-1):=by
 rw[gh,if_neg h]
def mZ (a:List Tb) (b:Nat):Prop:=∀c∈a,∀a∈c.attrs,a.was.length<=b
theorem mZ.apply {S:List Tb} {d:Cg} {n:Nat} (l:mZ S n) (h:dA S d=0):mZ (gP S d) (n+1):=by
 obtain⟨p,z,m,q,r,A,s,B⟩:=tx h;intro z t b a;obtain⟨e,o,rfl⟩:=List.mem_iff_getElem.1 t;have f:e<S.length:=by rw[tA]at o;exact o
 rw[yx q r e f]at a;by_cases g:m=e
 ·rw[if_pos g]at a
  subst g;have c:=l _ (List.getElem_mem f);have u:d.kind≠1->0<=bt S[m].attrs d.attr:=λd=>by have:=s d;omega
  rcases yy p u with⟨_,i⟩|⟨v,w,x,i,_,y⟩
  ·rw[i]at a
   simp only[List.mem_append,List.mem_singleton]at a;rcases a with a|rfl
   ·have:=c b a;omega
   simp
  rw[i]at c;have d:=c w aj;have j:=λd (e:d∈v)=>c d (by simp[e]);have k:=λd (e:d∈x)=>c d (by simp[e]);rcases y with⟨_,hA2⟩|⟨_,hA2⟩|⟨_,hA2⟩
  ·rw[hA2]at a
   simp only[List.mem_append]at a;rcases a with a|a
   ·have:=j b a;omega
   have:=k b a;omega
  ·rw[hA2]at a
   simp only[List.mem_append,List.mem_cons]at a;rcases a with a|rfl|a
   ·have:=j b a;omega
   ·simp;omega
   have:=k b a;omega
  rw[hA2]at a;simp only[List.mem_append,List.mem_cons]at a;rcases a with a|rfl|a
  ·have:=j b a;omega
  ·simp;omega
  have:=k b a;omega
 rw[if_neg g]at a;have:=l _ (List.getElem_mem f) b a;omega
theorem HV {a:List RT} {S:List Tb} {b:Nat} (c:a.map RT.tb=S) (d:mZ S b) (e:b<=1000000):cW a:=by
 intro a b e f;have:=d a.tb (by rw[<-c];exact List.mem_map_of_mem b) e.at_ (List.mem_map_of_mem f);omega
def lP (a:List Tb) (b:Nat):Prop:=∀c∈a,c.attrs.length<=b
theorem lP.apply {S:List Tb} {a:Cg} {n:Nat} (g:lP S n) (h:dA S a=0):lP (gP S a) (n+1):=by
 obtain⟨k,s,i,l,m,t,o,u⟩:=tx h;intro s p;obtain⟨b,j,rfl⟩:=List.mem_iff_getElem.1 p;have c:b<S.length:=by rw[tA]at j;exact j
 rw[yx l m b c];by_cases d:i=b
 ·rw[if_pos d]
  subst d;have e:=g _ (List.getElem_mem c);have q:a.kind≠1->0<=bt S[i].attrs a.attr:=λa=>by have:=o a;omega
  rcases yy k q with⟨_,f⟩|⟨v,w,x,f,_,r⟩
  ·rw[f]
   simp;exact e
  rw[f]at e;simp at e;rcases r with⟨_,hA2⟩|⟨_,hA2⟩|⟨_,hA2⟩<;>(rw[hA2];simp;omega)
 rw[if_neg d];have:=g _ (List.getElem_mem c);omega
theorem tG (e:Int):∀(b:List dB) (d a:List At),fV e d b=.ok a->a.length=d.length+b.length
 |[],d,a,h=>by
  rw[fV]at h;injection h with h
  simp[h]
 |c::b,d,a,h=>by
  rw[fV]at h;unfold RO.ap at h;split at h
  ·split at h
   ·split at h
    ·split at h
     ·have:=tG e b _ a h
      simp at this;simp;omega
     cases h
    cases h
   cases h
  cases h
theorem HZ {d:List Tb} {a:aE} {b:Tb} (h:ea d a=.ok b):b.attrs.length<=12:=by
 unfold ea RO.ap at h;split at h
 ·rename_i e
  cases hc:fV a.at_ [] a.cH with
  |bad c f=>rw[hc]at h;cases h
  |ok c=>
   rw[hc]at h;simp only[RO.bind]at h;split at h
   ·cases hk:dc a.at_ c [] a.names with
    |bad f g=>rw[hk]at h;cases h
    |ok f=>
     rw[hk]at h;injection h with h
     subst h;have:=tG _ _ _ _ hc;simp[aY]at e this;show c.length<=12;omega
   cases h
 cases h
theorem yD:∀(c:List aE) (a:List Tb) (d:ch) (e:List (Int×Int)),lP a 12->lP (cy a d e c).1 12
 |[],a,d,e,h=>by rw[cy];exact h
 |x::c,a,d,e,h=>by
  rw[th];refine yD c _ _ _ ?_;unfold gc;split
  ·exact h
  split
  ·cases ht:ea a x with
   |ok g=>
    intro f b;rcases cP b with b|b
    ·exact h f b
    rw[aB b];exact HZ ht
   |bad b f=>exact h
  exact h
theorem H0 {a:List RT} {b c:Nat} (d:mZ (a.map RT.tb) b) (e:lP (a.map RT.tb) c) (f:b<=1000000) (g:c<=10000):lB (a.map RT.tb):=λa b=>⟨bL (e a b) g,λc e=>bL (d a b c e) f⟩
def L2 (w a:ah) (hv:aA) (d:List (Int×Int)) (e:List Tb) (cs:List Cg) (c:Nat):Prop:=∃(h:Hd) (b:List RT) (f:Int),ag w a/\aa a w.heap.size 24 #[hv]/\aa a (w.heap.size+1) 37 cb/\
 aa a (w.heap.size+1+1+1+1) 154 #[ak (w.heap.size+1+1+1)]/\fm a (w.heap.size+1+1+1+1+1) d/\
 aa a (w.heap.size+1+1+1) 157 #[h.val,ab,ab,ab,ab,ab,ab,.map (some (w.heap.size+1+1)),f]/\
 bJ a h b/\(∀a,a<w.heap.size+1+1+1+1+1+1->g2 a b)/\mZ (b.map RT.tb) c/\lP (b.map RT.tb) (12+c)/\gh e cs=gh (b.map RT.tb) (cs.drop c)
theorem H1 {d e:ah} {hv:aA} {a:List RI} {cs:List Cg} (l:L1 d e hv a a.length) (f:a.length<=200):∃(b:List (Int×Int)) (g:List Tb),b.length=a.length/\cy [] [] [] (a.map RI.it)=(g,b)/\L2 d e hv b g cs 0:=by
 obtain⟨i,b,x,y,m,sm,n,o,p,q,r,z,s,j⟩:=l;obtain⟨h,l,d,e,t,g⟩:=s.tabs af;refine⟨b,i.map RT.tb,r,by rw[j];simp[cy],h,i,m,sm,n,o,p,by simpa using q,g,d,e,λb c d u=>?_,?_,by simp⟩;rotate_left
 ·have k:=yD (a.map RI.it) [] [] [] (λb c=>by cases c)
  rw[j]at k;simpa[cy]using k
 obtain⟨k,v,rfl⟩:=List.mem_map.1 c;obtain⟨w,f,rfl⟩:=List.mem_map.1 u;exact Nat.le_of_eq (by rw[(t k v w f).2];rfl)
theorem H2 {a b m e:ah} {hv:aA} {s:List (Int×Int)} {t:List Tb} {cs:List Cg} {f:Nat} {n:Cg} {h g:Hd} {c k:List RT} {o:Int} (z:cs[f]?=some n) (q:dA (c.map RT.tb) n=0) (sm:ag a b) (A:aa b a.heap.size 24 #[hv]) (B:aa b (a.heap.size+1) 37 cb)
 (C:aa b (a.heap.size+1+1+1+1) 154 #[ak (a.heap.size+1+1+1)]) (v:fm b (a.heap.size+1+1+1+1+1) s)
 (w:aa b (a.heap.size+1+1+1) 157 #[h.val,ab,ab,ab,ab,ab,ab,.map (some (a.heap.size+1+1)),o])
 (D:∀i,i<a.heap.size+1+1+1+1+1+1->g2 i c) (E:mZ (c.map RT.tb) f) (F:lP (c.map RT.tb) (12+f)) (G:gh t cs=gh (c.map RT.tb) (cs.drop f)) (x:ag b m) (b:ag m e) (H:bJ e g k) (r:k.map RT.tb=gP (c.map RT.tb) n) (I:jc m.heap.size c k):
 L2 a (e.setCell (ac (a.heap.size+1+1+1) 0) g.val) hv s t cs (f+1):=by
 have y:=x.trans b;have d:=Kp.aH (l:=[a.heap.size+1+1+1]) (p:=(ac (a.heap.size+1+1+1) 0)) aj (Kp.refl [a.heap.size+1+1+1] e) g.val;have b:=w.lt;have j:=Kp.of_same (l:=[]) y;have r0:=j.blk w aj;have K:nM [.slice none 0 0,.slice none 0 0,.slice none 0 0,.slice none 0 0,.slice none 0 0,.slice none 0 0,.map (some (a.heap.size+1+1))]:=⟨rfl,λb hv b J=>by
  subst J;simp at hv⟩
 have f:jL e (a.heap.size+1+1+1):=gH.ii (h:=h) (u:=[.slice none 0 0,.slice none 0 0,.slice none 0 0,.slice none 0 0,.slice none 0 0,.slice none 0 0,.map (some (a.heap.size+1+1))]) ⟨o,r0⟩ K;have hF:=aa.lt v;have e:=λi (b:i<a.heap.size+1+1+1+1+1+1)=>(D i b).next I (aR af x.size);have a:∀b,b≠a.heap.size+1+1+1->b∉[a.heap.size+1+1+1]:=λb c a=>c (aB a);refine⟨g,k,o,d.eD (sm.trans y) (λb c=>by rw[aB c];omega),d.blk (j.blk A aj) (a _ af),d.blk (j.blk B aj) (a _ af),d.blk (j.blk C aj) (a _ af),(v.kp j aj).kp d (a _ af),?_,H.iX f (e _ af) d,e,?_,?_,?_⟩
 ·simpa using r0.aP 0 g.val
 ·rw[r]
  exact E.apply q
 ·rw[r]
  exact F.apply q
 obtain⟨a,b⟩:=List.getElem?_eq_some_iff.1 z;rw[G,List.drop_eq_getElem_cons a,b,HM q,r]
theorem RO.bM {c d:Type} {b:RO c} {e:c->RO d} {c:d} (h:b.bind e=.ok c):∃a,b=.ok a/\e a=.ok c:=by
 cases b with
 |ok a=>exact⟨a,rfl,h⟩
 |bad f a=>cases h
theorem RO.bH {b:Type} {c:Bool} {f a:Int} {d:RO b} {e:b} (h:RO.ap c f a d=.ok e):c=true/\d=.ok e:=by
 unfold RO.ap at h;split at h
 ·rename_i b
  exact⟨b,h⟩
 cases h
inductive io (s:Su):Su->Prop
 |none:io s s
 |origin (o:Og) (h:s.origins.length<64):io s {s with origins:=s.origins++[o]}
 |block (o:Bk):io s {s with blocks:=s.blocks++[o]}
 |match_ (o:Mt):io s {s with js:=s.js++[o]}
 |keep (o:dX):io s {s with keeps:=s.keeps++[o]}
 |rule (o:Ru):io s {s with rules:=s.rules++[o]}
 |query (o:Qy):io s {s with queries:=s.queries++[o]}
theorem H4 {b c:Su} {d:RO Ru} (h:d.bind (oP b)=.ok c):io b c:=by
 obtain⟨a,_,h⟩:=RO.bM h;injection h with h
 subst h;exact .rule a
theorem rv {a b:Su} {x:aE} (h:ci a x=.ok b):io a b:=by
 unfold ci at h;split at h
 ·unfold me at h
  obtain⟨c,h⟩:=RO.bH h;obtain⟨_,h⟩:=RO.bH h;injection h with h
  subst h;exact .origin _ (by simpa using c)
 split at h
 ·unfold la at h
  obtain⟨a,_,h⟩:=RO.bM h;obtain⟨c,_,h⟩:=RO.bM h;injection h with h
  subst h;exact .block c
 split at h
 ·unfold lg at h
  obtain⟨a,_,h⟩:=RO.bM h;obtain⟨_,h⟩:=RO.bH h;obtain⟨_,h⟩:=RO.bH h;obtain⟨a,_,h⟩:=RO.bM h;injection h with h
  subst h;exact .match_ _
 split at h
 ·unfold lh at h
  obtain⟨a,_,h⟩:=RO.bM h;obtain⟨_,h⟩:=RO.bH h;obtain⟨_,h⟩:=RO.bH h;obtain⟨_,h⟩:=RO.bH h;injection h with h
  subst h;exact .keep _
 split at h
 ·exact H4 h
 split at h
 ·unfold li at h
  obtain⟨a,_,h⟩:=RO.bM h;obtain⟨a,_,h⟩:=RO.bM h;obtain⟨_,h⟩:=RO.bH h;obtain⟨a,_,h⟩:=RO.bM h;injection h with h
  subst h;exact .rule _
 split at h
 ·unfold lj at h
  obtain⟨a,_,h⟩:=RO.bM h;obtain⟨a,_,h⟩:=RO.bM h;obtain⟨_,h⟩:=RO.bH h;injection h with h
  subst h;exact .rule _
 split at h
 ·unfold ll at h
  obtain⟨_,h⟩:=RO.bH h;obtain⟨a,_,h⟩:=RO.bM h;obtain⟨ts,_,h⟩:=RO.bM h;injection h with h
  subst h;exact .rule _
 split at h
 ·unfold j7 at h
  obtain⟨a,_,h⟩:=RO.bM h;injection h with h
  subst h;exact .query _
 injection h with h
 subst h;exact .none
theorem io.tabs {s a:Su} (h:io s a):a.tabs=s.tabs:=by cases h<;>rfl
structure hC (s:Su) (n:Nat):Prop where
 o:s.origins.length<=64
 b:s.blocks.length<=n
 m:s.js.length<=n
 k:s.keeps.length<=n
 r:s.rules.length<=n
 q:s.queries.length<=n
theorem hC.add {c d:Su} {n:Nat} (h:hC c n) (a:io c d):hC d (n+1):=by
 obtain⟨b,e,f,g,i,j⟩:=h;cases a with
 |none=>exact⟨b,by omega,by omega,by omega,by omega,by omega⟩
 |origin k l=>exact⟨by simp;omega,by dsimp only;omega,by dsimp only;omega,by dsimp only;omega,by dsimp only;omega,by dsimp only;omega⟩
 |block k=>exact⟨b,by simp;omega,by dsimp only;omega,by dsimp only;omega,by dsimp only;omega,by dsimp only;omega⟩
 |match_ k=>exact⟨b,by dsimp only;omega,by simp;omega,by dsimp only;omega,by dsimp only;omega,by dsimp only;omega⟩
 |keep k=>exact⟨b,by dsimp only;omega,by dsimp only;omega,by simp;omega,by dsimp only;omega,by dsimp only;omega⟩
 |rule k=>exact⟨b,by dsimp only;omega,by dsimp only;omega,by dsimp only;omega,by simp;omega,by dsimp only;omega⟩
 |query k=>exact⟨b,by dsimp only;omega,by dsimp only;omega,by dsimp only;omega,by dsimp only;omega,by simp;omega⟩
theorem hC.second {b:Su} {n:Nat} (h:hC b n) (x:aE):hC (ja b x).1 (n+1):=by
 unfold ja;cases hp:ci b x with
 |ok c=>exact h.add (rv hp)
 |bad c a=>exact h.add .none
theorem hC.up {c:Su} {n d:Nat} (h:hC c n) (a:n<=d):hC c d:=
 ⟨h.o,bL h.b a,bL h.m a,bL h.k a,bL h.r a,bL h.q a⟩
theorem hC.short {x:cd} {tabs:List Tb} {n:Nat} (h:hC (x.su tabs) n) (g:n<=1000):x.Short 64:=by
 obtain⟨a,b,c,d,e,f⟩:=h;simp only[cd.su,List.length_map]at a b c d e f;exact⟨a,by omega,by omega,by omega,by omega,by omega⟩
theorem aD.pO {f:Type} {w w':ah} {b:Nat} {c:List Nat} {h:Hd} {d:f->List Value} {e:List f} (a:aD w b h d e) (f:∀x∈e,∃g,(d x)[0]?=some (.string g)) (n:∀i∈c,jL w i) (i:Kp c w w'):aD w' b h d e:=by
 refine⟨a.1,a.2.1,λe j=>?_⟩;obtain⟨d,k,o,l,m⟩:=a.2.2 e j;have q:d∉c:=by
  intro c;obtain⟨g,f⟩:=f _ (List.getElem_mem j);exact n _ c _ _ (m 0 _ f)
 exact⟨d,k,o,aR l i.size,λc f hv=>(i.cell (p:=(ac d (k+e*b+c))) l q).trans (m c f hv)⟩
theorem bJ.pO {w w':ah} {b:List Nat} {h:Hd} {ts:List RT} (a:bJ w h ts) (e:∀c∈b,jL w c) (i:∀c∈b,g2 c ts) (d:Kp b w w'):bJ w' h ts:=
 ⟨a.1.pO (λb _=>⟨b.name,rfl⟩) e d,λb c=>⟨⟨(a.2 b c).1.1.pO (λf _=>⟨f.at_.name,rfl⟩) e d,λf g=>⟨⟨((a.2 b c).1.2 f g).1.1.pO (λj _=>⟨j,rfl⟩) e d,((a.2 b c).1.2 f g).1.2⟩,((a.2 b c).1.2 f g).2⟩⟩,
  (a.2 b c).2.1.kp d (λd e f g=>i d g b c d e f rfl),(a.2 b c).2.2⟩⟩
theorem yE:∀(fs:List (Int×Int)) (a:av),Value.string a∉fs.flatMap dS
 |[],a,h=>by cases h
 |f::fs,a,h=>by
  rw[List.flatMap_cons]at h;rcases cP h with h|h
  ·simp[dS]at h
  exact yE fs a h
theorem fm.ii {w:ah} {a:Nat} {fs:List (Int×Int)} (h:fm w a fs):jL w a:=by
 intro b c a;rw[aa.cell h b]at a;exact yE fs c (List.mem_of_getElem? (by simpa using a))
structure jd (w W0:ah) (hv:aA) (h:Hd) (ts:List RT) (fs:List (Int×Int)) (m2:Nat):Prop where
 sm:ag w W0
 bP:aa W0 w.heap.size 24 #[hv]
 bS:aa W0 (w.heap.size+1) 37 cb
 bp:aa W0 (w.heap.size+1+1+1+1) 154 #[ak (w.heap.size+1+1+1)]
 fl:fm W0 (w.heap.size+1+1+1+1+1) fs
 bx:∃a:Int,aa W0 (w.heap.size+1+1+1) 157 #[h.val,ab,ab,ab,ab,ab,ab,.map (some (w.heap.size+1+1)),a]
 ta:bJ W0 h ts
 ko:∀Y,Y<w.heap.size+1+1+1+1+1+1->g2 Y ts
 fa:lB (ts.map RT.tb)
 mp:cQ (.int .i64) W0 m2 my
 hm:w.heap.size+1+1+1+1+1<m2
structure fo (w W0 W:ah) (h:Hd) (tabs:List Tb) (fl:List (Int×Int)) (n:Nat) (x:cd) (a:Int) (B:Nat->Prop) (out:List (Int×Int)) (hf:Hd):Prop where
 kp:Kp [w.heap.size+1+1+1,w.heap.size+1+1+1+1+1] W0 W
 fl:fm W (w.heap.size+1+1+1+1+1) fl
 ft:x.Fit
 ss:hC (x.su tabs) n
 wk:cS W (w.heap.size+1+1+1) (w.heap.size+1+1) W0.heap.size B [h.val] [] x.rows false [] [] a
 ow:W.ownsRow W0.heap.size 97 2 hf.val hf.n (out.flatMap dS)
 hn:hf.n=out.length
 nb:∀b,hf.val.ownBlock=some b->¬B b
section
variable {w W0 W W':ah} {hv:aA} {h:Hd} {ts:List RT} {fs fl:List (Int×Int)} {m2 n:Nat} {tabs:List Tb} {x:cd} {a:Int} {B:Nat->Prop} {out:List (Int×Int)} {hf:Hd}
theorem jd.ii (b:jd w W0 hv h ts fs m2):∀d∈[w.heap.size+1+1+1,w.heap.size+1+1+1+1+1],jL W0 d:=by
 intro d e;rcases dh e with c|c
 ·subst c
  obtain⟨a,d⟩:=b.bx;exact gH.ii (h:=h) (u:=[.slice none 0 0,.slice none 0 0,.slice none 0 0,.slice none 0 0,.slice none 0 0,.slice none 0 0,.map (some (w.heap.size+1+1))]) ⟨a,d⟩ ⟨rfl,λd hv d b=>by
   subst b;simp at hv⟩
 rw[aB c];exact b.fl.ii
theorem jd.yF (a:jd w W0 hv h ts fs m2) (c:Kp [w.heap.size+1+1+1,w.heap.size+1+1+1+1+1] W0 W):bJ W h ts:=
 a.ta.pO a.ii (λd e=>a.ko d (by
  rcases dh e with b|b
  ·omega
  have:=aB b;omega)) c
theorem jd.same (e:jd w W0 hv h ts fs m2) (k:Kp [w.heap.size+1+1+1,w.heap.size+1+1+1+1+1] W0 W):ag w W:=
 k.eD e.sm (λc b=>by
  rcases dh b with a|a
  ·omega
  have:=aB a;omega)
theorem rx {a p:Nat} (c:a≠p+1+1+1) (d:a≠p+1+1+1+1+1):a∉[p+1+1+1,p+1+1+1+1+1]:=λe=>by
 rcases dh e with b|b
 ·exact c b
 exact d (aB b)
theorem fo.same (s:fo w W0 W h tabs fl n x a B out hf) (k:ag W W'):fo w W0 W' h tabs fl n x a B out hf:=
 ⟨s.kp.trans (Kp.of_same k),s.fl.kp (Kp.of_same (l:=[]) k) aj,s.ft,s.ss,s.wk.kp (Kp.of_same (l:=[]) k) (λc b=>by cases b),aK k s.ow,s.hn,s.nb⟩
theorem fo.up (b:fo w W0 W h tabs fl n x a B out hf) {c:Nat} (d:n<=c):fo w W0 W h tabs fl c x a B out hf:=
 ⟨b.kp,b.fl,b.ft,b.ss.up d,b.wk,b.ow,b.hn,b.nb⟩
theorem fo.start (b:jd w W0 hv h ts fs m2) (e:w.heap.size+1+1+1+1+1<W0.heap.size):
 ∃a,fo w W0 W0 h tabs fs 0 ⟨aL,aL,aL,aL,aL,aL,[],[],[],[],[],[]⟩ a (λ_=>False) [] aL:=by
 obtain⟨a,g⟩:=b.bx;have d:∀c∈(⟨aL,aL,aL,aL,aL,aL,[],[],[],[],[],[]⟩:cd).rows,c.own=none/\c.cs=[]/\c.h=aL:=by
  intro c d;simp only[cd.rows,List.mem_cons,List.mem_nil_iff,or_false]at d;rcases d with b|b|b|b|b|b<;>(subst b;exact⟨rfl,rfl,rfl⟩)
 refine⟨a,Kp.refl _ _,b.fl,⟨rfl,rfl,rfl,rfl,rfl,rfl⟩,⟨by simp[cd.su],by simp[cd.su],by simp[cd.su],by simp[cd.su],by simp[cd.su],by simp[cd.su]⟩,?_,⟨rfl,.inl ⟨rfl,rfl⟩⟩,rfl,λ_ _ h=>h⟩;exact
 {
  bx:=g,hX:=by omega,hM:=by omega,hb:=Nat.le_refl _,lt:=(λ_ h=>h.elim),na:=(λh=>by cases h),nin:=(λg f=>by cases f),g4:=(λg f=>by cases f)
  own:=λc h=>by
   obtain⟨_,f,g⟩:=d c h;rw[f,g];exact⟨by simp[aL],.inl ⟨rfl,rfl⟩⟩
  fk:=λc h i e=>by rw[(d c h).1]at e;cases e
  one:=λe e c e i e g f g=>by rw[(d c (List.mem_of_getElem? e)).1]at f;cases f
  fine:=λc h=>by
   simp only[cd.rows,List.mem_cons,List.mem_nil_iff,or_false]at h;rcases h with b|b|b|b|b|b<;>subst b
   ·exact xP _ _
   ·exact xQ _ _
   ·exact xS _ _
   ·exact xR _ _
   ·exact xT _ _
   exact xU _ _
  nest:=λc h=>by
   simp only[cd.rows,List.mem_cons,List.mem_nil_iff,or_false]at h;rcases h with b|b|b|b|b|b<;>subst b
   ·trivial
   ·trivial
   ·exact λb j=>by cases j
   ·trivial
   ·exact λb j=>by cases j
   exact λb j=>by cases j}
theorem fo.H5 (b:jd w W0 hv h ts fs m2) (g:w.heap.size+1+1+1+1+1<W0.heap.size) (b:fo w W0 W h tabs fl n x a B out hf) (d:Nat) (e:Int×Int):
 fo w W0 ((W.setCell (ac (w.heap.size+1+1+1+1+1) (d*2)) e.1).setCell (ac (w.heap.size+1+1+1+1+1) (d*2+1)) e.2) h tabs (fl.set d e) n x a B out hf:=by
 have i:=Kp.aH (l:=[w.heap.size+1+1+1+1+1]) (p:=(ac (w.heap.size+1+1+1+1+1) (d*2+1))) aj (Kp.aH (p:=(ac (w.heap.size+1+1+1+1+1) (d*2))) aj (Kp.refl [w.heap.size+1+1+1+1+1] W) e.1) e.2;have j:∀c,B c->w.heap.size+1+1+1+1+1<c:=λc f=>aR g (b.wk.lt c f).1;refine⟨b.kp.trans (i.mono (λc g=>by rw[aB g];simp)),b.fl.set d e,b.ft,b.ss,b.wk.kp i (λc f=>?_),mT b.ow i (λc f d=>?_),b.hn,b.nb⟩
 ·rw[aB f]
  exact⟨by omega,by omega,λe=>by have:=j _ e;omega⟩
 have b:=(b6 b.ow c f).1;rw[aB d]at b;omega
theorem fo.tH (c:fo w W0 W h tabs fl n x a B out hf) (o:w.heap.size+1+1+1+1+1<W0.heap.size) {g:aE} {o:Int×Int} (r:tg W (w.heap.size+1+1+1) (w.heap.size+1+1) W0.heap.size B h tabs (x.su tabs) g o W'):
 ∃(f:cd) (i:Int) (j:Nat->Prop),ja (x.su tabs) g=(f.su tabs,o)/\fo w W0 W' h tabs fl (n+1) f i j out hf:=by
 obtain⟨⟨z,k,l⟩,A,j,p,⟨f,i,s,t,u⟩,v⟩:=r;have q:∀b,B b->W0.heap.size<=b:=λb d=>(c.wk.lt b d).1;subst t;refine⟨f,i,j,p,?_,c.fl.kp k (λe=>?_),s,?_,u,mT c.ow k (λb d e=>?_),c.hn,λb d y=>?_⟩
 ·refine k.old c.kp (λb e f=>?_)
  rcases l b e with m|m
  ·rw[m];simp
  have:=q b m;omega
 ·rcases l _ e with m|m
  ·omega
  have:=q _ m;omega
 ·have:=c.ss.second g
  rw[p]at this;exact this
 ·rcases l _ e with m|m
  ·have:=(b6 c.ow b d).1
   omega
  exact c.nb b d m
 rcases v b y with m|m
 ·exact c.nb b d m
 have:=(b6 c.ow b d).2;omega
theorem fo.push (c:fo w W0 W h tabs fl n x a B out hf) (d:w.heap.size+1+1+1+1+1<W0.heap.size) {g:Int×Int} {e:aT} {f:Nat} {i:Obj}
 (q:W'.ownsRow W0.heap.size 97 2 (O e (hf.n+1) f) (hf.n+1) (out.flatMap dS++dS g)) (d:(W.alloc i).grownBy W' hf.val.ownBlock) (r:(Value.slice e (hf.n+1) f).ownBlock=hf.val.ownBlock\/(Value.slice e (hf.n+1) f).ownBlock=some (W.alloc i).heap.size):
 fo w W0 W' h tabs fl n x a B (out++[g]) ⟨e,hf.n+1,f⟩:=by
 have k:Kp hf.val.ownBlock.toList W W':=((Kp.refl _ W).alloc i).grown d (λb b=>.inl (by rw[b];simp));have j:∀b∈hf.val.ownBlock.toList,hf.val.ownBlock=some b:=λb d=>jI (v:=hf.val) d;refine⟨k.old c.kp (λb d s=>?_),c.fl.kp k (λd=>?_),c.ft,c.ss,c.wk.kp k (λb d=>?_),?_,by simp[c.hn],λb o p=>?_⟩
 ·have:=(b6 c.ow b (j b d)).1
  omega
 ·have:=(b6 c.ow _ (j _ d)).1
  omega
 ·have:=(b6 c.ow b (j b d)).1
  exact⟨by omega,by omega,c.nb b (j b d)⟩
 ·rw[List.flatMap_append,show[g].flatMap dS=dS g by simp]
  exact q
 rcases r with l|l
 ·exact c.nb b (l▸o) p
 have m:(Value.slice e (hf.n+1) f).ownBlock=some b:=o;rw[l]at m;injection m with m
 have b:=(c.wk.lt b p).2;have b:(W.alloc i).heap.size=W.heap.size+1:=aj
 omega
end
theorem H6 (b fs:List (Int×Int)) (a:Nat) (c:Int×Int) (h:b.length=a) (d:a<fs.length):(b++fs.drop a).set a c=(b++[c])++fs.drop (a+1):=by
 subst h;rw[List.set_append_right _ _ (Nat.le_refl _),Nat.sub_self,List.drop_eq_getElem_cons d,List.set_cons_zero,List.append_assoc];rfl
def L3 (w W0 W:ah) (h:Hd) (ts:List RT) (fs:List (Int×Int)) (b:List aE) (i:Nat) (hf:Hd):Prop:=∃(x:cd) (a:Int) (B:Nat->Prop) (c out:List (Int×Int)),
 fo w W0 W h (ts.map RT.tb) (c++fs.drop i) i x a B out hf/\c.length=i/\out.length<=i/\
 dg {Su.zero with tabs:=ts.map RT.tb} [] (fs.zip b)=dg (x.su (ts.map RT.tb)) out ((fs.drop i).zip (b.drop i))
def M3 (w W0 W:ah) (h:Hd) (ts:List RT) (fs:List (Int×Int)) (c:List aE) (i:Nat) (hf:Hd) (b:Int×Int):Prop:=∃(x:cd) (a:Int) (B:Nat->Prop) (d out:List (Int×Int)),
 fo w W0 W h (ts.map RT.tb) ((d++[b])++fs.drop (i+1)) (i+1) x a B out hf/\d.length=i/\out.length<=i/\
 dg {Su.zero with tabs:=ts.map RT.tb} [] (fs.zip c)=dg (x.su (ts.map RT.tb)) (if b.1=0 then out else out++[b]) ((fs.drop (i+1)).zip (c.drop (i+1)))
theorem H7 {w W0:ah} {hv:aA} {h:Hd} {ts:List RT} {fs:List (Int×Int)} {m2:Nat} (b:List aE) (c:jd w W0 hv h ts fs m2) (d:w.heap.size+1+1+1+1+1<W0.heap.size):L3 w W0 W0 h ts fs b 0 aL:=by
 obtain⟨a,b⟩:=fo.start (tabs:=ts.map RT.tb) c d;exact⟨_,a,_,[],[],by simpa using b,rfl,Nat.le_refl _,by simp[cd.su,Su.zero]⟩
theorem yG {fs:List (Int×Int)} {b:List aE} {a:Nat} {c:Int×Int} {d:aE} (e:fs[a]?=some c) (f:b[a]?=some d):(fs.drop a).zip (b.drop a)=(c,d)::(fs.drop (a+1)).zip (b.drop (a+1)):=by
 obtain⟨a,b⟩:=List.getElem?_eq_some_iff.1 e;obtain⟨c,d⟩:=List.getElem?_eq_some_iff.1 f;rw[List.drop_eq_getElem_cons a,List.drop_eq_getElem_cons c,b,d];rfl
theorem L3.skip {w W0 W:ah} {h:Hd} {ts:List RT} {fs:List (Int×Int)} {d:List aE} {i:Nat} {hf:Hd} (l:L3 w W0 W h ts fs d i hf) {b:Int×Int} {e:aE} (f:fs[i]?=some b) (g:d[i]?=some e) (c:b.1≠0\/gF e.kind=none):M3 w W0 W h ts fs d i hf b:=by
 obtain⟨x,a,B,j,out,k,m,n,o⟩:=l;obtain⟨d,p⟩:=List.getElem?_eq_some_iff.1 f;refine⟨x,a,B,j,out,?_,m,n,?_⟩
 ·have:=k.up (Nat.le_succ i)
  rw[List.drop_eq_getElem_cons d,p]at this;simpa using this
 have q:lN (x.su (ts.map RT.tb)) b e=(x.su (ts.map RT.tb),b):=by
  unfold lN;rcases c with c|c
  ·rw[if_neg c]
  rw[c];split<;>rfl
 rw[o,yG f g,xV,q]
theorem M3.next {w W0 W:ah} {h:Hd} {ts:List RT} {fs:List (Int×Int)} {c:List aE} {i:Nat} {hf:Hd} {b:Int×Int} (l:M3 w W0 W h ts fs c i hf b) (e:b.1=0):L3 w W0 W h ts fs c (i+1) hf:=by
 obtain⟨x,a,B,f,out,g,j,k,d⟩:=l;rw[if_pos e]at d;exact⟨x,a,B,f++[b],out,g,by simp[j],by omega,d⟩
theorem M3.tH {w W0 W W':ah} {hv:aA} {h:Hd} {ts:List RT} {fs:List (Int×Int)} {m2:Nat} {d:List aE} {i:Nat} {hf:Hd} {x:cd} {a:Int} {B:Nat->Prop} {c out:List (Int×Int)} (m:jd w W0 hv h ts fs m2) (g:w.heap.size+1+1+1+1+1<W0.heap.size)
 (l:fo w W0 W h (ts.map RT.tb) (c++fs.drop i) i x a B out hf) (j:c.length=i) (n:out.length<=i) (o:dg {Su.zero with tabs:=ts.map RT.tb} [] (fs.zip d)=dg (x.su (ts.map RT.tb)) out ((fs.drop i).zip (d.drop i)))
 {f b:Int×Int} {e:aE} {v:aA} (k:fs[i]?=some f) (p:d[i]?=some e) (q:f.1=0) (r:gF e.kind=some v) (s:tg W (w.heap.size+1+1+1) (w.heap.size+1+1) W0.heap.size B h (ts.map RT.tb) (x.su (ts.map RT.tb)) e b W'):
 fm W' (w.heap.size+1+1+1+1+1) (c++fs.drop i)/\ag W0 W0/\Kp [w.heap.size+1+1+1,w.heap.size+1+1+1+1+1] W0 W'/\
 M3 w W0 ((W'.setCell (ac (w.heap.size+1+1+1+1+1) (i*2)) b.1).setCell (ac (w.heap.size+1+1+1+1+1) (i*2+1)) b.2) h ts fs d i hf b:=by
 obtain⟨t,d⟩:=List.getElem?_eq_some_iff.1 k;obtain⟨l,s,u,y,d⟩:=l.tH g s;have g:=d.H5 m g i b;rw[H6 c fs i b j t]at g;refine⟨d.fl,ag.refl _,d.kp,l,s,u,c,out,g,j,n,?_⟩;have b:lN (x.su (ts.map RT.tb)) f e=(l.su (ts.map RT.tb),b):=by
  unfold lN;rw[if_pos q,r];exact y
 rw[o,yG k p,xV,b]
theorem M3.same {w W0 W W':ah} {h:Hd} {ts:List RT} {fs:List (Int×Int)} {b:List aE} {i:Nat} {hf:Hd} {c:Int×Int} (l:M3 w W0 W h ts fs b i hf c) (k:ag W W'):M3 w W0 W' h ts fs b i hf c:=by
 obtain⟨x,a,B,d,out,e,f,g,j⟩:=l;exact⟨x,a,B,d,out,e.same k,f,g,j⟩
theorem L3.same {w W0 W W':ah} {h:Hd} {ts:List RT} {fs:List (Int×Int)} {b:List aE} {i:Nat} {hf:Hd} (l:L3 w W0 W h ts fs b i hf) (k:ag W W'):L3 w W0 W' h ts fs b i hf:=by
 obtain⟨x,a,B,c,out,d,e,f,g⟩:=l;exact⟨x,a,B,c,out,d.same k,e,f,g⟩
theorem M3.get {w W0 W:ah} {h:Hd} {ts:List RT} {fs:List (Int×Int)} {c:List aE} {i:Nat} {hf:Hd} {b:Int×Int} (l:M3 w W0 W h ts fs c i hf b):∃fl,fm W (w.heap.size+1+1+1+1+1) fl/\fl[i]?=some b:=by
 obtain⟨x,a,B,f,out,d,e,g,j⟩:=l;exact⟨_,d.fl,by subst e;simp⟩
theorem M3.row {w W0 W:ah} {h:Hd} {ts:List RT} {fs:List (Int×Int)} {f:List aE} {i:Nat} {hf:Hd} {b:Int×Int} (l:M3 w W0 W h ts fs f i hf b) (j:w.heap.size+1+1+1+1+1<W0.heap.size) (k:b.1≠0):
 ∃out:List (Int×Int),W.ownsRow W0.heap.size 97 2 hf.val hf.n (out.flatMap dS)/\hf.n=out.length/\out.length<=i/\∀(d:Obj) (W':ah) (A:aT) (c:Nat),W'.ownsRow W0.heap.size 97 2 (O A (hf.n+1) c) (hf.n+1) (out.flatMap dS++dS b)->(W.alloc d).grownBy W' hf.val.ownBlock->
  ((Value.slice A (hf.n+1) c).ownBlock=hf.val.ownBlock\/(Value.slice A (hf.n+1) c).ownBlock=some (W.alloc d).heap.size)->L3 w W0 W' h ts fs f (i+1) ⟨A,hf.n+1,c⟩:=by
 obtain⟨x,a,B,m,out,e,o,p,g⟩:=l;refine⟨out,e.ow,e.hn,p,λd W' A c c d f=>?_⟩;rw[if_neg k]at g;exact⟨x,a,B,m++[b],out++[b],e.push j c d f,by simp[o],by simp;omega,g⟩
structure eO (lo:Nat) (w:ah) (h:Hd) (ts:List RT) (x:cd):Prop where
 ta:bJ w h ts
 l1:aD w 2 x.h1 Og.cells x.os
 l2:aD w 6 x.h2 Bk.cells x.bs
 l3:aD w 4 x.h3 dr.cells x.ms
 l4:aD w 3 x.h4 dX.cells x.ks
 l5:aD w 10 x.h5 cj.cells x.rs
 l6:aD w 9 x.h6 dy.cells x.qs
 i1:aV (λb=>lo<=b) x.h1
 i2:aV (λb=>lo<=b) x.h2
 i3:aV (λb=>lo<=b) x.h3
 i4:aV (λb=>lo<=b) x.h4
 i5:aV (λb=>lo<=b) x.h5
 i6:aV (λb=>lo<=b) x.h6
 m:∀t∈x.ms,fi w (λb=>lo<=b) t
 r:∀t∈x.rs,eV w (λb=>lo<=b) t
 q:∀t∈x.qs,pD w (λb=>lo<=b) t
def yH (lo:Nat) (w:ah) (a:aA) (b:Su):Prop:=∃(h:Hd) (ts:List RT) (x:cd),a=.agg #[h.val,x.h1.val,x.h2.val,x.h3.val,x.h4.val,x.h5.val,x.h6.val]/\x.su (ts.map RT.tb)=b/\eO lo w h ts x
def iq (lo:Nat) (w:ah) (v:aA) (fs:List (Int×Int)):Prop:=∃h:Hd,v=h.val/\aD w 2 h dS fs/\aV (λa=>lo<=a) h
def gd (w:ah) (a:Su×List (Int×Int)) (d:Ending) (w':ah):Prop:=ag w w'/\∃b c,d=.returned (.tuple #[b,c])/\yH w.heap.size w' b a.1/\iq w.heap.size w' c a.2
theorem jU {a:Type} {w:ah} {b:Nat} {c:a->List Value}:aD w b aL c []:=⟨rfl,by simp[aL],λa d=>by cases d⟩
theorem m0 {S:Nat->Prop}:aV S aL:=λb b a=>by cases a
theorem ry (lo:Nat) (w:ah):yH lo w (.agg cb) Su.zero:=
 ⟨aL,[],⟨aL,aL,aL,aL,aL,aL,[],[],[],[],[],[]⟩,rfl,rfl,⟨jU,λb a=>by cases a⟩,jU,jU,jU,jU,jU,jU,m0,m0,m0,m0,m0,m0,(λb a=>by cases a),(λb a=>by cases a),(λb a=>by cases a)⟩
theorem aD.rz {e:Type} {w w':ah} {m a:Nat} {h:Hd} {c:e->List Value} {d:List e} (e:aD w m h c d) (g:∀x∈d,∃v,(c x)[0]?=some v/\∀j,w.cell? (ac a j)≠some v) (k:Kp [a] w w'):aD w' m h c d:=by
 refine⟨e.1,e.2.1,λi f=>?_⟩;obtain⟨b,off,ha,hb,hc⟩:=e.2.2 i f;have hne:b≠a:=by
  rintro rfl;obtain⟨v,hv,a⟩:=g _ (List.getElem_mem f);exact a _ (hc 0 _ hv)
 exact xo
theorem bJ.tI {w w':ah} {X:Nat} {h:Hd} {ts:List RT} (a:bJ w h ts) (g:∀b v,ae w (ac X b) v->∃i n j,v=.slice i n j) (d:Kp [X] w w'):bJ w' h ts:=by
 have f:∀(e:av) b,w.cell? (ac X b)≠some (.string e):=λe b c=>by
  obtain⟨_,_,_,h⟩:=g b _ c;cases h
 have k:∀(n:Int) b,w.cell? (ac X b)≠some (.int .i64 n):=λn b c=>by
  obtain⟨_,_,_,h⟩:=g b _ c;cases h
 exact⟨a.1.rz (λb _=>⟨_,rfl,f b.name⟩) d,λb c=>⟨⟨(a.2 b c).1.1.rz (λg _=>⟨_,rfl,f g.at_.name⟩) d,λg i=>⟨⟨((a.2 b c).1.2 g i).1.1.rz (λe _=>⟨_,rfl,f e⟩) d,((a.2 b c).1.2 g i).1.2⟩,((a.2 b c).1.2 g i).2⟩⟩,
  (a.2 b c).2.1.rz (λn _=>⟨_,rfl,k n⟩) d,(a.2 b c).2.2⟩⟩
theorem m1 (a:Nat) (v:aA) (h:cb[a]?=some v):∃b n c,v=.slice b n c:=by
 match a with
 |0|1|2|3|4|5|6=>exact⟨_,_,_,(Option.some.inj h).symm⟩
 |_+7=>cases h
section
variable {lo:Nat} {w w':ah} {h:Hd} {ts:List RT} {x:cd}
theorem eO.kp (a:eO lo w h ts x) {g:Nat} (b:g<lo) (i:∀b v,ae w (ac g b) v->∃b n c,v=.slice b n c) (k:Kp [g] w w'):eO lo w' h ts x:=
 have d:∀b∈[g],¬lo<=b:=λb c=>by rw[aB c];omega
 have b:∀{f:Hd},aV (λb=>lo<=b) f->∀b e,f.a=some ⟨b,e,none⟩->b∉[g]:=λf b e j c=>d b c (f b e j)
 {
  ta:=a.ta.tI i k,l1:=a.l1.kp k (b a.i1),l2:=a.l2.kp k (b a.i2),l3:=a.l3.kp k (b a.i3),l4:=a.l4.kp k (b a.i4),l5:=a.l5.kp k (b a.i5),l6:=a.l6.kp k (b a.i6),i1:=a.i1,i2:=a.i2,i3:=a.i3,i4:=a.i4,i5:=a.i5,i6:=a.i6
  m:=λb c=>fi.keep _ _ _ _ _ (a.m b c) k d,r:=λb c=>(a.r b c).keep k d,q:=λb c=>dM.keep (a.q b c) k d}
theorem eO.same (a:eO lo w h ts x) (s:ag w w'):eO lo w' h ts x:=
 have d:=Kp.of_same (l:=[]) s
 {
  ta:=a.ta.same s,l1:=a.l1.same s,l2:=a.l2.same s,l3:=a.l3.same s,l4:=a.l4.same s,l5:=a.l5.same s,l6:=a.l6.same s,i1:=a.i1,i2:=a.i2,i3:=a.i3,i4:=a.i4,i5:=a.i5,i6:=a.i6
  m:=λb c=>fi.keep _ _ _ _ _ (a.m b c) d aj,r:=λb c=>(a.r b c).keep d aj,q:=λb c=>dM.keep (a.q b c) d aj}
theorem eO.low (a:eO lo w h ts x) {l2:Nat} (c:l2<=lo):eO l2 w h ts x:=
 have b:∀b,lo<=b->l2<=b:=λb b=>bL c b
 {
  ta:=a.ta,l1:=a.l1,l2:=a.l2,l3:=a.l3,l4:=a.l4,l5:=a.l5,l6:=a.l6,i1:=a.i1.mono b,i2:=a.i2.mono b,i3:=a.i3.mono b,i4:=a.i4.mono b,i5:=a.i5.mono b,i6:=a.i6.mono b
  m:=λc d=>fi.mono _ _ _ _ (a.m c d) b,r:=λc d=>(a.r c d).mono b,q:=λc d=>dM.mono (a.q c d) b}
end
theorem H8 {W:ah} {h:Hd} {ts:List RT} {X d e n:Nat} {x:cd} {a:Int} {B:Nat->Prop} (k:bJ W h ts) (c:x.Fit) (f:hC (x.su (ts.map RT.tb)) n) (b:cS W X d e B [h.val] [] x.rows false [] [] a) (d:n<=1000):eO e W h ts x:=by
 obtain⟨d,f,g,i,j,l⟩:=f.short d;have e:∀(f:List eI) (d:Nat),td B f [] d->e<=d:=λf d e=>(b.lt d e.1).1;have d:pF x.h1 x.os∈x.rows:=gr
 have m2:pG x.h2 x.bs∈x.rows:=gr
 have f:pH x.h3 x.ms∈x.rows:=gr
 have j:pI x.h4 x.ks∈x.rows:=gr
 have g:lM x.h5 x.rs∈x.rows:=gr
 have i:pJ x.h6 x.qs∈x.rows:=gr
 exact{
  ta:=k,l1:=cI (h:=x.h1) (λ_=>rfl) c.e1 (by rw[<-c.e1];omega) (b.own _ d),l2:=cI (h:=x.h2) (λ_=>rfl) c.e2 (by rw[<-c.e2];omega) (b.own _ m2),l3:=cI (h:=x.h3) (λ_=>rfl) c.e3 (by rw[<-c.e3];omega) (b.own _ f)
  l4:=cI (h:=x.h4) (λ_=>rfl) c.e4 (by rw[<-c.e4];omega) (b.own _ j),l5:=cI (h:=x.h5) (λ_=>rfl) c.e5 (by rw[<-c.e5];omega) (b.own _ g),l6:=cI (h:=x.h6) dy.len c.e6 (by rw[<-c.e6];omega) (b.own _ i)
  i1:=lO (h:=x.h1) (b.own _ d),i2:=lO (h:=x.h2) (b.own _ m2),i3:=lO (h:=x.h3) (b.own _ f),i4:=lO (h:=x.h4) (b.own _ j),i5:=lO (h:=x.h5) (b.own _ g),i6:=lO (h:=x.h6) (b.own _ i)
  m:=λc d=>fi.mono _ _ _ _ (b.nest _ f c d) (e _),r:=λc d=>(b.nest _ g c d).mono (e _),q:=λc d=>dM.mono (b.nest _ i c d) (e _)}
def kQ (b:List Tb) (a c:Int):Prop:=(0<=a/\a<b.length)/\0<=c/\c<(co b a).attrs.length
theorem je {b:List Tb} {c a:Int} {d:av} (h:df b c d=.ok a):0<=a/\a<b.length:=by
 unfold df at h;obtain⟨e,h⟩:=RO.bH h;injection h with h
 subst h;exact⟨by simpa using e,(l0 _ _).2⟩
theorem n8 {b:List At} {c a:Int} {d:av} (h:cC c b d=.ok a):0<=a/\a<b.length:=by
 unfold cC at h;obtain⟨e,h⟩:=RO.bH h;injection h with h
 subst h;exact⟨by simpa using e,(oA _ _).2⟩
theorem rA {b:List Tb} {c:Int} {d e:av} {a:Int×Int×Int} (h:fu b c d e=.ok a):kQ b a.1 a.2.1:=by
 unfold fu at h;obtain⟨a,f,h⟩:=RO.bM h;obtain⟨a,g,h⟩:=RO.bM h;injection h with h
 subst h;exact⟨je f,n8 g⟩
theorem tJ {i:Int} {f:List At}:∀(e:bk) (b c:List Int),dc i f b e=.ok c->(∀a∈b,0<=a/\a<f.length)->b.Nodup->(∀a∈c,0<=a/\a<f.length)/\c.Nodup/\c.length=b.length+e.length
 |[],b,c,h,hl,hd=>by
  rw[dc]at h;injection h with h
  subst h;exact⟨hl,hd,by simp⟩
 |s::e,b,c,h,hl,hd=>by
  rw[dc]at h;obtain⟨a,f,h⟩:=RO.bM h;obtain⟨g,h⟩:=RO.bH h;have j:=n8 f;have k:a∉b:=λf=>by
   have:b.any (λd=>decide (d=a))=true:=List.any_eq_true.2 ⟨a,f,by simp⟩;rw[this]at g;cases g
  have:=tJ e (b++[a]) c h (λl d=>by
   rcases cP d with d|d
   ·exact hl l d
   ·rw[aB d];exact j) (by
   rw[List.nodup_append];exact⟨hd,by simp,λa b a c a=>k (by rw[aB c]at a;exact a▸b)⟩)
  refine⟨this.1,this.2.1,?_⟩;rw[this.2.2];simp;omega
def rB (c:List Tb) (b:List Int) (a:Sd):Prop:=(a.var= -1/\a.v.ok=true)\/(0<=a.var/\a.var<b.length/\kQ c ((b[a.var.toNat]?).getD 0) a.col)
structure yI (tabs:List Tb) (r:Ru):Prop where
 cH:∀c∈r.cH,kQ tabs r.table c
 fixed:∀f∈r.fixed,kQ tabs r.table f.col
 tests:∀t∈r.tests,rB tabs r.tables t.l/\rB tabs r.tables t.r
 col:(r.kind=4/\r.tables≠[])\/kQ tabs r.table r.col
 other:r.kind=3->kQ tabs r.other r.mb
structure m3 (s:Su):Prop where
 b:∀x∈s.blocks,kQ s.tabs x.table x.col
 k:∀x∈s.keeps,kQ s.tabs x.table x.col
 m:∀x∈s.js,∀y∈x.terms,kQ s.tabs x.table y.col
 r:∀x∈s.rules,yI s.tabs x
theorem hD {a:Type} {x b:a} {l:List a} (h:x∈l++[b]):x∈l\/x=b:=by
 rcases cP h with h|h
 ·exact .inl h
 exact .inr (aB h)
theorem yJ {f:List At} {i:Int}:∀(g:List cL) (e c:List Wg),eR f i e g=.ok c->(∀b∈e,0<=b.col/\b.col<f.length)->∀b∈c,0<=b.col/\b.col<f.length
 |[],e,c,h,hl=>by
  rw[eR]at h;injection h with h
  subst h;exact hl
 |b::g,e,c,h,hl=>by
  rw[eR]at h;obtain⟨b,a,h⟩:=RO.bM h;refine yJ g _ c h (λj d=>?_);rcases hD d with d|d
  ·exact hl j d
  subst d;unfold mg at a;obtain⟨b,k,a⟩:=RO.bM a;obtain⟨_,a⟩:=RO.bH a;obtain⟨_,a⟩:=RO.bH a;obtain⟨_,a⟩:=RO.bH a;injection a with a
  subst a;exact n8 k
theorem yK {e:List At} {b:Int}:∀(g:List du) (d a:List Fx),eS e b d g=.ok a->(∀b∈d,0<=b.col/\b.col<e.length)->∀b∈a,0<=b.col/\b.col<e.length
 |[],d,a,h,hl=>by
  rw[eS]at h;injection h with h
  subst h;exact hl
 |f::g,d,a,h,hl=>by
  rw[eS]at h;obtain⟨b,i,h⟩:=RO.bM h;obtain⟨_,h⟩:=RO.bH h;obtain⟨_,h⟩:=RO.bH h;obtain⟨_,h⟩:=RO.bH h;refine yK g _ a h (λj c=>?_);rcases hD c with c|c
  ·exact hl j c
  subst c;exact n8 i
theorem yL {b:List Tb} {e:aE} {d:Int} {a:Ru} (h:gB b e d=.ok a):(0<=a.table/\a.table<b.length)/\(∀e∈a.cH,0<=e/\e<(co b a.table).attrs.length)/\a.cH≠[]/\a.kind=d/\a.fixed=[]/\a.tests=[]/\a.col=0:=by
 unfold gB at h;obtain⟨a,f,h⟩:=RO.bM h;obtain⟨c,h⟩:=RO.bH h;obtain⟨g,i,h⟩:=RO.bM h;injection h with h
 subst h;have b:=tJ _ _ _ i aj aj;refine⟨je f,b.1,λa=>?_,rfl,rfl,rfl,rfl⟩;have b:=b.2.2;have a:g=[]:=a;rw[a]at b;simp at c b;rw[b]at c;simp at c
theorem yM {m:Int} {j:dl->RO (Sd×Int)} {P:Sd->Prop} (n:∀d b,j d=.ok b->P b.1) (o:∀f:V,f.ok=true->P ⟨-1,0,f⟩):∀(k:List bv) (i e:List cF),eL m j i k=.ok e->(∀f∈i,P f.l/\P f.r)->∀f∈e,P f.l/\P f.r
 |[],i,e,h,hl=>by
  rw[eL]at h;injection h with h
  subst h;exact hl
 |c::k,i,e,h,hl=>by
  rw[eL]at h;obtain⟨f,a,h⟩:=RO.bM h;refine yM n o k _ e h (λq g=>?_);rcases hD g with g|g
  ·exact hl q g
  subst g;unfold hY at a;obtain⟨_,a⟩:=RO.bH a;obtain⟨b,s,a⟩:=RO.bM a;obtain⟨e,t,a⟩:=RO.bM a;obtain⟨_,a⟩:=RO.bH a;obtain⟨_,a⟩:=RO.bH a;injection a with a
  subst a;have p:∀d b,hW m j d=.ok b->P b.1:=λd b h=>by
   unfold hW at h;split at h
   ·obtain⟨u,h⟩:=RO.bH h
    injection h with h
    subst h;exact o _ u
   exact n d b h
  exact⟨p _ _ s,p _ _ t⟩
theorem yN {f:List Tb} {c:Int}:∀(e:List Vr) (b a:List (ByteArray×Int)),fG f c b e=.ok a->(∀c∈b,0<=c.2/\c.2<f.length)->(∀c∈a,0<=c.2/\c.2<f.length)/\a.length=b.length+e.length
 |[],b,a,h,hl=>by
  rw[fG]at h;injection h with h
  subst h;exact⟨hl,by simp⟩
 |v::e,b,a,h,hl=>by
  rw[fG]at h;obtain⟨_,h⟩:=RO.bH h;obtain⟨b,g,h⟩:=RO.bM h;have:=yN e _ a h (λi d=>by
   rcases hD d with d|d
   ·exact hl i d
   subst d;exact je g)
  refine⟨this.1,?_⟩;rw[this.2];simp;omega
theorem H9 {d:List Tb} {g:Int} {a:List (ByteArray×Int)} (i:∀e∈a,0<=e.2/\e.2<d.length) {f:dl} {b:Sd×Int} (h:gC d g a f=.ok b):rB d (a.map (·.2)) b.1:=by
 unfold gC at h;obtain⟨j,h⟩:=RO.bH h;dsimp only at h;obtain⟨d,k,h⟩:=RO.bM h;injection h with h
 subst h;obtain⟨e,d,l⟩:=List.any_eq_true.1 j;obtain⟨m,n,o⟩:=List.mem_iff_getElem.1 d;rcases kZ (λb:ByteArray×Int=>decide (b.1=f.var)) a with⟨_,p⟩|⟨r,c,q,_,_⟩
 ·have:=p m n
  rw[o,l]at this;cases this
 right
 have a:=n8 k;rw[q]at a⊢;refine⟨by simp,by simpa using c,?_,?_⟩
 ·simp[c]
  exact i _ (List.getElem_mem c)
 simpa[c]using a
theorem m3.part {d j:Su} {o:aE} (a:m3 d) (h:ci d o=.ok j):m3 j:=by
 have g:∀e:Ru,yI d.tabs e->m3 {d with rules:=d.rules++[e]}:=λe p=>⟨a.b,a.k,a.m,λf c=>by
  rcases hD c with c|c
  ·exact a.r f c
  subst c;exact p⟩
 unfold ci at h;split at h
 ·unfold me at h
  obtain⟨_,h⟩:=RO.bH h;obtain⟨_,h⟩:=RO.bH h;injection h with h
  subst h;exact⟨a.b,a.k,a.m,a.r⟩
 split at h
 ·unfold la at h
  obtain⟨j,l,h⟩:=RO.bM h;obtain⟨j,c,h⟩:=RO.bM h;injection h with h
  subst h;refine⟨λn f=>?_,a.k,a.m,a.r⟩;rcases hD f with f|f
  ·exact a.b n f
  subst f;have i:=rA l;split at c
  ·injection c with c;subst c;exact i
  split at c
  ·obtain⟨_,c⟩:=RO.bH c
   injection c with c;subst c;exact i
  split at c
  ·obtain⟨_,c⟩:=RO.bH c
   injection c with c;subst c;exact i
  cases c
 split at h
 ·unfold lg at h
  obtain⟨j,f,h⟩:=RO.bM h;obtain⟨_,h⟩:=RO.bH h;obtain⟨_,h⟩:=RO.bH h;obtain⟨j,i,h⟩:=RO.bM h;injection h with h
  subst h;refine⟨a.b,a.k,λl c=>?_,a.r⟩;rcases hD c with c|c
  ·exact a.m l c
  subst c;exact λc j=>⟨je f,yJ _ _ _ i aj c j⟩
 split at h
 ·unfold lh at h
  obtain⟨j,f,h⟩:=RO.bM h;obtain⟨_,h⟩:=RO.bH h;obtain⟨_,h⟩:=RO.bH h;obtain⟨_,h⟩:=RO.bH h;injection h with h
  subst h;refine⟨a.b,λi c=>?_,a.m,a.r⟩;rcases hD c with c|c
  ·exact a.k i c
  subst c;exact rA f
 split at h
 ·unfold oQ at h
  obtain⟨e,i,h⟩:=RO.bM h;injection h with h
  subst h;obtain⟨i,l,q,j,o,p,s⟩:=yL i;refine g e ⟨λc f=>⟨i,l c f⟩,by rw[o];simp,by rw[p];simp,.inr ⟨i,?_⟩,λn=>by rw[j]at n;cases n⟩;rw[s];obtain⟨c,f⟩:=List.exists_mem_of_ne_nil _ q;have:=l c f;exact⟨Int.le_refl _,by omega⟩
 split at h
 ·unfold li at h
  obtain⟨e,i,h⟩:=RO.bM h;obtain⟨f,l,h⟩:=RO.bM h;obtain⟨_,h⟩:=RO.bH h;obtain⟨e,c,h⟩:=RO.bM h;injection h with h
  subst h;obtain⟨e,i,o,j,p,n,q⟩:=yL i;exact g _ ⟨λf o=>⟨e,i f o⟩,λf i=>⟨e,yK _ _ _ c aj f i⟩,by dsimp only;rw[n];simp,.inr ⟨e,n8 l⟩,λc=>by dsimp only at c;rw[j]at c;cases c⟩
 split at h
 ·unfold lj at h
  obtain⟨e,c,h⟩:=RO.bM h;obtain⟨e,f,h⟩:=RO.bM h;obtain⟨_,h⟩:=RO.bH h;injection h with h
  subst h;exact g _ ⟨by simp[Ru.zero],by simp[Ru.zero],by simp[Ru.zero],.inr (rA c),λ_=>rA f⟩
 split at h
 ·unfold ll at h
  obtain⟨f,h⟩:=RO.bH h;obtain⟨i,n,h⟩:=RO.bM h;obtain⟨e,q,h⟩:=RO.bM h;injection h with h
  subst h;have l:=yN _ _ _ n aj;refine g _ ⟨by simp[Ru.zero],by simp[Ru.zero],yM (P:=rB d.tabs (i.map (·.2))) (λc c c=>H9 l.1 c) (λc c=>.inl ⟨rfl,c⟩) _ _ _ q aj,.inl ⟨rfl,λc=>?_⟩,λs=>by cases s⟩;have c:i.map (·.2)=[]:=c;have d:=l.2;rw[List.map_eq_nil_iff]at c;rw[c]at d;simp[aY]at f d;rw[<-d]at f;simp at f
 split at h
 ·unfold j7 at h
  obtain⟨c,_,h⟩:=RO.bM h;injection h with h
  subst h;exact⟨a.b,a.k,a.m,a.r⟩
 injection h with h
 subst h;exact a
theorem m3.second (c:List ((Int×Int)×aE)):∀(a:Su) (b:List (Int×Int)),m3 a->m3 (dg a b c).1/\(dg a b c).1.tabs=a.tabs:=by
 induction c with
 |nil=>intro a b h;exact⟨h,rfl⟩
 |cons e c d=>
  intro a b h;obtain⟨i,f⟩:=e;rw[dg];split
  ·cases hp:ci a f with
   |ok g=>
    have:=d g b (h.part hp);exact⟨this.1,this.2.trans (rv hp).tabs⟩
   |bad g j=>
    dsimp only;split
    ·exact d a b h
    exact d a _ h
  exact d a _ h
theorem yO {n:Int}:∀(g:List dB) (l b:List At),fV n l g=.ok b->((∀e∈l,gO e=true)/\(∀x∈d6 l,bz x=true)/\(d6 l).Nodup)->(∀e∈b,gO e=true)/\(∀x∈d6 b,bz x=true)/\(d6 b).Nodup
 |[],l,b,h,hl=>by
  rw[fV]at h;injection h with h
  subst h;exact hl
 |c::g,l,b,h,hl=>by
  rw[fV]at h;obtain⟨i,h⟩:=RO.bH h;obtain⟨o,h⟩:=RO.bH h;obtain⟨p,h⟩:=RO.bH h;obtain⟨j,h⟩:=RO.bH h;obtain⟨q,r,s⟩:=hl;have t:=Hk (l:=l) (x:=c.name) (by simpa using o);simp only[aY,Bool.and_eq_true,decide_eq_true_eq]at i;have m:d6 (l++[⟨c.name,c.k,[],c.d⟩])=d6 l++[c.name]:=by rw[Hj];rfl
  refine yO g _ b h ⟨λe f=>?_,λx a=>?_,?_⟩
  ·rcases hD f with f|f
   ·exact q e f
   subst f;simp only[gO,kY,iy,Bool.and_eq_true,decide_eq_true_eq,Bool.or_eq_true];simp only[Bool.or_eq_true,decide_eq_true_eq]at j;exact⟨i.2,p,j⟩
  ·rw[m]at a
   rcases hD a with a|a
   ·exact r x a
   subst a;exact i.1
  rw[m,List.nodup_append];exact⟨s,by simp,λx a b e b=>t (by rw[aB e]at b;exact b▸a)⟩
theorem Ia {e:Nat} {a:List Int} (h:∀c∈a,0<=c/\c<(e:Int)) (g:a.Nodup):∀b,b<(d9 a).length->gu e (d9 a) b=true:=by
 intro b d;have f:=pE a;have i:=s9 a;have g:(d9 a).Nodup:=f.nodup_iff.2 g;have e:∀c∈d9 a,0<=c/\c<(e:Int):=λc e=>h c (f.mem_iff.1 e);rw[pM];have c:(d9 a).getD b 0=(d9 a)[b]:=by simp[d]
 refine⟨by rw[c];exact e _ (List.getElem_mem d),?_⟩;by_cases e:b=0
 ·exact .inl e
 right
 have a:(d9 a).getD (b-1) 0=(d9 a)[b-1]'af:=by simp[show b-1<(d9 a).length by omega]
 rw[c,a];have a:=List.pairwise_iff_getElem.1 i (b-1) b af d af;have a:=List.pairwise_iff_getElem.1 g (b-1) b af d af;omega
theorem Ib {e:List Tb} {a:aE} {c:Tb} (k:bz a.name=true) (h:ea e a=.ok c):jS c/\c.name=a.name/\e.length<20:=by
 unfold ea at h;obtain⟨f,h⟩:=RO.bH h;obtain⟨g,i,h⟩:=RO.bM h;obtain⟨d,h⟩:=RO.bH h;obtain⟨j,l,h⟩:=RO.bM h;injection h with h
 subst h;have m:=tG _ _ _ _ i;have c:=yO _ _ _ i ⟨by simp,by simp[d6],by simp[d6]⟩;have e:=tJ _ _ _ l aj aj;simp[aY]at f m d;have i:=e.2.2;simp at i;refine⟨⟨k,?_,?_,?_,c.1,c.2.1,c.2.2,Ia e.1 e.2.1⟩,rfl,f.1⟩
 ·show 1<=g.length
  omega
 ·show g.length<=12
  omega
 show 1<=(d9 j).length;rw[(pE j).length_eq];have:0<a.names.length:=by
  rcases Nat.eq_zero_or_pos a.names.length with b|b
  ·simp at b;rw[b]at d;simp at d
  exact b
 omega
structure n9 (tabs:List Tb) (u:ch):Prop where
 n:tabs.length<=20
 r:∀t∈tabs,jS t
 d:(tabs.map Tb.name).Nodup
 u:∀t∈tabs,dD u 1 t.name=true
theorem Ic {a:ch} {d:Int×ByteArray} {b:Int} {c:av} (h:dD a b c=true):dD (d::a) b c=true:=by
 unfold dD at*;rw[List.any_cons,h,Bool.or_true]
theorem yP {a:ch} {d:aE} {b:Int} {c:av} (h:dD a b c=true):dD (dm a d).1 b c=true:=by
 unfold dm;repeat' split
 all_goals first|exact h|exact Ic h
theorem Id {b:ch} {a:aE} (c:a.kind=1) (h:(dm b a).2=0):bz a.name=true/\dD b 1 a.name=false/\dD (dm b a).1 1 a.name=true:=by
 have d:aY a.kind 1 10=true:=by rw[c];rfl
 have e:¬a.kind=5:=af
 have f:eK a.kind=1:=by rw[c];rfl
 have c:dm b a=if bz a.name then(if dD b 1 a.name then(b,9)else((1,a.name)::b,0))else(b,1):=by
  unfold dm;rw[if_pos d,if_neg e,f]
 rw[c]at h⊢;clear c;cases hn:bz a.name with
 |false=>rw[hn]at h;cases h
 |true=>
  rw[hn]at h;cases hu:dD b 1 a.name with
  |true=>rw[hu]at h;cases h
  |false=>exact⟨rfl,rfl,by simp[dD]⟩
theorem n9.first:∀(xs:List aE) (b:List Tb) (u:ch) (f:List (Int×Int)),n9 b u->∃k,n9 (cy b u f xs).1 k
 |[],b,u,f,h=>⟨u,by rw[cy];exact h⟩
 |x::xs,b,u,f,h=>by
  rw[th];refine n9.first xs _ _ _ ?_;have e:n9 b (dm u x).1:=⟨h.n,h.r,h.d,λa c=>yP (h.u a c)⟩;unfold gc;split
  ·exact e
  rename_i l
  split
  ·rename_i m
   cases c:ea b x with
   |ok o=>
    obtain⟨b,p,q⟩:=Id m (by simpa using l);obtain⟨s,j,b⟩:=Ib b c;refine⟨by simp;omega,λg a=>?_,?_,λg a=>?_⟩
    ·rcases hD a with a|a
     ·exact h.r g a
     subst a;exact s
    ·rw[List.map_append,List.nodup_append]
     refine⟨h.d,by simp,λb t v i w=>?_⟩;obtain⟨y,z,rfl⟩:=List.mem_map.1 t;have i:v=o.name:=by simpa using i
     have:=h.u y z;rw[w,i,j,p]at this;cases this
    rcases hD a with a|a
    ·exact yP (h.u g a)
    subst a;rw[j];exact q
   |bad a g=>exact e
  exact e
def Pl.kids:Pl->List Pl
 |.mk _ _ ks _ _ _ _ _=>ks
def yQ (a:List At):Prop:=(a.map At.name).Nodup
theorem yQ.ne {l:List At} (h:yQ l) {a b:Nat} (d:a<l.length) (e:b<l.length) (f:l[a].name=l[b].name):a=b:=
 Decidable.byContradiction λi=>by
  have g:=List.pairwise_iff_getElem.1 h;rcases Nat.lt_or_gt_of_ne i with c|c
  ·exact g a b (by simpa using d) (by simpa using e) c (by simpa using f)
  exact g b a (by simpa using e) (by simpa using d) c (by simpa using f.symm)
theorem jS.old {t:Tb} (a:jS t) (i:Nat) (h:i<t.attrs.length):bt t.attrs (fe t.attrs[i]).name=i:=by
 refine AZ (uT a.nodup) i h _ ?_;show t.attrs[i].has ((t.attrs[i].was++[t.attrs[i].name]).headD e0);cases hw:t.attrs[i].was with
 |nil=>exact .inl rfl
 |cons b c=>exact .inr (by rw[hw];exact List.mem_cons_self ..)
theorem Ie {a b:Su} {c:aE} (d:c.kind≠10) (h:ci a c=.ok b):b.queries=a.queries:=by
 unfold ci at h;split at h
 ·unfold me at h
  obtain⟨_,h⟩:=RO.bH h;obtain⟨_,h⟩:=RO.bH h;injection h with h
  subst h;rfl
 split at h
 ·unfold la at h
  exact yR
 split at h
 ·unfold lg at h
  obtain⟨_,_,h⟩:=RO.bM h;obtain⟨_,h⟩:=RO.bH h;obtain⟨_,h⟩:=RO.bH h;obtain⟨_,_,h⟩:=RO.bM h;injection h with h
  subst h;rfl
 split at h
 ·unfold lh at h
  obtain⟨_,_,h⟩:=RO.bM h;obtain⟨_,h⟩:=RO.bH h;obtain⟨_,h⟩:=RO.bH h;obtain⟨_,h⟩:=RO.bH h;injection h with h
  subst h;rfl
 split at h
 ·obtain⟨_,_,h⟩:=RO.bM h
  injection h with h
  subst h;rfl
 split at h
 ·unfold li at h
  obtain⟨_,_,h⟩:=RO.bM h;obtain⟨_,_,h⟩:=RO.bM h;obtain⟨_,h⟩:=RO.bH h;obtain⟨_,_,h⟩:=RO.bM h;injection h with h
  subst h;rfl
 split at h
 ·unfold lj at h
  obtain⟨_,_,h⟩:=RO.bM h;obtain⟨_,_,h⟩:=RO.bM h;obtain⟨_,h⟩:=RO.bH h;injection h with h
  subst h;rfl
 split at h
 ·unfold ll at h
  obtain⟨_,h⟩:=RO.bH h;exact yR
 injection h with h
 subst h;rfl
def RO.To {α β:Type} (φ:α->β) (r:RO α) (r':RO β):Prop:=∀a,r=.ok a->r'=.ok (φ a)
def RO.Nz {α:Type} (r:RO α):Prop:=∀a,r≠.bad 0 a
section
variable {α β γ δ:Type} {φ:α->β} {ψ:γ->δ} {r:RO α} {r':RO β}
theorem RO.To.ok {a:α}:RO.To φ (.ok a) (.ok (φ a)):=λb h=>by injection h with h;rw[h]
theorem RO.To.rfl {r:RO α}:RO.To (λa=>a) r r:=λ_ h=>h
theorem RO.To.bind {f:α->RO γ} {c:β->RO δ} (h:RO.To φ r r') (e:∀a,r=.ok a->RO.To ψ (f a) (c (φ a))):RO.To ψ (r.bind f) (r'.bind c):=λb c=>by
 obtain⟨a,d,c⟩:=RO.bM c;rw[h a d];exact e a d b c
theorem RO.To.ap {b b':Bool} {c a d e:Int} (f:b=true->b'=true) (h:b=true->RO.To φ r r'):RO.To φ (RO.ap b c a r) (RO.ap b' d e r'):=λe c=>by
 obtain⟨d,c⟩:=RO.bH c;rw[f d];exact h d e c
theorem RO.To.ite {a:Prop} [Decidable a] {b:RO α} {c:RO β} (h:a->RO.To φ r r') (d:¬a->RO.To φ b c):RO.To φ (if a then r else b) (if a then r' else c):=by
 by_cases b:a
 ·rw[if_pos b,if_pos b];exact h b
 rw[if_neg b,if_neg b];exact d b
theorem RO.Nz.ok {a:α}:(RO.ok a).Nz:=λb h=>by cases h
theorem RO.Nz.bind {f:α->RO γ} (h:r.Nz) (c:∀a,(f a).Nz):(r.bind f).Nz:=by
 cases r with
 |ok a=>exact c a
 |bad e a=>exact λb d=>h b (by injection d with h1 h2;rw[h1,h2])
theorem RO.Nz.ap {b:Bool} {c a:Int} (k:r.Nz) (h:c≠0:=by decide):(RO.ap b c a r).Nz:=by
 unfold RO.ap;split
 ·exact k
 exact λc d=>h (by injection d)
theorem RO.Nz.ite {a:Prop} [Decidable a] {b:RO α} (h:r.Nz) (c:b.Nz):(if a then r else b).Nz:=by split<;>assumption
end
theorem ob (at_:Int) (a:List At) (b:av):(cC at_ a b).Nz:=.ap .ok
theorem tL (at_:Int) (a:List At):∀(b:bk) (c:List Int),(dc at_ a c b).Nz
 |[],_=>.ok
 |_::b,_=>(ob _ _ _).bind λ_=>.ap (tL at_ a b _)
theorem pP (a:List Tb) (at_:Int) (b:av):(df a at_ b).Nz:=.ap .ok
theorem rC (b:List Tb) (at_:Int) (c a:av):(fu b at_ c a).Nz:=(pP _ _ _).bind λ_=>(ob _ _ _).bind λ_=>.ok
theorem yS (a:List At) (at_:Int):∀(b:List cL) (c:List Wg),(eR a at_ c b).Nz
 |[],_=>.ok
 |_::b,_=>RO.Nz.bind (show(mg _ _ _).Nz from(ob _ _ _).bind λ_=>.ap (.ap (.ap .ok))) λ_=>yS a at_ b _
theorem yT (a:List At) (at_:Int):∀(b:List du) (c:List Fx),(eS a at_ c b).Nz
 |[],_=>.ok
 |_::b,_=>(ob _ _ _).bind λ_=>.ap (.ap (.ap (yT a at_ b _)))
theorem yU {at_:Int} {b:dl->RO (Sd×Int)} (c:∀a,(b a).Nz) (a:dl):(hW at_ b a).Nz:=.ite (.ap .ok) (c a)
theorem tM {at_:Int} {c:dl->RO (Sd×Int)} (a:∀d,(c d).Nz):∀(b:List bv) (d:List cF),(eL at_ c d b).Nz
 |[],_=>.ok
 |_::b,_=>RO.Nz.bind (show(hY _ _ _).Nz from .ap ((yU a _).bind λ_=>(yU a _).bind λ_=>.ap (.ap .ok))) λ_=>tM a b _
theorem yV (b:List Tb) (at_:Int):∀(a:List Vr) (c:List (ByteArray×Int)),(fG b at_ c a).Nz
 |[],_=>.ok
 |_::a,_=>.ap ((pP _ _ _).bind λ_=>yV b at_ a _)
theorem rD (at_:Int) (a:List At) (b:av):(em at_ a b).Nz:=.ap .ok
theorem tO (at_:Int) (c:List At):∀(b:bk) (d:List Int) (a:List At),(fH at_ c d a b).Nz
 |[],_,_=>.ok
 |_::b,_,_=>(rD _ _ _).bind λ_=>.ap (tO at_ c b _ _)
theorem tP (at_:Int) (b:List At):∀(a r:List At),(hZ at_ b r a).Nz
 |[],_=>.ok
 |_::a,_=>.ite (tP at_ b a _) (.ap (tP at_ b a _))
theorem If (a:List Tb) (b:Int) (c:av) (d:List bv) (e:bk) (f g:av) (i at_:Int) (j:List Pl):(cq a b c d e f g i at_ j).Nz:=
 .ap<|.ite ((pP _ _ _).bind λ_=>.ok)<|.ite (.ap ((tM (λ_=>.ap ((rD _ _ _).bind λ_=>.ok)) _ _).bind λ_=>.ok))<|.ite ((tO _ _ _ _ _).bind λ_=>.ok)<|
  .ite ((tP _ _ _ _).bind λ_=>.ap .ok)<|.ite (.ap .ok)<|.ite ((rD _ _ _).bind λ_=>.ap (.ap .ok))<|
   (tO _ _ _ _ _).bind λ_=>.ap (RO.Nz.bind (.ite (.ap .ok) ((rD _ _ _).bind λ_=>.ap .ok)) λ_=>.ap .ok)
mutual
theorem yW (a:List Tb):∀b:Ex,(fg a b).Nz
 |.mk _ _ kids _ _ _ _ _ _=>by
  rw[fg];exact(yX a kids).bind λ_=>.ap ((If _ _ _ _ _ _ _ _ _ _).bind λ_=>.ok)
theorem yX (a:List Tb):∀b:List Ex,(dY a b).Nz
 |[]=>by rw[dY];exact .ok
 |e::es=>by
  rw[dY];exact(yW a e).bind λ_=>(yX a es).bind λ_=>.ok
end
theorem yY (a:List Tb) (b:aE) (c:Int):(gB a b c).Nz:=(pP _ _ _).bind λ_=>.ap ((tL _ _ _ _).bind λ_=>.ok)
theorem Ig (a:Su) (b:aE):(ci a b).Nz:=
 .ite (.ap (.ap .ok))<|.ite ((rC _ _ _ _).bind λ_=>RO.Nz.bind (.ite .ok (.ite (.ap .ok) (.ite (.ap .ok) (λa c=>by cases c)))) λ_=>.ok)<|
  .ite ((pP _ _ _).bind λ_=>.ap (.ap ((yS _ _ _ _).bind λ_=>.ok)))<|.ite ((rC _ _ _ _).bind λ_=>.ap (.ap (.ap .ok)))<|
  .ite ((yY _ _ _).bind λ_=>.ok)<|.ite ((yY _ _ _).bind λ_=>(ob _ _ _).bind λ_=>.ap ((yT _ _ _ _).bind λ_=>.ok))<|
  .ite ((rC _ _ _ _).bind λ_=>(rC _ _ _ _).bind λ_=>.ap .ok)<|
  .ite (.ap ((yV _ _ _ _).bind λ_=>(tM (λ_=>.ap ((ob _ _ _).bind λ_=>.ok)) _ _).bind λ_=>.ok))<|.ite ((yW _ _).bind λ_=>.ok) .ok
def kR (a b:List At):Prop:=∀c,0<=bt a c->bt b c=bt a c/\(cE b (bt a c)).kind=(cE a (bt a c)).kind
def fM (g:ByteArray->ByteArray) (a:av):ByteArray:=if a=e0 then e0 else g a
structure m4 (g:ByteArray->ByteArray) (T U:List Tb):Prop where
 f:∀s,0<=cA T s->cA U (g s)=cA T s
 f2:∀s,0<=cA T s->cA U (fM g s)=cA T s
 c:∀t:Int,0<=t/\t<T.length->kR (co T t).attrs (co U t).attrs
mutual
def jf (g:ByteArray->ByteArray):Ex->Ex
 |.mk kind table kids conds names attr cN agg at_=>.mk kind (if kind=1 then g table else table) (hE g kids) conds names attr cN agg at_
def hE (g:ByteArray->ByteArray):List Ex->List Ex
 |[]=>[]
 |e::l=>jf g e::hE g l
end
def cZ (g:ByteArray->ByteArray) (x:aE):aE:=
 {x with name:=if x.kind=1 then g x.name else x.name,table:=fM g x.table,other:=fM g x.other,vars:=x.vars.map λa=>{a with table:=g a.table},expr:=jf g x.expr}
section
variable {a b:List At} {at_:Int}
theorem yZ {b:av} {c:Int} (h:cC at_ a b=.ok c):0<=bt a b/\c=bt a b:=by
 unfold cC at h;obtain⟨d,h⟩:=RO.bH h;injection h with h
 exact⟨of_decide_eq_true d,h.symm⟩
theorem oc (h:kR a b) (c:av):RO.To (λd=>d) (cC at_ a c) (cC at_ b c):=λd f=>by
 obtain⟨e,rfl⟩:=yZ f;unfold cC;rw[(h c e).1,decide_eq_true e];rfl
theorem rE (h:kR a b) {d:av} {c:Int} (e:cC at_ a d=.ok c):(cE b c).kind=(cE a c).kind:=by
 obtain⟨f,rfl⟩:=yZ e;exact(h d f).2
theorem y0 (h:kR a b):∀(c:bk) (d:List Int),RO.To (λe=>e) (dc at_ a d c) (dc at_ b d c)
 |[],_=>.rfl
 |s::c,_=>(oc h s).bind λ_ _=>.ap id λ_=>y0 h c _
theorem y2 (h:kR a b):∀(d:List cL) (e:List Wg),RO.To (λc=>c) (eR a at_ e d) (eR b at_ e d)
 |[],_=>.rfl
 |y::d,_=>RO.To.bind (φ:=λc=>c) (show RO.To (λc=>c) (mg a at_ y) (mg b at_ y)from(oc h _).bind λc c=>.ap id λ_=>.ap id λ_=>.ap (λe=>by rw[rE h c];exact e) λ_=>.rfl) λ_ _=>y2 h d _
theorem y3 (h:kR a b):∀(c:List du) (d:List Fx),RO.To (λe=>e) (eS a at_ d c) (eS b at_ d c)
 |[],_=>.rfl
 |f::c,_=>(oc h _).bind λe d=>.ap id λ_=>.ap id λ_=>.ap (λe=>by rw[rE h d];exact e) λ_=>y3 h c _
theorem y4 {c g:dl->RO (Sd×Int)} (h:∀b,RO.To (λa=>a) (c b) (g b)):∀(d:List bv) (e:List cF),RO.To (λa=>a) (eL at_ c e d) (eL at_ g e d)
 |[],_=>.rfl
 |a::d,_=>RO.To.bind (φ:=λa=>a) (show RO.To (λa=>a) (hY at_ c a) (hY at_ g a)from .ap id λ_=>
  have a:∀b,RO.To (λa=>a) (hW at_ c b) (hW at_ g b):=λb=>.ite (λ_=>.rfl) (λ_=>h b)
  (a _).bind λ_ _=>(a _).bind λ_ _=>.rfl) λ_ _=>y4 h d _
end
section
variable {T U:List Tb} {g:ByteArray->ByteArray} {at_:Int} (h:m4 g T U)
include h
theorem y5 (a:av):RO.To (λb=>b) (df T at_ a) (df U at_ (g a)):=λb b=>by
 unfold df at*;obtain⟨c,b⟩:=RO.bH b;rw[h.f a (of_decide_eq_true c),c];exact b
theorem tR (a:av):RO.To (λb=>b) (df T at_ a) (df U at_ (fM g a)):=λb b=>by
 unfold df at*;obtain⟨c,b⟩:=RO.bH b;rw[h.f2 a (of_decide_eq_true c),c];exact b
theorem rF (b a:av):RO.To (λd=>d) (fu T at_ b a) (fu U at_ (fM g b) a):=
 (tR h b).bind λ_ b=>(oc (h.c _ (je b)) a).bind λd d=>λe e=>by
  rw[rE (h.c _ (je b)) d];exact e
theorem y6 (a:aE) (b:Int) (e:a.kind≠1):RO.To (λf=>f) (gB T a b) (gB U (cZ g a) b):=by
 have i:(cZ g a).name=a.name:=if_neg e;show RO.To _ _ ((df U a.at_ (fM g a.table)).bind λd=>RO.ap (decide (0<a.names.length)) 1 a.at_<|(dc a.at_ (co U d).attrs [] a.names).bind λe=>.ok {Ru.zero with kind:=b,name:=(cZ g a).name,table:=d,cH:=e});rw[i];exact(tR h _).bind λ_ a=>.ap id λ_=>(y0 (h.c _ (je a)) _ _).bind λ_ _=>.rfl
omit h in
theorem y7 {b:aE} {c:Int} {r:Ru} (a:gB T b c=.ok r):0<=r.table/\r.table<T.length:=by
 unfold gB at a;obtain⟨b,d,a⟩:=RO.bM a;obtain⟨_,a⟩:=RO.bH a;obtain⟨_,_,a⟩:=RO.bM a;injection a with a
 rw[<-a];exact je d
theorem y8:∀(a:List Vr) (b:List (ByteArray×Int)),RO.To (λc=>c) (fG T at_ b a) (fG U at_ b (a.map λv=>{v with table:=g v.table}))
 |[],_=>.rfl
 |v::a,_=>.ap id λ_=>(y5 h _).bind λ_ _=>y8 a _
omit h in
theorem y9:∀(e:List Vr) (d r:List (ByteArray×Int)),fG T at_ d e=.ok r->(∀b∈d,0<=b.2/\b.2<T.length)->∀b∈r,0<=b.2/\b.2<T.length
 |[],d,r,a,hl=>by
  rw[fG]at a;injection a with a
  rw[<-a];exact hl
 |v::e,d,r,a,hl=>by
  rw[fG]at a;obtain⟨_,a⟩:=RO.bH a;obtain⟨d,f,a⟩:=RO.bM a;refine y9 e _ r a (λb c=>?_);rcases hD c with c|c
  ·exact hl b c
  rw[c];exact je f
theorem Ih {b:List (ByteArray×Int)} (j:∀a∈b,0<=a.2/\a.2<T.length) (d:dl):RO.To (λk=>k) (gC T at_ b d) (gC U at_ b d):=by
 unfold gC;refine .ap id λe=>?_;have f:kR (co T ((b[(ce (λa:ByteArray×Int=>decide (a.1=d.var)) b).toNat]?).getD (e0,0)).2).attrs (co U ((b[(ce (λa:ByteArray×Int=>decide (a.1=d.var)) b).toNat]?).getD (e0,0)).2).attrs:=by
  refine h.c _ ?_;rcases kZ (λa:ByteArray×Int=>decide (a.1=d.var)) b with⟨_,l⟩|⟨q,g,m,_⟩
  ·rw[List.any_eq_true]at e
   obtain⟨a,n,i⟩:=e;obtain⟨o,p,rfl⟩:=List.mem_iff_getElem.1 n;rw[l o p]at i;cases i
  rw[m,Int.toNat_natCast,List.getElem?_eq_getElem g];exact j _ (List.getElem_mem g)
 exact(oc f _).bind λa a=>λb b=>by
  rw[rE f a];exact b
theorem Ii (l:∀a:Int,0<=a/\a<T.length->(co U a).attrs.map fe=(co T a).attrs.map fe) (b:Int) (c:av) (d:List bv) (e:bk) (f i:av) (j:Int) (k:List Pl):
 RO.To (λm=>m) (cq T b c d e f i j at_ k) (cq U b (if b=1 then g c else c) d e f i j at_ k):=by
 unfold cq;refine .ap id λ_=>.ite (λb=>?_) (λ_=>.rfl);rw[if_pos b];exact(y5 h _).bind λa b=>λc c=>by rw[l a (je b)];exact c
end
mutual
theorem za {T U:List Tb} {g:ByteArray->ByteArray} (h:m4 g T U) (b:∀a:Int,0<=a/\a<T.length->(co U a).attrs.map fe=(co T a).attrs.map fe):∀a:Ex,RO.To (λc=>c) (fg T a) (fg U (jf g a))
 |.mk _ _ kids _ _ _ _ _ _=>by
  rw[fg,jf,fg];exact(zb h b kids).bind λ_ _=>.ap id λ_=>(Ii h b _ _ _ _ _ _ _ _).bind λ_ _=>.rfl
theorem zb {T U:List Tb} {g:ByteArray->ByteArray} (h:m4 g T U) (b:∀a:Int,0<=a/\a<T.length->(co U a).attrs.map fe=(co T a).attrs.map fe):∀a:List Ex,RO.To (λc=>c) (dY T a) (dY U (hE g a))
 |[]=>by rw[hE,dY,dY];exact .rfl
 |e::es=>by
  rw[dY,hE,dY];exact(za h b e).bind λ_ _=>(zb h b es).bind λ_ _=>.rfl
end
theorem Ij {T U:List Tb} {g:ByteArray->ByteArray} (h:m4 g T U) {a:aE} (d:a.kind≠1) (e:a.kind≠10) {b:Su} (f:b.tabs=T) (q:List Qy):
 RO.To (λi=>{i with tabs:=U,queries:=q}) (ci b a) (ci {b with tabs:=U,queries:=q} (cZ g a)):=by
 subst f;have b:(cZ g a).name=a.name:=if_neg d;unfold ci;refine .ite (λ_=>?_) λ_=>.ite (λ_=>?_) λ_=>.ite (λ_=>?_) λ_=>.ite (λ_=>?_) λ_=>.ite (λ_=>?_) λ_=>.ite (λ_=>?_) λ_=>.ite (λ_=>?_) λ_=>.ite (λ_=>?_) λ_=>.ite (λh=>absurd h e) λ_=>.ok
 ·unfold me
  rw[b];exact .ap id λ_=>.ap id λ_=>.ok
 ·unfold la
  rw[b];exact(rF h _ _).bind λe _=>RO.To.bind (φ:=λe=>e) .rfl λ_ _=>.ok
 ·unfold lg
  rw[b];exact(tR h _).bind λe e=>.ap id λ_=>.ap id λ_=>(y2 (h.c _ (je e)) _ _).bind λ_ _=>.ok
 ·unfold lh
  exact(rF h _ _).bind λe _=>.ap id λ_=>.ap id λ_=>.ap id λ_=>.ok
 ·unfold oQ
  exact(y6 h a 1 d).bind λ_ _=>.ok
 ·unfold li
  exact(y6 h a 2 d).bind λr d=>(oc (h.c _ (y7 d)) _).bind λe _=>.ap id λ_=>(y3 (h.c _ (y7 d)) _ _).bind λ_ _=>.ok
 ·unfold lj
  rw[b];exact(rF h _ _).bind λd _=>(rF h _ _).bind λq _=>.ap id λ_=>.ok
 unfold ll;rw[b];refine .ap (λj=>?_) λ_=>(y8 h _ _).bind λb b=>(y4 (Ih h (y9 _ _ _ b (λb k=>by cases k))) _ _).bind λ_ _=>.ok;show(aY ((a.vars.map _).length:Int) 1 3&&_)=true;rw[List.length_map];exact j
theorem Ik {T U:List Tb} {g:ByteArray->ByteArray} (h:m4 g T U) {b:aE} (j:b.kind=10->∀e:Int,0<=e/\e<T.length->(co U e).attrs.map fe=(co T e).attrs.map fe) (f:b.kind≠1) {a:Su} (i:a.tabs=T):
 RO.To (λc=>{c with tabs:=U}) (ci a b) (ci {a with tabs:=U} (cZ g b)):=by
 by_cases d:b.kind=10
 ·subst i
  have k:(cZ g b).name=b.name:=if_neg f;have e:∀(a:Su) (e:aE),e.kind=10->ci a e=j7 a e:=λa e l=>by unfold ci;simp[l]
  rw[e a b d,e _ (cZ g b) d];unfold j7;rw[k];exact(za h (j d) _).bind λ_ _=>.ok
 intro c b;have e:=Ie d b;have e:({c with tabs:=U}:Su)={c with tabs:=U,queries:=a.queries}:=by rw[<-e]
 show ci _ _=RO.ok ({c with tabs:=U}:Su);rw[e];exact Ij h f d i a.queries c b
theorem lQ:∀(c:List ((Int×Int)×aE)) (b:Su) (d:List (Int×Int)),(dg b d c).2=[]->d=[]
 |[],b,d,h=>by rw[dg]at h;exact h
 |(g,x)::c,b,d,h=>by
  rw[dg]at h;split at h
  ·cases hp:ci b x with
   |ok e=>rw[hp]at h;exact lQ c e d h
   |bad e a=>
    rw[hp]at h;dsimp only at h;split at h
    ·exact lQ c b d h
    exact absurd (lQ c b _ h) aj
  exact absurd (lQ c b _ h) aj
theorem tS {T U:List Tb} {g:ByteArray->ByteArray} (h:m4 g T U) (e:∀d:Int,0<=d/\d<T.length->(co U d).attrs.map fe=(co T d).attrs.map fe):∀(c:List ((Int×Int)×aE)) (b:Su),b.tabs=T->(dg b [] c).2=[]->
 dg {b with tabs:=U} [] (c.map λd=>(d.1,cZ g d.2))=({(dg b [] c).1 with tabs:=U},[])
 |[],b,hs,hf=>by rw[dg,List.map_nil,dg]
 |(k,x)::c,b,hs,hf=>by
  rw[List.map_cons,dg];rw[dg]at hf⊢;dsimp only at hf⊢;by_cases f:k.1=0
  case neg=>
   rw[if_neg f]at hf;exact absurd (lQ _ _ _ hf) aj
  rw[if_pos f]at hf⊢;rw[if_pos f];by_cases i:x.kind=1
  ·have d:∀(b:Su) (d:aE),d.kind=1->ci b d=.ok b:=λb d f=>by unfold ci;simp[f]
   rw[d b x i]at hf⊢;rw[d _ (cZ g x) i];exact tS h e c b hs hf
  cases hp:ci b x with
  |ok j=>
   rw[hp]at hf;rw[Ik h (λ_=>e) i hs j hp];exact tS h e c j ((rv hp).tabs.trans hs) hf
  |bad l a=>
   rw[hp]at hf;dsimp only at hf;by_cases j:l=0
   ·subst j
    exact absurd hp (Ig b x a)
   rw[if_neg j]at hf;exact absurd (lQ _ _ _ hf) aj
end Go.Proofs.YteamkimbmdgdbaaGreatDoor
