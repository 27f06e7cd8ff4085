import Derived.Test.YteamkimbmdgdbaaGreatDoorK26
import Derived.Test.YteamkimbmdgdbaaGreatDoorK27
set_option linter.unusedSimpArgs false
set_option linter.unusedVariables false
set_option maxHeartbeats 16000000
set_option maxRecDepth 100000
namespace Go.Proofs.YteamkimbmdgdbaaGreatDoor
open Go.Proofs.Tryz
open Go.RowKit
theorem lK.tabs {g:ah} {X k l:Nat} {o:Nat->Prop} {d:List RT} {u:ce} {m:Int} (f:lK g X k l o d u m) (o:d.length<=1000):
 ∃h:Hd,h.n=d.length/\bI g h d/\(∀i,i<l->g0 i d)/\(∀c∈d,∀d∈c.ra,gX d)/\
  aa g X 157 #[h.val,ab,ab,ab,ab,ab,ab,.map (some k),m]:=by
 obtain⟨h,p,j,e⟩:=f;have d:=e.nest _ (List.mem_singleton.2 rfl);refine⟨h,j,⟨cJ (h:=h) RT.FM j.symm (by rw[j];omega) (e.own _ (List.mem_singleton.2 rfl)),λc g=>(d c g).a⟩,λi g c g i j k l=>?_,λc g=>(d c g).b,e.bx⟩;have c:=(e.lt i ((d c g).ik i j k).1).1;omega
theorem g0.next {X a:Nat} {b c:List RT} (i:g0 X b) (j:iY a b c) (b:X<a):g0 X c:=λd k e f g=>by
 rcases j d k with h|h
 ·exact i d h e f g
 have:=h e f g;omega
theorem Hv {a:List Tb} {b:Cg} {c:List Cg} (h:dz a b=0):gh a (b::c)=gh (gO a b) c:=by
 rw[gh,if_pos h]
theorem Hw {a:List Tb} {b:Cg} {cs:List Cg} (h:dz a b≠0):gh a (b::cs)=.bad (dz a b) (-1):=by
 rw[gh,if_neg h]
def mS (a:List Tb) (b:Nat):Prop:=∀c∈a,∀a∈c.attrs,a.was.length<=b
theorem mS.apply {S:List Tb} {d:Cg} {n:Nat} (l:mS S n) (h:dz S d=0):mS (gO S d) (n+1):=by
 obtain⟨p,z,m,q,r,A,s,B⟩:=te h;intro z t b a;obtain⟨e,o,rfl⟩:=List.mem_iff_getElem.1 t;have f:e<S.length:=by rw[th]at o;exact o
 rw[yq q r e f]at a;by_cases g:m=e
 ·rw[if_pos g]at a
  subst g;have c:=l _ (List.getElem_mem f);have u:d.kind≠1->0<=bu S[m].attrs d.attr:=λd=>by have:=s d;omega
  rcases yr p u with⟨_,i⟩|⟨v,w,x,i,_,y⟩
  ·rw[i]at a
   simp only[List.mem_append,List.mem_singleton]at a;rcases a with a|rfl
   ·have:=c b a;omega
   simp
  rw[i]at c;have d:=c w aj;have j:=λd (e:d∈v)=>c d (by simp[e]);have k:=λd (e:d∈x)=>c d (by simp[e]);rcases y with⟨_,hA2⟩|⟨_,hA2⟩|⟨_,hA2⟩
  ·rw[hA2]at a
   simp only[List.mem_append]at a;rcases a with a|a
   ·have:=j b a;omega
   have:=k b a;omega
  ·rw[hA2]at a
   simp only[List.mem_append,List.mem_cons]at a;rcases a with a|rfl|a
   ·have:=j b a;omega
   ·simp;omega
   have:=k b a;omega
  rw[hA2]at a;simp only[List.mem_append,List.mem_cons]at a;rcases a with a|rfl|a
  ·have:=j b a;omega
  ·simp;omega
  have:=k b a;omega
 rw[if_neg g]at a;have:=l _ (List.getElem_mem f) b a;omega
theorem Hx {a:List RT} {S:List Tb} {b:Nat} (c:a.map RT.tb=S) (d:mS S b) (e:b<=1000000):cL a:=by
 intro a b e f;have:=d a.tb (by rw[<-c];exact List.mem_map_of_mem b) e.at_ (List.mem_map_of_mem f);omega
def lP (a:List Tb) (b:Nat):Prop:=∀c∈a,c.attrs.length<=b
theorem lP.apply {S:List Tb} {a:Cg} {n:Nat} (g:lP S n) (h:dz S a=0):lP (gO S a) (n+1):=by
 obtain⟨k,s,i,l,m,t,o,u⟩:=te h;intro s p;obtain⟨b,j,rfl⟩:=List.mem_iff_getElem.1 p;have c:b<S.length:=by rw[th]at j;exact j
 rw[yq l m b c];by_cases d:i=b
 ·rw[if_pos d]
  subst d;have e:=g _ (List.getElem_mem c);have q:a.kind≠1->0<=bu S[i].attrs a.attr:=λa=>by have:=o a;omega
  rcases yr k q with⟨_,f⟩|⟨v,w,x,f,_,r⟩
  ·rw[f]
   simp;exact e
  rw[f]at e;simp at e;rcases r with⟨_,hA2⟩|⟨_,hA2⟩|⟨_,hA2⟩<;>(rw[hA2];simp;omega)
 rw[if_neg d];have:=g _ (List.getElem_mem c);omega
theorem tn (e:Int):∀(b:List cZ) (d a:List At),gg e d b=.ok a->a.length=d.length+b.length
 |[],d,a,h=>by
  rw[gg]at h;injection h with h
  simp[h]
 |c::b,d,a,h=>by
  rw[gg]at h;unfold RO.ap at h;split at h
  ·split at h
   ·split at h
    ·split at h
     ·have:=tn e b _ a h
      simp at this;simp;omega
     cases h
    cases h
   cases h
  cases h
theorem Hy {d:List Tb} {a:aB} {b:Tb} (h:eP d a=.ok b):b.attrs.length<=12:=by
 unfold eP RO.ap at h;split at h
 ·rename_i e
  cases hc:gg a.at_ [] a.cQ with
  |bad c f=>rw[hc]at h;cases h
  |ok c=>
   rw[hc]at h;simp only[RO.bind]at h;split at h
   ·cases hk:dA a.at_ c [] a.names with
    |bad f g=>rw[hk]at h;cases h
    |ok f=>
     rw[hk]at h;injection h with h
     subst h;have:=tn _ _ _ _ hc;simp[aY]at e this;show c.length<=12;omega
   cases h
 cases h
theorem yy:∀(c:List aB) (a:List Tb) (d:ce) (e:List (Int×Int)),lP a 12->lP (cI a d e c).1 12
 |[],a,d,e,h=>by rw[cI];exact h
 |x::c,a,d,e,h=>by
  rw[s0];refine yy c _ _ _ ?_;unfold gl;split
  ·exact h
  split
  ·cases ht:eP a x with
   |ok g=>
    intro f b;rcases cP b with b|b
    ·exact h f b
    rw[aC b];exact Hy ht
   |bad b f=>exact h
  exact h
theorem HA {a:List RT} {b c:Nat} (d:mS (a.map RT.tb) b) (e:lP (a.map RT.tb) c) (f:b<=1000000) (g:c<=10000):lB (a.map RT.tb):=λa b=>⟨bJ (e a b) g,λc e=>bJ (d a b c e) f⟩
def L2 (w a:ah) (hv:aA) (d:List (Int×Int)) (e:List Tb) (cs:List Cg) (c:Nat):Prop:=∃(h:Hd) (b:List RT) (f:Int),ag w a/\aa a w.heap.size 24 #[hv]/\aa a (w.heap.size+1) 37 b9/\
 aa a (w.heap.size+1+1+1+1) 154 #[ak (w.heap.size+1+1+1)]/\fk a (w.heap.size+1+1+1+1+1) d/\
 aa a (w.heap.size+1+1+1) 157 #[h.val,ab,ab,ab,ab,ab,ab,.map (some (w.heap.size+1+1)),f]/\
 bI a h b/\(∀a,a<w.heap.size+1+1+1+1+1+1->g0 a b)/\mS (b.map RT.tb) c/\lP (b.map RT.tb) (12+c)/\gh e cs=gh (b.map RT.tb) (cs.drop c)
theorem HB {d e:ah} {hv:aA} {a:List RI} {cs:List Cg} (l:L1 d e hv a a.length) (f:a.length<=200):∃(b:List (Int×Int)) (g:List Tb),b.length=a.length/\cI [] [] [] (a.map RI.it)=(g,b)/\L2 d e hv b g cs 0:=by
 obtain⟨i,b,x,y,m,sm,n,o,p,q,r,z,s,j⟩:=l;obtain⟨h,l,d,e,t,g⟩:=s.tabs af;refine⟨b,i.map RT.tb,r,by rw[j];simp[cI],h,i,m,sm,n,o,p,by simpa using q,g,d,e,λb c d u=>?_,?_,by simp⟩;rotate_left
 ·have k:=yy (a.map RI.it) [] [] [] (λb c=>by cases c)
  rw[j]at k;simpa[cI]using k
 obtain⟨k,v,rfl⟩:=List.mem_map.1 c;obtain⟨w,f,rfl⟩:=List.mem_map.1 u;exact Nat.le_of_eq (by rw[(t k v w f).2];rfl)
theorem HG {a b m e:ah} {hv:aA} {s:List (Int×Int)} {t:List Tb} {cs:List Cg} {f:Nat} {n:Cg} {h g:Hd} {c k:List RT} {o:Int} (z:cs[f]?=some n) (q:dz (c.map RT.tb) n=0) (sm:ag a b) (A:aa b a.heap.size 24 #[hv]) (B:aa b (a.heap.size+1) 37 b9)
 (C:aa b (a.heap.size+1+1+1+1) 154 #[ak (a.heap.size+1+1+1)]) (v:fk b (a.heap.size+1+1+1+1+1) s)
 (w:aa b (a.heap.size+1+1+1) 157 #[h.val,ab,ab,ab,ab,ab,ab,.map (some (a.heap.size+1+1)),o])
 (D:∀i,i<a.heap.size+1+1+1+1+1+1->g0 i c) (E:mS (c.map RT.tb) f) (F:lP (c.map RT.tb) (12+f)) (G:gh t cs=gh (c.map RT.tb) (cs.drop f)) (x:ag b m) (b:ag m e) (H:bI e g k) (r:k.map RT.tb=gO (c.map RT.tb) n) (I:iY m.heap.size c k):
 L2 a (e.setCell (ac (a.heap.size+1+1+1) 0) g.val) hv s t cs (f+1):=by
 have y:=x.trans b;have d:=Kp.aI (l:=[a.heap.size+1+1+1]) (p:=(ac (a.heap.size+1+1+1) 0)) aj (Kp.refl [a.heap.size+1+1+1] e) g.val;have b:=w.lt;have j:=Kp.of_same (l:=[]) y;have rO:=j.blk w aj;have K:nG [.slice none 0 0,.slice none 0 0,.slice none 0 0,.slice none 0 0,.slice none 0 0,.slice none 0 0,.map (some (a.heap.size+1+1))]:=⟨rfl,λb hv b J=>by
  subst J;simp at hv⟩
 have f:jE e (a.heap.size+1+1+1):=gJ.hV (h:=h) (u:=[.slice none 0 0,.slice none 0 0,.slice none 0 0,.slice none 0 0,.slice none 0 0,.slice none 0 0,.map (some (a.heap.size+1+1))]) ⟨o,rO⟩ K;have hF:=aa.lt v;have e:=λi (b:i<a.heap.size+1+1+1+1+1+1)=>(D i b).next I (aV af x.size);have a:∀b,b≠a.heap.size+1+1+1->b∉[a.heap.size+1+1+1]:=λb c a=>c (aC a);refine⟨g,k,o,d.fY (sm.trans y) (λb c=>by rw[aC c];omega),d.blk (j.blk A aj) (a _ af),d.blk (j.blk B aj) (a _ af),d.blk (j.blk C aj) (a _ af),(v.kp j aj).kp d (a _ af),?_,H.iR f (e _ af) d,e,?_,?_,?_⟩
 ·simpa using rO.aR 0 g.val
 ·rw[r]
  exact E.apply q
 ·rw[r]
  exact F.apply q
 obtain⟨a,b⟩:=List.getElem?_eq_some_iff.1 z;rw[G,List.drop_eq_getElem_cons a,b,Hv q,r]
theorem RO.cB {c d:Type} {b:RO c} {e:c->RO d} {c:d} (h:b.bind e=.ok c):∃a,b=.ok a/\e a=.ok c:=by
 cases b with
 |ok a=>exact⟨a,rfl,h⟩
 |bad f a=>cases h
theorem RO.cz {b:Type} {c:Bool} {f a:Int} {d:RO b} {e:b} (h:RO.ap c f a d=.ok e):c=true/\d=.ok e:=by
 unfold RO.ap at h;split at h
 ·rename_i b
  exact⟨b,h⟩
 cases h
inductive hY (s:Su):Su->Prop
 |none:hY s s
 |origin (o:Og) (h:s.origins.length<64):hY s {s with origins:=s.origins++[o]}
 |block (o:Bk):hY s {s with blocks:=s.blocks++[o]}
 |match_ (o:Mt):hY s {s with fr:=s.fr++[o]}
 |keep (o:dV):hY s {s with keeps:=s.keeps++[o]}
 |rule (o:Ru):hY s {s with rules:=s.rules++[o]}
 |query (o:Qy):hY s {s with queries:=s.queries++[o]}
theorem HI {b c:Su} {d:RO Ru} (h:d.bind (li b)=.ok c):hY b c:=by
 obtain⟨a,_,h⟩:=RO.cB h;injection h with h
 subst h;exact .rule a
theorem rk {a b:Su} {x:aB} (h:ch a x=.ok b):hY a b:=by
 unfold ch at h;split at h
 ·unfold lh at h
  obtain⟨c,h⟩:=RO.cz h;obtain⟨_,h⟩:=RO.cz h;injection h with h
  subst h;exact .origin _ (by simpa using c)
 split at h
 ·unfold j1 at h
  obtain⟨a,_,h⟩:=RO.cB h;obtain⟨c,_,h⟩:=RO.cB h;injection h with h
  subst h;exact .block c
 split at h
 ·unfold j2 at h
  obtain⟨a,_,h⟩:=RO.cB h;obtain⟨_,h⟩:=RO.cz h;obtain⟨_,h⟩:=RO.cz h;obtain⟨a,_,h⟩:=RO.cB h;injection h with h
  subst h;exact .match_ _
 split at h
 ·unfold j3 at h
  obtain⟨a,_,h⟩:=RO.cB h;obtain⟨_,h⟩:=RO.cz h;obtain⟨_,h⟩:=RO.cz h;obtain⟨_,h⟩:=RO.cz h;injection h with h
  subst h;exact .keep _
 split at h
 ·exact HI h
 split at h
 ·unfold j4 at h
  obtain⟨a,_,h⟩:=RO.cB h;obtain⟨a,_,h⟩:=RO.cB h;obtain⟨_,h⟩:=RO.cz h;obtain⟨a,_,h⟩:=RO.cB h;injection h with h
  subst h;exact .rule _
 split at h
 ·unfold j5 at h
  obtain⟨a,_,h⟩:=RO.cB h;obtain⟨a,_,h⟩:=RO.cB h;obtain⟨_,h⟩:=RO.cz h;injection h with h
  subst h;exact .rule _
 split at h
 ·unfold j6 at h
  obtain⟨_,h⟩:=RO.cz h;obtain⟨a,_,h⟩:=RO.cB h;obtain⟨ts,_,h⟩:=RO.cB h;injection h with h
  subst h;exact .rule _
 split at h
 ·unfold jn at h
  obtain⟨a,_,h⟩:=RO.cB h;injection h with h
  subst h;exact .query _
 injection h with h
 subst h;exact .none
theorem hY.tabs {s a:Su} (h:hY s a):a.tabs=s.tabs:=by cases h<;>rfl
structure g8 (s:Su) (n:Nat):Prop where
 o:s.origins.length<=64
 b:s.blocks.length<=n
 m:s.fr.length<=n
 k:s.keeps.length<=n
 r:s.rules.length<=n
 q:s.queries.length<=n
theorem g8.add {c d:Su} {n:Nat} (h:g8 c n) (a:hY c d):g8 d (n+1):=by
 obtain⟨b,e,f,g,i,j⟩:=h;cases a with
 |none=>exact⟨b,by omega,by omega,by omega,by omega,by omega⟩
 |origin k l=>exact⟨by simp;omega,by dsimp only;omega,by dsimp only;omega,by dsimp only;omega,by dsimp only;omega,by dsimp only;omega⟩
 |block k=>exact⟨b,by simp;omega,by dsimp only;omega,by dsimp only;omega,by dsimp only;omega,by dsimp only;omega⟩
 |match_ k=>exact⟨b,by dsimp only;omega,by simp;omega,by dsimp only;omega,by dsimp only;omega,by dsimp only;omega⟩
 |keep k=>exact⟨b,by dsimp only;omega,by dsimp only;omega,by simp;omega,by dsimp only;omega,by dsimp only;omega⟩
 |rule k=>exact⟨b,by dsimp only;omega,by dsimp only;omega,by dsimp only;omega,by simp;omega,by dsimp only;omega⟩
 |query k=>exact⟨b,by dsimp only;omega,by dsimp only;omega,by dsimp only;omega,by dsimp only;omega,by simp;omega⟩
theorem g8.second {b:Su} {n:Nat} (h:g8 b n) (x:aB):g8 (iW b x).1 (n+1):=by
 unfold iW;cases hp:ch b x with
 |ok c=>exact h.add (rk hp)
 |bad c a=>exact h.add .none
theorem g8.up {c:Su} {n d:Nat} (h:g8 c n) (a:n<=d):g8 c d:=
 ⟨h.o,bJ h.b a,bJ h.m a,bJ h.k a,bJ h.r a,bJ h.q a⟩
theorem g8.short {x:cd} {tabs:List Tb} {n:Nat} (h:g8 (x.su tabs) n) (g:n<=1000):x.Short 64:=by
 obtain⟨a,b,c,d,e,f⟩:=h;simp only[cd.su,List.length_map]at a b c d e f;exact⟨a,by omega,by omega,by omega,by omega,by omega⟩
theorem aE.pH {f:Type} {w w':ah} {b:Nat} {c:List Nat} {h:Hd} {d:f->List Value} {e:List f} (a:aE w b h d e) (f:∀x∈e,∃g,(d x)[0]?=some (.string g)) (n:∀i∈c,jE w i) (i:Kp c w w'):aE w' b h d e:=by
 refine⟨a.1,a.2.1,λe j=>?_⟩;obtain⟨d,k,o,l,m⟩:=a.2.2 e j;have q:d∉c:=by
  intro c;obtain⟨g,f⟩:=f _ (List.getElem_mem j);exact n _ c _ _ (m 0 _ f)
 exact⟨d,k,o,aV l i.size,λc f hv=>(i.cell (p:=(ac d (k+e*b+c))) l q).trans (m c f hv)⟩
theorem bI.pH {w w':ah} {b:List Nat} {h:Hd} {ts:List RT} (a:bI w h ts) (e:∀c∈b,jE w c) (i:∀c∈b,g0 c ts) (d:Kp b w w'):bI w' h ts:=
 ⟨a.1.pH (λb _=>⟨b.name,rfl⟩) e d,λb c=>⟨⟨(a.2 b c).1.1.pH (λf _=>⟨f.at_.name,rfl⟩) e d,λf g=>⟨⟨((a.2 b c).1.2 f g).1.1.pH (λj _=>⟨j,rfl⟩) e d,((a.2 b c).1.2 f g).1.2⟩,((a.2 b c).1.2 f g).2⟩⟩,
  (a.2 b c).2.1.kp d (λd e f g=>i d g b c d e f rfl),(a.2 b c).2.2⟩⟩
theorem yz:∀(fs:List (Int×Int)) (a:ax),Value.string a∉fs.flatMap d6
 |[],a,h=>by cases h
 |f::fs,a,h=>by
  rw[List.flatMap_cons]at h;rcases cP h with h|h
  ·simp[d6]at h
  exact yz fs a h
theorem fk.hV {w:ah} {a:Nat} {fs:List (Int×Int)} (h:fk w a fs):jE w a:=by
 intro b c a;rw[aa.cell h b]at a;exact yz fs c (List.mem_of_getElem? (by simpa using a))
structure iZ (w W0:ah) (hv:aA) (h:Hd) (ts:List RT) (fs:List (Int×Int)) (m2:Nat):Prop where
 sm:ag w W0
 bP:aa W0 w.heap.size 24 #[hv]
 bS:aa W0 (w.heap.size+1) 37 b9
 bp:aa W0 (w.heap.size+1+1+1+1) 154 #[ak (w.heap.size+1+1+1)]
 fl:fk W0 (w.heap.size+1+1+1+1+1) fs
 bx:∃a:Int,aa W0 (w.heap.size+1+1+1) 157 #[h.val,ab,ab,ab,ab,ab,ab,.map (some (w.heap.size+1+1)),a]
 ta:bI W0 h ts
 ko:∀Y,Y<w.heap.size+1+1+1+1+1+1->g0 Y ts
 fa:lB (ts.map RT.tb)
 mp:cR (.int .i64) W0 m2 mq
 hm:w.heap.size+1+1+1+1+1<m2
structure fm (w W0 W:ah) (h:Hd) (tabs:List Tb) (fl:List (Int×Int)) (n:Nat) (x:cd) (a:Int) (B:Nat->Prop) (out:List (Int×Int)) (hf:Hd):Prop where
 kp:Kp [w.heap.size+1+1+1,w.heap.size+1+1+1+1+1] W0 W
 fl:fk W (w.heap.size+1+1+1+1+1) fl
 ft:x.Fit
 ss:g8 (x.su tabs) n
 wk:cT W (w.heap.size+1+1+1) (w.heap.size+1+1) W0.heap.size B [h.val] [] x.rows false [] [] a
 ow:W.ownsRow W0.heap.size 97 2 hf.val hf.n (out.flatMap d6)
 hn:hf.n=out.length
 nb:∀b,hf.val.ownBlock=some b->¬B b
section
variable {w W0 W W':ah} {hv:aA} {h:Hd} {ts:List RT} {fs fl:List (Int×Int)} {m2 n:Nat} {tabs:List Tb} {x:cd} {a:Int} {B:Nat->Prop} {out:List (Int×Int)} {hf:Hd}
theorem iZ.hV (b:iZ w W0 hv h ts fs m2):∀d∈[w.heap.size+1+1+1,w.heap.size+1+1+1+1+1],jE W0 d:=by
 intro d e;rcases de e with c|c
 ·subst c
  obtain⟨a,d⟩:=b.bx;exact gJ.hV (h:=h) (u:=[.slice none 0 0,.slice none 0 0,.slice none 0 0,.slice none 0 0,.slice none 0 0,.slice none 0 0,.map (some (w.heap.size+1+1))]) ⟨a,d⟩ ⟨rfl,λd hv d b=>by
   subst b;simp at hv⟩
 rw[aC c];exact b.fl.hV
theorem iZ.yA (a:iZ w W0 hv h ts fs m2) (c:Kp [w.heap.size+1+1+1,w.heap.size+1+1+1+1+1] W0 W):bI W h ts:=
 a.ta.pH a.hV (λd e=>a.ko d (by
  rcases de e with b|b
  ·omega
  have:=aC b;omega)) c
theorem iZ.same (e:iZ w W0 hv h ts fs m2) (k:Kp [w.heap.size+1+1+1,w.heap.size+1+1+1+1+1] W0 W):ag w W:=
 k.fY e.sm (λc b=>by
  rcases de b with a|a
  ·omega
  have:=aC a;omega)
theorem rl {a p:Nat} (c:a≠p+1+1+1) (d:a≠p+1+1+1+1+1):a∉[p+1+1+1,p+1+1+1+1+1]:=λe=>by
 rcases de e with b|b
 ·exact c b
 exact d (aC b)
theorem fm.same (s:fm w W0 W h tabs fl n x a B out hf) (k:ag W W'):fm w W0 W' h tabs fl n x a B out hf:=
 ⟨s.kp.trans (Kp.of_same k),s.fl.kp (Kp.of_same (l:=[]) k) aj,s.ft,s.ss,s.wk.kp (Kp.of_same (l:=[]) k) (λc b=>by cases b),aK k s.ow,s.hn,s.nb⟩
theorem fm.up (b:fm w W0 W h tabs fl n x a B out hf) {c:Nat} (d:n<=c):fm w W0 W h tabs fl c x a B out hf:=
 ⟨b.kp,b.fl,b.ft,b.ss.up d,b.wk,b.ow,b.hn,b.nb⟩
theorem fm.start (b:iZ w W0 hv h ts fs m2) (e:w.heap.size+1+1+1+1+1<W0.heap.size):
 ∃a,fm w W0 W0 h tabs fs 0 ⟨aL,aL,aL,aL,aL,aL,[],[],[],[],[],[]⟩ a (λ_=>False) [] aL:=by
 obtain⟨a,g⟩:=b.bx;have d:∀c∈(⟨aL,aL,aL,aL,aL,aL,[],[],[],[],[],[]⟩:cd).rows,c.own=none/\c.cs=[]/\c.h=aL:=by
  intro c d;simp only[cd.rows,List.mem_cons,List.mem_nil_iff,or_false]at d;rcases d with b|b|b|b|b|b<;>(subst b;exact⟨rfl,rfl,rfl⟩)
 refine⟨a,Kp.refl _ _,b.fl,⟨rfl,rfl,rfl,rfl,rfl,rfl⟩,⟨by simp[cd.su],by simp[cd.su],by simp[cd.su],by simp[cd.su],by simp[cd.su],by simp[cd.su]⟩,?_,⟨rfl,.inl ⟨rfl,rfl⟩⟩,rfl,λ_ _ h=>h⟩;exact
 {
  bx:=g,hX:=by omega,hM:=by omega,hb:=Nat.le_refl _,lt:=(λ_ h=>h.elim),na:=(λh=>by cases h),nin:=(λg f=>by cases f),g2:=(λg f=>by cases f)
  own:=λc h=>by
   obtain⟨_,f,g⟩:=d c h;rw[f,g];exact⟨by simp[aL],.inl ⟨rfl,rfl⟩⟩
  fj:=λc h i e=>by rw[(d c h).1]at e;cases e
  one:=λe e c e i e g f g=>by rw[(d c (List.mem_of_getElem? e)).1]at f;cases f
  fine:=λc h=>by
   simp only[cd.rows,List.mem_cons,List.mem_nil_iff,or_false]at h;rcases h with b|b|b|b|b|b<;>subst b
   ·exact xJ _ _
   ·exact xK _ _
   ·exact xM _ _
   ·exact xL _ _
   ·exact xN _ _
   exact xO _ _
  nest:=λc h=>by
   simp only[cd.rows,List.mem_cons,List.mem_nil_iff,or_false]at h;rcases h with b|b|b|b|b|b<;>subst b
   ·trivial
   ·trivial
   ·exact λb j=>by cases j
   ·trivial
   ·exact λb j=>by cases j
   exact λb j=>by cases j}
theorem fm.HJ (b:iZ w W0 hv h ts fs m2) (g:w.heap.size+1+1+1+1+1<W0.heap.size) (b:fm w W0 W h tabs fl n x a B out hf) (d:Nat) (e:Int×Int):
 fm w W0 ((W.setCell (ac (w.heap.size+1+1+1+1+1) (d*2)) e.1).setCell (ac (w.heap.size+1+1+1+1+1) (d*2+1)) e.2) h tabs (fl.set d e) n x a B out hf:=by
 have i:=Kp.aI (l:=[w.heap.size+1+1+1+1+1]) (p:=(ac (w.heap.size+1+1+1+1+1) (d*2+1))) aj (Kp.aI (p:=(ac (w.heap.size+1+1+1+1+1) (d*2))) aj (Kp.refl [w.heap.size+1+1+1+1+1] W) e.1) e.2;have j:∀c,B c->w.heap.size+1+1+1+1+1<c:=λc f=>aV g (b.wk.lt c f).1;refine⟨b.kp.trans (i.mono (λc g=>by rw[aC g];simp)),b.fl.set d e,b.ft,b.ss,b.wk.kp i (λc f=>?_),mN b.ow i (λc f d=>?_),b.hn,b.nb⟩
 ·rw[aC f]
  exact⟨by omega,by omega,λe=>by have:=j _ e;omega⟩
 have b:=(b2 b.ow c f).1;rw[aC d]at b;omega
theorem fm.tp (c:fm w W0 W h tabs fl n x a B out hf) (o:w.heap.size+1+1+1+1+1<W0.heap.size) {g:aB} {o:Int×Int} (r:sZ W (w.heap.size+1+1+1) (w.heap.size+1+1) W0.heap.size B h tabs (x.su tabs) g o W'):
 ∃(f:cd) (i:Int) (j:Nat->Prop),iW (x.su tabs) g=(f.su tabs,o)/\fm w W0 W' h tabs fl (n+1) f i j out hf:=by
 obtain⟨⟨z,k,l⟩,A,j,p,⟨f,i,s,t,u⟩,v⟩:=r;have q:∀b,B b->W0.heap.size<=b:=λb d=>(c.wk.lt b d).1;subst t;refine⟨f,i,j,p,?_,c.fl.kp k (λe=>?_),s,?_,u,mN c.ow k (λb d e=>?_),c.hn,λb d y=>?_⟩
 ·refine k.old c.kp (λb e f=>?_)
  rcases l b e with m|m
  ·rw[m];simp
  have:=q b m;omega
 ·rcases l _ e with m|m
  ·omega
  have:=q _ m;omega
 ·have:=c.ss.second g
  rw[p]at this;exact this
 ·rcases l _ e with m|m
  ·have:=(b2 c.ow b d).1
   omega
  exact c.nb b d m
 rcases v b y with m|m
 ·exact c.nb b d m
 have:=(b2 c.ow b d).2;omega
theorem fm.push (c:fm w W0 W h tabs fl n x a B out hf) (d:w.heap.size+1+1+1+1+1<W0.heap.size) {g:Int×Int} {e:aU} {f:Nat} {i:Obj}
 (q:W'.ownsRow W0.heap.size 97 2 (O e (hf.n+1) f) (hf.n+1) (out.flatMap d6++d6 g)) (d:(W.alloc i).grownBy W' hf.val.ownBlock) (r:(Value.slice e (hf.n+1) f).ownBlock=hf.val.ownBlock\/(Value.slice e (hf.n+1) f).ownBlock=some (W.alloc i).heap.size):
 fm w W0 W' h tabs fl n x a B (out++[g]) ⟨e,hf.n+1,f⟩:=by
 have k:Kp hf.val.ownBlock.toList W W':=((Kp.refl _ W).alloc i).grown d (λb b=>.inl (by rw[b];simp));have j:∀b∈hf.val.ownBlock.toList,hf.val.ownBlock=some b:=λb d=>jB (v:=hf.val) d;refine⟨k.old c.kp (λb d s=>?_),c.fl.kp k (λd=>?_),c.ft,c.ss,c.wk.kp k (λb d=>?_),?_,by simp[c.hn],λb o p=>?_⟩
 ·have:=(b2 c.ow b (j b d)).1
  omega
 ·have:=(b2 c.ow _ (j _ d)).1
  omega
 ·have:=(b2 c.ow b (j b d)).1
  exact⟨by omega,by omega,c.nb b (j b d)⟩
 ·rw[List.flatMap_append,show[g].flatMap d6=d6 g by simp]
  exact q
 rcases r with l|l
 ·exact c.nb b (l▸o) p
 have m:(Value.slice e (hf.n+1) f).ownBlock=some b:=o;rw[l]at m;injection m with m
 have b:=(c.wk.lt b p).2;have b:(W.alloc i).heap.size=W.heap.size+1:=aj
 omega
end
theorem HM (b fs:List (Int×Int)) (a:Nat) (c:Int×Int) (h:b.length=a) (d:a<fs.length):(b++fs.drop a).set a c=(b++[c])++fs.drop (a+1):=by
 subst h;rw[List.set_append_right _ _ (Nat.le_refl _),Nat.sub_self,List.drop_eq_getElem_cons d,List.set_cons_zero,List.append_assoc];rfl
def L3 (w W0 W:ah) (h:Hd) (ts:List RT) (fs:List (Int×Int)) (b:List aB) (i:Nat) (hf:Hd):Prop:=∃(x:cd) (a:Int) (B:Nat->Prop) (c out:List (Int×Int)),
 fm w W0 W h (ts.map RT.tb) (c++fs.drop i) i x a B out hf/\c.length=i/\out.length<=i/\
 dr {Su.zero with tabs:=ts.map RT.tb} [] (fs.zip b)=dr (x.su (ts.map RT.tb)) out ((fs.drop i).zip (b.drop i))
def M3 (w W0 W:ah) (h:Hd) (ts:List RT) (fs:List (Int×Int)) (c:List aB) (i:Nat) (hf:Hd) (b:Int×Int):Prop:=∃(x:cd) (a:Int) (B:Nat->Prop) (d out:List (Int×Int)),
 fm w W0 W h (ts.map RT.tb) ((d++[b])++fs.drop (i+1)) (i+1) x a B out hf/\d.length=i/\out.length<=i/\
 dr {Su.zero with tabs:=ts.map RT.tb} [] (fs.zip c)=dr (x.su (ts.map RT.tb)) (if b.1=0 then out else out++[b]) ((fs.drop (i+1)).zip (c.drop (i+1)))
theorem HU {w W0:ah} {hv:aA} {h:Hd} {ts:List RT} {fs:List (Int×Int)} {m2:Nat} (b:List aB) (c:iZ w W0 hv h ts fs m2) (d:w.heap.size+1+1+1+1+1<W0.heap.size):L3 w W0 W0 h ts fs b 0 aL:=by
 obtain⟨a,b⟩:=fm.start (tabs:=ts.map RT.tb) c d;exact⟨_,a,_,[],[],by simpa using b,rfl,Nat.le_refl _,by simp[cd.su,Su.zero]⟩
theorem yB {fs:List (Int×Int)} {b:List aB} {a:Nat} {c:Int×Int} {d:aB} (e:fs[a]?=some c) (f:b[a]?=some d):(fs.drop a).zip (b.drop a)=(c,d)::(fs.drop (a+1)).zip (b.drop (a+1)):=by
 obtain⟨a,b⟩:=List.getElem?_eq_some_iff.1 e;obtain⟨c,d⟩:=List.getElem?_eq_some_iff.1 f;rw[List.drop_eq_getElem_cons a,List.drop_eq_getElem_cons c,b,d];rfl
theorem L3.skip {w W0 W:ah} {h:Hd} {ts:List RT} {fs:List (Int×Int)} {d:List aB} {i:Nat} {hf:Hd} (l:L3 w W0 W h ts fs d i hf) {b:Int×Int} {e:aB} (f:fs[i]?=some b) (g:d[i]?=some e) (c:b.1≠0\/gI e.kind=none):M3 w W0 W h ts fs d i hf b:=by
 obtain⟨x,a,B,j,out,k,m,n,o⟩:=l;obtain⟨d,p⟩:=List.getElem?_eq_some_iff.1 f;refine⟨x,a,B,j,out,?_,m,n,?_⟩
 ·have:=k.up (Nat.le_succ i)
  rw[List.drop_eq_getElem_cons d,p]at this;simpa using this
 have q:lN (x.su (ts.map RT.tb)) b e=(x.su (ts.map RT.tb),b):=by
  unfold lN;rcases c with c|c
  ·rw[if_neg c]
  rw[c];split<;>rfl
 rw[o,yB f g,xP,q]
theorem M3.next {w W0 W:ah} {h:Hd} {ts:List RT} {fs:List (Int×Int)} {c:List aB} {i:Nat} {hf:Hd} {b:Int×Int} (l:M3 w W0 W h ts fs c i hf b) (e:b.1=0):L3 w W0 W h ts fs c (i+1) hf:=by
 obtain⟨x,a,B,f,out,g,j,k,d⟩:=l;rw[if_pos e]at d;exact⟨x,a,B,f++[b],out,g,by simp[j],by omega,d⟩
theorem M3.tp {w W0 W W':ah} {hv:aA} {h:Hd} {ts:List RT} {fs:List (Int×Int)} {m2:Nat} {d:List aB} {i:Nat} {hf:Hd} {x:cd} {a:Int} {B:Nat->Prop} {c out:List (Int×Int)} (m:iZ w W0 hv h ts fs m2) (g:w.heap.size+1+1+1+1+1<W0.heap.size)
 (l:fm w W0 W h (ts.map RT.tb) (c++fs.drop i) i x a B out hf) (j:c.length=i) (n:out.length<=i) (o:dr {Su.zero with tabs:=ts.map RT.tb} [] (fs.zip d)=dr (x.su (ts.map RT.tb)) out ((fs.drop i).zip (d.drop i)))
 {f b:Int×Int} {e:aB} {v:aA} (k:fs[i]?=some f) (p:d[i]?=some e) (q:f.1=0) (r:gI e.kind=some v) (s:sZ W (w.heap.size+1+1+1) (w.heap.size+1+1) W0.heap.size B h (ts.map RT.tb) (x.su (ts.map RT.tb)) e b W'):
 fk W' (w.heap.size+1+1+1+1+1) (c++fs.drop i)/\ag W0 W0/\Kp [w.heap.size+1+1+1,w.heap.size+1+1+1+1+1] W0 W'/\
 M3 w W0 ((W'.setCell (ac (w.heap.size+1+1+1+1+1) (i*2)) b.1).setCell (ac (w.heap.size+1+1+1+1+1) (i*2+1)) b.2) h ts fs d i hf b:=by
 obtain⟨t,d⟩:=List.getElem?_eq_some_iff.1 k;obtain⟨l,s,u,y,d⟩:=l.tp g s;have g:=d.HJ m g i b;rw[HM c fs i b j t]at g;refine⟨d.fl,ag.refl _,d.kp,l,s,u,c,out,g,j,n,?_⟩;have b:lN (x.su (ts.map RT.tb)) f e=(l.su (ts.map RT.tb),b):=by
  unfold lN;rw[if_pos q,r];exact y
 rw[o,yB k p,xP,b]
theorem M3.same {w W0 W W':ah} {h:Hd} {ts:List RT} {fs:List (Int×Int)} {b:List aB} {i:Nat} {hf:Hd} {c:Int×Int} (l:M3 w W0 W h ts fs b i hf c) (k:ag W W'):M3 w W0 W' h ts fs b i hf c:=by
 obtain⟨x,a,B,d,out,e,f,g,j⟩:=l;exact⟨x,a,B,d,out,e.same k,f,g,j⟩
theorem L3.same {w W0 W W':ah} {h:Hd} {ts:List RT} {fs:List (Int×Int)} {b:List aB} {i:Nat} {hf:Hd} (l:L3 w W0 W h ts fs b i hf) (k:ag W W'):L3 w W0 W' h ts fs b i hf:=by
 obtain⟨x,a,B,c,out,d,e,f,g⟩:=l;exact⟨x,a,B,c,out,d.same k,e,f,g⟩
theorem M3.get {w W0 W:ah} {h:Hd} {ts:List RT} {fs:List (Int×Int)} {c:List aB} {i:Nat} {hf:Hd} {b:Int×Int} (l:M3 w W0 W h ts fs c i hf b):∃fl,fk W (w.heap.size+1+1+1+1+1) fl/\fl[i]?=some b:=by
 obtain⟨x,a,B,f,out,d,e,g,j⟩:=l;exact⟨_,d.fl,by subst e;simp⟩
theorem M3.row {w W0 W:ah} {h:Hd} {ts:List RT} {fs:List (Int×Int)} {f:List aB} {i:Nat} {hf:Hd} {b:Int×Int} (l:M3 w W0 W h ts fs f i hf b) (j:w.heap.size+1+1+1+1+1<W0.heap.size) (k:b.1≠0):
 ∃out:List (Int×Int),W.ownsRow W0.heap.size 97 2 hf.val hf.n (out.flatMap d6)/\hf.n=out.length/\out.length<=i/\∀(d:Obj) (W':ah) (A:aU) (c:Nat),W'.ownsRow W0.heap.size 97 2 (O A (hf.n+1) c) (hf.n+1) (out.flatMap d6++d6 b)->(W.alloc d).grownBy W' hf.val.ownBlock->
  ((Value.slice A (hf.n+1) c).ownBlock=hf.val.ownBlock\/(Value.slice A (hf.n+1) c).ownBlock=some (W.alloc d).heap.size)->L3 w W0 W' h ts fs f (i+1) ⟨A,hf.n+1,c⟩:=by
 obtain⟨x,a,B,m,out,e,o,p,g⟩:=l;refine⟨out,e.ow,e.hn,p,λd W' A c c d f=>?_⟩;rw[if_neg k]at g;exact⟨x,a,B,m++[b],out++[b],e.push j c d f,by simp[o],by simp;omega,g⟩
structure eK (lo:Nat) (w:ah) (h:Hd) (ts:List RT) (x:cd):Prop where
 ta:bI w h ts
 l1:aE w 2 x.h1 Og.cells x.os
 l2:aE w 6 x.h2 Bk.cells x.bs
 l3:aE w 4 x.h3 dF.cells x.ms
 l4:aE w 3 x.h4 dV.cells x.ks
 l5:aE w 10 x.h5 cn.cells x.rs
 l6:aE w 9 x.h6 dM.cells x.qs
 i1:bc (λb=>lo<=b) x.h1
 i2:bc (λb=>lo<=b) x.h2
 i3:bc (λb=>lo<=b) x.h3
 i4:bc (λb=>lo<=b) x.h4
 i5:bc (λb=>lo<=b) x.h5
 i6:bc (λb=>lo<=b) x.h6
 m:∀t∈x.ms,fh w (λb=>lo<=b) t
 r:∀t∈x.rs,eU w (λb=>lo<=b) t
 q:∀t∈x.qs,pw w (λb=>lo<=b) t
def yC (lo:Nat) (w:ah) (a:aA) (b:Su):Prop:=∃(h:Hd) (ts:List RT) (x:cd),a=.agg #[h.val,x.h1.val,x.h2.val,x.h3.val,x.h4.val,x.h5.val,x.h6.val]/\x.su (ts.map RT.tb)=b/\eK lo w h ts x
def hZ (lo:Nat) (w:ah) (v:aA) (fs:List (Int×Int)):Prop:=∃h:Hd,v=h.val/\aE w 2 h d6 fs/\bc (λa=>lo<=a) h
def gm (w:ah) (a:Su×List (Int×Int)) (d:Ending) (w':ah):Prop:=ag w w'/\∃b c,d=.returned (.tuple #[b,c])/\yC w.heap.size w' b a.1/\hZ w.heap.size w' c a.2
theorem jN {a:Type} {w:ah} {b:Nat} {c:a->List Value}:aE w b aL c []:=⟨rfl,by simp[aL],λa d=>by cases d⟩
theorem mT {S:Nat->Prop}:bc S aL:=λb b a=>by cases a
theorem rm (lo:Nat) (w:ah):yC lo w (.agg b9) Su.zero:=
 ⟨aL,[],⟨aL,aL,aL,aL,aL,aL,[],[],[],[],[],[]⟩,rfl,rfl,⟨jN,λb a=>by cases a⟩,jN,jN,jN,jN,jN,jN,mT,mT,mT,mT,mT,mT,(λb a=>by cases a),(λb a=>by cases a),(λb a=>by cases a)⟩
theorem aE.rn {e:Type} {w w':ah} {m a:Nat} {h:Hd} {c:e->List Value} {d:List e} (e:aE w m h c d) (g:∀x∈d,∃v,(c x)[0]?=some v/\∀j,w.cell? (ac a j)≠some v) (k:Kp [a] w w'):aE w' m h c d:=by
 refine⟨e.1,e.2.1,λi f=>?_⟩;obtain⟨b,off,ha,hb,hc⟩:=e.2.2 i f;have hne:b≠a:=by
  rintro rfl;obtain⟨v,hv,a⟩:=g _ (List.getElem_mem f);exact a _ (hc 0 _ hv)
 exact xg
theorem bI.tr {w w':ah} {X:Nat} {h:Hd} {ts:List RT} (a:bI w h ts) (g:∀b v,ae w (ac X b) v->∃i n j,v=.slice i n j) (d:Kp [X] w w'):bI w' h ts:=by
 have f:∀(e:ax) b,w.cell? (ac X b)≠some (.string e):=λe b c=>by
  obtain⟨_,_,_,h⟩:=g b _ c;cases h
 have k:∀(n:Int) b,w.cell? (ac X b)≠some (.int .i64 n):=λn b c=>by
  obtain⟨_,_,_,h⟩:=g b _ c;cases h
 exact⟨a.1.rn (λb _=>⟨_,rfl,f b.name⟩) d,λb c=>⟨⟨(a.2 b c).1.1.rn (λg _=>⟨_,rfl,f g.at_.name⟩) d,λg i=>⟨⟨((a.2 b c).1.2 g i).1.1.rn (λe _=>⟨_,rfl,f e⟩) d,((a.2 b c).1.2 g i).1.2⟩,((a.2 b c).1.2 g i).2⟩⟩,
  (a.2 b c).2.1.rn (λn _=>⟨_,rfl,k n⟩) d,(a.2 b c).2.2⟩⟩
theorem n3 (a:Nat) (v:aA) (h:b9[a]?=some v):∃b n c,v=.slice b n c:=by
 match a with
 |0|1|2|3|4|5|6=>exact⟨_,_,_,(Option.some.inj h).symm⟩
 |_+7=>cases h
section
variable {lo:Nat} {w w':ah} {h:Hd} {ts:List RT} {x:cd}
theorem eK.kp (a:eK lo w h ts x) {g:Nat} (b:g<lo) (i:∀b v,ae w (ac g b) v->∃b n c,v=.slice b n c) (k:Kp [g] w w'):eK lo w' h ts x:=
 have d:∀b∈[g],¬lo<=b:=λb c=>by rw[aC c];omega
 have b:∀{f:Hd},bc (λb=>lo<=b) f->∀b e,f.a=some ⟨b,e,none⟩->b∉[g]:=λf b e j c=>d b c (f b e j)
 {
  ta:=a.ta.tr i k,l1:=a.l1.kp k (b a.i1),l2:=a.l2.kp k (b a.i2),l3:=a.l3.kp k (b a.i3),l4:=a.l4.kp k (b a.i4),l5:=a.l5.kp k (b a.i5),l6:=a.l6.kp k (b a.i6),i1:=a.i1,i2:=a.i2,i3:=a.i3,i4:=a.i4,i5:=a.i5,i6:=a.i6
  m:=λb c=>fh.keep _ _ _ _ _ (a.m b c) k d,r:=λb c=>(a.r b c).keep k d,q:=λb c=>dL.keep (a.q b c) k d}
theorem eK.same (a:eK lo w h ts x) (s:ag w w'):eK lo w' h ts x:=
 have d:=Kp.of_same (l:=[]) s
 {
  ta:=a.ta.same s,l1:=a.l1.same s,l2:=a.l2.same s,l3:=a.l3.same s,l4:=a.l4.same s,l5:=a.l5.same s,l6:=a.l6.same s,i1:=a.i1,i2:=a.i2,i3:=a.i3,i4:=a.i4,i5:=a.i5,i6:=a.i6
  m:=λb c=>fh.keep _ _ _ _ _ (a.m b c) d aj,r:=λb c=>(a.r b c).keep d aj,q:=λb c=>dL.keep (a.q b c) d aj}
theorem eK.low (a:eK lo w h ts x) {l2:Nat} (c:l2<=lo):eK l2 w h ts x:=
 have b:∀b,lo<=b->l2<=b:=λb b=>bJ c b
 {
  ta:=a.ta,l1:=a.l1,l2:=a.l2,l3:=a.l3,l4:=a.l4,l5:=a.l5,l6:=a.l6,i1:=a.i1.mono b,i2:=a.i2.mono b,i3:=a.i3.mono b,i4:=a.i4.mono b,i5:=a.i5.mono b,i6:=a.i6.mono b
  m:=λc d=>fh.mono _ _ _ _ (a.m c d) b,r:=λc d=>(a.r c d).mono b,q:=λc d=>dL.mono (a.q c d) b}
end
theorem HV {W:ah} {h:Hd} {ts:List RT} {X d e n:Nat} {x:cd} {a:Int} {B:Nat->Prop} (k:bI W h ts) (c:x.Fit) (f:g8 (x.su (ts.map RT.tb)) n) (b:cT W X d e B [h.val] [] x.rows false [] [] a) (d:n<=1000):eK e W h ts x:=by
 obtain⟨d,f,g,i,j,l⟩:=f.short d;have e:∀(f:List eD) (d:Nat),sW B f [] d->e<=d:=λf d e=>(b.lt d e.1).1;have d:py x.h1 x.os∈x.rows:=gx
 have m2:pz x.h2 x.bs∈x.rows:=gx
 have f:pA x.h3 x.ms∈x.rows:=gx
 have j:pB x.h4 x.ks∈x.rows:=gx
 have g:lM x.h5 x.rs∈x.rows:=gx
 have i:pC x.h6 x.qs∈x.rows:=gx
 exact{
  ta:=k,l1:=cJ (h:=x.h1) (λ_=>rfl) c.e1 (by rw[<-c.e1];omega) (b.own _ d),l2:=cJ (h:=x.h2) (λ_=>rfl) c.e2 (by rw[<-c.e2];omega) (b.own _ m2),l3:=cJ (h:=x.h3) (λ_=>rfl) c.e3 (by rw[<-c.e3];omega) (b.own _ f)
  l4:=cJ (h:=x.h4) (λ_=>rfl) c.e4 (by rw[<-c.e4];omega) (b.own _ j),l5:=cJ (h:=x.h5) (λ_=>rfl) c.e5 (by rw[<-c.e5];omega) (b.own _ g),l6:=cJ (h:=x.h6) dM.len c.e6 (by rw[<-c.e6];omega) (b.own _ i)
  i1:=lO (h:=x.h1) (b.own _ d),i2:=lO (h:=x.h2) (b.own _ m2),i3:=lO (h:=x.h3) (b.own _ f),i4:=lO (h:=x.h4) (b.own _ j),i5:=lO (h:=x.h5) (b.own _ g),i6:=lO (h:=x.h6) (b.own _ i)
  m:=λc d=>fh.mono _ _ _ _ (b.nest _ f c d) (e _),r:=λc d=>(b.nest _ g c d).mono (e _),q:=λc d=>dL.mono (b.nest _ i c d) (e _)}
def kU (b:List Tb) (a c:Int):Prop:=(0<=a/\a<b.length)/\0<=c/\c<(dB b a).attrs.length
theorem ro {b:List Tb} {c a:Int} {d:ax} (h:d1 b c d=.ok a):0<=a/\a<b.length:=by
 unfold d1 at h;obtain⟨e,h⟩:=RO.cz h;injection h with h
 subst h;exact⟨by simpa using e,(lW _ _).2⟩
theorem n4 {b:List At} {c a:Int} {d:ax} (h:cS c b d=.ok a):0<=a/\a<b.length:=by
 unfold cS at h;obtain⟨e,h⟩:=RO.cz h;injection h with h
 subst h;exact⟨by simpa using e,(ou _ _).2⟩
theorem rq {b:List Tb} {c:Int} {d e:ax} {a:Int×Int×Int} (h:fT b c d e=.ok a):kU b a.1 a.2.1:=by
 unfold fT at h;obtain⟨a,f,h⟩:=RO.cB h;obtain⟨a,g,h⟩:=RO.cB h;injection h with h
 subst h;exact⟨ro f,n4 g⟩
theorem tt {i:Int} {f:List At}:∀(e:bk) (b c:List Int),dA i f b e=.ok c->(∀a∈b,0<=a/\a<f.length)->b.Nodup->(∀a∈c,0<=a/\a<f.length)/\c.Nodup/\c.length=b.length+e.length
 |[],b,c,h,hl,hd=>by
  rw[dA]at h;injection h with h
  subst h;exact⟨hl,hd,by simp⟩
 |s::e,b,c,h,hl,hd=>by
  rw[dA]at h;obtain⟨a,f,h⟩:=RO.cB h;obtain⟨g,h⟩:=RO.cz h;have j:=n4 f;have k:a∉b:=λf=>by
   have:b.any (λd=>decide (d=a))=true:=List.any_eq_true.2 ⟨a,f,by simp⟩;rw[this]at g;cases g
  have:=tt e (b++[a]) c h (λl d=>by
   rcases cP d with d|d
   ·exact hl l d
   ·rw[aC d];exact j) (by
   rw[List.nodup_append];exact⟨hd,by simp,λa b a c a=>k (by rw[aC c]at a;exact a▸b)⟩)
  refine⟨this.1,this.2.1,?_⟩;rw[this.2.2];simp;omega
def rr (c:List Tb) (b:List Int) (a:Sd):Prop:=(a.var= -1/\a.v.ok=true)\/(0<=a.var/\a.var<b.length/\kU c ((b[a.var.toNat]?).getD 0) a.col)
structure yD (tabs:List Tb) (r:Ru):Prop where
 cQ:∀c∈r.cQ,kU tabs r.table c
 fixed:∀f∈r.fixed,kU tabs r.table f.col
 tests:∀t∈r.tests,rr tabs r.tables t.l/\rr tabs r.tables t.r
 col:(r.kind=4/\r.tables≠[])\/kU tabs r.table r.col
 other:r.kind=3->kU tabs r.other r.l7
structure mU (s:Su):Prop where
 b:∀x∈s.blocks,kU s.tabs x.table x.col
 k:∀x∈s.keeps,kU s.tabs x.table x.col
 m:∀x∈s.fr,∀y∈x.terms,kU s.tabs x.table y.col
 r:∀x∈s.rules,yD s.tabs x
theorem h7 {a:Type} {x b:a} {l:List a} (h:x∈l++[b]):x∈l\/x=b:=by
 rcases cP h with h|h
 ·exact .inl h
 exact .inr (aC h)
theorem yE {f:List At} {i:Int}:∀(g:List ct) (e c:List Wg),fu f i e g=.ok c->(∀b∈e,0<=b.col/\b.col<f.length)->∀b∈c,0<=b.col/\b.col<f.length
 |[],e,c,h,hl=>by
  rw[fu]at h;injection h with h
  subst h;exact hl
 |b::g,e,c,h,hl=>by
  rw[fu]at h;obtain⟨b,a,h⟩:=RO.cB h;refine yE g _ c h (λj d=>?_);rcases h7 d with d|d
  ·exact hl j d
  subst d;unfold oK at a;obtain⟨b,k,a⟩:=RO.cB a;obtain⟨_,a⟩:=RO.cz a;obtain⟨_,a⟩:=RO.cz a;obtain⟨_,a⟩:=RO.cz a;injection a with a
  subst a;exact n4 k
theorem yF {e:List At} {b:Int}:∀(g:List da) (d a:List Fx),fw e b d g=.ok a->(∀b∈d,0<=b.col/\b.col<e.length)->∀b∈a,0<=b.col/\b.col<e.length
 |[],d,a,h,hl=>by
  rw[fw]at h;injection h with h
  subst h;exact hl
 |f::g,d,a,h,hl=>by
  rw[fw]at h;obtain⟨b,i,h⟩:=RO.cB h;obtain⟨_,h⟩:=RO.cz h;obtain⟨_,h⟩:=RO.cz h;obtain⟨_,h⟩:=RO.cz h;refine yF g _ a h (λj c=>?_);rcases h7 c with c|c
  ·exact hl j c
  subst c;exact n4 i
theorem yG {b:List Tb} {e:aB} {d:Int} {a:Ru} (h:jk b e d=.ok a):(0<=a.table/\a.table<b.length)/\(∀e∈a.cQ,0<=e/\e<(dB b a.table).attrs.length)/\a.cQ≠[]/\a.kind=d/\a.fixed=[]/\a.tests=[]/\a.col=0:=by
 unfold jk at h;obtain⟨a,f,h⟩:=RO.cB h;obtain⟨c,h⟩:=RO.cz h;obtain⟨g,i,h⟩:=RO.cB h;injection h with h
 subst h;have b:=tt _ _ _ i aj aj;refine⟨ro f,b.1,λa=>?_,rfl,rfl,rfl,rfl⟩;have b:=b.2.2;have a:g=[]:=a;rw[a]at b;simp at c b;rw[b]at c;simp at c
theorem yH {m:Int} {j:cF->RO (Sd×Int)} {P:Sd->Prop} (n:∀d b,j d=.ok b->P b.1) (o:∀f:V,f.ok=true->P ⟨-1,0,f⟩):∀(k:List bm) (i e:List cG),fe m j i k=.ok e->(∀f∈i,P f.l/\P f.r)->∀f∈e,P f.l/\P f.r
 |[],i,e,h,hl=>by
  rw[fe]at h;injection h with h
  subst h;exact hl
 |c::k,i,e,h,hl=>by
  rw[fe]at h;obtain⟨f,a,h⟩:=RO.cB h;refine yH n o k _ e h (λq g=>?_);rcases h7 g with g|g
  ·exact hl q g
  subst g;unfold jm at a;obtain⟨_,a⟩:=RO.cz a;obtain⟨b,s,a⟩:=RO.cB a;obtain⟨e,t,a⟩:=RO.cB a;obtain⟨_,a⟩:=RO.cz a;obtain⟨_,a⟩:=RO.cz a;injection a with a
  subst a;have p:∀d b,jl m j d=.ok b->P b.1:=λd b h=>by
   unfold jl at h;split at h
   ·obtain⟨u,h⟩:=RO.cz h
    injection h with h
    subst h;exact o _ u
   exact n d b h
  exact⟨p _ _ s,p _ _ t⟩
theorem yI {f:List Tb} {c:Int}:∀(e:List Vr) (b a:List (ByteArray×Int)),gG f c b e=.ok a->(∀c∈b,0<=c.2/\c.2<f.length)->(∀c∈a,0<=c.2/\c.2<f.length)/\a.length=b.length+e.length
 |[],b,a,h,hl=>by
  rw[gG]at h;injection h with h
  subst h;exact⟨hl,by simp⟩
 |v::e,b,a,h,hl=>by
  rw[gG]at h;obtain⟨_,h⟩:=RO.cz h;obtain⟨b,g,h⟩:=RO.cB h;have:=yI e _ a h (λi d=>by
   rcases h7 d with d|d
   ·exact hl i d
   subst d;exact ro g)
  refine⟨this.1,?_⟩;rw[this.2];simp;omega
theorem HZ {d:List Tb} {g:Int} {a:List (ByteArray×Int)} (i:∀e∈a,0<=e.2/\e.2<d.length) {f:cF} {b:Sd×Int} (h:iw d g a f=.ok b):rr d (a.map (·.2)) b.1:=by
 unfold iw at h;obtain⟨j,h⟩:=RO.cz h;dsimp only at h;obtain⟨d,k,h⟩:=RO.cB h;injection h with h
 subst h;obtain⟨e,d,l⟩:=List.any_eq_true.1 j;obtain⟨m,n,o⟩:=List.mem_iff_getElem.1 d;rcases m4 (λb:ByteArray×Int=>decide (b.1=f.var)) a with⟨_,p⟩|⟨r,c,q,_,_⟩
 ·have:=p m n
  rw[o,l]at this;cases this
 right
 have a:=n4 k;rw[q]at a⊢;refine⟨by simp,by simpa using c,?_,?_⟩
 ·simp[c]
  exact i _ (List.getElem_mem c)
 simpa[c]using a
theorem mU.part {d j:Su} {o:aB} (a:mU d) (h:ch d o=.ok j):mU j:=by
 have g:∀e:Ru,yD d.tabs e->mU {d with rules:=d.rules++[e]}:=λe p=>⟨a.b,a.k,a.m,λf c=>by
  rcases h7 c with c|c
  ·exact a.r f c
  subst c;exact p⟩
 unfold ch at h;split at h
 ·unfold lh at h
  obtain⟨_,h⟩:=RO.cz h;obtain⟨_,h⟩:=RO.cz h;injection h with h
  subst h;exact⟨a.b,a.k,a.m,a.r⟩
 split at h
 ·unfold j1 at h
  obtain⟨j,l,h⟩:=RO.cB h;obtain⟨j,c,h⟩:=RO.cB h;injection h with h
  subst h;refine⟨λn f=>?_,a.k,a.m,a.r⟩;rcases h7 f with f|f
  ·exact a.b n f
  subst f;have i:=rq l;split at c
  ·injection c with c;subst c;exact i
  split at c
  ·obtain⟨_,c⟩:=RO.cz c
   injection c with c;subst c;exact i
  split at c
  ·obtain⟨_,c⟩:=RO.cz c
   injection c with c;subst c;exact i
  cases c
 split at h
 ·unfold j2 at h
  obtain⟨j,f,h⟩:=RO.cB h;obtain⟨_,h⟩:=RO.cz h;obtain⟨_,h⟩:=RO.cz h;obtain⟨j,i,h⟩:=RO.cB h;injection h with h
  subst h;refine⟨a.b,a.k,λl c=>?_,a.r⟩;rcases h7 c with c|c
  ·exact a.m l c
  subst c;exact λc j=>⟨ro f,yE _ _ _ i aj c j⟩
 split at h
 ·unfold j3 at h
  obtain⟨j,f,h⟩:=RO.cB h;obtain⟨_,h⟩:=RO.cz h;obtain⟨_,h⟩:=RO.cz h;obtain⟨_,h⟩:=RO.cz h;injection h with h
  subst h;refine⟨a.b,λi c=>?_,a.m,a.r⟩;rcases h7 c with c|c
  ·exact a.k i c
  subst c;exact rq f
 split at h
 ·unfold ma at h
  obtain⟨e,i,h⟩:=RO.cB h;injection h with h
  subst h;obtain⟨i,l,q,j,o,p,s⟩:=yG i;refine g e ⟨λc f=>⟨i,l c f⟩,by rw[o];simp,by rw[p];simp,.inr ⟨i,?_⟩,λn=>by rw[j]at n;cases n⟩;rw[s];obtain⟨c,f⟩:=List.exists_mem_of_ne_nil _ q;have:=l c f;exact⟨Int.le_refl _,by omega⟩
 split at h
 ·unfold j4 at h
  obtain⟨e,i,h⟩:=RO.cB h;obtain⟨f,l,h⟩:=RO.cB h;obtain⟨_,h⟩:=RO.cz h;obtain⟨e,c,h⟩:=RO.cB h;injection h with h
  subst h;obtain⟨e,i,o,j,p,n,q⟩:=yG i;exact g _ ⟨λf o=>⟨e,i f o⟩,λf i=>⟨e,yF _ _ _ c aj f i⟩,by dsimp only;rw[n];simp,.inr ⟨e,n4 l⟩,λc=>by dsimp only at c;rw[j]at c;cases c⟩
 split at h
 ·unfold j5 at h
  obtain⟨e,c,h⟩:=RO.cB h;obtain⟨e,f,h⟩:=RO.cB h;obtain⟨_,h⟩:=RO.cz h;injection h with h
  subst h;exact g _ ⟨by simp[Ru.zero],by simp[Ru.zero],by simp[Ru.zero],.inr (rq c),λ_=>rq f⟩
 split at h
 ·unfold j6 at h
  obtain⟨f,h⟩:=RO.cz h;obtain⟨i,n,h⟩:=RO.cB h;obtain⟨e,q,h⟩:=RO.cB h;injection h with h
  subst h;have l:=yI _ _ _ n aj;refine g _ ⟨by simp[Ru.zero],by simp[Ru.zero],yH (P:=rr d.tabs (i.map (·.2))) (λc c c=>HZ l.1 c) (λc c=>.inl ⟨rfl,c⟩) _ _ _ q aj,.inl ⟨rfl,λc=>?_⟩,λs=>by cases s⟩;have c:i.map (·.2)=[]:=c;have d:=l.2;rw[List.map_eq_nil_iff]at c;rw[c]at d;simp[aY]at f d;rw[<-d]at f;simp at f
 split at h
 ·unfold jn at h
  obtain⟨c,_,h⟩:=RO.cB h;injection h with h
  subst h;exact⟨a.b,a.k,a.m,a.r⟩
 injection h with h
 subst h;exact a
theorem mU.second (c:List ((Int×Int)×aB)):∀(a:Su) (b:List (Int×Int)),mU a->mU (dr a b c).1/\(dr a b c).1.tabs=a.tabs:=by
 induction c with
 |nil=>intro a b h;exact⟨h,rfl⟩
 |cons e c d=>
  intro a b h;obtain⟨i,f⟩:=e;rw[dr];split
  ·cases hp:ch a f with
   |ok g=>
    have:=d g b (h.part hp);exact⟨this.1,this.2.trans (rk hp).tabs⟩
   |bad g j=>
    dsimp only;split
    ·exact d a b h
    exact d a _ h
  exact d a _ h
theorem yJ {n:Int}:∀(g:List cZ) (l b:List At),gg n l g=.ok b->((∀e∈l,gN e=true)/\(∀x∈d7 l,bC x=true)/\(d7 l).Nodup)->(∀e∈b,gN e=true)/\(∀x∈d7 b,bC x=true)/\(d7 b).Nodup
 |[],l,b,h,hl=>by
  rw[gg]at h;injection h with h
  subst h;exact hl
 |c::g,l,b,h,hl=>by
  rw[gg]at h;obtain⟨i,h⟩:=RO.cz h;obtain⟨o,h⟩:=RO.cz h;obtain⟨p,h⟩:=RO.cz h;obtain⟨j,h⟩:=RO.cz h;obtain⟨q,r,s⟩:=hl;have t:=Ha (l:=l) (x:=c.name) (by simpa using o);simp only[aY,Bool.and_eq_true,decide_eq_true_eq]at i;have m:d7 (l++[⟨c.name,c.k,[],c.d⟩])=d7 l++[c.name]:=by rw[G9];rfl
  refine yJ g _ b h ⟨λe f=>?_,λx a=>?_,?_⟩
  ·rcases h7 f with f|f
   ·exact q e f
   subst f;simp only[gN,k0,ij,Bool.and_eq_true,decide_eq_true_eq,Bool.or_eq_true];simp only[Bool.or_eq_true,decide_eq_true_eq]at j;exact⟨i.2,p,j⟩
  ·rw[m]at a
   rcases h7 a with a|a
   ·exact r x a
   subst a;exact i.1
  rw[m,List.nodup_append];exact⟨s,by simp,λx a b e b=>t (by rw[aC e]at b;exact b▸a)⟩
theorem H0 {e:Nat} {a:List Int} (h:∀c∈a,0<=c/\c<(e:Int)) (g:a.Nodup):∀b,b<(ej a).length->gA e (ej a) b=true:=by
 intro b d;have f:=px a;have i:=sU a;have g:(ej a).Nodup:=f.nodup_iff.2 g;have e:∀c∈ej a,0<=c/\c<(e:Int):=λc e=>h c (f.mem_iff.1 e);rw[pF];have c:(ej a).getD b 0=(ej a)[b]:=by simp[d]
 refine⟨by rw[c];exact e _ (List.getElem_mem d),?_⟩;by_cases e:b=0
 ·exact .inl e
 right
 have a:(ej a).getD (b-1) 0=(ej a)[b-1]'af:=by simp[show b-1<(ej a).length by omega]
 rw[c,a];have a:=List.pairwise_iff_getElem.1 i (b-1) b af d af;have a:=List.pairwise_iff_getElem.1 g (b-1) b af d af;omega
theorem H1 {e:List Tb} {a:aB} {c:Tb} (k:bC a.name=true) (h:eP e a=.ok c):kT c/\c.name=a.name/\e.length<20:=by
 unfold eP at h;obtain⟨f,h⟩:=RO.cz h;obtain⟨g,i,h⟩:=RO.cB h;obtain⟨d,h⟩:=RO.cz h;obtain⟨j,l,h⟩:=RO.cB h;injection h with h
 subst h;have m:=tn _ _ _ _ i;have c:=yJ _ _ _ i ⟨by simp,by simp[d7],by simp[d7]⟩;have e:=tt _ _ _ l aj aj;simp[aY]at f m d;have i:=e.2.2;simp at i;refine⟨⟨k,?_,?_,?_,c.1,c.2.1,c.2.2,H0 e.1 e.2.1⟩,rfl,f.1⟩
 ·show 1<=g.length
  omega
 ·show g.length<=12
  omega
 show 1<=(ej j).length;rw[(px j).length_eq];have:0<a.names.length:=by
  rcases Nat.eq_zero_or_pos a.names.length with b|b
  ·simp at b;rw[b]at d;simp at d
  exact b
 omega
structure pI (tabs:List Tb) (u:ce):Prop where
 n:tabs.length<=20
 r:∀t∈tabs,kT t
 d:(tabs.map Tb.name).Nodup
 u:∀t∈tabs,dd u 1 t.name=true
theorem H2 {a:ce} {d:Int×ByteArray} {b:Int} {c:ax} (h:dd a b c=true):dd (d::a) b c=true:=by
 unfold dd at*;rw[List.any_cons,h,Bool.or_true]
theorem yK {a:ce} {d:aB} {b:Int} {c:ax} (h:dd a b c=true):dd (bL a d).1 b c=true:=by
 unfold bL;repeat' split
 all_goals first|exact h|exact H2 h
theorem H4 {b:ce} {a:aB} (c:a.kind=1) (h:(bL b a).2=0):bC a.name=true/\dd b 1 a.name=false/\dd (bL b a).1 1 a.name=true:=by
 have d:aY a.kind 1 10=true:=by rw[c];rfl
 have e:¬a.kind=5:=af
 have f:ei a.kind=1:=by rw[c];rfl
 have c:bL b a=if bC a.name then(if dd b 1 a.name then(b,9)else((1,a.name)::b,0))else(b,1):=by
  unfold bL;rw[if_pos d,if_neg e,f]
 rw[c]at h⊢;clear c;cases hn:bC a.name with
 |false=>rw[hn]at h;cases h
 |true=>
  rw[hn]at h;cases hu:dd b 1 a.name with
  |true=>rw[hu]at h;cases h
  |false=>exact⟨rfl,rfl,by simp[dd]⟩
theorem pI.first:∀(xs:List aB) (b:List Tb) (u:ce) (f:List (Int×Int)),pI b u->∃k,pI (cI b u f xs).1 k
 |[],b,u,f,h=>⟨u,by rw[cI];exact h⟩
 |x::xs,b,u,f,h=>by
  rw[s0];refine pI.first xs _ _ _ ?_;have e:pI b (bL u x).1:=⟨h.n,h.r,h.d,λa c=>yK (h.u a c)⟩;unfold gl;split
  ·exact e
  rename_i l
  split
  ·rename_i m
   cases c:eP b x with
   |ok o=>
    obtain⟨b,p,q⟩:=H4 m (by simpa using l);obtain⟨s,j,b⟩:=H1 b c;refine⟨by simp;omega,λg a=>?_,?_,λg a=>?_⟩
    ·rcases h7 a with a|a
     ·exact h.r g a
     subst a;exact s
    ·rw[List.map_append,List.nodup_append]
     refine⟨h.d,by simp,λb t v i w=>?_⟩;obtain⟨y,z,rfl⟩:=List.mem_map.1 t;have i:v=o.name:=by simpa using i
     have:=h.u y z;rw[w,i,j,p]at this;cases this
    rcases h7 a with a|a
    ·exact yK (h.u g a)
    subst a;rw[j];exact q
   |bad a g=>exact e
  exact e
def Pl.kids:Pl->List Pl
 |.mk _ _ ks _ _ _ _ _=>ks
def yL (a:List At):Prop:=(a.map At.name).Nodup
theorem yL.ne {l:List At} (h:yL l) {a b:Nat} (d:a<l.length) (e:b<l.length) (f:l[a].name=l[b].name):a=b:=
 Decidable.byContradiction λi=>by
  have g:=List.pairwise_iff_getElem.1 h;rcases Nat.lt_or_gt_of_ne i with c|c
  ·exact g a b (by simpa using d) (by simpa using e) c (by simpa using f)
  exact g b a (by simpa using e) (by simpa using d) c (by simpa using f.symm)
theorem kT.old {t:Tb} (a:kT t) (i:Nat) (h:i<t.attrs.length):bu t.attrs (iy t.attrs[i]).name=i:=by
 refine AN (uO a.nodup) i h _ ?_;show t.attrs[i].has ((t.attrs[i].was++[t.attrs[i].name]).headD e0);cases hw:t.attrs[i].was with
 |nil=>exact .inl rfl
 |cons b c=>exact .inr (by rw[hw];exact List.mem_cons_self ..)
def RO.To {α β:Type} (φ:α->β) (r:RO α) (r':RO β):Prop:=∀a,r=.ok a->r'=.ok (φ a)
def RO.Nz {α:Type} (r:RO α):Prop:=∀a,r≠.bad 0 a
section
variable {α β γ δ:Type} {φ:α->β} {ψ:γ->δ} {r:RO α} {r':RO β}
theorem RO.To.ok {a:α}:RO.To φ (.ok a) (.ok (φ a)):=λb h=>by injection h with h;rw[h]
theorem RO.To.rfl {r:RO α}:RO.To (λa=>a) r r:=λ_ h=>h
theorem RO.To.bind {f:α->RO γ} {c:β->RO δ} (h:RO.To φ r r') (e:∀a,r=.ok a->RO.To ψ (f a) (c (φ a))):RO.To ψ (r.bind f) (r'.bind c):=λb c=>by
 obtain⟨a,d,c⟩:=RO.cB c;rw[h a d];exact e a d b c
theorem RO.To.ap {b b':Bool} {c a d e:Int} (f:b=true->b'=true) (h:b=true->RO.To φ r r'):RO.To φ (RO.ap b c a r) (RO.ap b' d e r'):=λe c=>by
 obtain⟨d,c⟩:=RO.cz c;rw[f d];exact h d e c
theorem RO.To.ite {a:Prop} [Decidable a] {b:RO α} {c:RO β} (h:a->RO.To φ r r') (d:¬a->RO.To φ b c):RO.To φ (if a then r else b) (if a then r' else c):=by
 by_cases b:a
 ·rw[if_pos b,if_pos b];exact h b
 rw[if_neg b,if_neg b];exact d b
theorem RO.Nz.ok {a:α}:(RO.ok a).Nz:=λb h=>by cases h
theorem RO.Nz.bind {f:α->RO γ} (h:r.Nz) (c:∀a,(f a).Nz):(r.bind f).Nz:=by
 cases r with
 |ok a=>exact c a
 |bad e a=>exact λb d=>h b (by injection d with h1 h2;rw[h1,h2])
theorem RO.Nz.ap {b:Bool} {c a:Int} (k:r.Nz) (h:c≠0:=by decide):(RO.ap b c a r).Nz:=by
 unfold RO.ap;split
 ·exact k
 exact λc d=>h (by injection d)
theorem RO.Nz.ite {a:Prop} [Decidable a] {b:RO α} (h:r.Nz) (c:b.Nz):(if a then r else b).Nz:=by split<;>assumption
end
theorem n5 (at_:Int) (a:List At) (b:ax):(cS at_ a b).Nz:=.ap .ok
theorem tu (at_:Int) (a:List At):∀(b:bk) (c:List Int),(dA at_ a c b).Nz
 |[],_=>.ok
 |_::b,_=>(n5 _ _ _).bind λ_=>.ap (tu at_ a b _)
theorem pJ (a:List Tb) (at_:Int) (b:ax):(d1 a at_ b).Nz:=.ap .ok
theorem rt (b:List Tb) (at_:Int) (c a:ax):(fT b at_ c a).Nz:=(pJ _ _ _).bind λ_=>(n5 _ _ _).bind λ_=>.ok
theorem yM (a:List At) (at_:Int):∀(b:List ct) (c:List Wg),(fu a at_ c b).Nz
 |[],_=>.ok
 |_::b,_=>RO.Nz.bind (show(oK _ _ _).Nz from(n5 _ _ _).bind λ_=>.ap (.ap (.ap .ok))) λ_=>yM a at_ b _
theorem yN (a:List At) (at_:Int):∀(b:List da) (c:List Fx),(fw a at_ c b).Nz
 |[],_=>.ok
 |_::b,_=>(n5 _ _ _).bind λ_=>.ap (.ap (.ap (yN a at_ b _)))
theorem yO {at_:Int} {b:cF->RO (Sd×Int)} (c:∀a,(b a).Nz) (a:cF):(jl at_ b a).Nz:=.ite (.ap .ok) (c a)
theorem tv {at_:Int} {c:cF->RO (Sd×Int)} (a:∀d,(c d).Nz):∀(b:List bm) (d:List cG),(fe at_ c d b).Nz
 |[],_=>.ok
 |_::b,_=>RO.Nz.bind (show(jm _ _ _).Nz from .ap ((yO a _).bind λ_=>(yO a _).bind λ_=>.ap (.ap .ok))) λ_=>tv a b _
theorem yP (b:List Tb) (at_:Int):∀(a:List Vr) (c:List (ByteArray×Int)),(gG b at_ c a).Nz
 |[],_=>.ok
 |_::a,_=>.ap ((pJ _ _ _).bind λ_=>yP b at_ a _)
theorem rv (at_:Int) (a:List At) (b:ax):(ek at_ a b).Nz:=.ap .ok
theorem tw (at_:Int) (c:List At):∀(b:bk) (d:List Int) (a:List At),(fL at_ c d a b).Nz
 |[],_,_=>.ok
 |_::b,_,_=>(rv _ _ _).bind λ_=>.ap (tw at_ c b _ _)
theorem tx (at_:Int) (b:List At):∀(a r:List At),(hJ at_ b r a).Nz
 |[],_=>.ok
 |_::a,_=>.ite (tx at_ b a _) (.ap (tx at_ b a _))
theorem H5 (a:List Tb) (b:Int) (c:ax) (d:List bm) (e:bk) (f g:ax) (i at_:Int) (j:List Pl):(cy a b c d e f g i at_ j).Nz:=
 .ap<|.ite ((pJ _ _ _).bind λ_=>.ok)<|.ite (.ap ((tv (λ_=>.ap ((rv _ _ _).bind λ_=>.ok)) _ _).bind λ_=>.ok))<|.ite ((tw _ _ _ _ _).bind λ_=>.ok)<|
  .ite ((tx _ _ _ _).bind λ_=>.ap .ok)<|.ite (.ap .ok)<|.ite ((rv _ _ _).bind λ_=>.ap (.ap .ok))<|
   (tw _ _ _ _ _).bind λ_=>.ap (RO.Nz.bind (.ite (.ap .ok) ((rv _ _ _).bind λ_=>.ap .ok)) λ_=>.ap .ok)
mutual
theorem yQ (a:List Tb):∀b:Ex,(fZ a b).Nz
 |.mk _ _ kids _ _ _ _ _ _=>by
  rw[fZ];exact(yR a kids).bind λ_=>.ap ((H5 _ _ _ _ _ _ _ _ _ _).bind λ_=>.ok)
theorem yR (a:List Tb):∀b:List Ex,(eQ a b).Nz
 |[]=>by rw[eQ];exact .ok
 |e::es=>by
  rw[eQ];exact(yQ a e).bind λ_=>(yR a es).bind λ_=>.ok
end
theorem yS (a:List Tb) (b:aB) (c:Int):(jk a b c).Nz:=(pJ _ _ _).bind λ_=>.ap ((tu _ _ _ _).bind λ_=>.ok)
theorem H6 (a:Su) (b:aB):(ch a b).Nz:=
 .ite (.ap (.ap .ok))<|.ite ((rt _ _ _ _).bind λ_=>RO.Nz.bind (.ite .ok (.ite (.ap .ok) (.ite (.ap .ok) (λa c=>by cases c)))) λ_=>.ok)<|
  .ite ((pJ _ _ _).bind λ_=>.ap (.ap ((yM _ _ _ _).bind λ_=>.ok)))<|.ite ((rt _ _ _ _).bind λ_=>.ap (.ap (.ap .ok)))<|
  .ite ((yS _ _ _).bind λ_=>.ok)<|.ite ((yS _ _ _).bind λ_=>(n5 _ _ _).bind λ_=>.ap ((yN _ _ _ _).bind λ_=>.ok))<|
  .ite ((rt _ _ _ _).bind λ_=>(rt _ _ _ _).bind λ_=>.ap .ok)<|
  .ite (.ap ((yP _ _ _ _).bind λ_=>(tv (λ_=>.ap ((n5 _ _ _).bind λ_=>.ok)) _ _).bind λ_=>.ok))<|.ite ((yQ _ _).bind λ_=>.ok) .ok
def tz (a b:List At):Prop:=∀c,0<=bu a c->bu b c=bu a c/\(cH b (bu a c)).kind=(cH a (bu a c)).kind
def H7 (g:ByteArray->ByteArray) (a:ax):ByteArray:=if a=e0 then e0 else g a
structure H8 (g:ByteArray->ByteArray) (T U:List Tb):Prop where
 f:∀s,0<=cE T s->cE U (g s)=cE T s
 f2:∀s,0<=cE T s->cE U (H7 g s)=cE T s
 c:∀t:Int,0<=t/\t<T.length->tz (dB T t).attrs (dB U t).attrs
section
variable {a b:List At} {at_:Int}
end
section
variable {T U:List Tb} {g:ByteArray->ByteArray} {at_:Int} (h:H8 g T U)
include h
end
theorem mV:∀(c:List ((Int×Int)×aB)) (b:Su) (d:List (Int×Int)),(dr b d c).2=[]->d=[]
 |[],b,d,h=>by rw[dr]at h;exact h
 |(g,x)::c,b,d,h=>by
  rw[dr]at h;split at h
  ·cases hp:ch b x with
   |ok e=>rw[hp]at h;exact mV c e d h
   |bad e a=>
    rw[hp]at h;dsimp only at h;split at h
    ·exact mV c b d h
    exact absurd (mV c b _ h) aj
  exact absurd (mV c b _ h) aj
end Go.Proofs.YteamkimbmdgdbaaGreatDoor
