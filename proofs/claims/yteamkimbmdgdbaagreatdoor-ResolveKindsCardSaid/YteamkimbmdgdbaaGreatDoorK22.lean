import Derived.Test.YteamkimbmdgdbaaGreatDoorK17
import Derived.Test.YteamkimbmdgdbaaGreatDoorK18
import Derived.Test.YteamkimbmdgdbaaGreatDoorK19
import Derived.Test.YteamkimbmdgdbaaGreatDoorK20
set_option linter.unusedSimpArgs false
set_option linter.unusedVariables false
set_option maxHeartbeats 16000000
set_option maxRecDepth 100000
namespace Go.Proofs.YteamkimbmdgdbaaGreatDoor
open Go.RowKit
theorem Cn (c:List Tb) (a:Int) (d:aw) (e:List bB) (f:bm) (g i:aw) (j b:Int) (k:List Pl) (h:ef a=none):∃l,cy c a d e f g i j b k=RO.ap false 1 b l:=by
 unfold cy;rw[h];exact⟨_,rfl⟩
theorem Co (l d x:Nat) (h:Hd) (m:List RT) (f:Int) (g:aw) (y r:Hd) (n:List aB) (s:Hd) (o:List bB) (t:Hd) (p:bm) (i j:aw) (k at_:Int) (c:af) (u:ef f=none)
 (v:J c d 105 #[f,O 0,r.val,aa,aa,O 0,O 0,aa]) (q:iC c l d x h m r n s o t p at_):
 Calls Tryz.prog 201 #[aj l,.agg #[f,g,y.val,s.val,t.val,i,j,k,at_],aj d] c
  λe w'=>RP [d] c (cy (m.map RT.tb) f g o p i j k at_ (aB.aN n)) (iE d x) e w':=by
 obtain⟨ay,aA,aD⟩:=h;obtain⟨aE,aF,aG⟩:=r;obtain⟨C,D,E⟩:=y;obtain⟨F,G,H⟩:=s;obtain⟨I,L,M⟩:=t;have t:=Z q;have s:=q.hX;have r:=q.xp;have x:=v.lt;have N:=Z v;obtain⟨y,r⟩:=aq (cy (m.map RT.tb) f g o p i j k at_ (aB.aN n));rw[<-r];obtain⟨n,m⟩:=Cn (m.map RT.tb) f g o p i j k at_ (aB.aN n) u;have P:=Z (show y=RO.ap false 1 at_ n by rw[r,m]);have Q:=Z u;clear r q v m u;have m:c.heap.size<=c.heap.size:=Nat.le_refl _;have R:=Z (Kp.refl [d] c);have S:=Z (λ(a:af) (b:Kp [d] c a)=>show ac a (ab l 8) at_ from(b.cell s aC).trans t.c8);have m:=aW s;have m:=aW x;have T:=@run_makeMap Tryz.prog;show Calls Tryz.prog 201 #[aj l,.agg #[f,g,U C D E,U F G H,U I L M,i,j,k,at_],aj d] c _;go_enter Tryz.func201,Tryz.ntmps201
 go_upto_region 1 with(fail)
 obtain⟨i,d,j,a,g⟩:=nb c 154 _;rw[d];clear d;have d:=qk R a;have k:=qb a N;have i:=d.size;clear a;obtain⟨b,i,V,a,l⟩:=nc g 93 _;rw[i];clear i;have z:=qk d a;have W:=qb a k;have X:=qb a j;have d:=z.size;clear a;have c:c.heap.size+1<b.heap.size:=ae
 clear g l;have Y:=j4 b;have ad:=j5 b;have ah:=j6 b;have ak:=j7 b;have al:=j8 b;have am:=j9 b;have an:=ka b;have ao:=kc b;go_upto_region 2 with(fail)
 clear Y ad ah ak al am an ao T;have M3:=Z (kd b);have a:=Z (show ag b (b.alloc (.map (km 8) 8))from(ag.refl b).alloc _);obtain⟨ar,b⟩:=aq (b.alloc (.map (km 8) 8));rw[<-b]at M3 a⊢;clear b;have w:=qk z a;have b:=qb a W;have A:=qb a X;have B:=qb a V;have b:=w.size;rcases uF M3.out f with⟨_,au⟩|⟨aH,av,_⟩
 case inr=>exact absurd (Q.out.symm.trans av) ai
 clear a M3;have ax:=az B;have a:=J.lt B;go_upto_region 3 with(fail)
 clear au ax;have a:=az A;have b:=J.lt A;refine yT 12 a λhS=>?_;refine cJ ?_;refine sk 3 hS ?_;refine sk 4 hS ?_;refine sk 5 hS ?_;refine rq ?_;refine aK 11 (λK a=>?_);go_simp;exact bv w.drew P (S ar w)
theorem Cp (f a g:Nat) (h:Hd) (b:List RT) (c:Int) (i:aw) (r j:Hd) (k:List aB) (l:Hd) (m:List bB) (n:Hd) (o:bm) (p d:aw) (q e:Int) (w:af) (u:aG d) (x:kR (b.map RT.tb))
 (s:J w a 105 #[c,O 0,j.val,aa,aa,O 0,O 0,aa]) (t:iC w f a g h b j k l m n o e):
 Calls Tryz.prog 201 #[aj f,.agg #[c,i,r.val,l.val,n.val,p,d,q,e],aj a] w
  λy z=>RP [a] w (cy (b.map RT.tb) c i m o p d q e (aB.aN k)) (iE a g) y z:=by
 by_cases v:c=1
 ·subst v;exact B6 f a g h b i r j k l m n o p d q e w u x s t
 by_cases A:c=2
 ·subst A;exact B9 f a g h b i r j k l m n o p d q e w u s t
 by_cases B:c=3
 ·subst B;exact Cb f a g h b i r j k l m n o p d q e w u s t
 by_cases C:c=4
 ·subst C;exact Cd f a g h b i r j k l m n o p d q e w u s t
 by_cases D:c=5
 ·subst D;exact Cf f a g h b i r j k l m n o p d q e w u s t
 by_cases E:c=6
 ·subst E;exact Ci f a g h b i r j k l m n o p d q e w u s t
 by_cases F:c=7
 ·subst F;exact Ck f a g h b i r j k l m n o p d q e w u s t
 by_cases G:c=8
 ·subst G;exact Cm f a g h b i r j k l m n o p d q e w u s t
 refine Co f a g h b c i r j k l m n o p d q e w ?_ s t;unfold ef;rw[if_neg v,if_neg ae,if_neg ae]
def Ro (b:Nat) (w:af) (v:ay) (a:Nat):Prop:=b<=a/\a<w.heap.size/\v.ownBlock≠some a
theorem Cq {l:bg} (h:l.length=7):∃a b c d e f g,l=[a,b,c,d,e,f,g]:=by
 match l,h with
 |[a,b,c,d,e,f,g],_=>exact⟨a,b,c,d,e,f,g,rfl⟩
theorem Tryz.Cr:(Tryz.prog.info? 105).map (λa=>(a.zero,a.size,a.bytes))=some (some (.agg #[O 0,O 0,aa,aa,aa,O 0,O 0,aa]),8,128):=ak
def mV:List Value:=[.int .i64 0,.int .i64 0,.slice none 0 0,.slice none 0 0,.slice none 0 0,.int .i64 0,.int .i64 0,.slice none 0 0]
theorem Cs:∀a∈mV,a.oneCell'=true:=by unfold mV;simp[Value.oneCell']
theorem Ct {w:af} {d a e c:Nat} {b:bg} (f:w.ownsRow d 105 8 (U (some ⟨c,0,none⟩) (a+1) e) (a+1) (b++mV)) (d:b.length=a*8) (b:Nat) (e:b<8):w.cell? (ab c (a*8+b))=mV[b]?:=by
 rw[f.cellAt _ nK,List.getElem?_append_right ae,d,Nat.add_sub_cancel_left]
theorem Cu (a:List aB):(a.flatMap aB.cells).length=a.length*8:=mA (λb=>aB.len b) a
theorem Cv (l:List aB) (a:aB):aB.aN (l++[a])=aB.aN l++[a.pl]:=by rw[aB.iB,aB.iB,List.map_append];rfl
theorem vd {w d:af} {e f:Nat} {g:ay} {S i:Nat->Prop} {j:aB} (k:dJ w S j) (l:Kp (g.ownBlock.toList++[e,f]) w d) (m:∀a,S a->g.ownBlock≠some a/\a≠e/\a≠f) (c:∀a,S a->i a):dJ d i j:=
 (
  k.keep l (λa n c=>by
  have h:=m a c;rcases cY n with b|b
  ·exact h.1 (jm b)
  rcases dd b with b|b
  ·exact h.2.1 b
  exact h.2.2 (aA b))).mono c
theorem Cw (k a0 aT:Nat) (h:Hd) (s:List RT) (bz:bg) (S:Nat->Prop) (t:Int) (z:aw) (ax:Hd) (g:List RE) (b0:Hd) (aM:List bB) (b4:Hd) (ao:bm) (A y:aw) (B r:Int) (w:af)
 (aq:jq w k a0 aT h s bz S) (b5:dX w S (.mk t z ax g b0 aM b4 ao A y B r)) (c1:ao.length<=5001) (eo:g.length<=5001)
 (cq:∀f∈g,∀e,jq e k a0 aT h s bz S->dX e S f->Calls Tryz.prog 200 #[.agg f.cells.toArray,aj a0,aj aT] e λo w'=>mS e k h bz (fR (s.map RT.tb) f.ex) (oB e.heap.size) o w'):
 Calls Tryz.prog 200 #[.agg #[t,z,ax.val,b0.val,b4.val,A,y,B,r],aj a0,aj aT] w
  λo w'=>mS w k h bz (fR (s.map RT.tb) (.mk t z (RE.exs g) aM ao A y B r)) (oB w.heap.size) o w':=by
 obtain⟨a1,x,a2⟩:=h;obtain⟨a8,c2,bt⟩:=ax;obtain⟨a9,ba,bb⟩:=b0;obtain⟨ay,bf,bk⟩:=b4;obtain⟨u1,u2,u3,u4,u5,u6,u7,rfl⟩:=Cq aq.us.n;have aO:=Z aq;have bz:=aq.hX;have c3:=aq.hf;have cr:=aq.hv;have c4:=aq.nf;have cs:=aq.nv;obtain⟨bu,ct⟩:=aq.bx;have c5:Hid (J w k 157 #[U a1 x a2,u1,u2,u3,u4,u5,u6,u7,bu]):=Z ct;have bv:=Z (λ(e:af) (f:Kp [k] w e)=>b5.keep f (λa a=>by rw[aA a];exact aq.sx));have c6:g.length=c2:=by cases b5 with|mk a3=>exact a3.1
 subst c6;obtain⟨a4,bz⟩:∃a4,a4=fR (s.map RT.tb) (.mk t z (RE.exs g) aM ao A y B r):=⟨_,rfl⟩;rw[<-bz];obtain⟨aU,b0⟩:∃aU:List Pl×Int->RO (Pl×Int),aU=λq=>RO.ap (decide (q.2<=12)) 3 r ((cy (s.map RT.tb) t z aM ao A y B r q.1).bind λa=>.ok (a,q.2)):=⟨_,rfl⟩;have c9:=Z b0;have da:Hid (a4=(fi (s.map RT.tb) (RE.exs (g.drop 0))).bind λq=>aU (aB.aN []++q.1,max 1 q.2)):=Z (by
  rw[bz,fR,b0];exact B3 (s.map RT.tb) (RE.exs g) (λq=>RO.ap (decide (q.2<=12)) 3 r ((cy (s.map RT.tb) t z aM ao A y B r q.1).bind λa=>RO.ok (a,q.2))))
 clear bz b0 b5 aq ct;have db:=Z cq;clear cq;have cu:=Z (Kp.refl [k] w);show Calls Tryz.prog 200 #[.agg #[t,z,U a8 g.length bt,U a9 ba bb,U ay bf bk,A,y,B,r],aj a0,aj aT] w _;go_enter Tryz.func200,Tryz.ntmps200
 go_upto_region 1 with(fail)
 obtain⟨aq,b6,bz,j,cw⟩:=nb w 93 #[t,z,U a8 g.length bt,U a9 ba bb,U ay bf bk,A,y,B,r];rw[b6];clear b6;have b0:=qk cu j;have b4:=qb j c5;obtain⟨b5,aq,dc,j,cx⟩:=nc cw 105 #[O 0,O 0,aa,aa,aa,O 0,O 0,aa];rw[aq];clear aq;have de:=qk b0 j;have df:=qb j b4;have cz:=qb j bz;have aq:=az cz;go_upto_region 2 with(fail)
 obtain⟨bz,aq,cA,j,b0⟩:=nc cx 105 #[t,O 0,aa,aa,aa,O 0,O 0,aa];rw[aq];clear aq;have dg:=qk de j;have dh:=qb j df;have cB:=qb j cz;have di:=qb j dc;have aq:=bh cB;obtain⟨c,aq⟩:∃c,c=w.heap.size+2:=⟨_,rfl⟩;rw[<-aq]at cA⊢;have bz:bz.heap.size=c+1:=ae
 have bz:w.heap.size+2<=c:=ae
 have bz:c<=w.heap.size+2:=ae
 clear cw cx b0 aq;go_upto_region 4 with(fail)
 obtain⟨dj,dk,dl,dm,dn⟩:=info_parts Tryz.Cr;go_loopg [7,18] (g.length+1) (λf C D wr=>∃(a:Nat) (b:Int) (d:List aB) (i:aX) (u:Nat) (bu:Int),C=.int .i64 b/\D=.int .i64 a/\a<=g.length/\g.length-a<f/\d.length=a/\1<=b/\b<=13/\c+1<=wr.heap.size/\Hid (J wr w.heap.size 93 #[t,z,U a8 g.length bt,U a9 ba bb,U ay bf bk,A,y,B,r])/\Hid (J wr (w.heap.size+1) 105 #[O 0,O 0,aa,aa,aa,O 0,O 0,aa])/\Hid (J wr c 105 #[t,O 0,U i a u,aa,aa,O 0,O 0,aa])/\Hid (J wr k 157 #[U a1 x a2,u1,u2,u3,u4,u5,u6,u7,bu])/\Hid (wr.ownsRow (c+1) 105 8 (U i a u) a (d.flatMap aB.cells))/\Hid (∀f∈d,dJ wr (Ro (c+1) wr (U i a u)) f)/\Hid (Kp [k] w wr)/\Hid (a4=(fi (s.map RT.tb) (RE.exs (g.drop a))).bind λq=>aU (aB.aN d++q.1,max b q.2)))
 case atStart=>exact⟨0,1,[],none,0,bu,rfl,rfl,by omega,by omega,rfl,by omega,by omega,by omega,cB,di,cA,dh,Z ⟨rfl,.inl ⟨rfl,rfl⟩⟩,Z (λf ax=>by cases ax),dg,da⟩
 obtain⟨a,aQ,C,aV,aW,bu,rfl,rfl,ep,cC,cD,dq,eq,er,b8,cE,cG,bA,b9,cH,bD,bE⟩:=hrel;have cI:=Z cC;have ca:=Z cD;clear cC cD;by_cases E:a<g.length
 case neg=>
  have H:¬(a:Int)<g.length:=ae
  have a7:=Z (show a4=RO.ap (decide (aQ<=12)) 3 r ((cy (s.map RT.tb) t z aM ao A y B r (aB.aN C)).bind λb=>.ok (b,aQ)) by
   rw[bE.out,List.drop_of_length_le ae];show aU (aB.aN C++[],max aQ 1)=_;rw[List.append_nil,Int.max_eq_left dq,c9.out])
  have bP:=(bD.cell (p:=(ab aT 0)) cr (by simpa using cs)).trans aO.cv;clear bE;have H:=bN b8;have H:=bN bA;have H:=λa=>J.frozen bA a;go_upto_region 11 with(fail)
  have aq:=Z (qG bA r);have H:=Z (Kp.aE (p:=(ab k 8)) (l:=[k]) ai (Kp.refl [k] wr) r);obtain⟨d,bu⟩:∃d,d=wr.setCell (ab k 8) r:=⟨_,rfl⟩;rw[<-bu]at aq H⊢;clear bu;have bu:=H;have u:=Z (bD.trans H);have b:=qo H b8;have bR:=qo H cE;have bS:=qo H cG;have bu:=u.size;have a5:=H;have I:=aq;have bF:=Z (bC b9 a5 (λi i=>by have:=aA i;omega));have bT:Hid (∀f∈C,dJ d (Bw (c+1) d.heap.size) f):=Z (λf ax=>((cH f ax).keep a5 (λi i hS=>by have D:=hS.1;have i:=aA i;omega)).mono (λi i=>⟨i.1,by have:=i.2.1;have:=a5.out.size;omega⟩));clear bP;have H:=(u.cell (p:=(ab aT 0)) cr (by simpa using cs)).trans aO.cv;have bp:=bN I;obtain⟨q,H⟩:∃q,q=decide (aQ<=12):=⟨_,rfl⟩;rw[<-H]at a7;have a6:∀D,q=D->decide (aQ<=12)=D:=λD h=>by rw[<-h,H]
  clear H;cases q
  case false=>
   have G:=a6 false rfl;clear a6;go_wp2_with fail
   refine fk (w:=w) (l:=[k]) u.out a7.out bp ?_ (λ_ h=>by cases h);intro i _;go_wp2;refine⟨rfl,?_⟩;rw[i.out];exact⟨u.out,⟨_,I.out⟩,rfl⟩
  have bU:=a6 true rfl;clear a6;go_wp2_with fail
  refine bJ u.out a7.out bp λbG=>?_;have bq:=Z (λ(e:af) (f:Kp [c] d e)=>(f.old u (λD i E=>absurd E (by rw[aA i];omega))));have bW:Hid (iC d k c (c+1) ⟨a1,x,a2⟩ s ⟨aV,a,aW⟩ C ⟨a9,ba,bb⟩ aM ⟨ay,bf,bk⟩ ao r):=Z
   {
    hX:=by omega,xp:=by omega,j3:=by omega,lw:=by have:=a5.out.size;omega,
    c0:=J.cell I.out 0,c8:=bp,
    ta:=λe f=>aO.out.ta.iG (aO.out.bx.g9 aO.out.us) aO.out.ko (bq.out e f),
    lk:=cF (h:=⟨aV,a,aW⟩) aB.len ca.out (by show a<=_;omega) bF.out,
    ik:=lX bF.out,sub:=bT.out,
    lc:=λe f=>(by cases bv.out e (bq.out e f)with|mk a3 G K i=>exact i),
    ln:=λe f=>(by cases bv.out e (bq.out e f)with|mk a3 G K L M N i=>exact i),
    l5:=c1}
  have bH:aG y:=by cases bv.out w cu.out with|mk a3 cO cP cQ cR cS cT cU cV cW bY=>exact bY
  have H:=Z (Cp k c (c+1) ⟨a1,x,a2⟩ s t z ⟨a8,g.length,bt⟩ ⟨aV,a,aW⟩ C ⟨a9,ba,bb⟩ aM ⟨ay,bf,bk⟩ ao A y B r d bH aO.fa bS bW);have bZ:Hid (Calls Tryz.prog 201 #[aj k,.agg #[t,z,U a8 g.length bt,U a9 ba bb,U ay bf bk,A,y,B,r],aj c] d λo w'=>RP [c] d (cy (s.map RT.tb) t z aM ao A y B r (aB.aN C)) (iE c (c+1)) o w'):=H;clear bH bU;have d:=az b;have d:=aY b;have d:=bh b;have d:=bj b;have d:=bn b;have d:=bQ b;have d:=cd b;have d:=b7 b;have d:=bN b;go_wp2_with fail
  refine dC bG.out bZ.out ?aD ?aF
  case aD=>
   intro d d d G i;go_wp2;refine⟨rfl,?_⟩;rw[G.out];exact⟨i.out.old u.out (λD d E=>absurd E (by rw[aA d];omega)),⟨_,i.out.blk I.out aC⟩,rfl⟩
  intro d d bI cb bK cc K;obtain⟨rfl,br,rfl,bL,bM⟩:=cc;clear cb bG;have ce:=Z (K.old u (λD d E=>absurd E (by rw[aA d];omega)));have cg:=qo K b;have bO:=qo K bR;have ch:=qo K I;obtain⟨RP,b⟩:∃RP,RP=br:=⟨_,rfl⟩;rw[<-b]at bM bK;have ci:=Z (show RP.cells=br.cells by rw[b]);clear K b;obtain⟨L,M,⟨N,P,Q⟩,cX,⟨R,T,V⟩,cZ,⟨W,X,Y⟩,dr,ad,al,⟨an,ar,aR⟩,ds⟩:=br;have i:Hid (J bI c 105 #[L,M,U N P Q,U R T V,U W X Y,ad,al,U an ar aR]):=Z bL;have cj:Hid (RP.cells=[.int .i64 L,.int .i64 M,.slice N P Q,.slice R T V,.slice W X Y,.int .i64 ad,.int .i64 al,.slice an ar aR]):=ci;clear bL;have b:=az i;have b:=aY i;have b:=bh i;have b:=bj i;have b:=bn i;have b:=bQ i;have b:=cd i;have b:=b7 i;go_wp2_with (first|(refine wpList_store_row rfl 105 (.tmp 4) (.tmp 53) rfl (w.heap.size+1) #[L,M,U N P Q,U R T V,U W X Y,ad,al,U an ar aR] rfl rfl 105 #[O 0,O 0,aa,aa,aa,O 0,O 0,aa] bO.out ak rfl bl ?_)|fail)
  obtain⟨d,b,G,aS⟩:=jk bO #[L,M,U N P Q,U R T V,U W X Y,ad,al,U an ar aR];rw[b];clear b;have ck:=Z (ce.grown aS (λb bw=>.inr (by injection bw with bw;omega)));have cl:=Z (J.grown ch aS (λo=>by injection o with o;omega));have dt:=Z (J.grown cg aS (λo=>by injection o with o;omega));have du:=Z (J.grown i aS (λo=>by injection o with o;omega));have bw:=Z ((Kp.refl [(w.heap.size+1)] bI).grown aS (λb bw=>.inl (by injection bw with bw;simp[bw])));have cm:=az G;have cn:=aY G;have co:=bh G;have cp:=bj G;have cK:=bn G;have cL:=bQ G;have cM:=cd G;have cN:=b7 G;refine bodyPost_ret (v:=.tuple #[.agg #[L,M,U N P Q,U R T V,U W X Y,ad,al,U an ar aR],aQ]) ?_ rfl ?_
  ·simp[results,Tryz.results200,go_sem,cm,cn,co,cp,cK,cL,cM,cN]
  rw[bK.out];exact⟨ck.out,⟨_,cl.out⟩,_,rfl,RP,rfl,by rw[cj.out],(bM.keep bw.out (λD b hS=>by have d:=hS.1;have b:=aA b;omega)).mono (λD b=>⟨by have:=b.1;omega,by have:=b.2;have:=bw.out.size;omega⟩)⟩
 have r:(a:Int)<g.length:=ae
 have r:(0:Int)<=a:=ae
 have cb:RE.exs (g.drop a)=g[a].ex::RE.exs (g.drop (a+1)):=by rw[List.drop_eq_getElem_cons E];rfl
 have dr:=Z (bv wr bD);obtain⟨bG,of,ds,es,an⟩:∃i r,a8=some ⟨i,r,none⟩/\i<wr.heap.size/\∀bp bF,(RE.cells g[a])[bp]?=some bF->ac wr (ab i (r+a*9+bp)) bF:=by
  cases dr.out with
  |mk a3=>exact a3.2.2 a E
 have dt:=Z (λ(e:af) (f:Kp [k] w e)=>show dX e S g[a] by
  cases bv.out e f with
  |mk a3 d b=>exact b _ (List.getElem_mem E))
 have cc:=Z (λ(e:af) (f:Kp [k] w e) (i:gv e k ⟨a1,x,a2⟩ [u1,u2,u3,u4,u5,u6,u7])=>db g[a] (List.getElem_mem E) e (aO.kp f i) (dt e f));obtain⟨bH,y⟩:∃bH,bH=g[a]:=⟨_,rfl⟩;rw[<-y]at an cc cb;obtain⟨bI,r⟩:∃bI,bI=fR (s.map RT.tb) bH.ex:=⟨_,rfl⟩;rw[<-r]at cc;have du:=Z r;have dv:=Z (show a4=bI.bind λb=>(fi (s.map RT.tb) (RE.exs (g.drop (a+1)))).bind λq=>aU ((aB.aN C++[b.1])++q.1,max (max aQ (b.2+1)) q.2) by rw[bE.out,cb,B4 (F:=aU),r]);clear y bE r cb;obtain⟨bK,ce,⟨bL,bM,bO⟩,et,⟨bP,bR,bS⟩,eu,⟨bT,bU,bW⟩,ev,cg,ch,ci,cj⟩:=bH;have dw:Hid (∀(e:af),Kp [k] w e->gv e k ⟨a1,x,a2⟩ [u1,u2,u3,u4,u5,u6,u7]->Calls Tryz.prog 200 #[.agg #[bK,ce,U bL bM bO,U bP bR bS,U bT bU bW,cg,ch,ci,cj],aj a0,aj aT] e λo w'=>mS e k ⟨a1,x,a2⟩ [u1,u2,u3,u4,u5,u6,u7] bI (oB e.heap.size) o w'):=cc;have e:ac wr (ab bG (of+a*9)) bK:=by simpa using an 0 _ rfl
 have dx:=an 1 _ rfl;have e:ac wr (ab bG (of+a*9+2)) (U bL bM bO):=an 2 _ rfl;have e:ac wr (ab bG (of+a*9+3)) (U bP bR bS):=an 3 _ rfl;have e:ac wr (ab bG (of+a*9+4)) (U bT bU bW):=an 4 _ rfl;have dy:=an 5 _ rfl;have dz:=an 6 _ rfl;have dA:=an 7 _ rfl;have dB:=an 8 _ rfl;clear an;subst ds;have e:IntKind.i64.wrap ((a:Int)+1)=(a:Int)+1:=IntWalk.i64_in _ ae;go_upto_region 6 with(first|(refine wpList_store_row rfl 93 (.tmp 9) (.tmp 21) rfl wr.heap.size #[bK,ce,U bL bM bO,U bP bR bS,U bT bU bW,cg,ch,ci,cj] rfl rfl 93 #[O 0,ah,aa,aa,aa,ah,ah,O 0,O 0] (J.new wr 93 #[O 0,ah,aa,aa,aa,ah,ah,O 0,O 0]) ak rfl bl ?_;rw[World.setRow_alloc_new])|fail)
 have r:=Z (Kp.refl [k] wr);obtain⟨cK,k,e,j,-⟩:=nb wr 93 #[bK,ce,U bL bM bO,U bP bR bS,U bT bU bW,cg,ch,ci,cj];rw[k];clear k;have bq:=qk bD j;have dD:=qb j bA;have dE:=qb j b8;have dF:=qb j cE;have dG:=qb j cG;have dH:=qk r j;have k:=bq.size;have k:=J.lt e;clear dx dy dz dA dB;have k:=az e;have k:=aY e;have k:=bh e;have k:=bj e;have k:=bn e;have k:=bQ e;have k:=cd e;have k:=b7 e;have e:=bN e;have dI:=(bq.cell (p:=(ab a0 0)) c3 (by simpa using c4)).trans aO.cf;have dK:∀e w,(callFunc 200 e).run Tryz.prog w=.ok (.enter 200 e) w:=enters_of Tryz.func200 ak rfl;go_wp2_with fail
 refine uU bq.out dv.out (dw.out cK bq.out ⟨_,dD.out⟩) ?aI ?aJ
 case aI=>
  intro e e e b d u;go_wp2;refine⟨rfl,?_⟩;rw[b.out];exact⟨bq.out.trans d.out,u.out,rfl⟩
 intro dL bF D cL ck dM a5 cM;obtain⟨ew,a6⟩:=dL;obtain⟨cl,rfl,cO,cN⟩:=dM;have e:=B2 (du.symm.trans cL);have cP:Hid (1<=a6/\a6<=12):=Z e;obtain⟨dO,dN⟩:=cM.out;clear cM cL dI dK e;have dP:=Z (bq.trans a5);have dQ:=Z (dH.trans a5);have e:=a5.size;have dR:=qo a5 dE;have dS:=qo a5 dF;have dT:=qo a5 dG;obtain⟨RP,e⟩:∃RP,RP=cl:=⟨_,rfl⟩;rw[<-e]at cN ck;have dU:=Z (show RP.cells=cl.cells by rw[e]);clear a5 e;obtain⟨G,H,⟨I,K,L⟩,ey,⟨M,N,P⟩,eA,⟨Q,R,T⟩,eB,V,W,⟨X,Y,ad⟩,eC⟩:=cl;have dV:bF=.tuple #[.agg #[G,H,U I K L,U M N P,U Q R T,V,W,U X Y ad],a6]:=cO;clear cO;subst dV;have cQ:Hid (RP.cells=[.int .i64 G,.int .i64 H,.slice I K L,.slice M N P,.slice Q R T,.int .i64 V,.int .i64 W,.slice X Y ad]):=dU;go_upto_region 7 with(first|(refine wpList_store_row rfl 105 (.tmp 10) (.tmp 26) rfl D.heap.size #[G,H,U I K L,U M N P,U Q R T,V,W,U X Y ad] rfl rfl 105 #[O 0,O 0,aa,aa,aa,O 0,O 0,aa] (J.new D 105 #[O 0,O 0,aa,aa,aa,O 0,O 0,aa]) ak rfl bl ?_;rw[World.setRow_alloc_new])|fail)
 have z:=Z (Kp.refl [] D);obtain⟨r,e,k,j,-⟩:=nb D 105 #[G,H,U I K L,U M N P,U Q R T,V,W,U X Y ad];rw[e];clear e;have A:=qk dP j;have B:=qb j dN;have an:=qb j dR;have ao:=qb j dS;have y:=qb j dT;have aq:=qk z j;have z:=qk dQ j;have e:=bh y;have j:=az k;have aM:=aY k;have aO:=bh k;have aT:=bj k;have a0:=bn k;have a1:=bQ k;have a2:=cd k;have a3:=b7 k;have a5:=Z (bC b9 z (λi b=>by have:=aA b;omega));have cm:=b3 b9;have a8:(a:Int)+1<=5001:=by omega
 refine ez 5 (S:=(λw'=>ac w' (ab c 2) (U aV a aW)/\ac w' (am D 0) G/\ac w' (am D 1) H/\ac w' (am D 2) (U I K L)/\ac w' (am D 3) (U M N P)/\ac w' (am D 4) (U Q R T)/\ac w' (am D 5) V/\ac w' (am D 6) W/\ac w' (am D 7) (U X Y ad))) ⟨e,j,aM,aO,aT,a0,a1,a2,a3⟩ (λhS=>?_);refine cJ ?_;refine tk 3 hS ?_;have e:=Z ((ag.refl r).drew);obtain⟨ar,j⟩:∃ar,ar=r.drew:=⟨_,rfl⟩;rw[<-j]at e hS⊢;clear j;have dW:=qk A e;have dY:=qb e B;have dZ:=qb e an;have d0:=qb e ao;have cn:=qb e y;have j:=qb e k;have d1:=qk aq e;have bY:=qk z e;have d2:=Z (aH e a5);have d3:=bh cn;have e:=J.lt cn;have d4:=az j;have d6:=aY j;have d7:=bh j;have d8:=bj j;have d9:=bn j;have ea:=bQ j;have eb:=cd j;have ec:=b7 j;have e:=J.lt j;refine aK 4 (λbr al=>?_);go_simp;refine al.out _ _ (λ_=>⟨bi d3,bi d4,bi d6,bi d7,bi d8,bi d9,bi ea,bi eb,bi ec⟩) ?_;refine av ?_;have e:=Z (aH ((ag.refl ar).alloc (.cells #[O 0,O 0,aa,aa,aa,O 0,O 0,aa] 105)) d2);have j:=Z (jd (J.new ar 105 #[O 0,O 0,aa,aa,aa,O 0,O 0,aa]) (m:=8) rfl);refine aK 5 (λbr al=>?_);refine c7 (ar.alloc (.cells #[O 0,O 0,aa,aa,aa,O 0,O 0,aa] 105)) (.tmp 29) (.tmp 32) 103 rfl (c+1) 105 dj _ 8 128 Tryz.underlying103 dk dl dm dn rfl au (U aV a aW) a (C.flatMap aB.cells) rfl e.out (ar.heap.size+1) (some ⟨ar.heap.size,0,none⟩) 1 1 mV rfl j.out Cs b1 ae aC ?_;intro e u bZ cR cS;obtain⟨eD,aR,rfl,ed⟩:=bo bZ;obtain⟨b,e,ee,j,cT,_,_,_,_⟩:=fE bZ ae;subst ee;have ef:=Z bZ;have cU:(C.flatMap aB.cells).length=a*8:=by rw[Cu,ca.out]
 have aS:=λbp e=>Ct bZ cU bp e;have co:Hid ((Value.slice aV a aW).ownBlock=some b\/b=ar.heap.size+1):=Z (by
  rcases cS with h|h
  ·exact .inl h.symm
  injection h with h;exact .inr (by simpa using h))
 have cV:=Z (fm ((Kp.refl [] ar).alloc _) cR);have e:=J.lt cT;refine al.out _ _ (λh=>absurd h au) ?_;clear al br cR cS ed;refine av ?_;have e:ac u (ab b (a*8)) (O 0):=aS 0 ae;have e:ac u (ab b (a*8+1)) (O 0):=aS 1 ae;have e:ac u (ab b (a*8+2)) aa:=aS 2 ae;have e:ac u (ab b (a*8+3)) aa:=aS 3 ae;have e:ac u (ab b (a*8+4)) aa:=aS 4 ae;have e:ac u (ab b (a*8+5)) (O 0):=aS 5 ae;have e:ac u (ab b (a*8+6)) (O 0):=aS 6 ae;have e:ac u (ab b (a*8+7)) aa:=aS 7 ae;clear aS;have e:=λbp=>J.frozen cT bp;have e:b≠c:=ae
 have eg:c≠b:=ae
 have cW:=λi d=>(cm i (jm d)).1;have cp:=Z (cV.blk cn (λx=>by have:=cW _ x;omega));have e:=bh cp;have e:=λa=>J.frozen cp a;refine b2 ?_;have e:(a:Int)<(a:Int)+1:=by omega
 refine tq 6 ?_;refine tq 8 ?_;refine ym 7 9 (λbr al=>?ay) (λbr al=>?aL)
 case' ay=>
  go_simp;refine al _ _ ?_;refine av ?_;refine dp 9 (λbr al=>?_);go_simp;refine al _ _ ?_;refine av ?_;refine bV ?_;obtain⟨aZ,e⟩:∃e,e=((((((((u.setCell (ab b (a*8)) G).setCell (ab b (a*8+1)) H).setCell (ab b (a*8+2)) (U I K L)).setCell (ab b (a*8+3)) (U M N P)).setCell (ab b (a*8+4)) (U Q R T)).setCell (ab b (a*8+5)) V).setCell (ab b (a*8+6)) W).setCell (ab b (a*8+7)) (U X Y ad)).setCell (ab c 2) (U (some ⟨b,0,none⟩) (a+1) aR):=⟨_,rfl⟩;rw[<-e];have bs:aZ=(bX u b (a*8) [.int .i64 G,.int .i64 H,.slice I K L,.slice M N P,.slice Q R T,.int .i64 V,.int .i64 W,.slice X Y ad]).setCell (ab c 2) (U (some ⟨b,0,none⟩) (a+1) aR):=e;clear e
 case' aL=>
  go_simp;refine al _ _ ?_;refine av ?_;refine dp 7 (λbr al=>?_);go_simp;refine al _ _ ?_;refine av ?_;refine bV ?_;obtain⟨aZ,e⟩:∃e,e=(((((((((u.setCell (ab c 2) (U (some ⟨b,0,none⟩) (a+1) aR)).setCell (ab b (a*8)) G).setCell (ab b (a*8+1)) H).setCell (ab b (a*8+2)) (U I K L)).setCell (ab b (a*8+3)) (U M N P)).setCell (ab b (a*8+4)) (U Q R T)).setCell (ab b (a*8+5)) V).setCell (ab b (a*8+6)) W).setCell (ab b (a*8+7)) (U X Y ad)):=⟨_,rfl⟩;rw[<-e];have bs:=e.trans (mI [.int .i64 G,.int .i64 H,.slice I K L,.slice M N P,.slice Q R T,.int .i64 V,.int .i64 W,.slice X Y ad] b (a*8) u eg);clear e
 all_goals
  have bw:∀i∈(Value.slice aV a aW).ownBlock.toList++[b,c],c<=i:=λi d=>by
   rcases cY d with a7|a7
   ·have:=cW _ a7;omega
   rcases dd a7 with a7|a7
   ·omega
   have:=aA a7;omega
  have a7:=Z (show Kp ((Value.slice aV a aW).ownBlock.toList++[b,c]) ar aZ by
   rw[bs];exact((cV.out.mono (λi d=>jX (.inl d))).trans ((nZ b [.int .i64 G,.int .i64 H,.slice I K L,.slice M N P,.slice Q R T,.int .i64 V,.int .i64 W,.slice X Y ad] (a*8) u u (Kp.refl _ _)).mono (λi d=>jX (.inr (by rw[aA d];simp))))).trans ((Kp.aE (p:=(ab c 2)) (l:=[c]) ai (Kp.refl [c] _) (U (some ⟨b,0,none⟩) (a+1) aR)).mono (λi d=>jX (.inr (by rw[aA d];simp)))))
  have eh:=Z (show J aZ c 105 #[t,O 0,U (some ⟨b,0,none⟩) (a+1) aR,aa,aa,O 0,O 0,aa] by rw[bs];exact((nZ b [.int .i64 G,.int .i64 H,.slice I K L,.slice M N P,.slice Q R T,.int .i64 V,.int .i64 W,.slice X Y ad] (a*8) u u (Kp.refl _ _)).blk cp.out aC).aP 2 _);have ei:=Z (show aZ.ownsRow (c+1) 105 8 (U (some ⟨b,0,none⟩) (a+1) aR) (a+1) ((C++[RP]).flatMap aB.cells) by
   have e:=tS ef cU (ys:=mV) rfl (vs:=[.int .i64 G,.int .i64 H,.slice I K L,.slice M N P,.slice Q R T,.int .i64 V,.int .i64 W,.slice X Y ad]) rfl;rw[<-cQ.out]at e;rw[bs,List.flatMap_append,<-cQ.out];have j:[RP].flatMap aB.cells=RP.cells:=ai
   rw[j];exact bC e (Kp.aE (p:=(ab c 2)) (l:=[c]) ai (Kp.refl [c] _) (U (some ⟨b,0,none⟩) (a+1) aR)) (λi d=>by have:=aA d;omega))
  have ej:=Z (a7.old dW (λi d E=>absurd E (by have:=bw i d;omega)));have e:=a7.size;have ek:=Z (a7.blk dZ (λx=>by have:=bw _ x;omega));have el:=Z (a7.blk d0 (λx=>by have:=bw _ x;omega));have em:=Z (a7.blk dY (λx=>by have:=bw _ x;omega));have en:Hid (∀f∈C++[RP],dJ aZ (Ro (c+1) aZ (U (some ⟨b,0,none⟩) (a+1) aR)) f):=Z (λf ax=>by
   rcases cY ax with h|h
   ·refine vd ((cH.out f h).keep bY.out (λi d hS=>by have c:=hS.1;have c:=aA d;omega)) a7.out (λi d=>⟨d.2.2,?_,by have:=d.1;omega⟩) (λi d=>⟨d.1,by have:=d.2.1;have:=bY.out.size;omega,?_⟩)
    ·rintro rfl
     rcases co.out with cX|cX
     ·exact d.2.2 cX
     have:=d.2.1;have:=bY.out.size;omega
    intro o;have cZ:b=i:=by injection o
    subst cZ;rcases co.out with cX|cX
    ·exact d.2.2 cX
    have:=d.2.1;have:=bY.out.size;omega
   rw[aA h];have cX:∀i,Bw cK.heap.size D.heap.size i->i≠b:=λi d o=>by
    subst o;rcases co.out with cZ|cZ
    ·have:=cm _ cZ;have:=d.1;omega
    have:=d.2;omega
   exact vd (cN.keep (l:=[]) d1.out (λ_ h=>by cases h)) a7.out (λi d=>⟨λc=>by have:=cm _ c;have:=d.1;omega,cX i d,by have:=d.1;omega⟩) (λi d=>⟨by have:=d.1;omega,by have:=d.2;omega,λo=>cX i d (by injection o with o;exact o.symm)⟩))
  clear bs bw;have c:=cP.1;have c:=cP.2;have b6:IntKind.i64.wrap (a6+1)=a6+1:=IntWalk.i64_in _ ae;have cX:=Z (show a4=(fi (s.map RT.tb) (RE.exs (g.drop (a+1)))).bind λq=>aU (aB.aN (C++[RP])++q.1,max (max aQ (a6+1)) q.2) by rw[ck.out,Cv]);clear ck;go_wp2_with fail
  go_roundg (g.length-a)
  case measure=>have:=cI.out;omega
  exact⟨a+1,max aQ (a6+1),C++[RP],some ⟨b,0,none⟩,aR,dO,rfl,by go_num,by omega,by have:=cI.out;omega,by rw[List.length_append,ca.out];rfl,by omega,by omega,by omega,ek,el,eh,em,ei,en,ej,cX⟩
theorem DT (b:RT) (c:Cg) (e:Nat) (a:af) (f:fw a b) (g:aG c.name):
 Calls Tryz.prog 255 #[b.val,c.val,e] a λi A=>i=.returned (O (gm b.tb c))/\ag a A:=by
 have d:=Z (λd (j:ag a d)=>vR b c d (f.same j) g);generalize gm b.tb c=B at d⊢;clear f g;obtain⟨j,⟨k,l,m⟩,D,⟨n,o,p⟩,E⟩:=b;obtain⟨q,r,s,t,u,⟨v,w,x⟩⟩:=c;have C:Hid (Rt 247 #[.agg #[j,U k l m,U n o p],.agg #[q,r,s,t,u,v,w,x]] a B):=d;clear d;show Calls Tryz.prog 255 #[.agg #[j,U k l m,U n o p],.agg #[q,r,s,t,u,v,w,x],e] a _;go_enter Tryz.func255,Tryz.ntmps255
 go_wp2_with (go_at_call 247;refine(C.out _ ?_).mono ?_;exact((ag.refl a).alloc _).alloc _;rintro i b ⟨rfl,y⟩;have z:=Z y;clear y)
 go_ret;exact⟨rfl,(((ag.refl a).alloc _).alloc _).trans z⟩
theorem DU (b:RT) (c:Cg) (d:Nat) (a:af) (i:fw a b):
 Calls Tryz.prog 250 #[b.val,c.val,d] a λe o=>e=.returned (O (if b.key.any (λf=>decide (f=(d:Int)))then 1 else 0))/\ag a o:=by
 have g:=Z (λg (j:ag a g)=>o9 b.hk b.key (d:Int) g (i.2.1.same j));generalize (b.key.any λj=>decide (j=(d:Int)))=j at g⊢;clear i;obtain⟨p,⟨q,r,s⟩,A,⟨k,l,m⟩,B⟩:=b;obtain⟨f,t,u,v,w,⟨x,y,z⟩⟩:=c;have n:Hid (Re 188 #[U k l m,d] a (.bool j)):=g;clear g;show Calls Tryz.prog 250 #[.agg #[p,U q r s,U k l m],.agg #[f,t,u,v,w,x,y,z],d] a _;go_enter Tryz.func250,Tryz.ntmps250
 cases j
 case true=>
  go_wp2_with (go_at_call 188;refine(n.out _ ?_).mono ?_;exact((ag.refl a).alloc _).alloc _;rintro e b ⟨rfl,rfl⟩)
  go_ret;exact⟨rfl,((ag.refl a).alloc _).alloc _⟩
 go_wp2_with (go_at_call 188;refine(n.out _ ?_).mono ?_;exact((ag.refl a).alloc _).alloc _;rintro e b ⟨rfl,rfl⟩)
 go_ret;exact⟨rfl,((ag.refl a).alloc _).alloc _⟩
theorem DV (b:RT) (c:Cg) (B:Int) (a:af) (j:fw a b) (C:aG c.name):
 Calls Tryz.prog 245 #[b.val,c.val,B] a λe E=>e=.returned (O (if g1 c then(if gm b.tb c≠0 then gm b.tb c else if b.ra.length=12 then 3 else 0)else 1))/\ag a E:=by
 have o:=Z (λf=>vQ c f);have p:=Z (λf (i:ag a f)=>vR b c f (j.same i) C);have D:=j.1.1.1;have N:=j.1.1.2.1;obtain⟨E,q⟩:∃E:Int,E=(if g1 c then(if gm b.tb c≠0 then gm b.tb c else if b.ra.length=12 then 3 else 0)else 1):=⟨_,rfl⟩;rw[<-q];have f:=Z q;generalize gm b.tb c=r at p f;generalize g1 c=F at o f;clear j C q;obtain⟨G,⟨H,Q,I⟩,i,⟨J,K,L⟩,R⟩:=b;obtain⟨s,t,u,v,w,⟨x,y,z⟩⟩:=c;simp only at D N f;subst D;have A:Hid (Rt 247 #[.agg #[G,U H i.length I,U J K L],.agg #[s,t,u,v,w,x,y,z]] a r):=p;have k:Hid (Rs 246 #[.agg #[s,t,u,v,w,x,y,z]] (.bool F)):=o;clear p o;show Calls Tryz.prog 245 #[.agg #[G,U H i.length I,U J K L],.agg #[s,t,u,v,w,x,y,z],B] a _;go_enter Tryz.func245,Tryz.ntmps245
 cases F
 case false=>
  go_wp2_with (go_at_call 246;refine(k.out _).mono ?_;rintro e b ⟨rfl,l⟩;have d:=Z l;clear l)
  go_ret;exact⟨d0 f.symm,(((ag.refl a).alloc _).alloc _).trans d⟩
 by_cases l:r=0
 ·subst l
  by_cases m:i.length=12
  ·have b:((i.length:Int)==12)=true:=by simp;omega
   have P:=Z m;clear m;go_wp2_with (first
    |(go_at_call 246;refine(k.out _).mono ?_;rintro e M ⟨rfl,n⟩;have b:=n.cells;have b:a.heap.size+1<M.heap.size:=(by have:=n.size;simp at this;omega);have b:a.heap.size<M.heap.size:=ae;have d:=Z ((((ag.refl a).alloc _).alloc _).trans n);clear n)
    |(go_at_call 247;refine(A.out _ ?_).mono ?_;exact d.out;rintro e b ⟨rfl,n⟩;have b:=n.cells;have b:=n.size;have g:=Z (d.out.trans n);clear n))
   go_ret;exact⟨d0 (by rw[f.out];simp[P.out]),g⟩
  have b:((i.length:Int)==12)=false:=aC
  have P:=Z m;clear m;go_wp2_with (first
   |(go_at_call 246;refine(k.out _).mono ?_;rintro e M ⟨rfl,n⟩;have b:=n.cells;have b:a.heap.size+1<M.heap.size:=(by have:=n.size;simp at this;omega);have b:a.heap.size<M.heap.size:=ae;have d:=Z ((((ag.refl a).alloc _).alloc _).trans n);clear n)
   |(go_at_call 247;refine(A.out _ ?_).mono ?_;exact d.out;rintro e b ⟨rfl,n⟩;have b:=n.cells;have b:=n.size;have g:=Z (d.out.trans n);clear n))
  go_ret;exact⟨d0 (by rw[f.out];simp[P.out]),g⟩
 have b:(r !=0)=true:=by simp;exact l
 have M:=Z l;clear l;go_wp2_with (first
  |(go_at_call 246;refine(k.out _).mono ?_;rintro e n ⟨rfl,m⟩;have b:=m.cells;have b:a.heap.size+1<n.heap.size:=(by have:=m.size;simp at this;omega);have b:a.heap.size<n.heap.size:=ae;have d:=Z ((((ag.refl a).alloc _).alloc _).trans m);clear m)
  |(go_at_call 247;refine(A.out _ ?_).mono ?_;exact d.out;rintro e a ⟨rfl,m⟩;have a:=m.cells;have a:=m.size;have g:=Z (d.out.trans m);clear m))
 go_ret;exact⟨d0 (by rw[f.out];simp[M.out]),g⟩
theorem DW (d:RT) (c:Cg) (a:Nat) (w:af) (u:fw w d) (B:a<d.ra.length):
 Calls Tryz.prog 259 #[d.val,c.val,a] w λK R=>K=.returned (.int .i64 (if g1 c&&!decide ((d.tb.attrs.map At.kind)[a]?=some c.dE)then 0 else 1))/\ag w R:=by
 have C:=Z (λb=>vQ c b);have H:=Z (λ(b:af) (e:ag w b)=>(u.same e).1.1);have I:=u.1.1.1;have S:=u.1.1.2.1;have J:Hid ((d.tb.attrs.map At.kind)[a]?=some d.ra[a].at_.kind):=by show _=_;simp[RT.tb,B]
 obtain⟨K,v⟩:∃K:Int,K=(if g1 c&&!decide ((d.tb.attrs.map At.kind)[a]?=some c.dE)then 0 else 1):=⟨_,rfl⟩;rw[<-v];rw[J.out]at v;have g:=Z v;generalize g1 c=L at C g;clear u J v;obtain⟨x,⟨aa,ad,j⟩,f,⟨y,z,A⟩,ae⟩:=d;obtain⟨k,l,m,n,e,⟨o,p,q⟩⟩:=c;simp only at I S B g;subst I;have T:Hid (Rs 246 #[.agg #[k,l,m,n,e,o,p,q]] (.bool L)):=C;have d:=H;clear H C;obtain⟨r,s,V,M,N⟩:=(d w (ag.refl _)).2.2 a B;subst V;have D:=N 1 (O f[a].at_.kind) rfl;generalize f[a].at_.kind=E at D g;clear N;show Calls Tryz.prog 259 #[.agg #[x,U (some ⟨r,s,none⟩) f.length j,U y z A],.agg #[k,l,m,n,e,o,p,q],a] w _;obtain⟨b,t⟩:=aq ((w.alloc (.cells #[x,U (some ⟨r,s,none⟩) f.length j,U y z A] 81)).alloc (.cells #[k,l,m,n,e,o,p,q] 99));have d:ag w b:=by rw[t];exact((ag.refl w).alloc _).alloc _
 have B:ac b (am w 1) (U (some ⟨r,s,none⟩) f.length j):=by rw[t];simp
 have a:∀u v,(#[Value.int .i64 k,l,m,n,e,o,p,q]:Array Value)[u]?=some v->ac b (ab (w.heap.size+1) u) v:=by
  intro u v u;rw[t];have i:=heap_alloc_new (w.alloc (.cells #[x,U (some ⟨r,s,none⟩) f.length j,U y z A] 81)) (.cells #[k,l,m,n,e,o,p,q] 99);have f:(w.alloc (.cells #[x,U (some ⟨r,s,none⟩) f.length j,U y z A] 81)).heap.size=w.heap.size+1:=ai
  rw[f]at i;simp only[World.cell?,i];simpa using u
 have f:=a 0 _ rfl;have j:=a 1 _ rfl;have k:=a 2 _ rfl;have l:=a 3 _ rfl;have m:=a 4 _ rfl;have n:=a 5 _ rfl;have o:=a 6 _ rfl;have p:=a 7 _ rfl;have q:=(d.cells _ _ M).trans D;have F:=Z d;have r:=bM B;have r:=bM q;have r:=bM f;have r:=bM j;have r:=bM k;have r:=bM l;have r:=bM m;have r:=bM n;have r:=bM o;have r:=bM p;have G:=gX (w:=b) (λi _=>T i);clear B a f j k l m n o p D q d M;go_enter Tryz.func259,Tryz.ntmps259
 go_wp2_with fail
 rw[<-t];clear t;cases L
 case false=>
  refine wp_region_quiet_below ak ak ?_;repeat (go_big_quiet_step (first|(go_at_call 246;exact G _ _)))
  refine wpQuiet_nil ?_;intro _ Q;obtain⟨⟨i,osq⟩,W⟩:=Q;subst W;have P:=Z (ag.reg b i osq);generalize Sort.grow (redrawn b i) osq=X at P⊢;go_wp2;go_ret;exact⟨d0 g.symm,F.trans P⟩
 by_cases i:E=e
 ·have a:(E==e)=true:=by simp[i]
  have W:=Z i;clear i;refine wp_region_quiet_below ak ak ?_;repeat (go_big_quiet_step (first|(go_at_call 246;exact G _ _)))
  refine wpQuiet_nil ?_;intro _ X;obtain⟨⟨P,osq⟩,Y⟩:=X;subst Y;have Q:=Z (ag.reg b P osq);generalize Sort.grow (redrawn b P) osq=ah at Q⊢;go_wp2;go_ret;exact⟨d0 (by rw[g.out];simp[W.out]),F.trans Q⟩
 have a:(E==e)=false:=by simp[i]
 have W:=Z i;clear i;refine wp_region_quiet_below ak ak ?_;repeat (go_big_quiet_step (first|(go_at_call 246;exact G _ _)))
 refine wpQuiet_nil ?_;intro _ X;obtain⟨⟨P,osq⟩,Y⟩:=X;subst Y;have Q:=Z (ag.reg b P osq);generalize Sort.grow (redrawn b P) osq=ah at Q⊢;go_wp2;go_ret;exact⟨d0 (by rw[g.out];simp[W.out]),F.trans Q⟩
def kk:Value:=.agg #[.bool false,.nilFunc,.nilFunc,.nilFunc]
theorem DX (m a n:aw) (o p q:Int) (r:aw) (d:af):
 Calls Tryz.prog 101 #[.agg #[O 1,m,a,n,o,p,q,r]] d λj m=>j=.returned (.tuple #[gQ,.bool (decide (a.size=0))])/\ag d m:=by
 by_cases b:a.size=0
 case neg=>
  have m:¬a.toList=[]:=λh=>b ((fB a).1 h);have k:Hid (decide (a.size=0)=false):=by show _=false;simp[b]
  generalize decide (a.size=0)=s at k⊢;clear b;go_enter Tryz.func101,Tryz.ntmps101
  go_wp2_with (go_at_call 177;refine(vM _).mono ?_;rintro j m ⟨l,c⟩;unfold gQ bt at l;subst l;have e:=Z c;have f:=c.cells;have g:=c.frees;have i:=c.size;clear c)
  go_region
  all_goals
   go_wp2;refine bodyPost_ret (v:=.tuple #[gQ,.bool false]) ?_ rfl ⟨?_,?_⟩
   ·simp[results,Tryz.results101,go_sem,gQ,bt,f,g]
   ·rw[k.out]
   simp at i;repeat with_reducible first|refine ag.setCell ?_ aD _|refine ag.drew ?_
   exact(((((ag.refl d).alloc _).alloc _).alloc _).alloc _).trans e.out
 have m:=(fB a).2 b;have k:Hid (decide (a.size=0)=true):=by show _=true;simp[b]
 generalize decide (a.size=0)=s at k⊢;clear b;go_enter Tryz.func101,Tryz.ntmps101
 go_wp2_with (go_at_call 177;refine(vM _).mono ?_;rintro j a ⟨l,c⟩;unfold gQ bt at l;subst l;have e:=Z c;have f:=c.cells;have g:=c.frees;have i:=c.size;clear c)
 go_region
 all_goals
  go_wp2;refine bodyPost_ret (v:=.tuple #[gQ,.bool true]) ?_ rfl ⟨?_,?_⟩
  ·simp[results,Tryz.results101,go_sem,gQ,bt,f,g]
  ·rw[k.out]
  simp at i;repeat with_reducible first|refine ag.setCell ?_ aD _|refine ag.drew ?_
  exact(((((ag.refl d).alloc _).alloc _).alloc _).alloc _).trans e.out
theorem DY (m n a:aw) (d f g:Int) (b:aw) (w:af):
 Calls Tryz.prog 101 #[.agg #[O 2,m,n,a,d,f,g,b]] w λe m=>e=.returned (.tuple #[gR,.bool (decide (a.size=0)&&(decide (d=0)&&(decide (f=0)&&(decide (g=0)&&decide (b.size=0)))))])/\ag w m:=by
 by_cases c:a.size=0
 case neg=>
  have i:¬a.toList=[]:=λh=>c ((fB a).1 h);have HD:Hid ((decide (a.size=0)&&(decide (d=0)&&(decide (f=0)&&(decide (g=0)&&decide (b.size=0)))))=false):=by show _=false;simp[c]
  generalize (decide (a.size=0)&&(decide (d=0)&&(decide (f=0)&&(decide (g=0)&&decide (b.size=0)))))=j at HD⊢;clear c;exact fD
 by_cases i:d=0
 case neg=>
  have j:=(fB a).2 c;have HD:Hid ((decide (a.size=0)&&(decide (d=0)&&(decide (f=0)&&(decide (g=0)&&decide (b.size=0)))))=false):=by show _=false;simp[c,i]
  generalize (decide (a.size=0)&&(decide (d=0)&&(decide (f=0)&&(decide (g=0)&&decide (b.size=0)))))=k at HD⊢;clear c;exact fD
 by_cases j:f=0
 case neg=>
  have k:=(fB a).2 c;have HD:Hid ((decide (a.size=0)&&(decide (d=0)&&(decide (f=0)&&(decide (g=0)&&decide (b.size=0)))))=false):=by show _=false;simp[c,i,j]
  generalize (decide (a.size=0)&&(decide (d=0)&&(decide (f=0)&&(decide (g=0)&&decide (b.size=0)))))=l at HD⊢;clear c;subst i;exact fD
 by_cases l:g=0
 case neg=>
  have k:=(fB a).2 c;have HD:Hid ((decide (a.size=0)&&(decide (d=0)&&(decide (f=0)&&(decide (g=0)&&decide (b.size=0)))))=false):=by show _=false;simp[c,i,j,l]
  generalize (decide (a.size=0)&&(decide (d=0)&&(decide (f=0)&&(decide (g=0)&&decide (b.size=0)))))=o at HD⊢;clear c;subst i;subst j;exact fD
 by_cases k:b.size=0
 case neg=>
  have m:=(fB a).2 c;have m:¬b.toList=[]:=λh=>k ((fB b).1 h);have HD:Hid ((decide (a.size=0)&&(decide (d=0)&&(decide (f=0)&&(decide (g=0)&&decide (b.size=0)))))=false):=by show _=false;simp[c,i,j,l,k]
  generalize (decide (a.size=0)&&(decide (d=0)&&(decide (f=0)&&(decide (g=0)&&decide (b.size=0)))))=o at HD⊢;clear c k;subst i;subst j;subst l;exact fD
 have m:=(fB a).2 c;have m:=(fB b).2 k;have HD:Hid ((decide (a.size=0)&&(decide (d=0)&&(decide (f=0)&&(decide (g=0)&&decide (b.size=0)))))=true):=by show _=true;simp[c,i,j,l,k]
 generalize (decide (a.size=0)&&(decide (d=0)&&(decide (f=0)&&(decide (g=0)&&decide (b.size=0)))))=o at HD⊢;clear c k;subst i;subst j;subst l;go_enter Tryz.func101,Tryz.ntmps101
 go_wp2_with (go_at_call 178;refine(vN _).mono ?_;rintro e w1 ⟨he,s1⟩;unfold gR bt at he;subst he;have S1:=Z s1;have K1:=s1.cells;have F1:=s1.frees;have Z1:=s1.size;clear s1)
 go_region
 all_goals
  go_wp2;refine bodyPost_ret (v:=.tuple #[gR,.bool true]) ?_ rfl ⟨?_,?_⟩
  ·simp[results,Tryz.results101,go_sem,gR,bt,K1,F1]
  ·rw[HD.out]
  simp at Z1;repeat with_reducible first|refine ag.setCell ?_ aD _|refine ag.drew ?_
  exact(((((ag.refl w).alloc _).alloc _).alloc _).alloc _).trans S1.out
theorem DZ (k l m:aw) (b c d:Int) (a:aw) (w:af):
 Calls Tryz.prog 101 #[.agg #[O 3,k,l,m,b,c,d,a]] w λe k=>e=.returned (.tuple #[gS,.bool (decide (b=0)&&(decide (c=0)&&(decide (d=0)&&decide (a.size=0))))])/\ag w k:=by
 by_cases f:b=0
 case neg=>
  have HD:Hid ((decide (b=0)&&(decide (c=0)&&(decide (d=0)&&decide (a.size=0))))=false):=by show _=false;simp[f]
  generalize (decide (b=0)&&(decide (c=0)&&(decide (d=0)&&decide (a.size=0))))=g at HD⊢;exact sH
 by_cases g:c=0
 case neg=>
  have HD:Hid ((decide (b=0)&&(decide (c=0)&&(decide (d=0)&&decide (a.size=0))))=false):=by show _=false;simp[f,g]
  generalize (decide (b=0)&&(decide (c=0)&&(decide (d=0)&&decide (a.size=0))))=i at HD⊢;subst f;exact sH
 by_cases j:d=0
 case neg=>
  have HD:Hid ((decide (b=0)&&(decide (c=0)&&(decide (d=0)&&decide (a.size=0))))=false):=by show _=false;simp[f,g,j]
  generalize (decide (b=0)&&(decide (c=0)&&(decide (d=0)&&decide (a.size=0))))=i at HD⊢;subst f;subst g;exact sH
 by_cases i:a.size=0
 case neg=>
  have k:¬a.toList=[]:=λh=>i ((fB a).1 h);have HD:Hid ((decide (b=0)&&(decide (c=0)&&(decide (d=0)&&decide (a.size=0))))=false):=by show _=false;simp[f,g,j,i]
  generalize (decide (b=0)&&(decide (c=0)&&(decide (d=0)&&decide (a.size=0))))=n at HD⊢;clear i;subst f;subst g;subst j;exact sH
 have k:=(fB a).2 i;have HD:Hid ((decide (b=0)&&(decide (c=0)&&(decide (d=0)&&decide (a.size=0))))=true):=by show _=true;simp[f,g,j,i]
 generalize (decide (b=0)&&(decide (c=0)&&(decide (d=0)&&decide (a.size=0))))=n at HD⊢;clear i;subst f;subst g;subst j;go_enter Tryz.func101,Tryz.ntmps101
 go_wp2_with (go_at_call 179;refine(vO _).mono ?_;rintro e w1 ⟨he,s1⟩;unfold gS bt at he;subst he;have S1:=Z s1;have K1:=s1.cells;have F1:=s1.frees;have Z1:=s1.size;clear s1)
 go_region
 all_goals
  go_wp2;refine bodyPost_ret (v:=.tuple #[gS,.bool true]) ?_ rfl ⟨?_,?_⟩
  ·simp[results,Tryz.results101,go_sem,gS,bt,K1,F1]
  ·rw[HD.out]
  simp at Z1;repeat with_reducible first|refine ag.setCell ?_ aD _|refine ag.drew ?_
  exact(((((ag.refl w).alloc _).alloc _).alloc _).alloc _).trans S1.out
theorem D0 (m n a:aw) (o p q:Int) (r:aw) (d:af):
 Calls Tryz.prog 101 #[.agg #[O 4,m,n,a,o,p,q,r]] d λj m=>j=.returned (.tuple #[gT,.bool (decide (a.size=0))])/\ag d m:=by
 by_cases b:a.size=0
 case neg=>
  have m:¬a.toList=[]:=λh=>b ((fB a).1 h);have k:Hid (decide (a.size=0)=false):=by show _=false;simp[b]
  generalize decide (a.size=0)=s at k⊢;clear b;go_enter Tryz.func101,Tryz.ntmps101
  go_wp2_with (go_at_call 180;refine(vP _).mono ?_;rintro j m ⟨l,c⟩;unfold gT bt at l;subst l;have e:=Z c;have f:=c.cells;have g:=c.frees;have i:=c.size;clear c)
  go_region
  all_goals
   go_wp2;refine bodyPost_ret (v:=.tuple #[gT,.bool false]) ?_ rfl ⟨?_,?_⟩
   ·simp[results,Tryz.results101,go_sem,gT,bt,f,g]
   ·rw[k.out]
   simp at i;repeat with_reducible first|refine ag.setCell ?_ aD _|refine ag.drew ?_
   exact(((((ag.refl d).alloc _).alloc _).alloc _).alloc _).trans e.out
 have m:=(fB a).2 b;have k:Hid (decide (a.size=0)=true):=by show _=true;simp[b]
 generalize decide (a.size=0)=s at k⊢;clear b;go_enter Tryz.func101,Tryz.ntmps101
 go_wp2_with (go_at_call 180;refine(vP _).mono ?_;rintro j a ⟨l,c⟩;unfold gT bt at l;subst l;have e:=Z c;have f:=c.cells;have g:=c.frees;have i:=c.size;clear c)
 go_region
 all_goals
  go_wp2;refine bodyPost_ret (v:=.tuple #[gT,.bool true]) ?_ rfl ⟨?_,?_⟩
  ·simp[results,Tryz.results101,go_sem,gT,bt,f,g]
  ·rw[k.out]
  simp at i;repeat with_reducible first|refine ag.setCell ?_ aD _|refine ag.drew ?_
  exact(((((ag.refl d).alloc _).alloc _).alloc _).alloc _).trans e.out
theorem D1 (a:Int) (g i j:aw) (k l m:Int) (n:aw) (b:af) (c:a≠1) (d:a≠2) (e:a≠3) (f:a≠4):
 Calls Tryz.prog 101 #[.agg #[a,g,i,j,k,l,m,n]] b λg i=>g=.returned (.tuple #[kk,.bool false])/\ag b i:=by
 have g:(a==1)=false:=by simpa using c
 have g:(a==2)=false:=by simpa using d
 have g:(a==3)=false:=by simpa using e
 have a:(a==4)=false:=by simpa using f
 clear c d e f;go_enter Tryz.func101,Tryz.ntmps101
 go_wp2;refine bodyPost_ret (v:=.tuple #[kk,.bool false]) ?_ rfl ⟨rfl,?_⟩
 ·simp[results,Tryz.results101,go_sem,kk]
 repeat (with_reducible refine ag.setCell ?_ aD _)
 exact((((ag.refl b).alloc _).alloc _).alloc _).alloc _
end Go.Proofs.YteamkimbmdgdbaaGreatDoor
