import Derived.Test.YteamkimbmdgdbaaGreatDoorK17
import Derived.Test.YteamkimbmdgdbaaGreatDoorK18
import Derived.Test.YteamkimbmdgdbaaGreatDoorK19
import Derived.Test.YteamkimbmdgdbaaGreatDoorK20
import Derived.Test.YteamkimbmdgdbaaGreatDoorK21
set_option linter.unusedSimpArgs false
set_option linter.unusedVariables false
set_option maxHeartbeats 16000000
set_option maxRecDepth 100000
namespace Go.Proofs.YteamkimbmdgdbaaGreatDoor
open Go.Proofs.Tryz
open Go.RowKit
theorem Ft (c:List Tb) (a:Int) (d:av) (e:List bv) (f:bk) (g i:av) (j b:Int) (k:List Pl) (h:eF a=none):∃l,cq c a d e f g i j b k=RO.ap false 1 b l:=by
 unfold cq;rw[h];exact⟨_,rfl⟩
theorem Fu (l d x:Nat) (h:Hd) (m:List RT) (f:Int) (g:av) (y r:Hd) (n:List aC) (s:Hd) (o:List bv) (t:Hd) (p:bk) (i j:av) (k at_:Int) (c:ah) (u:eF f=none)
 (v:aa c d 105 #[f,J 0,r.val,ab,ab,J 0,J 0,ab]) (q:iV c l d x h m r n s o t p at_):
 Calls prog 201 #[ak l,.agg #[f,g,y.val,s.val,t.val,i,j,k,at_],ak d] c
  λe w'=>RP [d] c (cq (m.map RT.tb) f g o p i j k at_ (aC.aO n)) (iW d x) e w':=by
 obtain⟨az,aA,aB⟩:=h;obtain⟨aD,aE,aG⟩:=r;obtain⟨C,D,E⟩:=y;obtain⟨F,G,H⟩:=s;obtain⟨I,L,M⟩:=t;have t:=Z q;have s:=q.hX;have r:=q.xp;have x:=v.lt;have N:=Z v;obtain⟨y,r⟩:=au (cq (m.map RT.tb) f g o p i j k at_ (aC.aO n));rw[<-r];obtain⟨n,m⟩:=Ft (m.map RT.tb) f g o p i j k at_ (aC.aO n) u;have P:=Z (show y=RO.ap false 1 at_ n by rw[r,m]);have Q:=Z u;clear r q v m u;have m:c.heap.size<=c.heap.size:=Nat.le_refl _;have R:=Z (Kp.refl [d] c);have S:=Z (λ(a:ah) (b:Kp [d] c a)=>show ae a (ac l 8) at_ from(b.cell s aF).trans t.c8);have m:=aZ s;have m:=aZ x;have T:=@run_makeMap prog;show Calls prog 201 #[ak l,.agg #[f,g,O C D E,O F G H,O I L M,i,j,k,at_],ak d] c _;go_enter func201,ntmps201
 go_upto_region 1 with(fail)
 obtain⟨i,d,j,a,g⟩:=nb c 154 _;rw[d];clear d;have d:=qk R a;have k:=qb a N;have i:=d.size;clear a;obtain⟨b,i,U,a,l⟩:=nc g 93 _;rw[i];clear i;have z:=qk d a;have V:=qb a k;have W:=qb a j;have d:=z.size;clear a;have c:c.heap.size+1<b.heap.size:=af
 clear g l;have X:=kw b;have Y:=kx b;have ad:=ky b;have ai:=kz b;have al:=kA b;have am:=kB b;have an:=kC b;have ao:=kD b;go_upto_region 2 with(fail)
 clear X Y ad ai al am an ao T;have M3:=Z (kE b);have a:=Z (show ag b (b.alloc (.map (km 8) 8))from(ag.refl b).alloc _);obtain⟨aq,b⟩:=au (b.alloc (.map (km 8) 8));rw[<-b]at M3 a⊢;clear b;have w:=qk z a;have b:=qb a V;have A:=qb a W;have B:=qb a U;have b:=w.size;rcases w4 M3.out f with⟨_,ar⟩|⟨aH,aw,_⟩
 case inr=>exact absurd (Q.out.symm.trans aw) aj
 clear a M3;have ax:=ay B;have a:=aa.lt B;go_upto_region 3 with(fail)
 clear ar ax;have a:=ay A;have b:=aa.lt A;refine B8 12 a λhS=>?_;refine cR ?_;refine sk 3 hS ?_;refine sk 4 hS ?_;refine sk 5 hS ?_;refine sR ?_;refine aM 11 (λK a=>?_);go_simp;exact b3 w.drew P (S aq w)
theorem Fv (f a g:Nat) (h:Hd) (b:List RT) (c:Int) (i:av) (r j:Hd) (k:List aC) (l:Hd) (m:List bv) (n:Hd) (o:bk) (p d:av) (q e:Int) (w:ah) (u:aJ d) (x:lB (b.map RT.tb))
 (s:aa w a 105 #[c,J 0,j.val,ab,ab,J 0,J 0,ab]) (t:iV w f a g h b j k l m n o e):
 Calls prog 201 #[ak f,.agg #[c,i,r.val,l.val,n.val,p,d,q,e],ak a] w
  λy z=>RP [a] w (cq (b.map RT.tb) c i m o p d q e (aC.aO k)) (iW a g) y z:=by
 by_cases v:c=1
 ·subst v;exact Fc f a g h b i r j k l m n o p d q e w u x s t
 by_cases A:c=2
 ·subst A;exact Ff f a g h b i r j k l m n o p d q e w u s t
 by_cases B:c=3
 ·subst B;exact Fh f a g h b i r j k l m n o p d q e w u s t
 by_cases C:c=4
 ·subst C;exact Fj f a g h b i r j k l m n o p d q e w u s t
 by_cases D:c=5
 ·subst D;exact Fl f a g h b i r j k l m n o p d q e w u s t
 by_cases E:c=6
 ·subst E;exact Fo f a g h b i r j k l m n o p d q e w u s t
 by_cases F:c=7
 ·subst F;exact Fq f a g h b i r j k l m n o p d q e w u s t
 by_cases G:c=8
 ·subst G;exact Fs f a g h b i r j k l m n o p d q e w u s t
 refine Fu f a g h b c i r j k l m n o p d q e w ?_ s t;unfold eF;rw[if_neg v,if_neg af,if_neg af]
def Ro (b:Nat) (w:ah) (v:aA) (a:Nat):Prop:=b<=a/\a<w.heap.size/\v.ownBlock≠some a
theorem Fw {l:bg} (h:l.length=7):∃a b c d e f g,l=[a,b,c,d,e,f,g]:=by
 match l,h with
 |[a,b,c,d,e,f,g],_=>exact⟨a,b,c,d,e,f,g,rfl⟩
theorem Tryz.Fy:(prog.info? 105).map (λa=>(a.zero,a.size,a.bytes))=some (some (.agg #[J 0,J 0,ab,ab,ab,J 0,J 0,ab]),8,128):=am
def nQ:List Value:=[.int .i64 0,.int .i64 0,.slice none 0 0,.slice none 0 0,.slice none 0 0,.int .i64 0,.int .i64 0,.slice none 0 0]
theorem Fz:∀a∈nQ,a.oneCell'=true:=by unfold nQ;simp[Value.oneCell']
theorem FA {w:ah} {d a e c:Nat} {b:bg} (f:w.ownsRow d 105 8 (O (some ⟨c,0,none⟩) (a+1) e) (a+1) (b++nQ)) (d:b.length=a*8) (b:Nat) (e:b<8):w.cell? (ac c (a*8+b))=nQ[b]?:=by
 rw[f.cellAt _ oW,List.getElem?_append_right af,d,Nat.add_sub_cancel_left]
theorem FB (a:List aC):(a.flatMap aC.cells).length=a.length*8:=no (λb=>aC.len b) a
theorem FC (l:List aC) (a:aC):aC.aO (l++[a])=aC.aO l++[a.pl]:=by rw[aC.g0,aC.g0,List.map_append];rfl
theorem xy {w d:ah} {e f:Nat} {g:aA} {S i:Nat->Prop} {j:aC} (k:dM w S j) (l:Kp (g.ownBlock.toList++[e,f]) w d) (m:∀a,S a->g.ownBlock≠some a/\a≠e/\a≠f) (c:∀a,S a->i a):dM d i j:=
 (
  k.keep l (λa n c=>by
  have h:=m a c;rcases cP n with b|b
  ·exact h.1 (jI b)
  rcases dh b with b|b
  ·exact h.2.1 b
  exact h.2.2 (aB b))).mono c
theorem FD (k a0 aV:Nat) (h:Hd) (s:List RT) (bA:bg) (S:Nat->Prop) (t:Int) (z:av) (az:Hd) (g:List RE) (bY:Hd) (aE:List bv) (b0:Hd) (an:bk) (A y:av) (B r:Int) (w:ah)
 (ao:jM w k a0 aV h s bA S) (b2:dG w S (.mk t z az g bY aE b0 an A y B r)) (c1:an.length<=5001) (eo:g.length<=5001)
 (cr:∀f∈g,∀e,jM e k a0 aV h s bA S->dG e S f->Calls prog 200 #[.agg f.cells.toArray,ak a0,ak aV] e λo w'=>nN e k h bA (fg (s.map RT.tb) f.ex) (pv e.heap.size) o w'):
 Calls prog 200 #[.agg #[t,z,az.val,bY.val,b0.val,A,y,B,r],ak a0,ak aV] w
  λo w'=>nN w k h bA (fg (s.map RT.tb) (.mk t z (RE.exs g) aE an A y B r)) (pv w.heap.size) o w':=by
 obtain⟨a1,x,a2⟩:=h;obtain⟨a8,c2,bs⟩:=az;obtain⟨a9,ba,bb⟩:=bY;obtain⟨au,bh,bl⟩:=b0;obtain⟨u1,u2,u3,u4,u5,u6,u7,rfl⟩:=Fw ao.us.n;have aN:=Z ao;have bA:=ao.hX;have c3:=ao.hf;have cs:=ao.hv;have c4:=ao.nf;have ct:=ao.nv;obtain⟨bt,cu⟩:=ao.bx;have c5:Hid (aa w k 157 #[O a1 x a2,u1,u2,u3,u4,u5,u6,u7,bt]):=Z cu;have bw:=Z (λ(e:ah) (f:Kp [k] w e)=>b2.keep f (λa a=>by rw[aB a];exact ao.sx));have c6:g.length=c2:=by cases b2 with|mk a3=>exact a3.1
 subst c6;obtain⟨a4,bA⟩:∃a4,a4=fg (s.map RT.tb) (.mk t z (RE.exs g) aE an A y B r):=⟨_,rfl⟩;rw[<-bA];obtain⟨aW,bY⟩:∃aW:List Pl×Int->RO (Pl×Int),aW=λq=>RO.ap (decide (q.2<=12)) 3 r ((cq (s.map RT.tb) t z aE an A y B r q.1).bind λa=>.ok (a,q.2)):=⟨_,rfl⟩;have c7:=Z bY;have c9:Hid (a4=(dY (s.map RT.tb) (RE.exs (g.drop 0))).bind λq=>aW (aC.aO []++q.1,max 1 q.2)):=Z (by
  rw[bA,fg,bY];exact E9 (s.map RT.tb) (RE.exs g) (λq=>RO.ap (decide (q.2<=12)) 3 r ((cq (s.map RT.tb) t z aE an A y B r q.1).bind λa=>RO.ok (a,q.2))))
 clear bA bY b2 ao cu;have da:=Z cr;clear cr;have cw:=Z (Kp.refl [k] w);show Calls prog 200 #[.agg #[t,z,O a8 g.length bs,O a9 ba bb,O au bh bl,A,y,B,r],ak a0,ak aV] w _;go_enter func200,ntmps200
 go_upto_region 1 with(fail)
 obtain⟨ao,b3,bA,j,cx⟩:=nb w 93 #[t,z,O a8 g.length bs,O a9 ba bb,O au bh bl,A,y,B,r];rw[b3];clear b3;have bY:=qk cw j;have b0:=qb j c5;obtain⟨b2,ao,db,j,cy⟩:=nc cx 105 #[J 0,J 0,ab,ab,ab,J 0,J 0,ab];rw[ao];clear ao;have dc:=qk bY j;have dd:=qb j b0;have cz:=qb j bA;have ao:=ay cz;go_upto_region 2 with(fail)
 obtain⟨bA,ao,cA,j,bY⟩:=nc cy 105 #[t,J 0,ab,ab,ab,J 0,J 0,ab];rw[ao];clear ao;have df:=qk dc j;have dg:=qb j dd;have cB:=qb j cz;have di:=qb j db;have ao:=bc cB;obtain⟨c,ao⟩:∃c,c=w.heap.size+2:=⟨_,rfl⟩;rw[<-ao]at cA⊢;have bA:bA.heap.size=c+1:=af
 have bA:w.heap.size+2<=c:=af
 have bA:c<=w.heap.size+2:=af
 clear cx cy bY ao;go_upto_region 4 with(fail)
 obtain⟨dj,dk,dl,dm,dn⟩:=info_parts Tryz.Fy;go_loopg [7,18] (g.length+1) (λf C D wr=>∃(a:Nat) (b:Int) (d:List aC) (i:aT) (u:Nat) (bt:Int),C=.int .i64 b/\D=.int .i64 a/\a<=g.length/\g.length-a<f/\d.length=a/\1<=b/\b<=13/\c+1<=wr.heap.size/\Hid (aa wr w.heap.size 93 #[t,z,O a8 g.length bs,O a9 ba bb,O au bh bl,A,y,B,r])/\Hid (aa wr (w.heap.size+1) 105 #[J 0,J 0,ab,ab,ab,J 0,J 0,ab])/\Hid (aa wr c 105 #[t,J 0,O i a u,ab,ab,J 0,J 0,ab])/\Hid (aa wr k 157 #[O a1 x a2,u1,u2,u3,u4,u5,u6,u7,bt])/\Hid (wr.ownsRow (c+1) 105 8 (O i a u) a (d.flatMap aC.cells))/\Hid (∀f∈d,dM wr (Ro (c+1) wr (O i a u)) f)/\Hid (Kp [k] w wr)/\Hid (a4=(dY (s.map RT.tb) (RE.exs (g.drop a))).bind λq=>aW (aC.aO d++q.1,max b q.2)))
 case atStart=>exact⟨0,1,[],none,0,bt,rfl,rfl,by omega,by omega,rfl,by omega,by omega,by omega,cB,di,cA,dg,Z ⟨rfl,.inl ⟨rfl,rfl⟩⟩,Z (λf az=>by cases az),df,c9⟩
 obtain⟨a,aQ,C,aX,aY,bt,rfl,rfl,ep,cC,cD,dp,eq,er,b5,cE,cF,bB,b8,cG,bC,bE⟩:=hrel;have cH:=Z cC;have ca:=Z cD;clear cC cD;by_cases E:a<g.length
 case neg=>
  have H:¬(a:Int)<g.length:=af
  have a7:=Z (show a4=RO.ap (decide (aQ<=12)) 3 r ((cq (s.map RT.tb) t z aE an A y B r (aC.aO C)).bind λb=>.ok (b,aQ)) by
   rw[bE.out,List.drop_of_length_le af];show aW (aC.aO C++[],max aQ 1)=_;rw[List.append_nil,Int.max_eq_left dp,c7.out])
  have bO:=(bC.cell (p:=(ac aV 0)) cs (by simpa using ct)).trans aN.cv;clear bE;have H:=b4 b5;have H:=b4 bB;have H:=λa=>aa.frozen bB a;go_upto_region 11 with(fail)
  have ao:=Z (r6 bB r);have H:=Z (Kp.aH (p:=(ac k 8)) (l:=[k]) aj (Kp.refl [k] wr) r);obtain⟨d,bt⟩:∃d,d=wr.setCell (ac k 8) r:=⟨_,rfl⟩;rw[<-bt]at ao H⊢;clear bt;have bt:=H;have u:=Z (bC.trans H);have b:=qo H b5;have bP:=qo H cE;have bR:=qo H cF;have bt:=u.size;have a5:=H;have I:=ao;have bF:=Z (bD b8 a5 (λi i=>by have:=aB i;omega));have bS:Hid (∀f∈C,dM d (Bw (c+1) d.heap.size) f):=Z (λf az=>((cG f az).keep a5 (λi i hS=>by have D:=hS.1;have i:=aB i;omega)).mono (λi i=>⟨i.1,by have:=i.2.1;have:=a5.out.size;omega⟩));clear bO;have H:=(u.cell (p:=(ac aV 0)) cs (by simpa using ct)).trans aN.cv;have bm:=b4 I;obtain⟨q,H⟩:∃q,q=decide (aQ<=12):=⟨_,rfl⟩;rw[<-H]at a7;have a6:∀D,q=D->decide (aQ<=12)=D:=λD h=>by rw[<-h,H]
  clear H;cases q
  case false=>
   have G:=a6 false rfl;clear a6;go_wp2_with fail
   refine fJ (w:=w) (l:=[k]) u.out a7.out bm ?_ (λ_ h=>by cases h);intro i _;go_wp2;refine⟨rfl,?_⟩;rw[i.out];exact⟨u.out,⟨_,I.out⟩,rfl⟩
  have bT:=a6 true rfl;clear a6;go_wp2_with fail
  refine bX u.out a7.out bm λbG=>?_;have bp:=Z (λ(e:ah) (f:Kp [c] d e)=>(f.old u (λD i E=>absurd E (by rw[aB i];omega))));have bU:Hid (iV d k c (c+1) ⟨a1,x,a2⟩ s ⟨aX,a,aY⟩ C ⟨a9,ba,bb⟩ aE ⟨au,bh,bl⟩ an r):=Z
   {
    hX:=by omega,xp:=by omega,kv:=by omega,lw:=by have:=a5.out.size;omega,
    c0:=aa.cell I.out 0,c8:=bm,
    ta:=λe f=>aN.out.ta.iX (aN.out.bx.ii aN.out.us) aN.out.ko (bp.out e f),
    lk:=cI (h:=⟨aX,a,aY⟩) aC.len ca.out (by show a<=_;omega) bF.out,
    ik:=kH bF.out,sub:=bS.out,
    lc:=λe f=>(by cases bw.out e (bp.out e f)with|mk a3 G K i=>exact i),
    ln:=λe f=>(by cases bw.out e (bp.out e f)with|mk a3 G K L M N i=>exact i),
    l5:=c1}
  have bH:aJ y:=by cases bw.out w cw.out with|mk a3 cN cO cQ cS cT cU cV cW cX bV=>exact bV
  have H:=Z (Fv k c (c+1) ⟨a1,x,a2⟩ s t z ⟨a8,g.length,bs⟩ ⟨aX,a,aY⟩ C ⟨a9,ba,bb⟩ aE ⟨au,bh,bl⟩ an A y B r d bH aN.fa bR bU);have bW:Hid (Calls prog 201 #[ak k,.agg #[t,z,O a8 g.length bs,O a9 ba bb,O au bh bl,A,y,B,r],ak c] d λo w'=>RP [c] d (cq (s.map RT.tb) t z aE an A y B r (aC.aO C)) (iW c (c+1)) o w'):=H;clear bH bT;have d:=ay b;have d:=aS b;have d:=bc b;have d:=bj b;have d:=bo b;have d:=bI b;have d:=cc b;have d:=b7 b;have d:=b4 b;go_wp2_with fail
  refine dR bG.out bW.out ?aA ?aD
  case aA=>
   intro d d d G i;go_wp2;refine⟨rfl,?_⟩;rw[G.out];exact⟨i.out.old u.out (λD d E=>absurd E (by rw[aB d];omega)),⟨_,i.out.blk I.out aF⟩,rfl⟩
  intro d d bJ cb bK cd K;obtain⟨rfl,bq,rfl,bL,bM⟩:=cd;clear cb bG;have ce:=Z (K.old u (λD d E=>absurd E (by rw[aB d];omega)));have cg:=qo K b;have bN:=qo K bP;have ch:=qo K I;obtain⟨RP,b⟩:∃RP,RP=bq:=⟨_,rfl⟩;rw[<-b]at bM bK;have ci:=Z (show RP.cells=bq.cells by rw[b]);clear K b;obtain⟨L,M,⟨N,P,Q⟩,cY,⟨R,T,U⟩,cZ,⟨V,W,X⟩,dq,Y,ad,⟨al,ar,aR⟩,dr⟩:=bq;have i:Hid (aa bJ c 105 #[L,M,O N P Q,O R T U,O V W X,Y,ad,O al ar aR]):=Z bL;have cj:Hid (RP.cells=[.int .i64 L,.int .i64 M,.slice N P Q,.slice R T U,.slice V W X,.int .i64 Y,.int .i64 ad,.slice al ar aR]):=ci;clear bL;have b:=ay i;have b:=aS i;have b:=bc i;have b:=bj i;have b:=bo i;have b:=bI i;have b:=cc i;have b:=b7 i;go_wp2_with (first|(refine wpList_store_row rfl 105 (.tmp 4) (.tmp 53) rfl (w.heap.size+1) #[L,M,O N P Q,O R T U,O V W X,Y,ad,O al ar aR] rfl rfl 105 #[J 0,J 0,ab,ab,ab,J 0,J 0,ab] bN.out am rfl bn ?_)|fail)
  obtain⟨d,b,G,aU⟩:=mA bN #[L,M,O N P Q,O R T U,O V W X,Y,ad,O al ar aR];rw[b];clear b;have ck:=Z (ce.grown aU (λb bz=>.inr (by injection bz with bz;omega)));have cl:=Z (aa.grown ch aU (λo=>by injection o with o;omega));have ds:=Z (aa.grown cg aU (λo=>by injection o with o;omega));have dt:=Z (aa.grown i aU (λo=>by injection o with o;omega));have bz:=Z ((Kp.refl [(w.heap.size+1)] bJ).grown aU (λb bz=>.inl (by injection bz with bz;simp[bz])));have cm:=ay G;have cn:=aS G;have co:=bc G;have cp:=bj G;have cJ:=bo G;have cK:=bI G;have cL:=cc G;have cM:=b7 G;refine bodyPost_ret (v:=.tuple #[.agg #[L,M,O N P Q,O R T U,O V W X,Y,ad,O al ar aR],aQ]) ?_ rfl ?_
  ·simp[results,results200,go_sem,cm,cn,co,cp,cJ,cK,cL,cM]
  rw[bK.out];exact⟨ck.out,⟨_,cl.out⟩,_,rfl,RP,rfl,by rw[cj.out],(bM.keep bz.out (λD b hS=>by have d:=hS.1;have b:=aB b;omega)).mono (λD b=>⟨by have:=b.1;omega,by have:=b.2;have:=bz.out.size;omega⟩)⟩
 have r:(a:Int)<g.length:=af
 have r:(0:Int)<=a:=af
 have cb:RE.exs (g.drop a)=g[a].ex::RE.exs (g.drop (a+1)):=by rw[List.drop_eq_getElem_cons E];rfl
 have dq:=Z (bw wr bC);obtain⟨bG,of,dr,es,al⟩:∃i r,a8=some ⟨i,r,none⟩/\i<wr.heap.size/\∀bm bF,(RE.cells g[a])[bm]?=some bF->ae wr (ac i (r+a*9+bm)) bF:=by
  cases dq.out with
  |mk a3=>exact a3.2.2 a E
 have ds:=Z (λ(e:ah) (f:Kp [k] w e)=>show dG e S g[a] by
  cases bw.out e f with
  |mk a3 d b=>exact b _ (List.getElem_mem E))
 have cd:=Z (λ(e:ah) (f:Kp [k] w e) (i:gH e k ⟨a1,x,a2⟩ [u1,u2,u3,u4,u5,u6,u7])=>da g[a] (List.getElem_mem E) e (aN.kp f i) (ds e f));obtain⟨bH,y⟩:∃bH,bH=g[a]:=⟨_,rfl⟩;rw[<-y]at al cd cb;obtain⟨bJ,r⟩:∃bJ,bJ=fg (s.map RT.tb) bH.ex:=⟨_,rfl⟩;rw[<-r]at cd;have dt:=Z r;have du:=Z (show a4=bJ.bind λb=>(dY (s.map RT.tb) (RE.exs (g.drop (a+1)))).bind λq=>aW ((aC.aO C++[b.1])++q.1,max (max aQ (b.2+1)) q.2) by rw[bE.out,cb,Fa (F:=aW),r]);clear y bE r cb;obtain⟨bK,ce,⟨bL,bM,bN⟩,et,⟨bO,bP,bR⟩,ev,⟨bS,bT,bU⟩,ew,cg,ch,ci,cj⟩:=bH;have dv:Hid (∀(e:ah),Kp [k] w e->gH e k ⟨a1,x,a2⟩ [u1,u2,u3,u4,u5,u6,u7]->Calls prog 200 #[.agg #[bK,ce,O bL bM bN,O bO bP bR,O bS bT bU,cg,ch,ci,cj],ak a0,ak aV] e λo w'=>nN e k ⟨a1,x,a2⟩ [u1,u2,u3,u4,u5,u6,u7] bJ (pv e.heap.size) o w'):=cd;have e:ae wr (ac bG (of+a*9)) bK:=by simpa using al 0 _ rfl
 have dw:=al 1 _ rfl;have e:ae wr (ac bG (of+a*9+2)) (O bL bM bN):=al 2 _ rfl;have e:ae wr (ac bG (of+a*9+3)) (O bO bP bR):=al 3 _ rfl;have e:ae wr (ac bG (of+a*9+4)) (O bS bT bU):=al 4 _ rfl;have dx:=al 5 _ rfl;have dy:=al 6 _ rfl;have dz:=al 7 _ rfl;have dA:=al 8 _ rfl;clear al;subst dr;have e:IntKind.i64.wrap ((a:Int)+1)=(a:Int)+1:=IntWalk.i64_in _ af;go_upto_region 6 with(first|(refine wpList_store_row rfl 93 (.tmp 9) (.tmp 21) rfl wr.heap.size #[bK,ce,O bL bM bN,O bO bP bR,O bS bT bU,cg,ch,ci,cj] rfl rfl 93 #[J 0,ai,ab,ab,ab,ai,ai,J 0,J 0] (aa.new wr 93 #[J 0,ai,ab,ab,ab,ai,ai,J 0,J 0]) am rfl bn ?_;rw[World.setRow_alloc_new])|fail)
 have r:=Z (Kp.refl [k] wr);obtain⟨cJ,k,e,j,-⟩:=nb wr 93 #[bK,ce,O bL bM bN,O bO bP bR,O bS bT bU,cg,ch,ci,cj];rw[k];clear k;have bp:=qk bC j;have dB:=qb j bB;have dC:=qb j b5;have dD:=qb j cE;have dE:=qb j cF;have dH:=qk r j;have k:=bp.size;have k:=aa.lt e;clear dw dx dy dz dA;have k:=ay e;have k:=aS e;have k:=bc e;have k:=bj e;have k:=bo e;have k:=bI e;have k:=cc e;have k:=b7 e;have e:=b4 e;have dI:=(bp.cell (p:=(ac a0 0)) c3 (by simpa using c4)).trans aN.cf;have dJ:∀e w,(callFunc 200 e).run prog w=.ok (.enter 200 e) w:=enters_of func200 am rfl;go_wp2_with fail
 refine xq bp.out du.out (dv.out cJ bp.out ⟨_,dB.out⟩) ?aG ?aI
 case aG=>
  intro e e e b d u;go_wp2;refine⟨rfl,?_⟩;rw[b.out];exact⟨bp.out.trans d.out,u.out,rfl⟩
 intro dK bF D cK ck dL a5 cL;obtain⟨ey,a6⟩:=dK;obtain⟨cl,rfl,cN,cM⟩:=dL;have e:=E8 (dt.symm.trans cK);have cO:Hid (1<=a6/\a6<=12):=Z e;obtain⟨dO,dN⟩:=cL.out;clear cL cK dI dJ e;have dP:=Z (bp.trans a5);have dQ:=Z (dH.trans a5);have e:=a5.size;have dS:=qo a5 dC;have dT:=qo a5 dD;have dU:=qo a5 dE;obtain⟨RP,e⟩:∃RP,RP=cl:=⟨_,rfl⟩;rw[<-e]at cM ck;have dV:=Z (show RP.cells=cl.cells by rw[e]);clear a5 e;obtain⟨G,H,⟨I,K,L⟩,ez,⟨M,N,P⟩,eA,⟨Q,R,T⟩,eB,U,V,⟨W,X,Y⟩,eC⟩:=cl;have dW:bF=.tuple #[.agg #[G,H,O I K L,O M N P,O Q R T,U,V,O W X Y],a6]:=cN;clear cN;subst dW;have cQ:Hid (RP.cells=[.int .i64 G,.int .i64 H,.slice I K L,.slice M N P,.slice Q R T,.int .i64 U,.int .i64 V,.slice W X Y]):=dV;go_upto_region 7 with(first|(refine wpList_store_row rfl 105 (.tmp 10) (.tmp 26) rfl D.heap.size #[G,H,O I K L,O M N P,O Q R T,U,V,O W X Y] rfl rfl 105 #[J 0,J 0,ab,ab,ab,J 0,J 0,ab] (aa.new D 105 #[J 0,J 0,ab,ab,ab,J 0,J 0,ab]) am rfl bn ?_;rw[World.setRow_alloc_new])|fail)
 have z:=Z (Kp.refl [] D);obtain⟨r,e,k,j,-⟩:=nb D 105 #[G,H,O I K L,O M N P,O Q R T,U,V,O W X Y];rw[e];clear e;have A:=qk dP j;have B:=qb j dN;have al:=qb j dS;have an:=qb j dT;have y:=qb j dU;have ao:=qk z j;have z:=qk dQ j;have e:=bc y;have j:=ay k;have aE:=aS k;have aN:=bc k;have aV:=bj k;have a0:=bo k;have a1:=bI k;have a2:=cc k;have a3:=b7 k;have a5:=Z (bD b8 z (λi b=>by have:=aB b;omega));have cm:=b6 b8;have a8:(a:Int)+1<=5001:=by omega
 refine eG 5 (S:=(λw'=>ae w' (ac c 2) (O aX a aY)/\ae w' (aq D 0) G/\ae w' (aq D 1) H/\ae w' (aq D 2) (O I K L)/\ae w' (aq D 3) (O M N P)/\ae w' (aq D 4) (O Q R T)/\ae w' (aq D 5) U/\ae w' (aq D 6) V/\ae w' (aq D 7) (O W X Y))) ⟨e,j,aE,aN,aV,a0,a1,a2,a3⟩ (λhS=>?_);refine cR ?_;refine tk 3 hS ?_;have e:=Z ((ag.refl r).drew);obtain⟨ar,j⟩:∃ar,ar=r.drew:=⟨_,rfl⟩;rw[<-j]at e hS⊢;clear j;have dX:=qk A e;have dZ:=qb e B;have d0:=qb e al;have d1:=qb e an;have cn:=qb e y;have j:=qb e k;have d2:=qk ao e;have bV:=qk z e;have d3:=Z (aK e a5);have d4:=bc cn;have e:=aa.lt cn;have d5:=ay j;have d6:=aS j;have d7:=bc j;have d8:=bj j;have d9:=bo j;have ea:=bI j;have eb:=cc j;have ec:=b7 j;have e:=aa.lt j;refine aM 4 (λbq ad=>?_);go_simp;refine ad.out _ _ (λ_=>⟨bi d4,bi d5,bi d6,bi d7,bi d8,bi d9,bi ea,bi eb,bi ec⟩) ?_;refine aw ?_;have e:=Z (aK ((ag.refl ar).alloc (.cells #[J 0,J 0,ab,ab,ab,J 0,J 0,ab] 105)) d3);have j:=Z (jz (aa.new ar 105 #[J 0,J 0,ab,ab,ab,J 0,J 0,ab]) (m:=8) rfl);refine aM 5 (λbq ad=>?_);refine de (ar.alloc (.cells #[J 0,J 0,ab,ab,ab,J 0,J 0,ab] 105)) (.tmp 29) (.tmp 32) 103 rfl (c+1) 105 dj _ 8 128 underlying103 dk dl dm dn rfl ax (O aX a aY) a (C.flatMap aC.cells) rfl e.out (ar.heap.size+1) (some ⟨ar.heap.size,0,none⟩) 1 1 nQ rfl j.out Fz b9 af aF ?_;intro e u bW cS cT;obtain⟨eD,aR,rfl,ed⟩:=bu bW;obtain⟨b,e,ee,j,cU,_,_,_,_⟩:=fX bW af;subst ee;have ef:=Z bW;have cV:(C.flatMap aC.cells).length=a*8:=by rw[FB,ca.out]
 have aU:=λbm e=>FA bW cV bm e;have co:Hid ((Value.slice aX a aY).ownBlock=some b\/b=ar.heap.size+1):=Z (by
  rcases cT with h|h
  ·exact .inl h.symm
  injection h with h;exact .inr (by simpa using h))
 have cW:=Z (fK ((Kp.refl [] ar).alloc _) cS);have e:=aa.lt cU;refine ad.out _ _ (λh=>absurd h ax) ?_;clear ad bq cS cT ed;refine aw ?_;have e:ae u (ac b (a*8)) (J 0):=aU 0 af;have e:ae u (ac b (a*8+1)) (J 0):=aU 1 af;have e:ae u (ac b (a*8+2)) ab:=aU 2 af;have e:ae u (ac b (a*8+3)) ab:=aU 3 af;have e:ae u (ac b (a*8+4)) ab:=aU 4 af;have e:ae u (ac b (a*8+5)) (J 0):=aU 5 af;have e:ae u (ac b (a*8+6)) (J 0):=aU 6 af;have e:ae u (ac b (a*8+7)) ab:=aU 7 af;clear aU;have e:=λbm=>aa.frozen cU bm;have e:b≠c:=af
 have eg:c≠b:=af
 have cX:=λi d=>(cm i (jI d)).1;have cp:=Z (cW.blk cn (λx=>by have:=cX _ x;omega));have e:=bc cp;have e:=λa=>aa.frozen cp a;refine b1 ?_;have e:(a:Int)<(a:Int)+1:=by omega
 refine tq 6 ?_;refine tq 8 ?_;refine BD 7 9 (λbq ad=>?au) (λbq ad=>?aL)
 case' au=>
  go_simp;refine ad _ _ ?_;refine aw ?_;refine dF 9 (λbq ad=>?_);go_simp;refine ad _ _ ?_;refine aw ?_;refine bQ ?_;obtain⟨aZ,e⟩:∃e,e=((((((((u.setCell (ac b (a*8)) G).setCell (ac b (a*8+1)) H).setCell (ac b (a*8+2)) (O I K L)).setCell (ac b (a*8+3)) (O M N P)).setCell (ac b (a*8+4)) (O Q R T)).setCell (ac b (a*8+5)) U).setCell (ac b (a*8+6)) V).setCell (ac b (a*8+7)) (O W X Y)).setCell (ac c 2) (O (some ⟨b,0,none⟩) (a+1) aR):=⟨_,rfl⟩;rw[<-e];have br:aZ=(bZ u b (a*8) [.int .i64 G,.int .i64 H,.slice I K L,.slice M N P,.slice Q R T,.int .i64 U,.int .i64 V,.slice W X Y]).setCell (ac c 2) (O (some ⟨b,0,none⟩) (a+1) aR):=e;clear e
 case' aL=>
  go_simp;refine ad _ _ ?_;refine aw ?_;refine dF 7 (λbq ad=>?_);go_simp;refine ad _ _ ?_;refine aw ?_;refine bQ ?_;obtain⟨aZ,e⟩:∃e,e=(((((((((u.setCell (ac c 2) (O (some ⟨b,0,none⟩) (a+1) aR)).setCell (ac b (a*8)) G).setCell (ac b (a*8+1)) H).setCell (ac b (a*8+2)) (O I K L)).setCell (ac b (a*8+3)) (O M N P)).setCell (ac b (a*8+4)) (O Q R T)).setCell (ac b (a*8+5)) U).setCell (ac b (a*8+6)) V).setCell (ac b (a*8+7)) (O W X Y)):=⟨_,rfl⟩;rw[<-e];have br:=e.trans (nz [.int .i64 G,.int .i64 H,.slice I K L,.slice M N P,.slice Q R T,.int .i64 U,.int .i64 V,.slice W X Y] b (a*8) u eg);clear e
 all_goals
  have bz:∀i∈(Value.slice aX a aY).ownBlock.toList++[b,c],c<=i:=λi d=>by
   rcases cP d with a7|a7
   ·have:=cX _ a7;omega
   rcases dh a7 with a7|a7
   ·omega
   have:=aB a7;omega
  have a7:=Z (show Kp ((Value.slice aX a aY).ownBlock.toList++[b,c]) ar aZ by
   rw[br];exact((cW.out.mono (λi d=>ie (.inl d))).trans ((pd b [.int .i64 G,.int .i64 H,.slice I K L,.slice M N P,.slice Q R T,.int .i64 U,.int .i64 V,.slice W X Y] (a*8) u u (Kp.refl _ _)).mono (λi d=>ie (.inr (by rw[aB d];simp))))).trans ((Kp.aH (p:=(ac c 2)) (l:=[c]) aj (Kp.refl [c] _) (O (some ⟨b,0,none⟩) (a+1) aR)).mono (λi d=>ie (.inr (by rw[aB d];simp)))))
  have eh:=Z (show aa aZ c 105 #[t,J 0,O (some ⟨b,0,none⟩) (a+1) aR,ab,ab,J 0,J 0,ab] by rw[br];exact((pd b [.int .i64 G,.int .i64 H,.slice I K L,.slice M N P,.slice Q R T,.int .i64 U,.int .i64 V,.slice W X Y] (a*8) u u (Kp.refl _ _)).blk cp.out aF).aP 2 _);have ei:=Z (show aZ.ownsRow (c+1) 105 8 (O (some ⟨b,0,none⟩) (a+1) aR) (a+1) ((C++[RP]).flatMap aC.cells) by
   have e:=we ef cV (ys:=nQ) rfl (vs:=[.int .i64 G,.int .i64 H,.slice I K L,.slice M N P,.slice Q R T,.int .i64 U,.int .i64 V,.slice W X Y]) rfl;rw[<-cQ.out]at e;rw[br,List.flatMap_append,<-cQ.out];have j:[RP].flatMap aC.cells=RP.cells:=aj
   rw[j];exact bD e (Kp.aH (p:=(ac c 2)) (l:=[c]) aj (Kp.refl [c] _) (O (some ⟨b,0,none⟩) (a+1) aR)) (λi d=>by have:=aB d;omega))
  have ej:=Z (a7.old dX (λi d E=>absurd E (by have:=bz i d;omega)));have e:=a7.size;have ek:=Z (a7.blk d0 (λx=>by have:=bz _ x;omega));have el:=Z (a7.blk d1 (λx=>by have:=bz _ x;omega));have em:=Z (a7.blk dZ (λx=>by have:=bz _ x;omega));have en:Hid (∀f∈C++[RP],dM aZ (Ro (c+1) aZ (O (some ⟨b,0,none⟩) (a+1) aR)) f):=Z (λf az=>by
   rcases cP az with h|h
   ·refine xy ((cG.out f h).keep bV.out (λi d hS=>by have c:=hS.1;have c:=aB d;omega)) a7.out (λi d=>⟨d.2.2,?_,by have:=d.1;omega⟩) (λi d=>⟨d.1,by have:=d.2.1;have:=bV.out.size;omega,?_⟩)
    ·rintro rfl
     rcases co.out with cY|cY
     ·exact d.2.2 cY
     have:=d.2.1;have:=bV.out.size;omega
    intro o;have cZ:b=i:=by injection o
    subst cZ;rcases co.out with cY|cY
    ·exact d.2.2 cY
    have:=d.2.1;have:=bV.out.size;omega
   rw[aB h];have cY:∀i,Bw cJ.heap.size D.heap.size i->i≠b:=λi d o=>by
    subst o;rcases co.out with cZ|cZ
    ·have:=cm _ cZ;have:=d.1;omega
    have:=d.2;omega
   exact xy (cM.keep (l:=[]) d2.out (λ_ h=>by cases h)) a7.out (λi d=>⟨λc=>by have:=cm _ c;have:=d.1;omega,cY i d,by have:=d.1;omega⟩) (λi d=>⟨by have:=d.1;omega,by have:=d.2;omega,λo=>cY i d (by injection o with o;exact o.symm)⟩))
  clear br bz;have c:=cO.1;have c:=cO.2;have b3:IntKind.i64.wrap (a6+1)=a6+1:=IntWalk.i64_in _ af;have cY:=Z (show a4=(dY (s.map RT.tb) (RE.exs (g.drop (a+1)))).bind λq=>aW (aC.aO (C++[RP])++q.1,max (max aQ (a6+1)) q.2) by rw[ck.out,FC]);clear ck;go_wp2_with fail
  go_roundg (g.length-a)
  case measure=>have:=cH.out;omega
  exact⟨a+1,max aQ (a6+1),C++[RP],some ⟨b,0,none⟩,aR,dO,rfl,by go_num,by omega,omg cH,by rw[List.length_append,ca.out];rfl,by omega,by omega,by omega,ek,el,eh,em,ei,en,ej,cY⟩
theorem G7 (b:RT) (c:Cg) (e:Nat) (a:ah) (f:fr a b) (g:aJ c.name):
 Calls prog 255 #[b.val,c.val,e] a λi A=>i=.returned (J (gv b.tb c))/\ag a A:=by
 have d:=Z (λd (j:ag a d)=>yq b c d (f.same j) g);generalize gv b.tb c=B at d⊢;clear f g;obtain⟨j,⟨k,l,m⟩,D,⟨n,o,p⟩,E⟩:=b;obtain⟨q,r,s,t,u,⟨v,w,x⟩⟩:=c;have C:Hid (Rt 247 #[.agg #[j,O k l m,O n o p],.agg #[q,r,s,t,u,v,w,x]] a B):=d;clear d;show Calls prog 255 #[.agg #[j,O k l m,O n o p],.agg #[q,r,s,t,u,v,w,x],e] a _;go_enter func255,ntmps255
 go_wp2_with (go_at_call 247;refine(C.out _ ?_).mono ?_;exact((ag.refl a).alloc _).alloc _;rintro i b ⟨rfl,y⟩;have z:=Z y;clear y)
 go_ret;exact⟨rfl,(((ag.refl a).alloc _).alloc _).trans z⟩
theorem G8 (b:RT) (c:Cg) (d:Nat) (a:ah) (i:fr a b):
 Calls prog 250 #[b.val,c.val,d] a λe o=>e=.returned (J (if b.key.any (λf=>decide (f=(d:Int)))then 1 else 0))/\ag a o:=by
 have g:=Z (λg (j:ag a g)=>qi b.hk b.key (d:Int) g (i.2.1.same j));generalize (b.key.any λj=>decide (j=(d:Int)))=j at g⊢;clear i;obtain⟨p,⟨q,r,s⟩,A,⟨k,l,m⟩,B⟩:=b;obtain⟨f,t,u,v,w,⟨x,y,z⟩⟩:=c;have n:Hid (Re 188 #[O k l m,d] a (.bool j)):=g;clear g;show Calls prog 250 #[.agg #[p,O q r s,O k l m],.agg #[f,t,u,v,w,x,y,z],d] a _;go_enter func250,ntmps250
 cases j
 case true=>
  go_wp2_with (go_at_call 188;refine(n.out _ ?_).mono ?_;exact((ag.refl a).alloc _).alloc _;rintro e b ⟨rfl,rfl⟩)
  go_ret;exact⟨rfl,((ag.refl a).alloc _).alloc _⟩
 go_wp2_with (go_at_call 188;refine(n.out _ ?_).mono ?_;exact((ag.refl a).alloc _).alloc _;rintro e b ⟨rfl,rfl⟩)
 go_ret;exact⟨rfl,((ag.refl a).alloc _).alloc _⟩
theorem G9 (b:RT) (c:Cg) (B:Int) (a:ah) (j:fr a b) (C:aJ c.name):
 Calls prog 245 #[b.val,c.val,B] a λe E=>e=.returned (J (if hL c then(if gv b.tb c≠0 then gv b.tb c else if b.ra.length=12 then 3 else 0)else 1))/\ag a E:=by
 have o:=Z (λf=>yp c f);have p:=Z (λf (i:ag a f)=>yq b c f (j.same i) C);have D:=j.1.1.1;have P:=j.1.1.2.1;obtain⟨E,q⟩:∃E:Int,E=(if hL c then(if gv b.tb c≠0 then gv b.tb c else if b.ra.length=12 then 3 else 0)else 1):=⟨_,rfl⟩;rw[<-q];have f:=Z q;generalize gv b.tb c=r at p f;generalize hL c=F at o f;clear j C q;obtain⟨G,⟨H,R,I⟩,i,⟨K,L,M⟩,S⟩:=b;obtain⟨s,t,u,v,w,⟨x,y,z⟩⟩:=c;simp only at D P f;subst D;have A:Hid (Rt 247 #[.agg #[G,O H i.length I,O K L M],.agg #[s,t,u,v,w,x,y,z]] a r):=p;have k:Hid (Rs 246 #[.agg #[s,t,u,v,w,x,y,z]] (.bool F)):=o;clear p o;show Calls prog 245 #[.agg #[G,O H i.length I,O K L M],.agg #[s,t,u,v,w,x,y,z],B] a _;go_enter func245,ntmps245
 cases F
 case false=>
  go_wp2_with (go_at_call 246;refine(k.out _).mono ?_;rintro e b ⟨rfl,l⟩;have d:=Z l;clear l)
  go_ret;exact⟨ej f.symm,(((ag.refl a).alloc _).alloc _).trans d⟩
 by_cases l:r=0
 ·subst l
  by_cases m:i.length=12
  ·have b:((i.length:Int)==12)=true:=by simp;omega
   have Q:=Z m;clear m;go_wp2_with (first
    |(go_at_call 246;refine(k.out _).mono ?_;rintro e N ⟨rfl,n⟩;have b:=n.cells;have b:a.heap.size+1<N.heap.size:=(by have:=n.size;simp at this;omega);have b:a.heap.size<N.heap.size:=af;have d:=Z ((((ag.refl a).alloc _).alloc _).trans n);clear n)
    |(go_at_call 247;refine(A.out _ ?_).mono ?_;exact d.out;rintro e b ⟨rfl,n⟩;have b:=n.cells;have b:=n.size;have g:=Z (d.out.trans n);clear n))
   go_ret;exact⟨ej (by rw[f.out];simp[Q.out]),g⟩
  have b:((i.length:Int)==12)=false:=aF
  have Q:=Z m;clear m;go_wp2_with (first
   |(go_at_call 246;refine(k.out _).mono ?_;rintro e N ⟨rfl,n⟩;have b:=n.cells;have b:a.heap.size+1<N.heap.size:=(by have:=n.size;simp at this;omega);have b:a.heap.size<N.heap.size:=af;have d:=Z ((((ag.refl a).alloc _).alloc _).trans n);clear n)
   |(go_at_call 247;refine(A.out _ ?_).mono ?_;exact d.out;rintro e b ⟨rfl,n⟩;have b:=n.cells;have b:=n.size;have g:=Z (d.out.trans n);clear n))
  go_ret;exact⟨ej (by rw[f.out];simp[Q.out]),g⟩
 have b:(r !=0)=true:=by simp;exact l
 have N:=Z l;clear l;go_wp2_with (first
  |(go_at_call 246;refine(k.out _).mono ?_;rintro e n ⟨rfl,m⟩;have b:=m.cells;have b:a.heap.size+1<n.heap.size:=(by have:=m.size;simp at this;omega);have b:a.heap.size<n.heap.size:=af;have d:=Z ((((ag.refl a).alloc _).alloc _).trans m);clear m)
  |(go_at_call 247;refine(A.out _ ?_).mono ?_;exact d.out;rintro e a ⟨rfl,m⟩;have a:=m.cells;have a:=m.size;have g:=Z (d.out.trans m);clear m))
 go_ret;exact⟨ej (by rw[f.out];simp[N.out]),g⟩
theorem Ha (d:RT) (c:Cg) (a:Nat) (w:ah) (u:fr w d) (B:a<d.ra.length):
 Calls prog 259 #[d.val,c.val,a] w λL S=>L=.returned (.int .i64 (if hL c&&!decide ((d.tb.attrs.map At.kind)[a]?=some c.dV)then 0 else 1))/\ag w S:=by
 have C:=Z (λb=>yp c b);have H:=Z (λ(b:ah) (e:ag w b)=>(u.same e).1.1);have I:=u.1.1.1;have T:=u.1.1.2.1;have K:Hid ((d.tb.attrs.map At.kind)[a]?=some d.ra[a].at_.kind):=by show _=_;simp[RT.tb,B]
 obtain⟨L,v⟩:∃L:Int,L=(if hL c&&!decide ((d.tb.attrs.map At.kind)[a]?=some c.dV)then 0 else 1):=⟨_,rfl⟩;rw[<-v];rw[K.out]at v;have g:=Z v;generalize hL c=M at C g;clear u K v;obtain⟨x,⟨aa,ab,j⟩,f,⟨y,z,A⟩,ad⟩:=d;obtain⟨k,l,m,n,e,⟨o,p,q⟩⟩:=c;simp only at I T B g;subst I;have U:Hid (Rs 246 #[.agg #[k,l,m,n,e,o,p,q]] (.bool M)):=C;have d:=H;clear H C;obtain⟨r,s,V,N,P⟩:=(d w (ag.refl _)).2.2 a B;subst V;have D:=P 1 (J f[a].at_.kind) rfl;generalize f[a].at_.kind=E at D g;clear P;show Calls prog 259 #[.agg #[x,O (some ⟨r,s,none⟩) f.length j,O y z A],.agg #[k,l,m,n,e,o,p,q],a] w _;obtain⟨b,t⟩:=au ((w.alloc (.cells #[x,O (some ⟨r,s,none⟩) f.length j,O y z A] 81)).alloc (.cells #[k,l,m,n,e,o,p,q] 99));have d:ag w b:=by rw[t];exact((ag.refl w).alloc _).alloc _
 have B:ae b (aq w 1) (O (some ⟨r,s,none⟩) f.length j):=by rw[t];simp
 have a:∀u v,(#[Value.int .i64 k,l,m,n,e,o,p,q]:Array Value)[u]?=some v->ae b (ac (w.heap.size+1) u) v:=by
  intro u v u;rw[t];have i:=heap_alloc_new (w.alloc (.cells #[x,O (some ⟨r,s,none⟩) f.length j,O y z A] 81)) (.cells #[k,l,m,n,e,o,p,q] 99);have f:(w.alloc (.cells #[x,O (some ⟨r,s,none⟩) f.length j,O y z A] 81)).heap.size=w.heap.size+1:=aj
  rw[f]at i;simp only[World.cell?,i];simpa using u
 have f:=a 0 _ rfl;have j:=a 1 _ rfl;have k:=a 2 _ rfl;have l:=a 3 _ rfl;have m:=a 4 _ rfl;have n:=a 5 _ rfl;have o:=a 6 _ rfl;have p:=a 7 _ rfl;have q:=(d.cells _ _ N).trans D;have F:=Z d;have r:=aI B;have r:=aI q;have r:=aI f;have r:=aI j;have r:=aI k;have r:=aI l;have r:=aI m;have r:=aI n;have r:=aI o;have r:=aI p;have G:=kX (w:=b) (λi _=>U i);clear B a f j k l m n o p D q d N;go_enter func259,ntmps259
 go_wp2_with fail
 rw[<-t];clear t;cases M
 case false=>
  refine wp_region_quiet_below am am ?_;repeat (go_big_quiet_step (first|(go_at_call 246;exact G _ _)))
  refine wpQuiet_nil ?_;intro _ R;obtain⟨⟨i,osq⟩,W⟩:=R;subst W;have Q:=Z (ag.reg b i osq);generalize Sort.grow (redrawn b i) osq=X at Q⊢;go_wp2;go_ret;exact⟨ej g.symm,F.trans Q⟩
 by_cases i:E=e
 ·have a:(E==e)=true:=by simp[i]
  have W:=Z i;clear i;refine wp_region_quiet_below am am ?_;repeat (go_big_quiet_step (first|(go_at_call 246;exact G _ _)))
  refine wpQuiet_nil ?_;intro _ X;obtain⟨⟨Q,osq⟩,Y⟩:=X;subst Y;have R:=Z (ag.reg b Q osq);generalize Sort.grow (redrawn b Q) osq=af at R⊢;go_wp2;go_ret;exact⟨ej (by rw[g.out];simp[W.out]),F.trans R⟩
 have a:(E==e)=false:=by simp[i]
 have W:=Z i;clear i;refine wp_region_quiet_below am am ?_;repeat (go_big_quiet_step (first|(go_at_call 246;exact G _ _)))
 refine wpQuiet_nil ?_;intro _ X;obtain⟨⟨Q,osq⟩,Y⟩:=X;subst Y;have R:=Z (ag.reg b Q osq);generalize Sort.grow (redrawn b Q) osq=af at R⊢;go_wp2;go_ret;exact⟨ej (by rw[g.out];simp[W.out]),F.trans R⟩
def kP:Value:=.agg #[.bool false,.nilFunc,.nilFunc,.nilFunc]
theorem Hb (m a n:av) (o p q:Int) (r:av) (d:ah):
 Calls prog 101 #[.agg #[J 1,m,a,n,o,p,q,r]] d λj m=>j=.returned (.tuple #[g6,.bool (decide (a.size=0))])/\ag d m:=by
 by_cases b:a.size=0
 case neg=>
  have m:¬a.toList=[]:=λh=>b ((fU a).1 h);have k:Hid (decide (a.size=0)=false):=by show _=false;simp[b]
  generalize decide (a.size=0)=s at k⊢;clear b;go_enter func101,ntmps101
  go_wp2_with (go_at_call 177;refine(yj _).mono ?_;rintro j m ⟨l,c⟩;unfold g6 bC at l;subst l;have e:=Z c;have f:=c.cells;have g:=c.frees;have i:=c.size;clear c)
  go_region
  all_goals
   go_wp2;refine bodyPost_ret (v:=.tuple #[g6,.bool false]) ?_ rfl ⟨?_,?_⟩
   ·simp[results,results101,go_sem,g6,bC,f,g]
   ·rw[k.out]
   simp at i;repeat with_reducible first|refine ag.setCell ?_ aG _|refine ag.drew ?_
   exact(((((ag.refl d).alloc _).alloc _).alloc _).alloc _).trans e.out
 have m:=(fU a).2 b;have k:Hid (decide (a.size=0)=true):=by show _=true;simp[b]
 generalize decide (a.size=0)=s at k⊢;clear b;go_enter func101,ntmps101
 go_wp2_with (go_at_call 177;refine(yj _).mono ?_;rintro j a ⟨l,c⟩;unfold g6 bC at l;subst l;have e:=Z c;have f:=c.cells;have g:=c.frees;have i:=c.size;clear c)
 go_region
 all_goals
  go_wp2;refine bodyPost_ret (v:=.tuple #[g6,.bool true]) ?_ rfl ⟨?_,?_⟩
  ·simp[results,results101,go_sem,g6,bC,f,g]
  ·rw[k.out]
  simp at i;repeat with_reducible first|refine ag.setCell ?_ aG _|refine ag.drew ?_
  exact(((((ag.refl d).alloc _).alloc _).alloc _).alloc _).trans e.out
theorem Hc (m n a:av) (d f g:Int) (b:av) (w:ah):
 Calls prog 101 #[.agg #[J 2,m,n,a,d,f,g,b]] w λe m=>e=.returned (.tuple #[g7,.bool (decide (a.size=0)&&(decide (d=0)&&(decide (f=0)&&(decide (g=0)&&decide (b.size=0)))))])/\ag w m:=by
 by_cases c:a.size=0
 case neg=>
  have i:¬a.toList=[]:=λh=>c ((fU a).1 h);have HD:Hid ((decide (a.size=0)&&(decide (d=0)&&(decide (f=0)&&(decide (g=0)&&decide (b.size=0)))))=false):=by show _=false;simp[c]
  generalize (decide (a.size=0)&&(decide (d=0)&&(decide (f=0)&&(decide (g=0)&&decide (b.size=0)))))=j at HD⊢;clear c;exact pK
 by_cases i:d=0
 case neg=>
  have j:=(fU a).2 c;have HD:Hid ((decide (a.size=0)&&(decide (d=0)&&(decide (f=0)&&(decide (g=0)&&decide (b.size=0)))))=false):=by show _=false;simp[c,i]
  generalize (decide (a.size=0)&&(decide (d=0)&&(decide (f=0)&&(decide (g=0)&&decide (b.size=0)))))=k at HD⊢;clear c;exact pK
 by_cases j:f=0
 case neg=>
  have k:=(fU a).2 c;have HD:Hid ((decide (a.size=0)&&(decide (d=0)&&(decide (f=0)&&(decide (g=0)&&decide (b.size=0)))))=false):=by show _=false;simp[c,i,j]
  generalize (decide (a.size=0)&&(decide (d=0)&&(decide (f=0)&&(decide (g=0)&&decide (b.size=0)))))=l at HD⊢;clear c;subst i;exact pK
 by_cases l:g=0
 case neg=>
  have k:=(fU a).2 c;have HD:Hid ((decide (a.size=0)&&(decide (d=0)&&(decide (f=0)&&(decide (g=0)&&decide (b.size=0)))))=false):=by show _=false;simp[c,i,j,l]
  generalize (decide (a.size=0)&&(decide (d=0)&&(decide (f=0)&&(decide (g=0)&&decide (b.size=0)))))=o at HD⊢;clear c;subst i;subst j;exact pK
 by_cases k:b.size=0
 case neg=>
  have m:=(fU a).2 c;have m:¬b.toList=[]:=λh=>k ((fU b).1 h);have HD:Hid ((decide (a.size=0)&&(decide (d=0)&&(decide (f=0)&&(decide (g=0)&&decide (b.size=0)))))=false):=by show _=false;simp[c,i,j,l,k]
  generalize (decide (a.size=0)&&(decide (d=0)&&(decide (f=0)&&(decide (g=0)&&decide (b.size=0)))))=o at HD⊢;clear c k;subst i;subst j;subst l;exact pK
 have m:=(fU a).2 c;have m:=(fU b).2 k;have HD:Hid ((decide (a.size=0)&&(decide (d=0)&&(decide (f=0)&&(decide (g=0)&&decide (b.size=0)))))=true):=by show _=true;simp[c,i,j,l,k]
 generalize (decide (a.size=0)&&(decide (d=0)&&(decide (f=0)&&(decide (g=0)&&decide (b.size=0)))))=o at HD⊢;clear c k;subst i;subst j;subst l;go_enter func101,ntmps101
 go_wp2_with (go_at_call 178;refine(yl _).mono ?_;rintro e w1 ⟨he,s1⟩;unfold g7 bC at he;subst he;have S1:=Z s1;have K1:=s1.cells;have F1:=s1.frees;have Z1:=s1.size;clear s1)
 go_region
 all_goals
  go_wp2;refine bodyPost_ret (v:=.tuple #[g7,.bool true]) ?_ rfl ⟨?_,?_⟩
  ·simp[results,results101,go_sem,g7,bC,K1,F1]
  ·rw[HD.out]
  simp at Z1;repeat with_reducible first|refine ag.setCell ?_ aG _|refine ag.drew ?_
  exact(((((ag.refl w).alloc _).alloc _).alloc _).alloc _).trans S1.out
theorem He (k l m:av) (b c d:Int) (a:av) (w:ah):
 Calls prog 101 #[.agg #[J 3,k,l,m,b,c,d,a]] w λe k=>e=.returned (.tuple #[g8,.bool (decide (b=0)&&(decide (c=0)&&(decide (d=0)&&decide (a.size=0))))])/\ag w k:=by
 by_cases f:b=0
 case neg=>
  have HD:Hid ((decide (b=0)&&(decide (c=0)&&(decide (d=0)&&decide (a.size=0))))=false):=by show _=false;simp[f]
  generalize (decide (b=0)&&(decide (c=0)&&(decide (d=0)&&decide (a.size=0))))=g at HD⊢;exact rj
 by_cases g:c=0
 case neg=>
  have HD:Hid ((decide (b=0)&&(decide (c=0)&&(decide (d=0)&&decide (a.size=0))))=false):=by show _=false;simp[f,g]
  generalize (decide (b=0)&&(decide (c=0)&&(decide (d=0)&&decide (a.size=0))))=i at HD⊢;subst f;exact rj
 by_cases j:d=0
 case neg=>
  have HD:Hid ((decide (b=0)&&(decide (c=0)&&(decide (d=0)&&decide (a.size=0))))=false):=by show _=false;simp[f,g,j]
  generalize (decide (b=0)&&(decide (c=0)&&(decide (d=0)&&decide (a.size=0))))=i at HD⊢;subst f;subst g;exact rj
 by_cases i:a.size=0
 case neg=>
  have k:¬a.toList=[]:=λh=>i ((fU a).1 h);have HD:Hid ((decide (b=0)&&(decide (c=0)&&(decide (d=0)&&decide (a.size=0))))=false):=by show _=false;simp[f,g,j,i]
  generalize (decide (b=0)&&(decide (c=0)&&(decide (d=0)&&decide (a.size=0))))=n at HD⊢;clear i;subst f;subst g;subst j;exact rj
 have k:=(fU a).2 i;have HD:Hid ((decide (b=0)&&(decide (c=0)&&(decide (d=0)&&decide (a.size=0))))=true):=by show _=true;simp[f,g,j,i]
 generalize (decide (b=0)&&(decide (c=0)&&(decide (d=0)&&decide (a.size=0))))=n at HD⊢;clear i;subst f;subst g;subst j;go_enter func101,ntmps101
 go_wp2_with (go_at_call 179;refine(ym _).mono ?_;rintro e w1 ⟨he,s1⟩;unfold g8 bC at he;subst he;have S1:=Z s1;have K1:=s1.cells;have F1:=s1.frees;have Z1:=s1.size;clear s1)
 go_region
 all_goals
  go_wp2;refine bodyPost_ret (v:=.tuple #[g8,.bool true]) ?_ rfl ⟨?_,?_⟩
  ·simp[results,results101,go_sem,g8,bC,K1,F1]
  ·rw[HD.out]
  simp at Z1;repeat with_reducible first|refine ag.setCell ?_ aG _|refine ag.drew ?_
  exact(((((ag.refl w).alloc _).alloc _).alloc _).alloc _).trans S1.out
theorem Hf (m n a:av) (o p q:Int) (r:av) (d:ah):
 Calls prog 101 #[.agg #[J 4,m,n,a,o,p,q,r]] d λj m=>j=.returned (.tuple #[g9,.bool (decide (a.size=0))])/\ag d m:=by
 by_cases b:a.size=0
 case neg=>
  have m:¬a.toList=[]:=λh=>b ((fU a).1 h);have k:Hid (decide (a.size=0)=false):=by show _=false;simp[b]
  generalize decide (a.size=0)=s at k⊢;clear b;go_enter func101,ntmps101
  go_wp2_with (go_at_call 180;refine(yo _).mono ?_;rintro j m ⟨l,c⟩;unfold g9 bC at l;subst l;have e:=Z c;have f:=c.cells;have g:=c.frees;have i:=c.size;clear c)
  go_region
  all_goals
   go_wp2;refine bodyPost_ret (v:=.tuple #[g9,.bool false]) ?_ rfl ⟨?_,?_⟩
   ·simp[results,results101,go_sem,g9,bC,f,g]
   ·rw[k.out]
   simp at i;repeat with_reducible first|refine ag.setCell ?_ aG _|refine ag.drew ?_
   exact(((((ag.refl d).alloc _).alloc _).alloc _).alloc _).trans e.out
 have m:=(fU a).2 b;have k:Hid (decide (a.size=0)=true):=by show _=true;simp[b]
 generalize decide (a.size=0)=s at k⊢;clear b;go_enter func101,ntmps101
 go_wp2_with (go_at_call 180;refine(yo _).mono ?_;rintro j a ⟨l,c⟩;unfold g9 bC at l;subst l;have e:=Z c;have f:=c.cells;have g:=c.frees;have i:=c.size;clear c)
 go_region
 all_goals
  go_wp2;refine bodyPost_ret (v:=.tuple #[g9,.bool true]) ?_ rfl ⟨?_,?_⟩
  ·simp[results,results101,go_sem,g9,bC,f,g]
  ·rw[k.out]
  simp at i;repeat with_reducible first|refine ag.setCell ?_ aG _|refine ag.drew ?_
  exact(((((ag.refl d).alloc _).alloc _).alloc _).alloc _).trans e.out
theorem Hg (a:Int) (g i j:av) (k l m:Int) (n:av) (b:ah) (c:a≠1) (d:a≠2) (e:a≠3) (f:a≠4):
 Calls prog 101 #[.agg #[a,g,i,j,k,l,m,n]] b λg i=>g=.returned (.tuple #[kP,.bool false])/\ag b i:=by
 have g:(a==1)=false:=by simpa using c
 have g:(a==2)=false:=by simpa using d
 have g:(a==3)=false:=by simpa using e
 have a:(a==4)=false:=by simpa using f
 clear c d e f;go_enter func101,ntmps101
 go_wp2;refine bodyPost_ret (v:=.tuple #[kP,.bool false]) ?_ rfl ⟨rfl,?_⟩
 ·simp[results,results101,go_sem,kP]
 repeat (with_reducible refine ag.setCell ?_ aG _)
 exact((((ag.refl b).alloc _).alloc _).alloc _).alloc _
end Go.Proofs.YteamkimbmdgdbaaGreatDoor
