import Derived.Test.YteamkimbmdgdbaaGreatDoorK17
import Derived.Test.YteamkimbmdgdbaaGreatDoorK18
import Derived.Test.YteamkimbmdgdbaaGreatDoorK19
import Derived.Test.YteamkimbmdgdbaaGreatDoorK20
import Derived.Test.YteamkimbmdgdbaaGreatDoorK21
set_option linter.unusedSimpArgs false
set_option linter.unusedVariables false
set_option maxHeartbeats 16000000
set_option maxRecDepth 100000
namespace Go.Proofs.YteamkimbmdgdbaaGreatDoor
open Go.Proofs.Tryz
open Go.RowKit
theorem Fj (c:List Tb) (a:Int) (d:ax) (e:List bm) (f:bk) (g i:ax) (j b:Int) (k:List Pl) (h:ey a=none):∃l,cy c a d e f g i j b k=RO.ap false 1 b l:=by
 unfold cy;rw[h];exact⟨_,rfl⟩
theorem Fk (l d x:Nat) (h:Hd) (m:List RT) (f:Int) (g:ax) (y r:Hd) (n:List aD) (s:Hd) (o:List bm) (t:Hd) (p:bk) (i j:ax) (k at_:Int) (c:ah) (u:ey f=none)
 (v:aa c d 105 #[f,J 0,r.val,ab,ab,J 0,J 0,ab]) (q:iP c l d x h m r n s o t p at_):
 Calls prog 201 #[ak l,.agg #[f,g,y.val,s.val,t.val,i,j,k,at_],ak d] c
  λe w'=>RP [d] c (cy (m.map RT.tb) f g o p i j k at_ (aD.aO n)) (iQ d x) e w':=by
 obtain⟨az,aA,aB⟩:=h;obtain⟨aC,aE,aG⟩:=r;obtain⟨C,D,E⟩:=y;obtain⟨F,G,H⟩:=s;obtain⟨I,L,M⟩:=t;have t:=Z q;have s:=q.hX;have r:=q.xp;have x:=v.lt;have N:=Z v;obtain⟨y,r⟩:=av (cy (m.map RT.tb) f g o p i j k at_ (aD.aO n));rw[<-r];obtain⟨n,m⟩:=Fj (m.map RT.tb) f g o p i j k at_ (aD.aO n) u;have P:=Z (show y=RO.ap false 1 at_ n by rw[r,m]);have Q:=Z u;clear r q v m u;have m:c.heap.size<=c.heap.size:=Nat.le_refl _;have R:=Z (Kp.refl [d] c);have S:=Z (λ(a:ah) (b:Kp [d] c a)=>show ae a (ac l 8) at_ from(b.cell s aF).trans t.c8);have m:=bb s;have m:=bb x;have T:=@run_makeMap prog;show Calls prog 201 #[ak l,.agg #[f,g,O C D E,O F G H,O I L M,i,j,k,at_],ak d] c _;go_enter func201,ntmps201
 go_upto_region 1 with(fail)
 obtain⟨i,d,j,a,g⟩:=nb c 154 _;rw[d];clear d;have d:=qk R a;have k:=qb a N;have i:=d.size;clear a;obtain⟨b,i,U,a,l⟩:=nc g 93 _;rw[i];clear i;have z:=qk d a;have V:=qb a k;have W:=qb a j;have d:=z.size;clear a;have c:c.heap.size+1<b.heap.size:=af
 clear g l;have X:=kA b;have Y:=kB b;have ad:=kC b;have ai:=kD b;have al:=kE b;have am:=kF b;have an:=kG b;have ao:=kH b;go_upto_region 2 with(fail)
 clear X Y ad ai al am an ao T;have M3:=Z (kI b);have a:=Z (show ag b (b.alloc (.map (km 8) 8))from(ag.refl b).alloc _);obtain⟨aq,b⟩:=av (b.alloc (.map (km 8) 8));rw[<-b]at M3 a⊢;clear b;have w:=qk z a;have b:=qb a V;have A:=qb a W;have B:=qb a U;have b:=w.size;rcases wU M3.out f with⟨_,ar⟩|⟨aH,au,_⟩
 case inr=>exact absurd (Q.out.symm.trans au) aj
 clear a M3;have aw:=ay B;have a:=aa.lt B;go_upto_region 3 with(fail)
 clear ar aw;have a:=ay A;have b:=aa.lt A;refine BY 12 a λhS=>?_;refine hT ?_;refine sk 3 hS ?_;refine sk 4 hS ?_;refine sk 5 hS ?_;refine sG ?_;refine aM 11 (λK a=>?_);go_simp;exact b1 w.drew P (S aq w)
theorem Fl (f a g:Nat) (h:Hd) (b:List RT) (c:Int) (i:ax) (r j:Hd) (k:List aD) (l:Hd) (m:List bm) (n:Hd) (o:bk) (p d:ax) (q e:Int) (w:ah) (u:aJ d) (x:lB (b.map RT.tb))
 (s:aa w a 105 #[c,J 0,j.val,ab,ab,J 0,J 0,ab]) (t:iP w f a g h b j k l m n o e):
 Calls prog 201 #[ak f,.agg #[c,i,r.val,l.val,n.val,p,d,q,e],ak a] w
  λy z=>RP [a] w (cy (b.map RT.tb) c i m o p d q e (aD.aO k)) (iQ a g) y z:=by
 by_cases v:c=1
 ·subst v;exact EX f a g h b i r j k l m n o p d q e w u x s t
 by_cases A:c=2
 ·subst A;exact E2 f a g h b i r j k l m n o p d q e w u s t
 by_cases B:c=3
 ·subst B;exact E8 f a g h b i r j k l m n o p d q e w u s t
 by_cases C:c=4
 ·subst C;exact Fa f a g h b i r j k l m n o p d q e w u s t
 by_cases D:c=5
 ·subst D;exact Fc f a g h b i r j k l m n o p d q e w u s t
 by_cases E:c=6
 ·subst E;exact Fe f a g h b i r j k l m n o p d q e w u s t
 by_cases F:c=7
 ·subst F;exact Fg f a g h b i r j k l m n o p d q e w u s t
 by_cases G:c=8
 ·subst G;exact Fi f a g h b i r j k l m n o p d q e w u s t
 refine Fk f a g h b c i r j k l m n o p d q e w ?_ s t;unfold ey;rw[if_neg v,if_neg af,if_neg af]
def Ro (b:Nat) (w:ah) (v:aA) (a:Nat):Prop:=b<=a/\a<w.heap.size/\v.ownBlock≠some a
theorem Fm {l:aP} (h:l.length=7):∃a b c d e f g,l=[a,b,c,d,e,f,g]:=by
 match l,h with
 |[a,b,c,d,e,f,g],_=>exact⟨a,b,c,d,e,f,g,rfl⟩
theorem Tryz.Fo:(prog.info? 105).map (λa=>(a.zero,a.size,a.bytes))=some (some (.agg #[J 0,J 0,ab,ab,ab,J 0,J 0,ab]),8,128):=am
def nK:List Value:=[.int .i64 0,.int .i64 0,.slice none 0 0,.slice none 0 0,.slice none 0 0,.int .i64 0,.int .i64 0,.slice none 0 0]
theorem Fp:∀a∈nK,a.oneCell'=true:=by unfold nK;simp[Value.oneCell']
theorem Fq {w:ah} {d a e c:Nat} {b:aP} (f:w.ownsRow d 105 8 (O (some ⟨c,0,none⟩) (a+1) e) (a+1) (b++nK)) (d:b.length=a*8) (b:Nat) (e:b<8):w.cell? (ac c (a*8+b))=nK[b]?:=by
 rw[f.cellAt _ oR,List.getElem?_append_right af,d,Nat.add_sub_cancel_left]
theorem Fr (a:List aD):(a.flatMap aD.cells).length=a.length*8:=ng (λb=>aD.len b) a
theorem Fs (l:List aD) (a:aD):aD.aO (l++[a])=aD.aO l++[a.pl]:=by rw[aD.gY,aD.gY,List.map_append];rfl
theorem xq {w d:ah} {e f:Nat} {g:aA} {S i:Nat->Prop} {j:aD} (k:dL w S j) (l:Kp (g.ownBlock.toList++[e,f]) w d) (m:∀a,S a->g.ownBlock≠some a/\a≠e/\a≠f) (c:∀a,S a->i a):dL d i j:=
 (
  k.keep l (λa n c=>by
  have h:=m a c;rcases cP n with b|b
  ·exact h.1 (jB b)
  rcases de b with b|b
  ·exact h.2.1 b
  exact h.2.2 (aC b))).mono c
theorem Ft (k a2 aW:Nat) (h:Hd) (s:List RT) (bA:aP) (S:Nat->Prop) (t:Int) (z:ax) (az:Hd) (g:List RE) (b0:Hd) (aE:List bm) (b1:Hd) (an:bk) (A y:ax) (B r:Int) (w:ah)
 (aq:jF w k a2 aW h s bA S) (b5:dK w S (.mk t z az g b0 aE b1 an A y B r)) (cZ:an.length<=5001) (en:g.length<=5001)
 (cq:∀f∈g,∀e,jF e k a2 aW h s bA S->dK e S f->Calls prog 200 #[.agg f.cells.toArray,ak a2,ak aW] e λo w'=>nH e k h bA (fZ (s.map RT.tb) f.ex) (pk e.heap.size) o w'):
 Calls prog 200 #[.agg #[t,z,az.val,b0.val,b1.val,A,y,B,r],ak a2,ak aW] w
  λo w'=>nH w k h bA (fZ (s.map RT.tb) (.mk t z (RE.exs g) aE an A y B r)) (pk w.heap.size) o w':=by
 obtain⟨a3,x,a4⟩:=h;obtain⟨ba,c1,bs⟩:=az;obtain⟨bb,bc,bd⟩:=b0;obtain⟨av,bh,bn⟩:=b1;obtain⟨u1,u2,u3,u4,u5,u6,u7,rfl⟩:=Fm aq.us.n;have aN:=Z aq;have bA:=aq.hX;have c2:=aq.hf;have cr:=aq.hv;have c3:=aq.nf;have cs:=aq.nv;obtain⟨bt,ct⟩:=aq.bx;have c4:Hid (aa w k 157 #[O a3 x a4,u1,u2,u3,u4,u5,u6,u7,bt]):=Z ct;have bu:=Z (λ(e:ah) (f:Kp [k] w e)=>b5.keep f (λa a=>by rw[aC a];exact aq.sx));have c5:g.length=c1:=by cases b5 with|mk a5=>exact a5.1
 subst c5;obtain⟨a6,bA⟩:∃a6,a6=fZ (s.map RT.tb) (.mk t z (RE.exs g) aE an A y B r):=⟨_,rfl⟩;rw[<-bA];obtain⟨aX,b0⟩:∃aX:List Pl×Int->RO (Pl×Int),aX=λq=>RO.ap (decide (q.2<=12)) 3 r ((cy (s.map RT.tb) t z aE an A y B r q.1).bind λa=>.ok (a,q.2)):=⟨_,rfl⟩;have c6:=Z b0;have c7:Hid (a6=(eQ (s.map RT.tb) (RE.exs (g.drop 0))).bind λq=>aX (aD.aO []++q.1,max 1 q.2)):=Z (by
  rw[bA,fZ,b0];exact EU (s.map RT.tb) (RE.exs g) (λq=>RO.ap (decide (q.2<=12)) 3 r ((cy (s.map RT.tb) t z aE an A y B r q.1).bind λa=>RO.ok (a,q.2))))
 clear bA b0 b5 aq ct;have c9:=Z cq;clear cq;have cu:=Z (Kp.refl [k] w);show Calls prog 200 #[.agg #[t,z,O ba g.length bs,O bb bc bd,O av bh bn,A,y,B,r],ak a2,ak aW] w _;go_enter func200,ntmps200
 go_upto_region 1 with(fail)
 obtain⟨aq,b6,bA,j,cw⟩:=nb w 93 #[t,z,O ba g.length bs,O bb bc bd,O av bh bn,A,y,B,r];rw[b6];clear b6;have b0:=qk cu j;have b1:=qb j c4;obtain⟨b5,aq,da,j,cx⟩:=nc cw 105 #[J 0,J 0,ab,ab,ab,J 0,J 0,ab];rw[aq];clear aq;have db:=qk b0 j;have dc:=qb j b1;have cz:=qb j bA;have aq:=ay cz;go_upto_region 2 with(fail)
 obtain⟨bA,aq,cA,j,b0⟩:=nc cx 105 #[t,J 0,ab,ab,ab,J 0,J 0,ab];rw[aq];clear aq;have dd:=qk db j;have df:=qb j dc;have cB:=qb j cz;have dg:=qb j da;have aq:=aZ cB;obtain⟨c,aq⟩:∃c,c=w.heap.size+2:=⟨_,rfl⟩;rw[<-aq]at cA⊢;have bA:bA.heap.size=c+1:=af
 have bA:w.heap.size+2<=c:=af
 have bA:c<=w.heap.size+2:=af
 clear cw cx b0 aq;go_upto_region 4 with(fail)
 obtain⟨dh,dj,dk,dl,dm⟩:=info_parts Tryz.Fo;go_loopg [7,18] (g.length+1) (λf C D wr=>∃(a:Nat) (b:Int) (d:List aD) (i:aU) (u:Nat) (bt:Int),C=.int .i64 b/\D=.int .i64 a/\a<=g.length/\g.length-a<f/\d.length=a/\1<=b/\b<=13/\c+1<=wr.heap.size/\Hid (aa wr w.heap.size 93 #[t,z,O ba g.length bs,O bb bc bd,O av bh bn,A,y,B,r])/\Hid (aa wr (w.heap.size+1) 105 #[J 0,J 0,ab,ab,ab,J 0,J 0,ab])/\Hid (aa wr c 105 #[t,J 0,O i a u,ab,ab,J 0,J 0,ab])/\Hid (aa wr k 157 #[O a3 x a4,u1,u2,u3,u4,u5,u6,u7,bt])/\Hid (wr.ownsRow (c+1) 105 8 (O i a u) a (d.flatMap aD.cells))/\Hid (∀f∈d,dL wr (Ro (c+1) wr (O i a u)) f)/\Hid (Kp [k] w wr)/\Hid (a6=(eQ (s.map RT.tb) (RE.exs (g.drop a))).bind λq=>aX (aD.aO d++q.1,max b q.2)))
 case atStart=>exact⟨0,1,[],none,0,bt,rfl,rfl,by omega,by omega,rfl,by omega,by omega,by omega,cB,dg,cA,df,Z ⟨rfl,.inl ⟨rfl,rfl⟩⟩,Z (λf az=>by cases az),dd,c7⟩
 obtain⟨a,aQ,C,aY,a0,bt,rfl,rfl,ep,cC,cD,dn,eq,er,b8,cE,cF,bB,b9,cG,bC,bD⟩:=hrel;have cH:=Z cC;have ca:=Z cD;clear cC cD;by_cases E:a<g.length
 case neg=>
  have H:¬(a:Int)<g.length:=af
  have a9:=Z (show a6=RO.ap (decide (aQ<=12)) 3 r ((cy (s.map RT.tb) t z aE an A y B r (aD.aO C)).bind λb=>.ok (b,aQ)) by
   rw[bD.out,List.drop_of_length_le af];show aX (aD.aO C++[],max aQ 1)=_;rw[List.append_nil,Int.max_eq_left dn,c6.out])
  have bP:=(bC.cell (p:=(ac aW 0)) cr (by simpa using cs)).trans aN.cv;clear bD;have H:=b4 b8;have H:=b4 bB;have H:=λa=>aa.frozen bB a;go_upto_region 11 with(fail)
  have aq:=Z (rT bB r);have H:=Z (Kp.aI (p:=(ac k 8)) (l:=[k]) aj (Kp.refl [k] wr) r);obtain⟨d,bt⟩:∃d,d=wr.setCell (ac k 8) r:=⟨_,rfl⟩;rw[<-bt]at aq H⊢;clear bt;have bt:=H;have u:=Z (bC.trans H);have b:=qo H b8;have bQ:=qo H cE;have bR:=qo H cF;have bt:=u.size;have a7:=H;have I:=aq;have bE:=Z (bG b9 a7 (λi i=>by have:=aC i;omega));have bS:Hid (∀f∈C,dL d (Bw (c+1) d.heap.size) f):=Z (λf az=>((cG f az).keep a7 (λi i hS=>by have D:=hS.1;have i:=aC i;omega)).mono (λi i=>⟨i.1,by have:=i.2.1;have:=a7.out.size;omega⟩));clear bP;have H:=(u.cell (p:=(ac aW 0)) cr (by simpa using cs)).trans aN.cv;have bo:=b4 I;obtain⟨q,H⟩:∃q,q=decide (aQ<=12):=⟨_,rfl⟩;rw[<-H]at a9;have a8:∀D,q=D->decide (aQ<=12)=D:=λD h=>by rw[<-h,H]
  clear H;cases q
  case false=>
   have G:=a8 false rfl;clear a8;go_wp2_with fail
   refine fN (w:=w) (l:=[k]) u.out a9.out bo ?_ (λ_ h=>by cases h);intro i _;go_wp2;refine⟨rfl,?_⟩;rw[i.out];exact⟨u.out,⟨_,I.out⟩,rfl⟩
  have bT:=a8 true rfl;clear a8;go_wp2_with fail
  refine bV u.out a9.out bo λbH=>?_;have bp:=Z (λ(e:ah) (f:Kp [c] d e)=>(f.old u (λD i E=>absurd E (by rw[aC i];omega))));have bU:Hid (iP d k c (c+1) ⟨a3,x,a4⟩ s ⟨aY,a,a0⟩ C ⟨bb,bc,bd⟩ aE ⟨av,bh,bn⟩ an r):=Z
   {
    hX:=by omega,xp:=by omega,kz:=by omega,lw:=by have:=a7.out.size;omega,
    c0:=aa.cell I.out 0,c8:=bo,
    ta:=λe f=>aN.out.ta.iR (aN.out.bx.hV aN.out.us) aN.out.ko (bp.out e f),
    lk:=cJ (h:=⟨aY,a,a0⟩) aD.len ca.out (by show a<=_;omega) bE.out,
    ik:=lz bE.out,sub:=bS.out,
    lc:=λe f=>(by cases bu.out e (bp.out e f)with|mk a5 G K i=>exact i),
    ln:=λe f=>(by cases bu.out e (bp.out e f)with|mk a5 G K L M N i=>exact i),
    l5:=cZ}
  have bI:aJ y:=by cases bu.out w cu.out with|mk a5 cN cO cQ cR cS cT cU cV cW bW=>exact bW
  have H:=Z (Fl k c (c+1) ⟨a3,x,a4⟩ s t z ⟨ba,g.length,bs⟩ ⟨aY,a,a0⟩ C ⟨bb,bc,bd⟩ aE ⟨av,bh,bn⟩ an A y B r d bI aN.fa bR bU);have bY:Hid (Calls prog 201 #[ak k,.agg #[t,z,O ba g.length bs,O bb bc bd,O av bh bn,A,y,B,r],ak c] d λo w'=>RP [c] d (cy (s.map RT.tb) t z aE an A y B r (aD.aO C)) (iQ c (c+1)) o w'):=H;clear bI bT;have d:=ay b;have d:=aS b;have d:=aZ b;have d:=bi b;have d:=bl b;have d:=bF b;have d:=b3 b;have d:=b7 b;have d:=b4 b;go_wp2_with fail
  refine dQ bH.out bY.out ?aA ?aB
  case aA=>
   intro d d d G i;go_wp2;refine⟨rfl,?_⟩;rw[G.out];exact⟨i.out.old u.out (λD d E=>absurd E (by rw[aC d];omega)),⟨_,i.out.blk I.out aF⟩,rfl⟩
  intro d d bJ cb bK cd K;obtain⟨rfl,bq,rfl,bL,bN⟩:=cd;clear cb bH;have ce:=Z (K.old u (λD d E=>absurd E (by rw[aC d];omega)));have cg:=qo K b;have bO:=qo K bQ;have ch:=qo K I;obtain⟨RP,b⟩:∃RP,RP=bq:=⟨_,rfl⟩;rw[<-b]at bN bK;have ci:=Z (show RP.cells=bq.cells by rw[b]);clear K b;obtain⟨L,M,⟨N,P,Q⟩,cX,⟨R,T,U⟩,cY,⟨V,W,X⟩,dp,Y,ad,⟨al,ar,aT⟩,dq⟩:=bq;have i:Hid (aa bJ c 105 #[L,M,O N P Q,O R T U,O V W X,Y,ad,O al ar aT]):=Z bL;have cj:Hid (RP.cells=[.int .i64 L,.int .i64 M,.slice N P Q,.slice R T U,.slice V W X,.int .i64 Y,.int .i64 ad,.slice al ar aT]):=ci;clear bL;have b:=ay i;have b:=aS i;have b:=aZ i;have b:=bi i;have b:=bl i;have b:=bF i;have b:=b3 i;have b:=b7 i;go_wp2_with (first|(refine wpList_store_row rfl 105 (.tmp 4) (.tmp 53) rfl (w.heap.size+1) #[L,M,O N P Q,O R T U,O V W X,Y,ad,O al ar aT] rfl rfl 105 #[J 0,J 0,ab,ab,ab,J 0,J 0,ab] bO.out am rfl bw ?_)|fail)
  obtain⟨d,b,G,aV⟩:=mu bO #[L,M,O N P Q,O R T U,O V W X,Y,ad,O al ar aT];rw[b];clear b;have ck:=Z (ce.grown aV (λb bz=>.inr (by injection bz with bz;omega)));have cl:=Z (aa.grown ch aV (λo=>by injection o with o;omega));have dr:=Z (aa.grown cg aV (λo=>by injection o with o;omega));have ds:=Z (aa.grown i aV (λo=>by injection o with o;omega));have bz:=Z ((Kp.refl [(w.heap.size+1)] bJ).grown aV (λb bz=>.inl (by injection bz with bz;simp[bz])));have cm:=ay G;have cn:=aS G;have co:=aZ G;have cp:=bi G;have cI:=bl G;have cK:=bF G;have cL:=b3 G;have cM:=b7 G;refine bodyPost_ret (v:=.tuple #[.agg #[L,M,O N P Q,O R T U,O V W X,Y,ad,O al ar aT],aQ]) ?_ rfl ?_
  ·simp[results,results200,go_sem,cm,cn,co,cp,cI,cK,cL,cM]
  rw[bK.out];exact⟨ck.out,⟨_,cl.out⟩,_,rfl,RP,rfl,by rw[cj.out],(bN.keep bz.out (λD b hS=>by have d:=hS.1;have b:=aC b;omega)).mono (λD b=>⟨by have:=b.1;omega,by have:=b.2;have:=bz.out.size;omega⟩)⟩
 have r:(a:Int)<g.length:=af
 have r:(0:Int)<=a:=af
 have cb:RE.exs (g.drop a)=g[a].ex::RE.exs (g.drop (a+1)):=by rw[List.drop_eq_getElem_cons E];rfl
 have dp:=Z (bu wr bC);obtain⟨bH,of,dq,es,al⟩:∃i r,ba=some ⟨i,r,none⟩/\i<wr.heap.size/\∀bo bE,(RE.cells g[a])[bo]?=some bE->ae wr (ac i (r+a*9+bo)) bE:=by
  cases dp.out with
  |mk a5=>exact a5.2.2 a E
 have dr:=Z (λ(e:ah) (f:Kp [k] w e)=>show dK e S g[a] by
  cases bu.out e f with
  |mk a5 d b=>exact b _ (List.getElem_mem E))
 have cd:=Z (λ(e:ah) (f:Kp [k] w e) (i:gJ e k ⟨a3,x,a4⟩ [u1,u2,u3,u4,u5,u6,u7])=>c9 g[a] (List.getElem_mem E) e (aN.kp f i) (dr e f));obtain⟨bI,y⟩:∃bI,bI=g[a]:=⟨_,rfl⟩;rw[<-y]at al cd cb;obtain⟨bJ,r⟩:∃bJ,bJ=fZ (s.map RT.tb) bI.ex:=⟨_,rfl⟩;rw[<-r]at cd;have ds:=Z r;have du:=Z (show a6=bJ.bind λb=>(eQ (s.map RT.tb) (RE.exs (g.drop (a+1)))).bind λq=>aX ((aD.aO C++[b.1])++q.1,max (max aQ (b.2+1)) q.2) by rw[bD.out,cb,EV (F:=aX),r]);clear y bD r cb;obtain⟨bK,ce,⟨bL,bN,bO⟩,et,⟨bP,bQ,bR⟩,eu,⟨bS,bT,bU⟩,ev,cg,ch,ci,cj⟩:=bI;have dv:Hid (∀(e:ah),Kp [k] w e->gJ e k ⟨a3,x,a4⟩ [u1,u2,u3,u4,u5,u6,u7]->Calls prog 200 #[.agg #[bK,ce,O bL bN bO,O bP bQ bR,O bS bT bU,cg,ch,ci,cj],ak a2,ak aW] e λo w'=>nH e k ⟨a3,x,a4⟩ [u1,u2,u3,u4,u5,u6,u7] bJ (pk e.heap.size) o w'):=cd;have e:ae wr (ac bH (of+a*9)) bK:=by simpa using al 0 _ rfl
 have dw:=al 1 _ rfl;have e:ae wr (ac bH (of+a*9+2)) (O bL bN bO):=al 2 _ rfl;have e:ae wr (ac bH (of+a*9+3)) (O bP bQ bR):=al 3 _ rfl;have e:ae wr (ac bH (of+a*9+4)) (O bS bT bU):=al 4 _ rfl;have dx:=al 5 _ rfl;have dy:=al 6 _ rfl;have dz:=al 7 _ rfl;have dA:=al 8 _ rfl;clear al;subst dq;have e:IntKind.i64.wrap ((a:Int)+1)=(a:Int)+1:=IntWalk.i64_in _ af;go_upto_region 6 with(first|(refine wpList_store_row rfl 93 (.tmp 9) (.tmp 21) rfl wr.heap.size #[bK,ce,O bL bN bO,O bP bQ bR,O bS bT bU,cg,ch,ci,cj] rfl rfl 93 #[J 0,ai,ab,ab,ab,ai,ai,J 0,J 0] (aa.new wr 93 #[J 0,ai,ab,ab,ab,ai,ai,J 0,J 0]) am rfl bw ?_;rw[World.setRow_alloc_new])|fail)
 have r:=Z (Kp.refl [k] wr);obtain⟨cI,k,e,j,-⟩:=nb wr 93 #[bK,ce,O bL bN bO,O bP bQ bR,O bS bT bU,cg,ch,ci,cj];rw[k];clear k;have bp:=qk bC j;have dB:=qb j bB;have dC:=qb j b8;have dD:=qb j cE;have dE:=qb j cF;have dF:=qk r j;have k:=bp.size;have k:=aa.lt e;clear dw dx dy dz dA;have k:=ay e;have k:=aS e;have k:=aZ e;have k:=bi e;have k:=bl e;have k:=bF e;have k:=b3 e;have k:=b7 e;have e:=b4 e;have dG:=(bp.cell (p:=(ac a2 0)) c2 (by simpa using c3)).trans aN.cf;have dH:∀e w,(callFunc 200 e).run prog w=.ok (.enter 200 e) w:=enters_of func200 am rfl;go_wp2_with fail
 refine xh bp.out du.out (dv.out cI bp.out ⟨_,dB.out⟩) ?aG ?aH
 case aG=>
  intro e e e b d u;go_wp2;refine⟨rfl,?_⟩;rw[b.out];exact⟨bp.out.trans d.out,u.out,rfl⟩
 intro dI bE D cK ck dJ a7 cL;obtain⟨ew,a8⟩:=dI;obtain⟨cl,rfl,cN,cM⟩:=dJ;have e:=ET (ds.symm.trans cK);have cO:Hid (1<=a8/\a8<=12):=Z e;obtain⟨dN,dM⟩:=cL.out;clear cL cK dG dH e;have dO:=Z (bp.trans a7);have dP:=Z (dF.trans a7);have e:=a7.size;have dR:=qo a7 dC;have dS:=qo a7 dD;have dT:=qo a7 dE;obtain⟨RP,e⟩:∃RP,RP=cl:=⟨_,rfl⟩;rw[<-e]at cM ck;have dU:=Z (show RP.cells=cl.cells by rw[e]);clear a7 e;obtain⟨G,H,⟨I,K,L⟩,ey,⟨M,N,P⟩,ez,⟨Q,R,T⟩,eA,U,V,⟨W,X,Y⟩,eB⟩:=cl;have dV:bE=.tuple #[.agg #[G,H,O I K L,O M N P,O Q R T,U,V,O W X Y],a8]:=cN;clear cN;subst dV;have cQ:Hid (RP.cells=[.int .i64 G,.int .i64 H,.slice I K L,.slice M N P,.slice Q R T,.int .i64 U,.int .i64 V,.slice W X Y]):=dU;go_upto_region 7 with(first|(refine wpList_store_row rfl 105 (.tmp 10) (.tmp 26) rfl D.heap.size #[G,H,O I K L,O M N P,O Q R T,U,V,O W X Y] rfl rfl 105 #[J 0,J 0,ab,ab,ab,J 0,J 0,ab] (aa.new D 105 #[J 0,J 0,ab,ab,ab,J 0,J 0,ab]) am rfl bw ?_;rw[World.setRow_alloc_new])|fail)
 have z:=Z (Kp.refl [] D);obtain⟨r,e,k,j,-⟩:=nb D 105 #[G,H,O I K L,O M N P,O Q R T,U,V,O W X Y];rw[e];clear e;have A:=qk dO j;have B:=qb j dM;have al:=qb j dR;have an:=qb j dS;have y:=qb j dT;have aq:=qk z j;have z:=qk dP j;have e:=aZ y;have j:=ay k;have aE:=aS k;have aN:=aZ k;have aW:=bi k;have a2:=bl k;have a3:=bF k;have a4:=b3 k;have a5:=b7 k;have a7:=Z (bG b9 z (λi b=>by have:=aC b;omega));have cm:=b2 b9;have ba:(a:Int)+1<=5001:=by omega
 refine eI 5 (S:=(λw'=>ae w' (ac c 2) (O aY a a0)/\ae w' (ao D 0) G/\ae w' (ao D 1) H/\ae w' (ao D 2) (O I K L)/\ae w' (ao D 3) (O M N P)/\ae w' (ao D 4) (O Q R T)/\ae w' (ao D 5) U/\ae w' (ao D 6) V/\ae w' (ao D 7) (O W X Y))) ⟨e,j,aE,aN,aW,a2,a3,a4,a5⟩ (λhS=>?_);refine dX ?_;have e:=Z ((ag.refl r).drew);obtain⟨ar,j⟩:∃ar,ar=r.drew:=⟨_,rfl⟩;rw[<-j]at e hS⊢;clear j;have dW:=qk A e;have dY:=qb e B;have dZ:=qb e al;have d0:=qb e an;have cn:=qb e y;have j:=qb e k;have d1:=qk aq e;have bW:=qk z e;have d2:=Z (aK e a7);have d3:=aZ cn;have e:=aa.lt cn;have d4:=ay j;have d5:=aS j;have d6:=aZ j;have d7:=bi j;have d8:=bl j;have d9:=bF j;have ea:=b3 j;have eb:=b7 j;have e:=aa.lt j;refine aM 4 (λbq ad=>?_);go_simp;refine ad.out _ _ (λ_=>⟨bj d3,bj d4,bj d5,bj d6,bj d7,bj d8,bj d9,bj ea,bj eb⟩) ?_;refine aw ?_;have e:=Z (aK ((ag.refl ar).alloc (.cells #[J 0,J 0,ab,ab,ab,J 0,J 0,ab] 105)) d2);have j:=Z (ju (aa.new ar 105 #[J 0,J 0,ab,ab,ab,J 0,J 0,ab]) (m:=8) rfl);refine aM 5 (λbq ad=>?_);refine di (ar.alloc (.cells #[J 0,J 0,ab,ab,ab,J 0,J 0,ab] 105)) (.tmp 29) (.tmp 32) 103 rfl (c+1) 105 dh _ 8 128 underlying103 dj dk dl dm rfl au (O aY a a0) a (C.flatMap aD.cells) rfl e.out (ar.heap.size+1) (some ⟨ar.heap.size,0,none⟩) 1 1 nK rfl j.out Fp cc af aF ?_;intro e u bY cR cS;obtain⟨eC,aT,rfl,ec⟩:=bv bY;obtain⟨b,e,ed,j,cT,_,_,_,_⟩:=f7 bY af;subst ed;have ee:=Z bY;have cU:(C.flatMap aD.cells).length=a*8:=by rw[Fr,ca.out]
 have aV:=λbo e=>Fq bY cU bo e;have co:Hid ((Value.slice aY a a0).ownBlock=some b\/b=ar.heap.size+1):=Z (by
  rcases cS with h|h
  ·exact .inl h.symm
  injection h with h;exact .inr (by simpa using h))
 have cV:=Z (fO ((Kp.refl [] ar).alloc _) cR);have e:=aa.lt cT;refine ad.out _ _ (λh=>absurd h au) ?_;clear ad bq cR cS ec;refine aw ?_;have e:ae u (ac b (a*8)) (J 0):=aV 0 af;have e:ae u (ac b (a*8+1)) (J 0):=aV 1 af;have e:ae u (ac b (a*8+2)) ab:=aV 2 af;have e:ae u (ac b (a*8+3)) ab:=aV 3 af;have e:ae u (ac b (a*8+4)) ab:=aV 4 af;have e:ae u (ac b (a*8+5)) (J 0):=aV 5 af;have e:ae u (ac b (a*8+6)) (J 0):=aV 6 af;have e:ae u (ac b (a*8+7)) ab:=aV 7 af;clear aV;have e:=λbo=>aa.frozen cT bo;have e:b≠c:=af
 have ef:c≠b:=af
 have cW:=λi d=>(cm i (jB d)).1;have cp:=Z (cV.blk cn (λx=>by have:=cW _ x;omega));have e:=aZ cp;have e:=λa=>aa.frozen cp a;refine bZ ?_;have e:(a:Int)<(a:Int)+1:=by omega
 refine tq 6 ?_;refine tq 8 ?_;refine Bp 7 9 (λbq ad=>?av) (λbq ad=>?aL)
 case' av=>
  go_simp;refine ad _ _ ?_;refine aw ?_;refine dt 9 (λbq ad=>?_);go_simp;refine ad _ _ ?_;refine aw ?_;refine bM ?_;obtain⟨a1,e⟩:∃e,e=((((((((u.setCell (ac b (a*8)) G).setCell (ac b (a*8+1)) H).setCell (ac b (a*8+2)) (O I K L)).setCell (ac b (a*8+3)) (O M N P)).setCell (ac b (a*8+4)) (O Q R T)).setCell (ac b (a*8+5)) U).setCell (ac b (a*8+6)) V).setCell (ac b (a*8+7)) (O W X Y)).setCell (ac c 2) (O (some ⟨b,0,none⟩) (a+1) aT):=⟨_,rfl⟩;rw[<-e];have br:a1=(bX u b (a*8) [.int .i64 G,.int .i64 H,.slice I K L,.slice M N P,.slice Q R T,.int .i64 U,.int .i64 V,.slice W X Y]).setCell (ac c 2) (O (some ⟨b,0,none⟩) (a+1) aT):=e;clear e
 case' aL=>
  go_simp;refine ad _ _ ?_;refine aw ?_;refine dt 7 (λbq ad=>?_);go_simp;refine ad _ _ ?_;refine aw ?_;refine bM ?_;obtain⟨a1,e⟩:∃e,e=(((((((((u.setCell (ac c 2) (O (some ⟨b,0,none⟩) (a+1) aT)).setCell (ac b (a*8)) G).setCell (ac b (a*8+1)) H).setCell (ac b (a*8+2)) (O I K L)).setCell (ac b (a*8+3)) (O M N P)).setCell (ac b (a*8+4)) (O Q R T)).setCell (ac b (a*8+5)) U).setCell (ac b (a*8+6)) V).setCell (ac b (a*8+7)) (O W X Y)):=⟨_,rfl⟩;rw[<-e];have br:=e.trans (np [.int .i64 G,.int .i64 H,.slice I K L,.slice M N P,.slice Q R T,.int .i64 U,.int .i64 V,.slice W X Y] b (a*8) u ef);clear e
 all_goals
  have bz:∀i∈(Value.slice aY a a0).ownBlock.toList++[b,c],c<=i:=λi d=>by
   rcases cP d with a9|a9
   ·have:=cW _ a9;omega
   rcases de a9 with a9|a9
   ·omega
   have:=aC a9;omega
  have a9:=Z (show Kp ((Value.slice aY a a0).ownBlock.toList++[b,c]) ar a1 by
   rw[br];exact((cV.out.mono (λi d=>kk (.inl d))).trans ((o6 b [.int .i64 G,.int .i64 H,.slice I K L,.slice M N P,.slice Q R T,.int .i64 U,.int .i64 V,.slice W X Y] (a*8) u u (Kp.refl _ _)).mono (λi d=>kk (.inr (by rw[aC d];simp))))).trans ((Kp.aI (p:=(ac c 2)) (l:=[c]) aj (Kp.refl [c] _) (O (some ⟨b,0,none⟩) (a+1) aT)).mono (λi d=>kk (.inr (by rw[aC d];simp)))))
  have eg:=Z (show aa a1 c 105 #[t,J 0,O (some ⟨b,0,none⟩) (a+1) aT,ab,ab,J 0,J 0,ab] by rw[br];exact((o6 b [.int .i64 G,.int .i64 H,.slice I K L,.slice M N P,.slice Q R T,.int .i64 U,.int .i64 V,.slice W X Y] (a*8) u u (Kp.refl _ _)).blk cp.out aF).aR 2 _);have eh:=Z (show a1.ownsRow (c+1) 105 8 (O (some ⟨b,0,none⟩) (a+1) aT) (a+1) ((C++[RP]).flatMap aD.cells) by
   have e:=v6 ee cU (ys:=nK) rfl (vs:=[.int .i64 G,.int .i64 H,.slice I K L,.slice M N P,.slice Q R T,.int .i64 U,.int .i64 V,.slice W X Y]) rfl;rw[<-cQ.out]at e;rw[br,List.flatMap_append,<-cQ.out];have j:[RP].flatMap aD.cells=RP.cells:=aj
   rw[j];exact bG e (Kp.aI (p:=(ac c 2)) (l:=[c]) aj (Kp.refl [c] _) (O (some ⟨b,0,none⟩) (a+1) aT)) (λi d=>by have:=aC d;omega))
  have ei:=Z (a9.old dW (λi d E=>absurd E (by have:=bz i d;omega)));have e:=a9.size;have ej:=Z (a9.blk dZ (λx=>by have:=bz _ x;omega));have ek:=Z (a9.blk d0 (λx=>by have:=bz _ x;omega));have el:=Z (a9.blk dY (λx=>by have:=bz _ x;omega));have em:Hid (∀f∈C++[RP],dL a1 (Ro (c+1) a1 (O (some ⟨b,0,none⟩) (a+1) aT)) f):=Z (λf az=>by
   rcases cP az with h|h
   ·refine xq ((cG.out f h).keep bW.out (λi d hS=>by have c:=hS.1;have c:=aC d;omega)) a9.out (λi d=>⟨d.2.2,?_,by have:=d.1;omega⟩) (λi d=>⟨d.1,by have:=d.2.1;have:=bW.out.size;omega,?_⟩)
    ·rintro rfl
     rcases co.out with cX|cX
     ·exact d.2.2 cX
     have:=d.2.1;have:=bW.out.size;omega
    intro o;have cY:b=i:=by injection o
    subst cY;rcases co.out with cX|cX
    ·exact d.2.2 cX
    have:=d.2.1;have:=bW.out.size;omega
   rw[aC h];have cX:∀i,Bw cI.heap.size D.heap.size i->i≠b:=λi d o=>by
    subst o;rcases co.out with cY|cY
    ·have:=cm _ cY;have:=d.1;omega
    have:=d.2;omega
   exact xq (cM.keep (l:=[]) d1.out (λ_ h=>by cases h)) a9.out (λi d=>⟨λc=>by have:=cm _ c;have:=d.1;omega,cX i d,by have:=d.1;omega⟩) (λi d=>⟨by have:=d.1;omega,by have:=d.2;omega,λo=>cX i d (by injection o with o;exact o.symm)⟩))
  clear br bz;have c:=cO.1;have c:=cO.2;have b6:IntKind.i64.wrap (a8+1)=a8+1:=IntWalk.i64_in _ af;have cX:=Z (show a6=(eQ (s.map RT.tb) (RE.exs (g.drop (a+1)))).bind λq=>aX (aD.aO (C++[RP])++q.1,max (max aQ (a8+1)) q.2) by rw[ck.out,Fs]);clear ck;go_wp2_with fail
  go_roundg (g.length-a)
  case measure=>have:=cH.out;omega
  exact⟨a+1,max aQ (a8+1),C++[RP],some ⟨b,0,none⟩,aT,dN,rfl,by go_num,by omega,omg cH,by rw[List.length_append,ca.out];rfl,by omega,by omega,by omega,ej,ek,eg,el,eh,em,ei,cX⟩
theorem GY (b:RT) (c:Cg) (e:Nat) (a:ah) (f:fq a b) (g:aJ c.name):
 Calls prog 255 #[b.val,c.val,e] a λi A=>i=.returned (J (gB b.tb c))/\ag a A:=by
 have d:=Z (λd (j:ag a d)=>yj b c d (f.same j) g);generalize gB b.tb c=B at d⊢;clear f g;obtain⟨j,⟨k,l,m⟩,D,⟨n,o,p⟩,E⟩:=b;obtain⟨q,r,s,t,u,⟨v,w,x⟩⟩:=c;have C:Hid (Rt 247 #[.agg #[j,O k l m,O n o p],.agg #[q,r,s,t,u,v,w,x]] a B):=d;clear d;show Calls prog 255 #[.agg #[j,O k l m,O n o p],.agg #[q,r,s,t,u,v,w,x],e] a _;go_enter func255,ntmps255
 go_wp2_with (go_at_call 247;refine(C.out _ ?_).mono ?_;exact((ag.refl a).alloc _).alloc _;rintro i b ⟨rfl,y⟩;have z:=Z y;clear y)
 go_ret;exact⟨rfl,(((ag.refl a).alloc _).alloc _).trans z⟩
theorem GZ (b:RT) (c:Cg) (d:Nat) (a:ah) (i:fq a b):
 Calls prog 250 #[b.val,c.val,d] a λe o=>e=.returned (J (if b.key.any (λf=>decide (f=(d:Int)))then 1 else 0))/\ag a o:=by
 have g:=Z (λg (j:ag a g)=>qa b.hk b.key (d:Int) g (i.2.1.same j));generalize (b.key.any λj=>decide (j=(d:Int)))=j at g⊢;clear i;obtain⟨p,⟨q,r,s⟩,A,⟨k,l,m⟩,B⟩:=b;obtain⟨f,t,u,v,w,⟨x,y,z⟩⟩:=c;have n:Hid (Re 188 #[O k l m,d] a (.bool j)):=g;clear g;show Calls prog 250 #[.agg #[p,O q r s,O k l m],.agg #[f,t,u,v,w,x,y,z],d] a _;go_enter func250,ntmps250
 cases j
 case true=>
  go_wp2_with (go_at_call 188;refine(n.out _ ?_).mono ?_;exact((ag.refl a).alloc _).alloc _;rintro e b ⟨rfl,rfl⟩)
  go_ret;exact⟨rfl,((ag.refl a).alloc _).alloc _⟩
 go_wp2_with (go_at_call 188;refine(n.out _ ?_).mono ?_;exact((ag.refl a).alloc _).alloc _;rintro e b ⟨rfl,rfl⟩)
 go_ret;exact⟨rfl,((ag.refl a).alloc _).alloc _⟩
theorem G0 (b:RT) (c:Cg) (B:Int) (a:ah) (j:fq a b) (C:aJ c.name):
 Calls prog 245 #[b.val,c.val,B] a λe E=>e=.returned (J (if hG c then(if gB b.tb c≠0 then gB b.tb c else if b.ra.length=12 then 3 else 0)else 1))/\ag a E:=by
 have o:=Z (λf=>yi c f);have p:=Z (λf (i:ag a f)=>yj b c f (j.same i) C);have D:=j.1.1.1;have P:=j.1.1.2.1;obtain⟨E,q⟩:∃E:Int,E=(if hG c then(if gB b.tb c≠0 then gB b.tb c else if b.ra.length=12 then 3 else 0)else 1):=⟨_,rfl⟩;rw[<-q];have f:=Z q;generalize gB b.tb c=r at p f;generalize hG c=F at o f;clear j C q;obtain⟨G,⟨H,R,I⟩,i,⟨K,L,M⟩,S⟩:=b;obtain⟨s,t,u,v,w,⟨x,y,z⟩⟩:=c;simp only at D P f;subst D;have A:Hid (Rt 247 #[.agg #[G,O H i.length I,O K L M],.agg #[s,t,u,v,w,x,y,z]] a r):=p;have k:Hid (Rs 246 #[.agg #[s,t,u,v,w,x,y,z]] (.bool F)):=o;clear p o;show Calls prog 245 #[.agg #[G,O H i.length I,O K L M],.agg #[s,t,u,v,w,x,y,z],B] a _;go_enter func245,ntmps245
 cases F
 case false=>
  go_wp2_with (go_at_call 246;refine(k.out _).mono ?_;rintro e b ⟨rfl,l⟩;have d:=Z l;clear l)
  go_ret;exact⟨eg f.symm,(((ag.refl a).alloc _).alloc _).trans d⟩
 by_cases l:r=0
 ·subst l
  by_cases m:i.length=12
  ·have b:((i.length:Int)==12)=true:=by simp;omega
   have Q:=Z m;clear m;go_wp2_with (first
    |(go_at_call 246;refine(k.out _).mono ?_;rintro e N ⟨rfl,n⟩;have b:=n.cells;have b:a.heap.size+1<N.heap.size:=(by have:=n.size;simp at this;omega);have b:a.heap.size<N.heap.size:=af;have d:=Z ((((ag.refl a).alloc _).alloc _).trans n);clear n)
    |(go_at_call 247;refine(A.out _ ?_).mono ?_;exact d.out;rintro e b ⟨rfl,n⟩;have b:=n.cells;have b:=n.size;have g:=Z (d.out.trans n);clear n))
   go_ret;exact⟨eg (by rw[f.out];simp[Q.out]),g⟩
  have b:((i.length:Int)==12)=false:=aF
  have Q:=Z m;clear m;go_wp2_with (first
   |(go_at_call 246;refine(k.out _).mono ?_;rintro e N ⟨rfl,n⟩;have b:=n.cells;have b:a.heap.size+1<N.heap.size:=(by have:=n.size;simp at this;omega);have b:a.heap.size<N.heap.size:=af;have d:=Z ((((ag.refl a).alloc _).alloc _).trans n);clear n)
   |(go_at_call 247;refine(A.out _ ?_).mono ?_;exact d.out;rintro e b ⟨rfl,n⟩;have b:=n.cells;have b:=n.size;have g:=Z (d.out.trans n);clear n))
  go_ret;exact⟨eg (by rw[f.out];simp[Q.out]),g⟩
 have b:(r !=0)=true:=by simp;exact l
 have N:=Z l;clear l;go_wp2_with (first
  |(go_at_call 246;refine(k.out _).mono ?_;rintro e n ⟨rfl,m⟩;have b:=m.cells;have b:a.heap.size+1<n.heap.size:=(by have:=m.size;simp at this;omega);have b:a.heap.size<n.heap.size:=af;have d:=Z ((((ag.refl a).alloc _).alloc _).trans m);clear m)
  |(go_at_call 247;refine(A.out _ ?_).mono ?_;exact d.out;rintro e a ⟨rfl,m⟩;have a:=m.cells;have a:=m.size;have g:=Z (d.out.trans m);clear m))
 go_ret;exact⟨eg (by rw[f.out];simp[N.out]),g⟩
theorem G1 (d:RT) (c:Cg) (a:Nat) (w:ah) (u:fq w d) (B:a<d.ra.length):
 Calls prog 259 #[d.val,c.val,a] w λL S=>L=.returned (.int .i64 (if hG c&&!decide ((d.tb.attrs.map At.kind)[a]?=some c.dT)then 0 else 1))/\ag w S:=by
 have C:=Z (λb=>yi c b);have H:=Z (λ(b:ah) (e:ag w b)=>(u.same e).1.1);have I:=u.1.1.1;have T:=u.1.1.2.1;have K:Hid ((d.tb.attrs.map At.kind)[a]?=some d.ra[a].at_.kind):=by show _=_;simp[RT.tb,B]
 obtain⟨L,v⟩:∃L:Int,L=(if hG c&&!decide ((d.tb.attrs.map At.kind)[a]?=some c.dT)then 0 else 1):=⟨_,rfl⟩;rw[<-v];rw[K.out]at v;have g:=Z v;generalize hG c=M at C g;clear u K v;obtain⟨x,⟨aa,ab,j⟩,f,⟨y,z,A⟩,ad⟩:=d;obtain⟨k,l,m,n,e,⟨o,p,q⟩⟩:=c;simp only at I T B g;subst I;have U:Hid (Rs 246 #[.agg #[k,l,m,n,e,o,p,q]] (.bool M)):=C;have d:=H;clear H C;obtain⟨r,s,V,N,P⟩:=(d w (ag.refl _)).2.2 a B;subst V;have D:=P 1 (J f[a].at_.kind) rfl;generalize f[a].at_.kind=E at D g;clear P;show Calls prog 259 #[.agg #[x,O (some ⟨r,s,none⟩) f.length j,O y z A],.agg #[k,l,m,n,e,o,p,q],a] w _;obtain⟨b,t⟩:=av ((w.alloc (.cells #[x,O (some ⟨r,s,none⟩) f.length j,O y z A] 81)).alloc (.cells #[k,l,m,n,e,o,p,q] 99));have d:ag w b:=by rw[t];exact((ag.refl w).alloc _).alloc _
 have B:ae b (ao w 1) (O (some ⟨r,s,none⟩) f.length j):=by rw[t];simp
 have a:∀u v,(#[Value.int .i64 k,l,m,n,e,o,p,q]:Array Value)[u]?=some v->ae b (ac (w.heap.size+1) u) v:=by
  intro u v u;rw[t];have i:=heap_alloc_new (w.alloc (.cells #[x,O (some ⟨r,s,none⟩) f.length j,O y z A] 81)) (.cells #[k,l,m,n,e,o,p,q] 99);have f:(w.alloc (.cells #[x,O (some ⟨r,s,none⟩) f.length j,O y z A] 81)).heap.size=w.heap.size+1:=aj
  rw[f]at i;simp only[World.cell?,i];simpa using u
 have f:=a 0 _ rfl;have j:=a 1 _ rfl;have k:=a 2 _ rfl;have l:=a 3 _ rfl;have m:=a 4 _ rfl;have n:=a 5 _ rfl;have o:=a 6 _ rfl;have p:=a 7 _ rfl;have q:=(d.cells _ _ N).trans D;have F:=Z d;have r:=aH B;have r:=aH q;have r:=aH f;have r:=aH j;have r:=aH k;have r:=aH l;have r:=aH m;have r:=aH n;have r:=aH o;have r:=aH p;have G:=kZ (w:=b) (λi _=>U i);clear B a f j k l m n o p D q d N;go_enter func259,ntmps259
 go_wp2_with fail
 rw[<-t];clear t;cases M
 case false=>
  refine wp_region_quiet_below am am ?_;repeat (go_big_quiet_step (first|(go_at_call 246;exact G _ _)))
  refine wpQuiet_nil ?_;intro _ R;obtain⟨⟨i,osq⟩,W⟩:=R;subst W;have Q:=Z (ag.reg b i osq);generalize Sort.grow (redrawn b i) osq=X at Q⊢;go_wp2;go_ret;exact⟨eg g.symm,F.trans Q⟩
 by_cases i:E=e
 ·have a:(E==e)=true:=by simp[i]
  have W:=Z i;clear i;refine wp_region_quiet_below am am ?_;repeat (go_big_quiet_step (first|(go_at_call 246;exact G _ _)))
  refine wpQuiet_nil ?_;intro _ X;obtain⟨⟨Q,osq⟩,Y⟩:=X;subst Y;have R:=Z (ag.reg b Q osq);generalize Sort.grow (redrawn b Q) osq=af at R⊢;go_wp2;go_ret;exact⟨eg (by rw[g.out];simp[W.out]),F.trans R⟩
 have a:(E==e)=false:=by simp[i]
 have W:=Z i;clear i;refine wp_region_quiet_below am am ?_;repeat (go_big_quiet_step (first|(go_at_call 246;exact G _ _)))
 refine wpQuiet_nil ?_;intro _ X;obtain⟨⟨Q,osq⟩,Y⟩:=X;subst Y;have R:=Z (ag.reg b Q osq);generalize Sort.grow (redrawn b Q) osq=af at R⊢;go_wp2;go_ret;exact⟨eg (by rw[g.out];simp[W.out]),F.trans R⟩
def kS:Value:=.agg #[.bool false,.nilFunc,.nilFunc,.nilFunc]
theorem G2 (m a n:ax) (o p q:Int) (r:ax) (d:ah):
 Calls prog 101 #[.agg #[J 1,m,a,n,o,p,q,r]] d λj m=>j=.returned (.tuple #[g4,.bool (decide (a.size=0))])/\ag d m:=by
 by_cases b:a.size=0
 case neg=>
  have m:¬a.toList=[]:=λh=>b ((fX a).1 h);have k:Hid (decide (a.size=0)=false):=by show _=false;simp[b]
  generalize decide (a.size=0)=s at k⊢;clear b;go_enter func101,ntmps101
  go_wp2_with (go_at_call 177;refine(ye _).mono ?_;rintro j m ⟨l,c⟩;unfold g4 bz at l;subst l;have e:=Z c;have f:=c.cells;have g:=c.frees;have i:=c.size;clear c)
  go_region
  all_goals
   go_wp2;refine bodyPost_ret (v:=.tuple #[g4,.bool false]) ?_ rfl ⟨?_,?_⟩
   ·simp[results,results101,go_sem,g4,bz,f,g]
   ·rw[k.out]
   simp at i;repeat with_reducible first|refine ag.setCell ?_ aG _|refine ag.drew ?_
   exact(((((ag.refl d).alloc _).alloc _).alloc _).alloc _).trans e.out
 have m:=(fX a).2 b;have k:Hid (decide (a.size=0)=true):=by show _=true;simp[b]
 generalize decide (a.size=0)=s at k⊢;clear b;go_enter func101,ntmps101
 go_wp2_with (go_at_call 177;refine(ye _).mono ?_;rintro j a ⟨l,c⟩;unfold g4 bz at l;subst l;have e:=Z c;have f:=c.cells;have g:=c.frees;have i:=c.size;clear c)
 go_region
 all_goals
  go_wp2;refine bodyPost_ret (v:=.tuple #[g4,.bool true]) ?_ rfl ⟨?_,?_⟩
  ·simp[results,results101,go_sem,g4,bz,f,g]
  ·rw[k.out]
  simp at i;repeat with_reducible first|refine ag.setCell ?_ aG _|refine ag.drew ?_
  exact(((((ag.refl d).alloc _).alloc _).alloc _).alloc _).trans e.out
theorem G3 (m n a:ax) (d f g:Int) (b:ax) (w:ah):
 Calls prog 101 #[.agg #[J 2,m,n,a,d,f,g,b]] w λe m=>e=.returned (.tuple #[g5,.bool (decide (a.size=0)&&(decide (d=0)&&(decide (f=0)&&(decide (g=0)&&decide (b.size=0)))))])/\ag w m:=by
 by_cases c:a.size=0
 case neg=>
  have i:¬a.toList=[]:=λh=>c ((fX a).1 h);have HD:Hid ((decide (a.size=0)&&(decide (d=0)&&(decide (f=0)&&(decide (g=0)&&decide (b.size=0)))))=false):=by show _=false;simp[c]
  generalize (decide (a.size=0)&&(decide (d=0)&&(decide (f=0)&&(decide (g=0)&&decide (b.size=0)))))=j at HD⊢;clear c;exact pD
 by_cases i:d=0
 case neg=>
  have j:=(fX a).2 c;have HD:Hid ((decide (a.size=0)&&(decide (d=0)&&(decide (f=0)&&(decide (g=0)&&decide (b.size=0)))))=false):=by show _=false;simp[c,i]
  generalize (decide (a.size=0)&&(decide (d=0)&&(decide (f=0)&&(decide (g=0)&&decide (b.size=0)))))=k at HD⊢;clear c;exact pD
 by_cases j:f=0
 case neg=>
  have k:=(fX a).2 c;have HD:Hid ((decide (a.size=0)&&(decide (d=0)&&(decide (f=0)&&(decide (g=0)&&decide (b.size=0)))))=false):=by show _=false;simp[c,i,j]
  generalize (decide (a.size=0)&&(decide (d=0)&&(decide (f=0)&&(decide (g=0)&&decide (b.size=0)))))=l at HD⊢;clear c;subst i;exact pD
 by_cases l:g=0
 case neg=>
  have k:=(fX a).2 c;have HD:Hid ((decide (a.size=0)&&(decide (d=0)&&(decide (f=0)&&(decide (g=0)&&decide (b.size=0)))))=false):=by show _=false;simp[c,i,j,l]
  generalize (decide (a.size=0)&&(decide (d=0)&&(decide (f=0)&&(decide (g=0)&&decide (b.size=0)))))=o at HD⊢;clear c;subst i;subst j;exact pD
 by_cases k:b.size=0
 case neg=>
  have m:=(fX a).2 c;have m:¬b.toList=[]:=λh=>k ((fX b).1 h);have HD:Hid ((decide (a.size=0)&&(decide (d=0)&&(decide (f=0)&&(decide (g=0)&&decide (b.size=0)))))=false):=by show _=false;simp[c,i,j,l,k]
  generalize (decide (a.size=0)&&(decide (d=0)&&(decide (f=0)&&(decide (g=0)&&decide (b.size=0)))))=o at HD⊢;clear c k;subst i;subst j;subst l;exact pD
 have m:=(fX a).2 c;have m:=(fX b).2 k;have HD:Hid ((decide (a.size=0)&&(decide (d=0)&&(decide (f=0)&&(decide (g=0)&&decide (b.size=0)))))=true):=by show _=true;simp[c,i,j,l,k]
 generalize (decide (a.size=0)&&(decide (d=0)&&(decide (f=0)&&(decide (g=0)&&decide (b.size=0)))))=o at HD⊢;clear c k;subst i;subst j;subst l;go_enter func101,ntmps101
 go_wp2_with (go_at_call 178;refine(yf _).mono ?_;rintro e w1 ⟨he,s1⟩;unfold g5 bz at he;subst he;have S1:=Z s1;have K1:=s1.cells;have F1:=s1.frees;have Z1:=s1.size;clear s1)
 go_region
 all_goals
  go_wp2;refine bodyPost_ret (v:=.tuple #[g5,.bool true]) ?_ rfl ⟨?_,?_⟩
  ·simp[results,results101,go_sem,g5,bz,K1,F1]
  ·rw[HD.out]
  simp at Z1;repeat with_reducible first|refine ag.setCell ?_ aG _|refine ag.drew ?_
  exact(((((ag.refl w).alloc _).alloc _).alloc _).alloc _).trans S1.out
theorem G4 (k l m:ax) (b c d:Int) (a:ax) (w:ah):
 Calls prog 101 #[.agg #[J 3,k,l,m,b,c,d,a]] w λe k=>e=.returned (.tuple #[g6,.bool (decide (b=0)&&(decide (c=0)&&(decide (d=0)&&decide (a.size=0))))])/\ag w k:=by
 by_cases f:b=0
 case neg=>
  have HD:Hid ((decide (b=0)&&(decide (c=0)&&(decide (d=0)&&decide (a.size=0))))=false):=by show _=false;simp[f]
  generalize (decide (b=0)&&(decide (c=0)&&(decide (d=0)&&decide (a.size=0))))=g at HD⊢;exact rb
 by_cases g:c=0
 case neg=>
  have HD:Hid ((decide (b=0)&&(decide (c=0)&&(decide (d=0)&&decide (a.size=0))))=false):=by show _=false;simp[f,g]
  generalize (decide (b=0)&&(decide (c=0)&&(decide (d=0)&&decide (a.size=0))))=i at HD⊢;subst f;exact rb
 by_cases j:d=0
 case neg=>
  have HD:Hid ((decide (b=0)&&(decide (c=0)&&(decide (d=0)&&decide (a.size=0))))=false):=by show _=false;simp[f,g,j]
  generalize (decide (b=0)&&(decide (c=0)&&(decide (d=0)&&decide (a.size=0))))=i at HD⊢;subst f;subst g;exact rb
 by_cases i:a.size=0
 case neg=>
  have k:¬a.toList=[]:=λh=>i ((fX a).1 h);have HD:Hid ((decide (b=0)&&(decide (c=0)&&(decide (d=0)&&decide (a.size=0))))=false):=by show _=false;simp[f,g,j,i]
  generalize (decide (b=0)&&(decide (c=0)&&(decide (d=0)&&decide (a.size=0))))=n at HD⊢;clear i;subst f;subst g;subst j;exact rb
 have k:=(fX a).2 i;have HD:Hid ((decide (b=0)&&(decide (c=0)&&(decide (d=0)&&decide (a.size=0))))=true):=by show _=true;simp[f,g,j,i]
 generalize (decide (b=0)&&(decide (c=0)&&(decide (d=0)&&decide (a.size=0))))=n at HD⊢;clear i;subst f;subst g;subst j;go_enter func101,ntmps101
 go_wp2_with (go_at_call 179;refine(yg _).mono ?_;rintro e w1 ⟨he,s1⟩;unfold g6 bz at he;subst he;have S1:=Z s1;have K1:=s1.cells;have F1:=s1.frees;have Z1:=s1.size;clear s1)
 go_region
 all_goals
  go_wp2;refine bodyPost_ret (v:=.tuple #[g6,.bool true]) ?_ rfl ⟨?_,?_⟩
  ·simp[results,results101,go_sem,g6,bz,K1,F1]
  ·rw[HD.out]
  simp at Z1;repeat with_reducible first|refine ag.setCell ?_ aG _|refine ag.drew ?_
  exact(((((ag.refl w).alloc _).alloc _).alloc _).alloc _).trans S1.out
theorem G5 (m n a:ax) (o p q:Int) (r:ax) (d:ah):
 Calls prog 101 #[.agg #[J 4,m,n,a,o,p,q,r]] d λj m=>j=.returned (.tuple #[g7,.bool (decide (a.size=0))])/\ag d m:=by
 by_cases b:a.size=0
 case neg=>
  have m:¬a.toList=[]:=λh=>b ((fX a).1 h);have k:Hid (decide (a.size=0)=false):=by show _=false;simp[b]
  generalize decide (a.size=0)=s at k⊢;clear b;go_enter func101,ntmps101
  go_wp2_with (go_at_call 180;refine(yh _).mono ?_;rintro j m ⟨l,c⟩;unfold g7 bz at l;subst l;have e:=Z c;have f:=c.cells;have g:=c.frees;have i:=c.size;clear c)
  go_region
  all_goals
   go_wp2;refine bodyPost_ret (v:=.tuple #[g7,.bool false]) ?_ rfl ⟨?_,?_⟩
   ·simp[results,results101,go_sem,g7,bz,f,g]
   ·rw[k.out]
   simp at i;repeat with_reducible first|refine ag.setCell ?_ aG _|refine ag.drew ?_
   exact(((((ag.refl d).alloc _).alloc _).alloc _).alloc _).trans e.out
 have m:=(fX a).2 b;have k:Hid (decide (a.size=0)=true):=by show _=true;simp[b]
 generalize decide (a.size=0)=s at k⊢;clear b;go_enter func101,ntmps101
 go_wp2_with (go_at_call 180;refine(yh _).mono ?_;rintro j a ⟨l,c⟩;unfold g7 bz at l;subst l;have e:=Z c;have f:=c.cells;have g:=c.frees;have i:=c.size;clear c)
 go_region
 all_goals
  go_wp2;refine bodyPost_ret (v:=.tuple #[g7,.bool true]) ?_ rfl ⟨?_,?_⟩
  ·simp[results,results101,go_sem,g7,bz,f,g]
  ·rw[k.out]
  simp at i;repeat with_reducible first|refine ag.setCell ?_ aG _|refine ag.drew ?_
  exact(((((ag.refl d).alloc _).alloc _).alloc _).alloc _).trans e.out
theorem G6 (a:Int) (g i j:ax) (k l m:Int) (n:ax) (b:ah) (c:a≠1) (d:a≠2) (e:a≠3) (f:a≠4):
 Calls prog 101 #[.agg #[a,g,i,j,k,l,m,n]] b λg i=>g=.returned (.tuple #[kS,.bool false])/\ag b i:=by
 have g:(a==1)=false:=by simpa using c
 have g:(a==2)=false:=by simpa using d
 have g:(a==3)=false:=by simpa using e
 have a:(a==4)=false:=by simpa using f
 clear c d e f;go_enter func101,ntmps101
 go_wp2;refine bodyPost_ret (v:=.tuple #[kS,.bool false]) ?_ rfl ⟨rfl,?_⟩
 ·simp[results,results101,go_sem,kS]
 repeat (with_reducible refine ag.setCell ?_ aG _)
 exact((((ag.refl b).alloc _).alloc _).alloc _).alloc _
end Go.Proofs.YteamkimbmdgdbaaGreatDoor
