import Derived.Test.YteamkimbmdgdbaaGreatDoorK32
set_option linter.unusedSimpArgs false
set_option linter.unusedVariables false
set_option maxHeartbeats 16000000
set_option maxRecDepth 100000
namespace Go.Proofs.YteamkimbmdgdbaaGreatDoor
open Go.Proofs.Tryz
open Go.RowKit
theorem JH (a:Int) (g:ah):Calls prog 43 #[a] g λi j=>i=.returned (J (cD a))/\g=j:=by
 have b:Hid (cD a=if a=5 then 0 else if a=6\/a=7\/a=8 then 9 else a):=Z rfl;generalize cD a=k at b⊢;by_cases c:a=5
 ·have d:(a==5)=true:=by simp[c]
  go_enter func43,ntmps43
  go_wp2;go_ret;exact⟨iC (by rw[b.out];simp[c]),rfl⟩
 have g:(a==5)=false:=by simp[c]
 by_cases d:a=6
 ·have e:(a==6)=true:=by simp[d]
  go_enter func43,ntmps43
  go_wp2;go_ret;exact⟨iC (by rw[b.out];simp[d]),rfl⟩
 have g:(a==6)=false:=by simp[d]
 by_cases e:a=7
 ·have f:(a==7)=true:=by simp[e]
  go_enter func43,ntmps43
  go_wp2;go_ret;exact⟨iC (by rw[b.out];simp[e]),rfl⟩
 have g:(a==7)=false:=by simp[e]
 by_cases f:a=8
 ·have g:(a==8)=true:=by simp[f]
  go_enter func43,ntmps43
  go_wp2;go_ret;exact⟨iC (by rw[b.out];simp[f]),rfl⟩
 have a:(a==8)=false:=by simp[f]
 go_enter func43,ntmps43
 go_wp2;go_ret;exact⟨iC (by rw[b.out];simp[c,d,e,f]),rfl⟩
def zM (a:List RI) (c:Ending):Prop:=∃b:Bool,c=.returned (.bool b)/\(b=true->a.length<=210/\∀b∈a,b.it.cL)
theorem JI (h:Hd) (g:List RI) (A:ah) (K:aE A 25 h RI.cells g) (az:∀E∈g,cW A (·<A.heap.size) E):
 Calls prog 13 #[.agg #[h.val]] A λB a1=>zM g B/\ag A a1:=by
 obtain⟨aA,f,a2⟩:=h;have T:=Z (show g.length=f from K.1);have a1:f<=9223372036854775807:=K.2.1;have a3:=Z K;have a4:=Z az;clear K az;show Calls prog 13 #[.agg #[O aA f a2]] A _;go_enter func13,ntmps13
 go_upto_region 1 with(fail)
 obtain⟨a5,A,aB,L,-⟩:=nb A 24 _;rw[A];clear A;have U:=ay aB;by_cases a6:(210:Int)<(f:Int)
 case pos=>
  go_wp2;go_ret;exact⟨⟨false,rfl,λh=>by cases h⟩,L.out⟩
 go_upto_region 4 with(fail)
 have a7:=Z (show f<=210 by omega);clear a6 U;go_loopg [3] (f+1) (λb c d=>∃a:Nat,c=.int .i64 a/\a<=f/\f-a<b/\Hid (∀E∈g.take a,E.it.cL)/\Hid (ag a5 d))
 case atStart=>exact⟨0,rfl,by omega,by omega,Z aj,Z (ag.refl _)⟩
 case round=>
 obtain⟨d,rfl,bt,aD,aF,F⟩:=hrel;have aG:=Z aD;clear aD;have A:=qb F aB;have U:=ay A;by_cases A:d<f
 case neg=>
  have a:¬(d:Int)<(f:Int):=af
  go_wp2;go_ret;refine⟨⟨true,rfl,λ_=>⟨by rw[T.out];exact a7.out,λE a=>aF.out E (by rw[List.take_of_length_le (omg T)];exact a)⟩⟩,L.out.trans F.out⟩
 case pos=>
 have A:(d:Int)<(f:Int):=af
 have V:d<g.length:=omg T
 obtain⟨G,W,A,E,X⟩:=(a3.out.same (L.out.trans F.out)).2.2 d V;have a8:aA=some ⟨G,W,none⟩:=A;clear A;subst a8;have C:=Z (a4.out g[d] (List.getElem_mem V));have Y:g.take (d+1)=g.take d++[g[d]]:=by rw[List.take_succ_eq_append_getElem V]
 generalize g[d]=a at X C Y;have a9:=Z Y;have aH:∀g A,a.cells[g]?=some A->ae wr (ac G (W+d*25+g)) A:=X;have aI:(prog.info? 95).map (·.size)=some a.cells.length:=by rw[RI.len];kernel_rfl
 have aJ:(prog.info? 95).map (·.size)=some a.cells.toArray.size:=by rw[List.size_toArray,RI.len];kernel_rfl
 have aK:(#[J 0,ai,J 0,ai,ai,ab,ab,J 0,J 0,J 0,ab,ai,ai,ab,ab,ab,J 0,ai,ab,ab,ab,ai,ai,J 0,J 0]:Array Value).size=a.cells.toArray.size:=by simp[RI.len]
 have aL:a.cells.toArray.all (·.oneCell')=true:=RI.one a;have aM:=fK wr (.cells #[J 0,ai,J 0,ai,ai,ab,ab,J 0,J 0,J 0,ab,ai,ai,ab,ab,ab,J 0,ai,ab,ab,ab,ai,ai,J 0,J 0] 95);have aN:=World.setRow_alloc_new wr #[J 0,ai,J 0,ai,ai,ab,ab,J 0,J 0,J 0,ab,ai,ai,ab,ab,ab,J 0,ai,ab,ab,ab,ai,ai,J 0,J 0] a.cells.toArray 95;clear Y X;go_upto_region 7 with(first|(refine nX rfl 95 (.tmp 19) rfl G (W+d*25) a.cells rfl aH _ underlying95 rfl aI ?_)|(refine wpList_store_row rfl 95 (.tmp 4) (.tmp 20) rfl wr.heap.size a.cells.toArray rfl rfl 95 #[J 0,ai,J 0,ai,ai,ab,ab,J 0,J 0,J 0,ab,ai,ai,ab,ab,ab,J 0,ai,ab,ab,ab,ai,ai,J 0,J 0] aM aJ aK aL ?_;rw[aN])|fail)
 clear aM aN aH aK aL aI aJ;obtain⟨b,g,c,aO,-⟩:=nb wr 95 a.cells.toArray;rw[g];clear g U;try rw[ie]
 have j:=Z (L.out.trans (F.out.trans aO.out));have H:=Z (λg (i:ag b g)=>JE C.out.ex g 60 (j.out.trans i) af af);have I:=Z (λg (i:ag b g)=>JG C.out.ex g (j.out.trans i));have M:=Z (show∀(g:a.names.length<=20) (G:a.fixed.length<=20),a.e.ex.cL->a.it.cL from λg G g=>⟨by show a.names.length<=5001;omega,by show a.fixed.length<=5001;omega,g⟩);have aa:=Z (show a.names.length=a.hQ.n from C.out.ln.1.1);have ad:=Z (show a.fixed.length=a.nu.n from C.out.lf.1);clear C;obtain⟨bu,bv,bw,bx,bz,⟨ba,aP,bb⟩,bA,⟨bc,N,bd⟩,aQ,bB,bC,bD,⟨be,aR,bf⟩,bE,bF,bG,⟨bg,P,bh⟩,aS,⟨bi,aT,bj⟩,bH,⟨bk,aU,bl⟩,bI,⟨k,l,⟨m,o,p⟩,Q,⟨q,r,s⟩,R,⟨t,u,v⟩,S,w,x,y,z⟩⟩:=a;replace H:Hid (∀g,ag b g->Calls prog 35 #[.agg #[k,l,O m o p,O q r s,O t u v,w,x,y,z],J 60] g λB i=>
  (∃a:Int,B=.returned a/\1<=a/\a<=60+1/\(a<=60->(RE.mk k l ⟨m,o,p⟩ Q ⟨q,r,s⟩ R ⟨t,u,v⟩ S w x y z).ex.KL))/\ag g i):=H
 replace I:Hid (∀a,ag b a->Calls prog 36 #[.agg #[k,l,O m o p,O q r s,O t u v,w,x,y,z]] a λB g=>ud (RE.mk k l ⟨m,o,p⟩ Q ⟨q,r,s⟩ R ⟨t,u,v⟩ S w x y z).ex B/\ag a g):=I;replace M:Hid (aQ.length<=20->aS.length<=20->(RE.mk k l ⟨m,o,p⟩ Q ⟨q,r,s⟩ R ⟨t,u,v⟩ S w x y z).ex.cL->_):=M;replace aa:Hid (aQ.length=N):=aa;replace ad:Hid (aS.length=P):=ad;generalize (RE.mk k l ⟨m,o,p⟩ Q ⟨q,r,s⟩ R ⟨t,u,v⟩ S w x y z).ex=bJ at H I M;have a:ae b (ao wr 5) (O ba aP bb):=(eE c.out 5).trans rfl;have a:ae b (ao wr 6) (O bc N bd):=(eE c.out 6).trans rfl;have a:ae b (ao wr 10) (O be aR bf):=(eE c.out 10).trans rfl;have a:ae b (ao wr 13) (O bg P bh):=(eE c.out 13).trans rfl;have a:ae b (ao wr 14) (O bi aT bj):=(eE c.out 14).trans rfl;have a:ae b (ao wr 15) (O bk aU bl):=(eE c.out 15).trans rfl;by_cases a:(20:Int)<(aP:Int)
 case pos=>
  go_wp2;go_ret;exact⟨⟨false,rfl,λh=>by cases h⟩,j.out⟩
 by_cases a:(20:Int)<(N:Int)
 case pos=>
  go_wp2;go_ret;exact⟨⟨false,rfl,λh=>by cases h⟩,j.out⟩
 by_cases a:(20:Int)<(aR:Int)
 case pos=>
  go_wp2;go_ret;exact⟨⟨false,rfl,λh=>by cases h⟩,j.out⟩
 by_cases a:(20:Int)<(P:Int)
 case pos=>
  go_wp2;go_ret;exact⟨⟨false,rfl,λh=>by cases h⟩,j.out⟩
 by_cases a:(20:Int)<(aT:Int)
 case pos=>
  go_wp2;go_ret;exact⟨⟨false,rfl,λh=>by cases h⟩,j.out⟩
 by_cases a:(20:Int)<(aU:Int)
 case pos=>
  go_wp2;go_ret;exact⟨⟨false,rfl,λh=>by cases h⟩,j.out⟩
 have ak:ae b (ao wr 16) k:=(eE c.out 16).trans rfl;have al:ae b (ao wr 17) l:=(eE c.out 17).trans rfl;have am:ae b (ao wr 18) (O m o p):=(eE c.out 18).trans rfl;have an:ae b (ao wr 19) (O q r s):=(eE c.out 19).trans rfl;have ap:ae b (ao wr 20) (O t u v):=(eE c.out 20).trans rfl;have aq:ae b (ao wr 21) w:=(eE c.out 21).trans rfl;have ar:ae b (ao wr 22) x:=(eE c.out 22).trans rfl;have au:ae b (ao wr 23) y:=(eE c.out 23).trans rfl;have av:ae b (ao wr 24) z:=(eE c.out 24).trans rfl;go_wp2_with fail
 refine(H.out b (ag.refl _)).mono ?_;rintro bm i ⟨⟨bn,rfl,bK,bL,aV⟩,aw⟩;have aW:=Z aV;have ax:=Z aw;have aX:=Z (j.out.trans aw);clear aV aw H ak al am an ap aq ar au av;by_cases a:(60:Int)<bn
 case pos=>
  go_wp2;go_ret;exact⟨⟨false,rfl,λh=>by cases h⟩,aX.out⟩
 have a:=qb ax c;have ak:ae i (ao wr 16) k:=(eE a.out 16).trans rfl;have al:ae i (ao wr 17) l:=(eE a.out 17).trans rfl;have am:ae i (ao wr 18) (O m o p):=(eE a.out 18).trans rfl;have an:ae i (ao wr 19) (O q r s):=(eE a.out 19).trans rfl;have ap:ae i (ao wr 20) (O t u v):=(eE a.out 20).trans rfl;have aq:ae i (ao wr 21) w:=(eE a.out 21).trans rfl;have ar:ae i (ao wr 22) x:=(eE a.out 22).trans rfl;have au:ae i (ao wr 23) y:=(eE a.out 23).trans rfl;have av:ae i (ao wr 24) z:=(eE a.out 24).trans rfl;go_wp2_with fail
 refine(I.out i ax.out).mono ?_;rintro bm a ⟨⟨bo,rfl,aY⟩,aZ⟩;have bp:=Z aY;have a0:=Z aZ;have bq:=Z (aW.out af);have br:=Z (show N<=20 by omega);have bs:=Z (show P<=20 by omega);clear aY aZ I aW ak al am an ap aq ar au av;cases bo
 case false=>
  go_wp2;go_ret;exact⟨⟨false,rfl,λh=>by cases h⟩,aX.out.trans a0.out⟩
 go_wp2;go_roundg (f-d)
 case measure=>have:=aG.out;omega
 case rel=>exact⟨d+1,by go_num,by omega,omg aG,Z (λB D=>by
  rw[a9.out]at D;rcases cP D with D|D
  ·exact aF.out B D
  rw[aC D];exact M.out (by rw[aa.out];exact br.out) (by rw[ad.out];exact bs.out) (bp.out aj bq.out)),Z (F.out.trans (aO.out.trans (ax.out.trans a0.out)))⟩
def uf (b:List RI) (e:ah) (f:Ending) (c:ah):Prop:=
 ∃(d:Hd) (a:List RI),f=.returned (.agg #[d.val])/\a.map RI.it=fH 11 (b.map RI.it)/\aE c 25 d RI.cells a/\(∀d∈a,d∈b)/\ag e c
theorem JJ (h:Hd) (n:List RI) (i:ah) (aW:aE i 25 h RI.cells n) (bp:n.length<=210):
 Calls prog 25 #[.agg #[h.val]] i (uf n i):=by
 obtain⟨bk,o,aX⟩:=h;have bl:n.length=o:=aW.1;have bm:=Z bl;have bo:o<=210:=af
 have bn:=Z aW;obtain⟨j,bo⟩:=av (n.map RI.it);have aQ:=Z bo;obtain⟨bL,bN,bO,bP,bQ⟩:=info_parts Tryz.tH;clear aW bp bl bo;show Calls prog 25 #[.agg #[O bk o aX]] i _;go_enter func25,ntmps25
 go_upto_region 1 with(fail)
 obtain⟨bq,aW,bl,bo,bp⟩:=nb i 24 _;rw[aW];clear aW;obtain⟨m,bq,bR,aW,br⟩:=nc bp 24 _;rw[bq];clear bq;have aY:=Z (bo.out.trans aW.out);have bs:=qb aW bl;clear aW bo bl bp;have bS:=Z (show m.heap.size=i.heap.size+2 from br);clear br;go_upto_region 2 with(fail)
 have bt:=Z (show jQ m (m.alloc (.cells #[ab] 24)) n none 0 0 []from⟨(ag.refl m).alloc _,aa.new _ _ _,⟨by simp,.inl ⟨rfl,rfl⟩⟩,rfl,λa h=>by cases h⟩);obtain⟨bl,aW⟩:=av (m.alloc (.cells #[ab] 24));rw[<-aW]at bt⊢;clear aW;go_upto_region 3 with(fail)
 go_loopg [4] 12 (λd e f=>∃(a b g:Nat) (q:aU) (c:List RI),e=.int .i64 a/\a<=11/\11-a<d/\b<=a*210/\Hid (c.map RI.it=fH a j)/\Hid (jQ m f n q b g c))
 case atStart=>exact⟨0,0,0,none,[],rfl,by omega,by omega,by omega,Z (by simp[fH]),bt⟩
 case round=>
 obtain⟨e,b,f,c,q,rfl,b5,bu,aZ,aG,d⟩:=hrel;have bz:=Z bu;clear bu;by_cases aW:e<11
 case neg=>
  have g:¬(e:Int)<=10:=af
  obtain rfl:e=11:=af
  have a:=qb (Z d.out.k) bR;have g:=λg=>aa.frozen a.out g;have g:=aa.lt a.out;have g:=ay a;have g:ae wr (ao m 0) (O c b f):=aa.cell d.out.bx 0;go_wp2_with fail
  have a:=jf a.out (O c b f);have g:=Kp.aI (p:=(ac (i.heap.size+1) 0)) (l:=[i.heap.size+1]) aj (Kp.refl [i.heap.size+1] wr) (O c b f);refine bodyPost_ret (v:=.agg #[O c b f]) (results_cell_row rfl _ _ (i.heap.size+1) 24 #[O c b f] (0,0) _ ?_ a underlying24 rfl am) rfl ?_
  ·rfl
  have a:=bS.out;unfold uf;refine⟨⟨c,b,f⟩,q,rfl,by rw[<-aQ.out];exact aG.out,(cJ (h:=⟨c,b,f⟩) RI.len d.out.len (by show b<=_;omega) d.out.own).kp g (λs t r a=>?_),d.out.sub,g.fY (aY.out.trans d.out.k) (λs a=>by rw[aC a];omega)⟩;rw[aC a]at r;have:=(b2 d.out.own (i.heap.size+1) (by show(Value.slice c b f).ownBlock=_;have a:c=some ⟨i.heap.size+1,t,none⟩:=r;rw[a];rfl)).1;omega
 case pos=>
 have aW:(e:Int)<=10:=af
 go_upto_region 6 with(fail)
 have bA:=Z aZ;have bB:=d;clear aZ;go_loopg [5] (o+1) (λg r s=>∃(a b f:Nat) (c:aU) (q:List RI),r=.int .i64 a/\a<=o/\o-a<g/\b<=e*210+a/\Hid (q.map RI.it=fH e j++(j.take a).filter (λa=>decide (cD a.kind=(e:Int))))/\Hid (jQ m s n c b f q))
 case atStart=>exact⟨0,b,f,c,q,rfl,by omega,by omega,omg bA,Z (by rw[aG.out];simp),bB⟩
 case round=>
 clear d aG bA bB;obtain⟨a,b,f,c,q,rfl,b6,bC,aZ,aG,d⟩:=hrel;have aR:=Z bC;clear bC;have aL:=Z d.out.k;have a0:=qb aL bs;have bT:=ay a0;by_cases aW:a<o
 case neg=>
  have r:¬(a:Int)<(o:Int):=af
  have g:=Z (show q.map RI.it=fH (e+1) j by rw[t7,aG.out,List.take_of_length_le (by rw[aQ.out,List.length_map];have:=bm.out;omega)]);go_wp2;go_roundg (11-e)
  case measure=>have:=bz.out;omega
  exact⟨e+1,b,f,c,q,by go_num,by omega,omg bz,by omega,g,d⟩
 case pos=>
 have aW:(a:Int)<(o:Int):=af
 have aS:a<n.length:=omg bm
 obtain⟨H,aH,aW,aZ,a1⟩:=(bn.out.same (aY.out.trans aL.out)).2.2 a aS;have bU:bk=some ⟨H,aH,none⟩:=aW;clear aW;subst bU;have bD:H<m.heap.size:=by
  obtain⟨s,t,g,r,_⟩:=(bn.out.same aY.out).2.2 a aS;injection g with g
  injection g with g
  subst g;exact r
 have bE:=Z (show n[a]∈n from List.getElem_mem aS);have a2:j.take (a+1)=j.take a++[n[a].it]:=by
  have h:a<j.length:=by rw[aQ.out,List.length_map];exact aS
  rw[List.take_succ_eq_append_getElem h];simp only[aQ.out,List.getElem_map]
 generalize n[a]=bV at a1 bE a2;have bF:=Z a2;have bG:=Z a1;have aT:=Z bD;clear a2 a1 bD;obtain⟨g,r,s,t,u,⟨I,J,K⟩,a3,⟨L,M,N⟩,a4,w,x,y,⟨Q,R,T⟩,a5,z,A,⟨U,V,W⟩,a6,⟨X,Y,ad⟩,a7,⟨ai,ak,al⟩,a8,⟨B,C,⟨an,ap,aq⟩,a9,⟨ar,ax,az⟩,ba,⟨aA,aD,aF⟩,bb,D,E,F,G⟩⟩:=bV;have n:ae wr (ac H (aH+a*25)) g:=by have h:=bG.out 0 _ rfl;simpa using h
 have bH:=Z (JH g wr);have n:Hid (j.take (a+1)=j.take a++[(⟨g,r,s,t,u,a3,a4,w,x,y,a5,z,A,a6,a7,a8,.mk B C (RE.exs a9) ba bb D E F G⟩:aB)]):=bF;clear bF;have bc:=Z (show(j.take (a+1)).filter (λaJ=>decide (cD aJ.kind=(e:Int)))=(j.take a).filter (λaJ=>decide (cD aJ.kind=(e:Int)))++(if cD g=(e:Int)then[(⟨g,r,s,t,u,a3,a4,w,x,y,a5,z,A,a6,a7,a8,.mk B C (RE.exs a9) ba bb D E F G⟩:aB)]else[]) by
  rw[n.out,List.filter_append,List.filter_cons];simp)
 obtain⟨bd,aQ⟩:=av (cD g);rw[<-aQ]at bH bc;clear aQ n;go_wp2_with fail
 refine bH.out.mono ?_;rintro n n ⟨rfl,bW⟩;subst bW;by_cases aN:bd=(e:Int)
 case neg=>
  have n:(bd==(e:Int))=false:=by simpa using aN
  have aJ:=Z (show(j.take (a+1)).filter (λn=>decide (cD n.kind=(e:Int)))=(j.take a).filter (λn=>decide (cD n.kind=(e:Int))) by rw[bc.out,if_neg aN,List.append_nil]);clear aN;go_wp2;go_roundg (o-a)
  case measure=>have:=aR.out;omega
  exact⟨a+1,b,f,c,q,by go_num,by omega,omg aR,by omega,Z (by rw[aJ.out];exact aG.out),d⟩
 case pos=>
 have n:(bd==(e:Int))=true:=by simpa using aN
 have bX:=Z (show(j.take (a+1)).filter (λj=>decide (cD j.kind=(e:Int)))=_++[_] by rw[bc.out,if_pos aN]);clear aN;have bh:(λw':World=>ae w' (ao m 0) (O c b f)/\ae w' (ao i 0) (O (some ⟨H,aH,none⟩) o aX)/\∀e j,(#[g,r,s,t,u,O I J K,O L M N,w,x,y,O Q R T,z,A,O U V W,O X Y ad,O ai ak al,B,C,O an ap aq,O ar ax az,O aA aD aF,D,E,F,G]:Array Value).toList[e]?=some j->ae w' (ac H (aH+a*25+e)) j) wr.drew:=
  ⟨aa.cell d.out.bx 0,bT,λe j n=>bG.out e j n⟩
 go_upto_region 9 with(fail)
 refine eI (S:=(λw':World=>ae w' (ao m 0) (O c b f)/\ae w' (ao i 0) (O (some ⟨H,aH,none⟩) o aX)/\∀e i,(#[g,r,s,t,u,O I J K,O L M N,w,x,y,O Q R T,z,A,O U V W,O X Y ad,O ai ak al,B,C,O an ap aq,O ar ax az,O aA aD aF,D,E,F,G]:Array Value).toList[e]?=some i->ae w' (ac H (aH+a*25+e)) i)) 9 bh λhS=>?_;refine dX ?_;refine mo ?_;refine JB 6 (.agg #[g,r,s,t,u,O I J K,O L M N,w,x,y,O Q R T,z,A,O U V W,O X Y ad,O ai ak al,B,C,O an ap aq,O ar ax az,O aA aD aF,D,E,F,G]) hS ?_ (hy:=Or.inl ⟨rfl,λw' hSw=>by
  have h:=Jz (P:=prog) 95 H (aH+a*25) (#[g,r,s,t,u,O I J K,O L M N,w,x,y,O Q R T,z,A,O U V W,O X Y ad,O ai ak al,B,C,O an ap aq,O ar ax az,O aA aD aF,D,E,F,G]:Array Value).toList hSw.2.2 _ underlying95 rfl rfl;exact JA rfl rfl h⟩)
 refine aM 7 (λbi aO=>?_);go_simp;refine aO _ _ (λ_=>⟨(World.cell?_alloc_lt _ _ _ (aa.lt d.out.bx)).trans hS.1,(World.cell?_alloc_lt _ _ _ (aa.lt a0.out)).trans hS.2.1,λe i j=>(World.cell?_alloc_lt _ _ _ (aV aT.out aL.out.size)).trans (hS.2.2 e i j)⟩) ?_;refine aw ?_;refine aM 8 (λbi aO=>?_);have aJ:=Z (show ag wr (wr.drew.alloc (.cells #[g,r,s,t,u,O I J K,O L M N,w,x,y,O Q R T,z,A,O U V W,O X Y ad,O ai ak al,B,C,O an ap aq,O ar ax az,O aA aD aF,D,E,F,G] 95))from((ag.refl wr).drew).alloc _);have bI:=Z (aK aJ.out d.out.own);have bK:=Z (cO wr.drew #[g,r,s,t,u,O I J K,O L M N,w,x,y,O Q R T,z,A,O U V W,O X Y ad,O ai ak al,B,C,O an ap aq,O ar ax az,O aA aD aF,D,E,F,G] 95 25 rfl);refine di (wr.drew.alloc (.cells #[g,r,s,t,u,O I J K,O L M N,w,x,y,O Q R T,z,A,O U V W,O X Y ad,O ai ak al,B,C,O an ap aq,O ar ax az,O aA aD aF,D,E,F,G] 95)) (.tmp 27) (.tmp 33) 22 rfl (m.heap.size+1) 95 bL _ 25 408 underlying22 bN bO bP bQ rfl au (O c b f) b (q.flatMap RI.cells) rfl bI.out (wr.heap.size+1) (some ⟨wr.heap.size,0,none⟩) 1 1 (#[g,r,s,t,u,O I J K,O L M N,w,x,y,O Q R T,z,A,O U V W,O X Y ad,O ai ak al,B,C,O an ap aq,O ar ax az,O aA aD aF,D,E,F,G]:Array Value).toList rfl bK.out bw cc af (by have:=aL.out.size;have:=aa.lt d.out.bx;simp;omega) ?_;intro e bY bj aP b0;obtain⟨b1,b3,rfl,b7⟩:=bv bj;have i:∀e,e<m.heap.size+1->some e≠(Value.slice c b f).ownBlock:=λe h j=>by
  have:=(b2 d.out.own e j.symm).1;omega
 have b4:=Z (jQ.push d.out bE.out aJ.out aP bj);have d:=d.out.same aJ.out;have e:=Z (aa.grown d.bx aP (i _ (Nat.lt_succ_self _)));have j:=Z (aa.grown (qb aJ a0).out aP (i _ (Nat.lt_succ_of_lt (aa.lt bs.out))));have c:ae bY (ao m 0) (O c b f):=aa.cell e.out 0;have e:=λa=>aa.frozen e.out a;refine aO _ _ (λ_=>⟨c,aa.cell j.out 0,λc e f=>(World.cell?_of_block (aP.block H (aV aT.out (bJ aL.out.size aJ.out.size)) (i _ (Nat.lt_succ_of_lt aT.out)))).trans ((aJ.out.cell (aV aT.out aL.out.size)).trans (bh.2.2 c e f))⟩) ?_;clear aO bi bj aP b0 i d bI bK aJ hS bh;refine aw ?_;refine bZ ?_;refine tq 9 ?_;refine dt 10 (λbi aO=>?_);go_simp;refine aO _ _ ?_;refine aw ?_;refine bM ?_;go_wp2_with fail
 go_roundg (o-a)
 case measure=>have:=aR.out;omega
 exact⟨a+1,b+1,b3,b1,q++[⟨g,r,s,t,u,⟨I,J,K⟩,a3,⟨L,M,N⟩,a4,w,x,y,⟨Q,R,T⟩,a5,z,A,⟨U,V,W⟩,a6,⟨X,Y,ad⟩,a7,⟨ai,ak,al⟩,a8,⟨B,C,⟨an,ap,aq⟩,a9,⟨ar,ax,az⟩,ba,⟨aA,aD,aF⟩,bb,D,E,F,G⟩⟩],by go_num,by omega,omg aR,by omega,Z (by rw[bX.out,List.map_append,aG.out,List.append_assoc];rfl),b4⟩
theorem zN:∀{b c:List At},d9 b c=true->b.length=c.length/\∀a (d:a<b.length) (e:a<c.length),b[a].name=c[a].name/\b[a].kind=c[a].kind
 |[],[],_=>⟨rfl,λa h=>absurd h (Nat.not_lt_zero _)⟩
 |[],_::_,h=>by cases h
 |_::_,[],h=>by cases h
 |b::l,c::m,h=>by
  rw[d9]at h;simp only[Bool.and_eq_true,decide_eq_true_eq]at h;obtain⟨b,f⟩:=zN h.2;exact⟨by simp[b],λa d e=>by
   cases a with
   |zero=>exact h.1
   |succ a=>exact f a (by simpa using d) (by simpa using e)⟩
theorem zO:∀(a:List At),d9 a a=true
 |[]=>rfl
 |a::l=>by rw[d9,zO l];simp
theorem JK (e f:Hd) (a c:List RA) (w:ah) (g:aE w 6 e RA.cells a) (j:aE w 6 f RA.cells c) (l:d9 (a.map RA.at_) (c.map RA.at_)=true):
 Calls prog 57 #[e.val,f.val] w λt u=>t=.returned (.bool true)/\ag w u:=by
 obtain⟨m,n,v⟩:=e;obtain⟨o,x,y⟩:=f;have z:a.length=n:=g.1;have A:c.length=x:=j.1;have n:n<=9223372036854775807:=g.2.1;obtain⟨k,p⟩:=zN l;simp only[List.length_map]at k;have q:∀d (e:d<a.length) (f:d<c.length),a[d].at_.name=c[d].at_.name/\a[d].at_.kind=c[d].at_.kind:=λd e f=>by
  have h:=p d (by simpa using e) (by simpa using f);rw[List.getElem_map,List.getElem_map]at h;exact h
 subst z A;have B:=Z g;have C:=Z j;have D:=Z q;have E:=Z k;have e:((a.length:Int) !=(c.length:Int))=false:=aF
 clear g j l p q k;show Calls prog 57 #[O m a.length v,O o c.length y] w _;go_enter func57,ntmps57
 go_wp2;go_loopw [5] (λd wr=>∃b:Nat,b<=a.length/\d=.int .i64 b/\Hid (ag w wr)) (λd _=>a.length-(intOf d).toNat)
 case atStart=>exact⟨0,Nat.zero_le _,rfl,ag.refl w⟩
 obtain⟨b,H,rfl,i⟩:=hrel;by_cases f:b<a.length
 ·have g:b<c.length:=omg E
  obtain⟨l,n,j,e,d⟩:=(B.out.same i.out).2.2 b f;obtain⟨p,q,k,t,e⟩:=(C.out.same i.out).2.2 b g;have F:m=some ⟨l,n,none⟩:=j;have G:o=some ⟨p,q,none⟩:=k;obtain⟨g,l⟩:=D.out b f g;obtain⟨r,m⟩:=av (a[b].at_.name);obtain⟨s,n⟩:=av (a[b].at_.kind);have o:=d 0 (.string a[b].at_.name) rfl;have q:=d 1 (J a[b].at_.kind) rfl;have f:=e 0 (.string c[b].at_.name) rfl;have p:=e 1 (J c[b].at_.kind) rfl;rw[<-g]at f;rw[<-l]at p;rw[<-m]at o f;rw[<-n]at q p;simp only[Nat.add_zero]at o f;clear d e j k m n g l;subst F G;have a:(b:Int)<(a.length:Int):=af
  have a:(b:Int)<(c.length:Int):=af
  have a:(r.toList==r.toList)=true:=aj
  have a:(s !=s)=false:=aj
  go_wp2_with fail
  go_quiet (fail)
  go_wp2;go_roundw
  case rel=>exact⟨b+1,by omega,by go_num,(i.out.drewN _)⟩
  simp[intOf];omega
 go_wp2;go_ret;exact⟨rfl,i⟩
theorem rH (b c:Hd) (a:List Int) (w:ah) (f:cY w b a) (g:cY w c a):
 Calls prog 34 #[b.val,c.val] w λd e=>d=.returned (.bool true)/\ag w e:=
 (zl b c a a w f g).mono (λd e h=>⟨by rw[h.1];simp,h.2⟩)
theorem zP (j k:Hd) (e:List cG) (w:ah) (f:aE w 12 j cG.cells e) (l:aE w 12 k cG.cells e):
 Calls prog 100 #[j.val,k.val] w λL M=>L=.returned (.bool true)/\ag w M:=by
 obtain⟨m,a,N⟩:=j;obtain⟨n,o,P⟩:=k;have p:e.length=a:=f.1;have Q:e.length=o:=l.1;obtain rfl:a=o:=af
 have j:a<=9223372036854775807:=f.2.1;have R:=Z f;have S:=Z l;have T:=Z p;have j:((a:Int) !=(a:Int))=false:=aj
 clear f l p Q;show Calls prog 100 #[O m a N,O n a P] w _;go_enter func100,ntmps100
 go_upto_region 4 with(fail)
 go_loopg [5] (a+1) (λc d f=>∃b:Nat,d=.int .i64 b/\b<=a/\a-b<c/\Hid (ag w f))
 case atStart=>exact⟨0,rfl,by omega,by omega,Z (ag.refl _)⟩
 case round=>
 obtain⟨d,rfl,aa,q,g⟩:=hrel;have r:=Z q;clear q;by_cases f:d<a
 case pos=>
  have f:(d:Int)<(a:Int):=af
  have s:d<e.length:=omg T
  obtain⟨t,u,f,j,b⟩:=(R.out.same g.out).2.2 d s;have U:m=some ⟨t,u,none⟩:=f;clear f;subst U;obtain⟨v,x,f,j,c⟩:=(S.out.same g.out).2.2 d s;have V:n=some ⟨v,x,none⟩:=f;clear f;subst V;generalize e[d]=W at b c;obtain⟨⟨i,y,⟨z,A,B⟩⟩,C,⟨D,E,⟨F,G,H⟩⟩,I⟩:=W;have e:=aH (show ae wr (ac t (u+d*12)) i by have h:=b 0 _ rfl;simpa using h);have e:=aH (b 1 _ rfl);have e:=aH (b 2 _ rfl);have e:=aH (b 3 _ rfl);have e:=aH (b 4 _ rfl);have e:=aH (b 5 _ rfl);have e:=aH (b 6 _ rfl);have e:=aH (b 7 _ rfl);have e:=aH (b 8 _ rfl);have e:=aH (b 9 _ rfl);have e:=aH (b 10 _ rfl);have e:=aH (b 11 _ rfl);have e:=aH (show ae wr (ac v (x+d*12)) i by have h:=c 0 _ rfl;simpa using h);have e:=aH (c 1 _ rfl);have e:=aH (c 2 _ rfl);have e:=aH (c 3 _ rfl);have e:=aH (c 4 _ rfl);have e:=aH (c 5 _ rfl);have e:=aH (c 6 _ rfl);have e:=aH (c 7 _ rfl);have e:=aH (c 8 _ rfl);have e:=aH (c 9 _ rfl);have e:=aH (c 10 _ rfl);have e:=aH (c 11 _ rfl);clear b c;have b:(i !=i)=false:=aj
  have b:(y !=y)=false:=aj
  have b:(z !=z)=false:=aj
  have b:(A !=A)=false:=aj
  have b:(B.toList==B.toList)=true:=aj
  have b:(C !=C)=false:=aj
  have b:(D !=D)=false:=aj
  have b:(E !=E)=false:=aj
  have b:(F !=F)=false:=aj
  have b:(G !=G)=false:=aj
  have b:(H.toList==H.toList)=true:=aj
  have b:(I !=I)=false:=aj
  go_upto_region 6 with(fail)
  refine wp_region_quiet_below am am ?_;repeat (go_big_quiet_step (fail))
  refine wpQuiet_nil ?_;intro _ X;obtain⟨⟨J,osq⟩,Y⟩:=X;subst Y;have K:=Z (ag.reg wr J osq);generalize Sort.grow (redrawn wr J) osq=ab at K⊢;go_wp2;go_roundg (a-d)
  case measure=>have:=r.out;omega
  exact⟨d+1,by go_num,by omega,omg r,Z (g.out.trans K.out)⟩
 case neg=>
 have a:¬(d:Int)<(a:Int):=af
 go_wp2;go_ret;exact⟨rfl,g.out⟩
def rI (b:ah) (c d:aD):Prop:=∀a,ag b a->Calls prog 50 #[.agg c.cells.toArray,.agg d.cells.toArray] a λb c=>b=.returned (.bool true)/\ag a c
theorem JL {d:ah} {m n:Int} {I J:Hd} {i j:List aD} {t u:Hd} {q:List cG} {v b:Hd} {r:List Int} {o p:Int} {x y:Hd} {z A:List RA}
 (B:aE d 8 I aD.cells i) (K:aE d 8 J aD.cells j) (R:aE d 12 t cG.cells q) (L:aE d 12 u cG.cells q) (S:cY d v r) (T:cY d b r) (U:aE d 6 x RA.cells z) (V:aE d 6 y RA.cells A)
 (W:d9 (z.map RA.at_) (A.map RA.at_)=true) (a8:i.length=j.length) (X:∀a (h:a<i.length) (Y:a<j.length),rI d i[a] j[a]):rI d (.mk m n I i t q v r o p x z) (.mk m n J j u q b r o p y A):=by
 intro g e;have M:=Z (λc (d:ag g c)=>zP t u q c (R.same (e.trans d)) (L.same (e.trans d)));have N:=Z (λc (d:ag g c)=>rH v b r c (cY.same S (e.trans d)) (cY.same T (e.trans d)));have P:=Z (λc (d:ag g c)=>JK x y z A c (U.same (e.trans d)) (V.same (e.trans d)) W);have a9:=Z (B.same e);have ba:=Z (K.same e);have bb:=Z (λa h Y c (d:ag g c)=>X a h Y c (e.trans d));obtain⟨aa,c,bc⟩:=I;obtain⟨ab,ad,bd⟩:=J;have ai:i.length=c:=B.1;have ak:j.length=ad:=K.1;obtain rfl:c=ad:=af
 have d:c<=9223372036854775807:=B.2.1;have bh:=Z ai;have bj:=Z ak;obtain⟨al,an,ao⟩:=t;obtain⟨ap,aq,ar⟩:=u;obtain⟨au,aw,ax⟩:=v;obtain⟨az,aA,aB⟩:=b;obtain⟨aC,aF,aG⟩:=x;obtain⟨aI,aJ,aK⟩:=y;replace M:Hid (Rt 100 #[O al an ao,O ap aq ar] g (.bool true)):=M;replace N:Hid (Rt 34 #[O au aw ax,O az aA aB] g (.bool true)):=N;replace P:Hid (Rt 57 #[O aC aF aG,O aI aJ aK] g (.bool true)):=P;clear B K R L S T U V X e W a8 ai ak;show Calls prog 50 #[.agg #[m,n,O aa c bc,O al an ao,O au aw ax,o,p,O aC aF aG],.agg #[m,n,O ab c bd,O ap aq ar,O az aA aB,o,p,O aI aJ aK]] g _;go_enter func50,ntmps50
 go_upto_region 1 with(fail)
 obtain⟨r,e,g,d,q⟩:=nb g 105 _;rw[e];clear e;have e:=d;obtain⟨bk,r,k,d,t⟩:=nc q 105 _;rw[r];clear r;have aL:=Z (e.out.trans d.out);have l:=qb d g;clear d e g q t;have tk:((c:Int) !=(c:Int))=false:=aj
 have bm:(m !=m)=false:=aj
 have bn:(n !=n)=false:=aj
 have bo:(o !=o)=false:=aj
 have bp:(p !=p)=false:=aj
 have bq:=ay l;have br:=ay k;have bs:=aS l;have bt:=aS k;have C:=aZ l;have D:=aZ k;have bu:=bi l;have bv:=bi k;have bw:=bF l;have bx:=bF k;have bz:=b3 l;have bA:=b3 k;go_wp2_with fail
 refine(M.out bk aL.out).mono ?_;rintro aM bB ⟨rfl,E⟩;have aN:=Z (aL.out.trans E);have aO:=qb (Z E) l;have aP:=qb (Z E) k;clear bq br bs bt C D bu bv bw bx bz bA E;have bC:=bl aO;have bD:=bl aP;go_wp2_with fail
 refine(N.out bB aN.out).mono ?_;rintro aM bE ⟨rfl,F⟩;have aQ:=Z (aN.out.trans F);have aR:=qb (Z F) aO;have aT:=qb (Z F) aP;clear bC bD F;have bG:=b7 aR;have bH:=b7 aT;go_wp2_with fail
 refine(P.out bE aQ.out).mono ?_;rintro aM bI ⟨rfl,G⟩;have aU:=Z (aQ.out.trans G);have bJ:=qb (Z G) aR;have bK:=qb (Z G) aT;clear bG bH G bm bn bo bp tk;go_upto_region 4 with(fail)
 go_loopg [5] (c+1) (λd e f=>∃a:Nat,e=.int .i64 a/\a<=c/\c-a<d/\Hid (ag bI f))
 case atStart=>exact⟨0,rfl,by omega,by omega,Z (ag.refl _)⟩
 case round=>
 obtain⟨a,rfl,co,aV,s⟩:=hrel;have aW:=Z aV;clear aV;have C:=aZ (qb s bJ);have D:=aZ (qb s bK);by_cases d:a<c
 case neg=>
  have d:¬(a:Int)<(c:Int):=af
  go_wp2;go_ret;exact⟨rfl,aU.out.trans s.out⟩
 case pos=>
 have d:(a:Int)<(c:Int):=af
 have aX:a<i.length:=omg bh
 have aY:a<j.length:=omg bj
 have Q:=Z (aU.out.trans s.out);obtain⟨a0,a1,d,e,f⟩:=(a9.out.same Q.out).2.2 a aX;have bL:aa=some ⟨a0,a1,none⟩:=d;clear d;subst bL;obtain⟨a2,a3,d,L,b⟩:=(ba.out.same Q.out).2.2 a aY;have bM:ab=some ⟨a2,a3,none⟩:=d;clear d;subst bM;have H:=Z (λd (e:ag wr d)=>bb.out a aX aY d (Q.out.trans e));obtain⟨bN,d⟩:=av i[a];obtain⟨bO,e⟩:=av j[a];rw[<-d]at f H;rw[<-e]at b H;clear d e;obtain⟨a4,bP,⟨bQ,bR,bS⟩,cp,⟨bT,bU,bV⟩,cq,⟨bW,bX,bY⟩,cr,bZ,b0,⟨b1,b2,b4⟩,cs⟩:=bN;obtain⟨a5,b5,⟨b6,b8,b9⟩,ct,⟨ca,cb,cc⟩,cu,⟨cd,ce,cf⟩,cv,cg,ch,⟨ci,cj,ck⟩,cw⟩:=bO;have d:=aH (show ae wr (ac a0 (a1+a*8)) a4 by have h:=f 0 _ rfl;simpa using h);have d:=aH (f 1 _ rfl);have d:=aH (f 2 _ rfl);have d:=aH (f 3 _ rfl);have d:=aH (f 4 _ rfl);have d:=aH (f 5 _ rfl);have d:=aH (f 6 _ rfl);have d:=aH (f 7 _ rfl);have d:=aH (show ae wr (ac a2 (a3+a*8)) a5 by have h:=b 0 _ rfl;simpa using h);have d:=aH (b 1 _ rfl);have d:=aH (b 2 _ rfl);have d:=aH (b 3 _ rfl);have d:=aH (b 4 _ rfl);have d:=aH (b 5 _ rfl);have d:=aH (b 6 _ rfl);have d:=aH (b 7 _ rfl);have d:Hid (Rt 50 #[.agg #[a4,bP,O bQ bR bS,O bT bU bV,O bW bX bY,bZ,b0,O b1 b2 b4],.agg #[a5,b5,O b6 b8 b9,O ca cb cc,O cd ce cf,cg,ch,O ci cj ck]] wr (.bool true)):=H;have cl:=kZ (w:=wr) d.out;have e:=aH C;have e:=aH D;clear f b H d;go_upto_region 6 with(fail)
 clear C D;refine wp_region_quiet_below am am ?_;repeat (go_big_quiet_step (first|(go_at_call 50;exact cl _ _)))
 refine wpQuiet_nil ?_;intro _ cm;obtain⟨⟨a6,osq⟩,cn⟩:=cm;subst cn;have a7:=Z (ag.reg wr a6 osq);generalize Sort.grow (redrawn wr a6) osq=cx at a7⊢;go_wp2;go_roundg (c-a)
 case measure=>have:=aW.out;omega
 exact⟨a+1,by go_num,by omega,omg aW,Z (s.out.trans a7.out)⟩
theorem JM {b a:List At} (h:b=a):d9 b a=true:=by rw[h];exact zO a
theorem JN {c:ah} {f g:Nat->Prop} {d:aD} (i:dL c f d):∀{b:aD},dL c g b->d.pl=b.pl->rI c d b:=by
 induction i with
 |mk j u v k w l x m y n=>
  intro b o e;cases o with
  |@mk z A B C D E F G H I J K p L q r M s N t O=>
   rw[aD.pl,aD.pl]at e;injection e with e1 e2 e3 e4 e5 e6 e7 e8
   subst e1 e2 e4 e5 e6 e7;rw[aD.gY,aD.gY]at e3;have b:=congrArg List.length e3;simp only[List.length_map]at b;refine JL j p k r l s m.a.1 t.a.1 (JM e8) b (λc h b=>n _ (List.getElem_mem h) (q _ (List.getElem_mem b)) ?_);have c:=congrArg (λd=>d[c]?) e3;simpa[h,b]using c
theorem JO {aM aN:Nat} {w:ah} {h h2:Hd} {aO aP:List RT} {k d:cd} (z:eK aM w h aO k) (A:eK aN w h2 aP d) (B:k.qs.map dM.qy=d.qs.map dM.qy):
 Calls prog 30 #[.agg (bt h k),.agg (bt h2 d)] w λu aM=>u=.returned (.bool true)/\ag w aM:=by
 have v:=congrArg List.length B;simp only[List.length_map]at v;have aQ:=Z (λa (b:a<k.qs.length) (h2:a<d.qs.length)=>show k.qs[a].name=d.qs[a].name/\rI w k.qs[a].rp d.qs[a].rp by
  have u:(k.qs.map dM.qy)[a]'(by simpa using b)=(d.qs.map dM.qy)[a]'(by simpa using h2):=by simp only[B]
  simp only[List.getElem_map,dM.qy]at u;injection u with s t
  exact⟨s,JN (z.q _ (List.getElem_mem b)) (A.q _ (List.getElem_mem h2)) t⟩)
 have L1:=Z z.l6;have L2:=Z A.l6;clear z A B;obtain⟨aR,aS,aT⟩:=h;obtain⟨hA2,aU,c⟩:=h2;obtain⟨⟨aV,aW,aX⟩,⟨aY,aZ,a0⟩,⟨a1,a2,a3⟩,⟨a4,a5,a6⟩,⟨a7,a8,a9⟩,⟨C,b,F⟩,bD,bE,bF,bG,bH,l⟩:=k;obtain⟨⟨ba,bb,bc⟩,⟨bd,be,bf⟩,⟨bg,bh,bi⟩,⟨bj,bk,bl⟩,⟨bm,bn,bo⟩,⟨D,G,H⟩,bI,bJ,bK,bL,bM,m⟩:=d;have I:l.length=b:=L1.out.1;have J:m.length=G:=L2.out.1;have v:l.length=m.length:=v;obtain rfl:b=G:=af
 have k:b<=9223372036854775807:=L1.out.2.1;have bp:=Z I;have bq:=Z J;have br:((b:Int) !=(b:Int))=false:=aj
 clear v I J;replace L1:Hid (aE w 9 ⟨C,b,F⟩ dM.cells l):=L1;replace L2:Hid (aE w 9 ⟨D,b,H⟩ dM.cells m):=L2;show Calls prog 30 #[.agg #[O aR aS aT,O aV aW aX,O aY aZ a0,O a1 a2 a3,O a4 a5 a6,O a7 a8 a9,O C b F],.agg #[O hA2 aU c,O ba bb bc,O bd be bf,O bg bh bi,O bj bk bl,O bm bn bo,O D b H]] w _;go_enter func30,ntmps30
 go_upto_region 1 with(fail)
 obtain⟨A,u,v,k,z⟩:=nb w 37 _;rw[u];clear u;have u:=k;obtain⟨bs,A,K,k,B⟩:=nc z 37 _;rw[A];clear A;have L:=Z (u.out.trans k.out);have M:=qb k v;clear k u v z B;have x:=b3 M;have y:=b3 K;go_upto_region 4 with(fail)
 clear x y br;go_loopg [5] (b+1) (λe f g=>∃a:Nat,f=.int .i64 a/\a<=b/\b-a<e/\Hid (ag bs g))
 case atStart=>exact⟨0,rfl,by omega,by omega,Z (ag.refl _)⟩
 case round=>
 obtain⟨a,rfl,bN,N,o⟩:=hrel;have P:=Z N;clear N;have x:=b3 (qb o M);have y:=b3 (qb o K);by_cases k:a<b
 case neg=>
  have e:¬(a:Int)<(b:Int):=af
  go_wp2;go_ret;exact⟨rfl,L.out.trans o.out⟩
 case pos=>
 have k:(a:Int)<(b:Int):=af
 have Q:a<l.length:=omg bp
 have R:a<m.length:=omg bq
 have E:=Z (L.out.trans o.out);obtain⟨f,g,s,k,e⟩:=(L1.out.same E.out).2.2 a Q;have bu:C=some ⟨f,g,none⟩:=s;clear s;subst bu;obtain⟨i,j,t,k,c⟩:=(L2.out.same E.out).2.2 a R;have bv:D=some ⟨i,j,none⟩:=t;clear t;subst bv;obtain⟨p,k⟩:=aQ.out a Q R;have n:=Z (λn (r:ag wr n)=>k n (E.out.trans r));replace p:l[a].name=m[a].name:=p;replace n:Hid (Rt 50 #[.agg l[a].rp.cells.toArray,.agg m[a].rp.cells.toArray] wr (.bool true)):=n;clear k;obtain⟨bw,k⟩:=av l[a];obtain⟨bx,l⟩:=av m[a];rw[<-k]at e n p;rw[<-l]at c n p;clear k l;obtain⟨r,⟨S,T,⟨U,d,V⟩,bO,⟨W,X,Y⟩,bP,⟨aa,ab,ad⟩,bQ,ai,ak,⟨al,an,ao⟩,bR⟩⟩:=bw;obtain⟨bz,⟨ap,aq,⟨ar,au,aw⟩,bS,⟨ax,ay,az⟩,bT,⟨aA,aB,aC⟩,bU,aD,aF,⟨aG,aI,aJ⟩,bV⟩⟩:=bx;obtain rfl:r=bz:=p;have k:=aH (show ae wr (ac f (g+a*9)) r by have h:=e 0 _ rfl;simpa using h);have k:=aH (show ae wr (ac i (j+a*9)) r by have h:=c 0 _ rfl;simpa using h);have pU:=aH (show ae wr (ac f (g+a*9+1)) S from e 1 _ rfl);have pV:=aH (show ae wr (ac f (g+a*9+1+1)) T from e 2 _ rfl);have pW:=aH (show ae wr (ac f (g+a*9+1+2)) (O U d V)from e 3 _ rfl);have pX:=aH (show ae wr (ac f (g+a*9+1+3)) (O W X Y)from e 4 _ rfl);have JP:=aH (show ae wr (ac f (g+a*9+1+4)) (O aa ab ad)from e 5 _ rfl);have JQ:=aH (show ae wr (ac f (g+a*9+1+5)) ai from e 6 _ rfl);have u16:=aH (show ae wr (ac f (g+a*9+1+6)) ak from e 7 _ rfl);have JR:=aH (show ae wr (ac f (g+a*9+1+7)) (O al an ao)from e 8 _ rfl);have u20:=aH (show ae wr (ac i (j+a*9+1)) ap from c 1 _ rfl);have u21:=aH (show ae wr (ac i (j+a*9+1+1)) aq from c 2 _ rfl);have u22:=aH (show ae wr (ac i (j+a*9+1+2)) (O ar au aw)from c 3 _ rfl);have u23:=aH (show ae wr (ac i (j+a*9+1+3)) (O ax ay az)from c 4 _ rfl);have u24:=aH (show ae wr (ac i (j+a*9+1+4)) (O aA aB aC)from c 5 _ rfl);have u25:=aH (show ae wr (ac i (j+a*9+1+5)) aD from c 6 _ rfl);have u26:=aH (show ae wr (ac i (j+a*9+1+6)) aF from c 7 _ rfl);have u27:=aH (show ae wr (ac i (j+a*9+1+7)) (O aG aI aJ)from c 8 _ rfl);have d:Hid (Rt 50 #[.agg #[S,T,O U d V,O W X Y,O aa ab ad,ai,ak,O al an ao],.agg #[ap,aq,O ar au aw,O ax ay az,O aA aB aC,aD,aF,O aG aI aJ]] wr (.bool true)):=n;have bA:=kZ (w:=wr) d.out;have f:=aH x;have f:=aH y;have f:(r.toList==r.toList)=true:=aj
 clear e c n d;go_upto_region 6 with(fail)
 clear x y;refine wp_region_quiet_below am am ?_;repeat (go_big_quiet_step (first|(go_at_call 50;exact bA _ _)))
 refine wpQuiet_nil ?_;intro _ bB;obtain⟨⟨aK,osq⟩,bC⟩:=bB;subst bC;have aL:=Z (ag.reg wr aK osq);generalize Sort.grow (redrawn wr aK) osq=bW at aL⊢;go_wp2;go_roundg (b-a)
 case measure=>have:=P.out;omega
 exact⟨a+1,by go_num,by omega,omg P,Z (o.out.trans aL.out)⟩
theorem JS {w:ah} {aC n:Nat->Prop} {o p:cn} (e:eU w aC o) (g:eU w n p) (h:o.ru=p.ru):
 Calls prog 49 #[.agg o.cells.toArray,.agg p.cells.toArray] w λq aC=>q=.returned (.bool true)/\ag w aC:=by
 obtain⟨r,s,t,⟨z,A,B⟩,aD,u,⟨C,a,W⟩,i,v,x,⟨D,E,F⟩,aF,⟨G,H,I⟩,aG⟩:=o;obtain⟨bc,bd,be,⟨J,K,L⟩,bf,bg,⟨M,X,Y⟩,bh,bj,bk,⟨N,P,Q⟩,bm,⟨R,S,T⟩,bn⟩:=p;simp only[cn.ru]at h;injection h with l m e3 e4 e5 e6 e7 e8 e9 e10
 subst l m e3 e4 e5 e6 e7 e8 e9 e10;have aa:i.length=a:=e.lf.1;have aI:i.length=X:=g.lf.1;obtain rfl:a=X:=af
 have o:a<=9223372036854775807:=e.lf.2.1;have aJ:=Z aa;have L1:Hid (aE w 4 ⟨C,a,W⟩ Fx.cells i):=Z e.lf;have L2:Hid (aE w 4 ⟨M,a,Y⟩ Fx.cells i):=Z g.lf;have aK:Hid (Rt 34 #[O z A B,O J K L] w (.bool true)):=Z (λc b=>rH ⟨z,A,B⟩ ⟨J,K,L⟩ aD c (cY.same e.lc b) (cY.same g.lc b));have aL:Hid (Rt 34 #[O D E F,O N P Q] w (.bool true)):=Z (λc b=>rH ⟨D,E,F⟩ ⟨N,P,Q⟩ aF c (cY.same e.lb b) (cY.same g.lb b));have aM:Hid (Rt 100 #[O G H I,O R S T] w (.bool true)):=Z (λc b=>zP ⟨G,H,I⟩ ⟨R,S,T⟩ aG c (e.ls.same b) (g.ls.same b));clear e g aa aI;show Calls prog 49 #[.agg #[r,s,t,O z A B,u,O C a W,v,x,O D E F,O G H I],.agg #[r,s,t,O J K L,u,O M a Y,v,x,O N P Q,O R S T]] w _;go_enter func49,ntmps49
 go_upto_region 1 with(fail)
 obtain⟨z,g,o,e,p⟩:=nb w 64 _;rw[g];clear g;have g:=e;obtain⟨aN,z,c,e,A⟩:=nc p 64 _;rw[z];clear z;have n:=Z (g.out.trans e.out);have d:=qb e o;clear e g o p A;have ab:(r !=r)=false:=aj
 have ad:(s.toList==s.toList)=true:=aj
 have ai:(t !=t)=false:=aj
 have ak:(u !=u)=false:=aj
 have aO:(v !=v)=false:=aj
 have aP:(x !=x)=false:=aj
 have aQ:((a:Int) !=(a:Int))=false:=aj
 have aR:=ay d;have aT:=ay c;have aU:=aS d;have aV:=aS c;have aW:=aZ d;have aX:=aZ c;have aY:=bl d;have a0:=bl c;have a1:=bF d;have a2:=bF c;have a3:=b3 d;have a4:=b3 c;have a5:=b7 d;have a6:=b7 c;go_upto_region 4 with(fail)
 clear aR aT aU aV aW aX aY a0 a1 a2 a3 a4 a5 a6 ab ad ai ak aO aP aQ;go_loopg [5] (a+1) (λe f g=>∃b:Nat,f=.int .i64 b/\b<=a/\a-b<e/\Hid (ag aN g))
 case atStart=>exact⟨0,rfl,by omega,by omega,Z (ag.refl _)⟩
 case round=>
 obtain⟨b,rfl,bo,al,f⟩:=hrel;have an:=Z al;clear al;have U:=bF (qb f d);have V:=bF (qb f c);by_cases e:b<a
 case pos=>
  have e:(b:Int)<(a:Int):=af
  have ao:b<i.length:=omg aJ
  have ap:=Z (n.out.trans f.out);obtain⟨aq,ar,l,e,j⟩:=(L1.out.same ap.out).2.2 b ao;have a7:C=some ⟨aq,ar,none⟩:=l;clear l;subst a7;obtain⟨au,av,m,e,k⟩:=(L2.out.same ap.out).2.2 b ao;have a8:M=some ⟨au,av,none⟩:=m;clear m;subst a8;generalize i[b]=a9 at j k;obtain⟨y,⟨aw,ax,az⟩⟩:=a9;have e:=aH (show ae wr (ac aq (ar+b*4)) y by have h:=j 0 _ rfl;simpa using h);have e:=aH (j 1 _ rfl);have e:=aH (j 2 _ rfl);have e:=aH (j 3 _ rfl);have e:=aH (show ae wr (ac au (av+b*4)) y by have h:=k 0 _ rfl;simpa using h);have e:=aH (k 1 _ rfl);have e:=aH (k 2 _ rfl);have e:=aH (k 3 _ rfl);clear j k;have ab:(y !=y)=false:=aj
  have ad:(aw !=aw)=false:=aj
  have ai:(ax !=ax)=false:=aj
  have ak:(az.toList==az.toList)=true:=aj
  have e:=aH U;have e:=aH V;go_upto_region 6 with(fail)
  clear U V;refine wp_region_quiet_below am am ?_;repeat (go_big_quiet_step (fail))
  refine wpQuiet_nil ?_;intro _ ba;obtain⟨⟨aA,osq⟩,bb⟩:=ba;subst bb;have aB:=Z (ag.reg wr aA osq);generalize Sort.grow (redrawn wr aA) osq=bp at aB⊢;go_wp2;go_roundg (a-b)
  case measure=>have:=an.out;omega
  exact⟨b+1,by go_num,by omega,omg an,Z (f.out.trans aB.out)⟩
 case neg=>
 have a:¬(b:Int)<(a:Int):=af
 have y:=Z (n.out.trans f.out);have ao:=qb f d;have ap:=qb f c;have aw:=bi ao;have ax:=bi ap;go_wp2_with fail
 refine(aK.out wr y.out).mono ?_;rintro q az ⟨rfl,j⟩;have aq:=Z (y.out.trans j);have ar:=qb (Z j) ao;have au:=qb (Z j) ap;clear aw ax j U V;have aA:=b4 ar;have aB:=b4 au;go_wp2_with fail
 refine(aL.out az aq.out).mono ?_;rintro q a7 ⟨rfl,k⟩;have av:=Z (aq.out.trans k);have a:=qb (Z k) ar;have b:=qb (Z k) au;clear aA aB k;have a:=je a;have a:=je b;go_wp2_with fail
 refine(aM.out a7 av.out).mono ?_;rintro q a ⟨rfl,a8⟩;go_wp2;go_ret;exact⟨rfl,av.out.trans a8⟩
theorem JT {I aY:Nat} {w:ah} {h h2:Hd} {b4 b5:List RT} {x i:cd} (H:eK I w h b4 x) (I:eK aY w h2 b5 i)
 (k:x.os=i.os) (n:x.bs=i.bs) (ak:x.ms.map dF.mt=i.ms.map dF.mt) (aJ:x.ks=i.ks) (aY:x.rs.map cn.ru=i.rs.map cn.ru):
 Calls prog 29 #[.agg (bt h x),.agg (bt h2 i)] w λz az=>z=.returned (.bool true)/\ag w az:=by
 have aK:=congrArg List.length ak;have aL:=congrArg List.length aY;simp only[List.length_map]at aK aL;have b6:=Z (λa (b:a<x.ms.length) (h2:a<i.ms.length)=>show x.ms[a].mt=i.ms[a].mt/\fh w _ x.ms[a]/\fh w _ i.ms[a] by
  have z:(x.ms.map dF.mt)[a]'(by simpa using b)=(i.ms.map dF.mt)[a]'(by simpa using h2):=by simp only[ak]
  simp only[List.getElem_map]at z;exact⟨z,H.m _ (List.getElem_mem b),I.m _ (List.getElem_mem h2)⟩)
 have a0:=Z (λa (b:a<x.rs.length) (h2:a<i.rs.length) C (c:ag w C)=>show Calls prog 49 #[.agg x.rs[a].cells.toArray,.agg i.rs[a].cells.toArray] C λz az=>z=.returned (.bool true)/\ag C az by
  have z:(x.rs.map cn.ru)[a]'(by simpa using b)=(i.rs.map cn.ru)[a]'(by simpa using h2):=by simp only[aY]
  simp only[List.getElem_map]at z;exact JS ((H.r _ (List.getElem_mem b)).keep (Kp.of_same (l:=[]) c) aj) ((I.r _ (List.getElem_mem h2)).keep (Kp.of_same (l:=[]) c) aj) z)
 have L1:=Z H.l1;have L2:=Z H.l2;have L3:=Z H.l3;have aA:=Z H.l4;have aB:=Z H.l5;have aM:=Z I.l1;have aN:=Z I.l2;have M3:=Z I.l3;have aO:=Z I.l4;have aP:=Z I.l5;clear H I ak aY;obtain⟨b7,b8,b9⟩:=h;obtain⟨hA2,ca,b⟩:=h2;obtain⟨⟨a1,o,bk⟩,⟨a2,q,bm⟩,⟨a3,s,bn⟩,⟨a4,t,bo⟩,⟨a5,u,bp⟩,⟨cb,cc,ce⟩,S,T,K,U,V,c4⟩:=x;obtain⟨⟨a6,bq,br⟩,⟨a7,bu,bv⟩,⟨a8,bx,bz⟩,⟨a9,bA,bB⟩,⟨ba,bC,bD⟩,⟨cf,cg,ch⟩,ci,cj,L,ck,W,c5⟩:=i;obtain rfl:S=ci:=k;obtain rfl:T=cj:=n;obtain rfl:U=ck:=aJ;have aK:K.length=L.length:=aK;have aL:V.length=W.length:=aL;have bE:S.length=o:=L1.out.1;have cl:S.length=bq:=aM.out.1;have bG:T.length=q:=L2.out.1;have cm:T.length=bu:=aN.out.1;have bH:K.length=s:=L3.out.1;have bI:L.length=bx:=M3.out.1;have bJ:U.length=t:=aA.out.1;have co:U.length=bA:=aO.out.1;have bK:V.length=u:=aB.out.1;have bL:W.length=bC:=aP.out.1;obtain rfl:o=bq:=af
 obtain rfl:q=bu:=af
 obtain rfl:s=bx:=af
 obtain rfl:t=bA:=af
 obtain rfl:u=bC:=af
 have v:o<=9223372036854775807:=L1.out.2.1;have d:q<=9223372036854775807:=L2.out.2.1;have bb:s<=9223372036854775807:=L3.out.2.1;have bc:t<=9223372036854775807:=aA.out.2.1;have x:u<=9223372036854775807:=aB.out.2.1;have cp:=Z bE;have cq:=Z bG;have cr:=Z bH;have cs:=Z bI;have ct:=Z bJ;have cu:=Z bK;have cv:=Z bL;replace L1:Hid (aE w 2 ⟨a1,o,bk⟩ Og.cells S):=L1;replace aM:Hid (aE w 2 ⟨a6,o,br⟩ Og.cells S):=aM;replace L2:Hid (aE w 6 ⟨a2,q,bm⟩ Bk.cells T):=L2;replace aN:Hid (aE w 6 ⟨a7,q,bv⟩ Bk.cells T):=aN;replace L3:Hid (aE w 4 ⟨a3,s,bn⟩ dF.cells K):=L3;replace M3:Hid (aE w 4 ⟨a8,s,bz⟩ dF.cells L):=M3;replace aA:Hid (aE w 3 ⟨a4,t,bo⟩ dV.cells U):=aA;replace aO:Hid (aE w 3 ⟨a9,t,bB⟩ dV.cells U):=aO;replace aB:Hid (aE w 10 ⟨a5,u,bp⟩ cn.cells V):=aB;replace aP:Hid (aE w 10 ⟨ba,u,bD⟩ cn.cells W):=aP;replace a0:Hid (∀a (c:a<V.length) (h2:a<W.length) C,ag w C->Calls prog 49 #[.agg V[a].cells.toArray,.agg W[a].cells.toArray] C λz az=>z=.returned (.bool true)/\ag C az):=a0;clear aK aL bE cl bG cm bH bI bJ co bK bL;show Calls prog 29 #[.agg #[O b7 b8 b9,O a1 o bk,O a2 q bm,O a3 s bn,O a4 t bo,O a5 u bp,O cb cc ce],.agg #[O hA2 ca b,O a6 o br,O a7 q bv,O a8 s bz,O a9 t bB,O ba u bD,O cf cg ch]] w _;go_enter func29,ntmps29
 go_upto_region 1 with(fail)
 obtain⟨az,z,H,x,I⟩:=nb w 37 _;rw[z];clear z;have z:=x;obtain⟨aC,az,A,x,aK⟩:=nc I 37 _;rw[az];clear az;have al:=Z (z.out.trans x.out);have D:=qb x H;clear x z H I aK;have cw:=aS D;have cx:=aS A;have X:((o:Int) !=(o:Int))=false:=aj
 have cy:=aZ D;have cz:=aZ A;have an:((q:Int) !=(q:Int))=false:=aj
 have cA:=bi D;have cB:=bi A;have bd:((s:Int) !=(s:Int))=false:=aj
 have cC:=bl D;have cD:=bl A;have be:((t:Int) !=(t:Int))=false:=aj
 have cE:=bF D;have cF:=bF A;have bf:((u:Int) !=(u:Int))=false:=aj
 go_upto_region 4 with(fail)
 clear cw cx cy cz cA cB cC cD cE cF X an bd be bf;go_loopg [5] (o+1) (λc e f=>∃a:Nat,e=.int .i64 a/\a<=o/\o-a<c/\Hid (ag aC f))
 case atStart=>exact⟨0,rfl,by omega,by omega,Z (ag.refl _)⟩
 case round=>
 obtain⟨a,rfl,M,y,c⟩:=hrel;have g:=Z y;clear y;have j:=aS (qb c D);have f:=aS (qb c A);by_cases N:a<o
 case pos=>
  have x:(a:Int)<(o:Int):=af
  have E:a<S.length:=omg cp
  have F:=Z (al.out.trans c.out);obtain⟨v,G,k,x,e⟩:=(L1.out.same F.out).2.2 a E;have ad:a1=some ⟨v,G,none⟩:=k;clear k;subst ad;obtain⟨d,P,n,x,b⟩:=(aM.out.same F.out).2.2 a E;have ao:a6=some ⟨d,P,none⟩:=n;clear n;subst ao;generalize S[a]=ap at e b;obtain⟨B,Q⟩:=ap;have x:=aH (show ae wr (ac v (G+a*2)) B by have h:=e 0 _ rfl;simpa using h);have x:=aH (e 1 _ rfl);have x:=aH (show ae wr (ac d (P+a*2)) B by have h:=b 0 _ rfl;simpa using h);have x:=aH (b 1 _ rfl);clear e b;have e:(B.toList==B.toList)=true:=aj
  have X:(Q !=Q)=false:=aj
  have e:=aH j;have e:=aH f;go_upto_region 6 with(fail)
  clear j f;refine wp_region_quiet_below am am ?_;repeat (go_big_quiet_step (fail))
  refine wpQuiet_nil ?_;intro _ aq;obtain⟨⟨R,osq⟩,ar⟩:=aq;subst ar;have Y:=Z (ag.reg wr R osq);generalize Sort.grow (redrawn wr R) osq=au at Y⊢;go_wp2;go_roundg (o-a)
  case measure=>have:=g.out;omega
  exact⟨a+1,by go_num,by omega,omg g,Z (c.out.trans Y.out)⟩
 case neg=>
 have P:¬(a:Int)<(o:Int):=af
 go_upto_region 9 with(fail)
 obtain⟨c6,rfl⟩:∃E:World,E=wr:=⟨_,rfl⟩;have cG:=c;clear c N P M g j f;go_loopg [6] (q+1) (λe o x=>∃a:Nat,o=.int .i64 a/\a<=q/\q-a<e/\Hid (ag aC x))
 case atStart=>exact⟨0,rfl,by omega,by omega,cG⟩
 case round=>
 obtain⟨a,rfl,M,y,c⟩:=hrel;have g:=Z y;clear y;have j:=aZ (qb c D);have f:=aZ (qb c A);by_cases N:a<q
 case pos=>
  have o:(a:Int)<(q:Int):=af
  have F:a<T.length:=omg cq
  have G:=Z (al.out.trans c.out);obtain⟨v,Q,k,o,e⟩:=(L2.out.same G.out).2.2 a F;have aw:a2=some ⟨v,Q,none⟩:=k;clear k;subst aw;obtain⟨d,R,n,o,b⟩:=(aN.out.same G.out).2.2 a F;have ax:a7=some ⟨d,R,none⟩:=n;clear n;subst ax;generalize T[a]=aD at e b;obtain⟨B,Y,ad,ao,ap,aq⟩:=aD;have o:=aH (show ae wr (ac v (Q+a*6)) B by have h:=e 0 _ rfl;simpa using h);have o:=aH (e 1 _ rfl);have o:=aH (e 2 _ rfl);have o:=aH (e 3 _ rfl);have o:=aH (e 4 _ rfl);have o:=aH (e 5 _ rfl);have o:=aH (show ae wr (ac d (R+a*6)) B by have h:=b 0 _ rfl;simpa using h);have o:=aH (b 1 _ rfl);have o:=aH (b 2 _ rfl);have o:=aH (b 3 _ rfl);have o:=aH (b 4 _ rfl);have o:=aH (b 5 _ rfl);clear e b;have e:(B.toList==B.toList)=true:=aj
  have X:(Y !=Y)=false:=aj
  have an:(ad !=ad)=false:=aj
  have bd:(ao !=ao)=false:=aj
  have be:(ap !=ap)=false:=aj
  have bf:(aq !=aq)=false:=aj
  have e:=aH j;have e:=aH f;go_upto_region 11 with(fail)
  clear j f;refine wp_region_quiet_below am am ?_;repeat (go_big_quiet_step (fail))
  refine wpQuiet_nil ?_;intro _ aF;obtain⟨⟨ar,osq⟩,aG⟩:=aF;subst aG;have au:=Z (ag.reg wr ar osq);generalize Sort.grow (redrawn wr ar) osq=aI at au⊢;go_wp2;go_roundg (q-a)
  case measure=>have:=g.out;omega
  exact⟨a+1,by go_num,by omega,omg g,Z (c.out.trans au.out)⟩
 case neg=>
 have P:¬(a:Int)<(q:Int):=af
 go_upto_region 14 with(fail)
 obtain⟨c7,rfl⟩:∃E:World,E=wr:=⟨_,rfl⟩;have cH:=c;clear c N P M g j f;go_loopg [7] (t+1) (λe o q=>∃a:Nat,o=.int .i64 a/\a<=t/\t-a<e/\Hid (ag aC q))
 case atStart=>exact⟨0,rfl,by omega,by omega,cH⟩
 case round=>
 obtain⟨a,rfl,M,y,c⟩:=hrel;have g:=Z y;clear y;have j:=bl (qb c D);have f:=bl (qb c A);by_cases N:a<t
 case pos=>
  have o:(a:Int)<(t:Int):=af
  have F:a<U.length:=omg ct
  have G:=Z (al.out.trans c.out);obtain⟨v,Q,k,o,e⟩:=(aA.out.same G.out).2.2 a F;have aq:a4=some ⟨v,Q,none⟩:=k;clear k;subst aq;obtain⟨d,R,n,o,b⟩:=(aO.out.same G.out).2.2 a F;have ar:a9=some ⟨d,R,none⟩:=n;clear n;subst ar;generalize U[a]=au at e b;obtain⟨B,Y,ad⟩:=au;have o:=aH (show ae wr (ac v (Q+a*3)) B by have h:=e 0 _ rfl;simpa using h);have o:=aH (e 1 _ rfl);have o:=aH (e 2 _ rfl);have o:=aH (show ae wr (ac d (R+a*3)) B by have h:=b 0 _ rfl;simpa using h);have o:=aH (b 1 _ rfl);have o:=aH (b 2 _ rfl);clear e b;have e:(B !=B)=false:=aj
  have X:(Y !=Y)=false:=aj
  have an:(ad !=ad)=false:=aj
  have e:=aH j;have e:=aH f;go_upto_region 16 with(fail)
  clear j f;refine wp_region_quiet_below am am ?_;repeat (go_big_quiet_step (fail))
  refine wpQuiet_nil ?_;intro _ aw;obtain⟨⟨ao,osq⟩,ax⟩:=aw;subst ax;have ap:=Z (ag.reg wr ao osq);generalize Sort.grow (redrawn wr ao) osq=aD at ap⊢;go_wp2;go_roundg (t-a)
  case measure=>have:=g.out;omega
  exact⟨a+1,by go_num,by omega,omg g,Z (c.out.trans ap.out)⟩
 case neg=>
 have P:¬(a:Int)<(t:Int):=af
 go_upto_region 19 with(fail)
 obtain⟨c8,rfl⟩:∃E:World,E=wr:=⟨_,rfl⟩;have cI:=c;clear c N P M g j f;go_loopg [8] (u+1) (λe o q=>∃a:Nat,o=.int .i64 a/\a<=u/\u-a<e/\Hid (ag aC q))
 case atStart=>exact⟨0,rfl,by omega,by omega,cI⟩
 case round=>
 obtain⟨a,rfl,M,y,c⟩:=hrel;have g:=Z y;clear y;have j:=bF (qb c D);have f:=bF (qb c A);by_cases N:a<u
 case pos=>
  have o:(a:Int)<(u:Int):=af
  have G:a<V.length:=omg cu
  have Q:a<W.length:=omg cv
  have F:=Z (al.out.trans c.out);obtain⟨v,R,k,o,e⟩:=(aB.out.same F.out).2.2 a G;have ar:a5=some ⟨v,R,none⟩:=k;clear k;subst ar;obtain⟨d,Y,n,o,b⟩:=(aP.out.same F.out).2.2 a Q;have au:ba=some ⟨d,Y,none⟩:=n;clear n;subst au;have B:=Z (λC (o:ag wr C)=>a0.out a G Q C (F.out.trans o));obtain⟨aw,o⟩:=av V[a];obtain⟨ax,q⟩:=av W[a];rw[<-o]at e B;rw[<-q]at b B;clear o q;obtain⟨ad,aD,i,⟨aF,aG,aI⟩,cN,aQ,⟨aR,aT,aU⟩,cO,aV,aW,⟨aX,bg,bh⟩,cP,⟨bj,bM,bN⟩,cQ⟩:=aw;obtain⟨ao,bO,bP,⟨bQ,bR,bS⟩,cR,bT,⟨bU,bV,bW⟩,cS,bX,bY,⟨bZ,b0,b1⟩,cT,⟨b2,b3,cJ⟩,cU⟩:=ax;have pU:=aH (show ae wr (ac v (R+a*10)) ad by have h:=e 0 _ rfl;simpa using h);have pV:=aH (e 1 _ rfl);have pW:=aH (e 2 _ rfl);have pX:=aH (e 3 _ rfl);have JP:=aH (e 4 _ rfl);have JQ:=aH (e 5 _ rfl);have u16:=aH (e 6 _ rfl);have JR:=aH (e 7 _ rfl);have Lh:=aH (e 8 _ rfl);have Li:=aH (e 9 _ rfl);have u20:=aH (show ae wr (ac d (Y+a*10)) ao by have h:=b 0 _ rfl;simpa using h);have u21:=aH (b 1 _ rfl);have u22:=aH (b 2 _ rfl);have u23:=aH (b 3 _ rfl);have u24:=aH (b 4 _ rfl);have u25:=aH (b 5 _ rfl);have u26:=aH (b 6 _ rfl);have u27:=aH (b 7 _ rfl);have u28:=aH (b 8 _ rfl);have u29:=aH (b 9 _ rfl);have i:Hid (Rt 49 #[.agg #[ad,aD,i,O aF aG aI,aQ,O aR aT aU,aV,aW,O aX bg bh,O bj bM bN],.agg #[ao,bO,bP,O bQ bR bS,bT,O bU bV bW,bX,bY,O bZ b0 b1,O b2 b3 cJ]] wr (.bool true)):=B;have cK:=kZ (w:=wr) i.out;have o:=aH j;have o:=aH f;clear e b B i;go_upto_region 21 with(fail)
  clear j f;refine wp_region_quiet_below am am ?_;repeat (go_big_quiet_step (first|(go_at_call 49;exact cK _ _)))
  refine wpQuiet_nil ?_;intro _ cL;obtain⟨⟨ap,osq⟩,cM⟩:=cL;subst cM;have aq:=Z (ag.reg wr ap osq);generalize Sort.grow (redrawn wr ap) osq=cV at aq⊢;go_wp2;go_roundg (u-a)
  case measure=>have:=g.out;omega
  exact⟨a+1,by go_num,by omega,omg g,Z (c.out.trans aq.out)⟩
 case neg=>
 have P:¬(a:Int)<(u:Int):=af
 go_upto_region 24 with(fail)
 obtain⟨c9,rfl⟩:∃E:World,E=wr:=⟨_,rfl⟩;have cJ:=c;clear c N P M g j f;go_loopg [9] (s+1) (λe i o=>∃a:Nat,i=.int .i64 a/\a<=s/\s-a<e/\Hid (ag aC o))
 case atStart=>exact⟨0,rfl,by omega,by omega,cJ⟩
 case round=>
 obtain⟨a,rfl,M,y,c⟩:=hrel;have g:=Z y;clear y;have j:=bi (qb c D);have f:=bi (qb c A);by_cases N:a<s
 case neg=>
  have P:¬(a:Int)<(s:Int):=af
  go_wp2;go_ret;exact⟨rfl,al.out.trans c.out⟩
 case pos=>
 have i:(a:Int)<(s:Int):=af
 have bM:a<K.length:=omg cr
 have bN:a<L.length:=omg cs
 have aQ:=Z (al.out.trans c.out);obtain⟨v,bg,k,i,ao⟩:=(L3.out.same aQ.out).2.2 a bM;have cK:a3=some ⟨v,bg,none⟩:=k;clear k;subst cK;obtain⟨d,Y,n,aR,b⟩:=(M3.out.same aQ.out).2.2 a bN;have cL:a8=some ⟨d,Y,none⟩:=n;clear n;subst cL;obtain⟨ap,i,k⟩:=b6.out a bM bN;replace ap:K[a].mt=L[a].mt:=ap;have Q:=Z (i.l.same aQ.out);have ad:=Z (k.l.same aQ.out);replace Q:Hid (aE wr 7 K[a].h Wg.cells K[a].terms):=Q;replace ad:Hid (aE wr 7 L[a].h Wg.cells L[a].terms):=ad;clear i k;generalize K[a]=bh at ao Q ap;generalize L[a]=cM at b ad ap;obtain⟨R,ar,aq,⟨aD,e,aT⟩,au⟩:=bh;obtain⟨db,dc,da,⟨aF,bO,aU⟩,dd⟩:=cM;simp only[dF.mt]at ap;injection ap with f1 f2 f3 f4
 subst f1 f2 f3 f4;have bP:au.length=e:=Q.out.1;obtain rfl:e=bO:=by have h2:au.length=bO:=ad.out.1;omega
 have i:e<=9223372036854775807:=Q.out.2.1;have cN:=Z bP;clear bP;have pU:=(show ae wr (ac v (bg+a*4)) R by have h:=ao 0 _ rfl;simpa using h);have pV:=(ao 1 _ rfl);have pW:=(ao 2 _ rfl);have pX:=(ao 3 _ rfl);have u20:=(show ae wr (ac d (Y+a*4)) R by have h:=b 0 _ rfl;simpa using h);have u21:=(b 1 _ rfl);have u22:=(b 2 _ rfl);have u23:=(b 3 _ rfl);replace Q:Hid (aE wr 7 ⟨aD,e,aT⟩ Wg.cells au):=Q;replace ad:Hid (aE wr 7 ⟨aF,e,aU⟩ Wg.cells au):=ad;replace pX:ae wr (ac v (bg+a*4+3)) (O aD e aT):=pX;replace u23:ae wr (ac d (Y+a*4+3)) (O aF e aU):=u23;go_upto_region 27 with(first|(refine wpList_store_row rfl 55 (.tmp 10) (.tmp 140) rfl wr.heap.size #[R,ar,aq,O aD e aT] rfl rfl 55 #[ai,J 0,J 0,ab] (aa.new wr 55 #[ai,J 0,J 0,ab]) am rfl bw ?_;rw[World.setRow_alloc_new])|fail)
 obtain⟨bj,i,cO,aw,-⟩:=nb wr 55 #[R,ar,aq,O aD e aT];rw[i];clear i j;try rw[ie]
 replace u20:=(ag.cell aw.out (p:=(ac d (Y+a*4))) aR).trans u20;replace u21:=(ag.cell aw.out (p:=(ac d (Y+a*4+1))) aR).trans u21;replace u22:=(ag.cell aw.out (p:=(ac d (Y+a*4+2))) aR).trans u22;replace u23:=(ag.cell aw.out (p:=(ac d (Y+a*4+3))) aR).trans u23;clear f pU pV pW pX;have f:=bi (qb aw (qb c A));go_upto_region 28 with(first|(refine wpList_store_row rfl 55 (.tmp 11) (.tmp 145) rfl bj.heap.size #[R,ar,aq,O aF e aU] rfl rfl 55 #[ai,J 0,J 0,ab] (aa.new bj 55 #[ai,J 0,J 0,ab]) am rfl bw ?_;rw[World.setRow_alloc_new])|fail)
 obtain⟨cP,d,aG,i,-⟩:=nb bj 55 #[R,ar,aq,O aF e aU];rw[d];clear d f u20 u21 u22 u23;try rw[ie]
 have aI:=qb i cO;have d:=Z (aw.out.trans i.out);have cQ:=Z (Q.out.same d.out);have cR:=Z (ad.out.same d.out);have cS:=Z (c.out.trans d.out);have bQ:(R.toList==R.toList)=true:=aj
 have X:(ar !=ar)=false:=aj
 have an:(aq !=aq)=false:=aj
 have cT:((e:Int) !=(e:Int))=false:=aj
 have cU:=ay aI;have cV:=aS aI;have cW:=aZ aI;have aV:=bi aI;have cX:=ay aG;have cY:=aS aG;have cZ:=aZ aG;have aW:=bi aG;go_upto_region 31 with(fail)
 obtain⟨de,rfl⟩:∃E:World,E=wr:=⟨_,rfl⟩;clear cU cV cW aV cX cY cZ aW bQ X an cT ao b;go_loopg [12] (e+1) (λc d f=>∃b:Nat,d=.int .i64 b/\b<=e/\e-b<c/\Hid (ag cP f))
 case atStart=>exact⟨0,rfl,by omega,by omega,Z (ag.refl _)⟩
 case round=>
 obtain⟨B,rfl,df,bR,ax⟩:=hrel;have bS:=Z bR;clear bR;have aV:=bi (qb ax aI);have aW:=bi (qb ax aG);by_cases b:B<e
 case neg=>
  have b:¬(B:Int)<(e:Int):=af
  go_wp2;go_roundg (s-a)
  case measure=>have:=g.out;omega
  exact⟨a+1,by go_num,by omega,omg g,Z (cS.out.trans ax.out)⟩
 case pos=>
 have a:(B:Int)<(e:Int):=af
 have bT:B<au.length:=omg cN
 obtain⟨bb,bU,ak,a,F⟩:=(cQ.out.same ax.out).2.2 B bT;have c0:aD=some ⟨bb,bU,none⟩:=ak;clear ak;subst c0;obtain⟨bc,bV,aJ,a,G⟩:=(cR.out.same ax.out).2.2 B bT;have c1:aF=some ⟨bc,bV,none⟩:=aJ;clear aJ;subst c1;generalize au[B]=bh at F G;obtain⟨aX,bW,bX,bY,bZ,b0,b1⟩:=bh;have a:=aH (show ae wr (ac bb (bU+B*7)) aX by have h:=F 0 _ rfl;simpa using h);have a:=aH (F 1 _ rfl);have a:=aH (F 2 _ rfl);have a:=aH (F 3 _ rfl);have a:=aH (F 4 _ rfl);have a:=aH (F 5 _ rfl);have a:=aH (F 6 _ rfl);have a:=aH (show ae wr (ac bc (bV+B*7)) aX by have h:=G 0 _ rfl;simpa using h);have a:=aH (G 1 _ rfl);have a:=aH (G 2 _ rfl);have a:=aH (G 3 _ rfl);have a:=aH (G 4 _ rfl);have a:=aH (G 5 _ rfl);have a:=aH (G 6 _ rfl);clear F G;have bQ:(aX !=aX)=false:=aj
 have X:(bW !=bW)=false:=aj
 have an:(bX !=bX)=false:=aj
 have bd:(bY !=bY)=false:=aj
 have be:(bZ !=bZ)=false:=aj
 have bf:(b0 !=b0)=false:=aj
 have a:(b1 !=b1)=false:=aj
 have a:=aH aV;have a:=aH aW;go_upto_region 33 with(fail)
 clear aV aW;refine wp_region_quiet_below am am ?_;repeat (go_big_quiet_step (fail))
 refine wpQuiet_nil ?_;intro _ c2;obtain⟨⟨b2,osq⟩,c3⟩:=c2;subst c3;have b3:=Z (ag.reg wr b2 osq);generalize Sort.grow (redrawn wr b2) osq=dg at b3⊢;go_wp2;go_roundg (e-B)
 case measure=>have:=bS.out;omega
 exact⟨B+1,by go_num,by omega,omg bS,Z (ax.out.trans b3.out)⟩
theorem JU {L:ah} {h h2:Hd} {j k:List RT} (ax:bI L h j) (aM:bI L h2 k) (bL:j.length=k.length)
 (a9:∀a (aN:a<j.length) (h2:a<k.length),j[a].name=k[a].name/\j[a].key=k[a].key/\j[a].ra.map RA.at_=k[a].ra.map RA.at_):
 Calls prog 28 #[.agg #[h.val],.agg #[h2.val],.bool false] L λba bM=>ba=.returned (.bool true)/\ag L bM:=by
 obtain⟨bb,e,bN⟩:=h;obtain⟨hA2,bc,z⟩:=h2;have aN:j.length=e:=ax.1.1;have h2:k.length=bc:=aM.1.1;obtain rfl:e=bc:=af
 have bc:e<=9223372036854775807:=ax.1.2.1;have bO:=Z aN;have bP:=Z h2;have bQ:=Z a9;have bd:=Z ax;have be:=Z aM;have bR:((e:Int) !=(e:Int))=false:=aj
 clear ax aM aN h2 a9 bL;show Calls prog 28 #[.agg #[O bb e bN],.agg #[O hA2 e z],.bool false] L _;go_enter func28,ntmps28
 go_upto_region 1 with(fail)
 obtain⟨aN,t,ax,L,aM⟩:=nb L 29 _;rw[t];clear t;have aN:=L;obtain⟨bS,A,aO,L,a9⟩:=nc aM 29 _;rw[A];clear A;have bf:=Z (aN.out.trans L.out);have bg:=qb L ax;clear L aN ax aM a9;have bT:=ay bg;have bU:=ay aO;go_upto_region 4 with(fail)
 clear bT bU bR;go_loopg [7] (e+1) (λb c d=>∃a:Nat,c=.int .i64 a/\a<=e/\e-a<b/\Hid (ag bS d))
 case atStart=>exact⟨0,rfl,by omega,by omega,Z (ag.refl _)⟩
 case round=>
 obtain⟨a,rfl,cA,bh,M⟩:=hrel;have bj:=Z bh;clear bh;have bV:=ay (qb M bg);have aP:=ay (qb M aO);by_cases L:a<e
 case neg=>
  have b:¬(a:Int)<(e:Int):=af
  go_wp2;go_ret;exact⟨rfl,bf.out.trans M.out⟩
 case pos=>
 have L:(a:Int)<(e:Int):=af
 have aQ:a<j.length:=omg bO
 have aR:a<k.length:=omg bP
 have az:=Z (bf.out.trans M.out);obtain⟨aA,aB,L,ax,T⟩:=(bd.out.1.same az.out).2.2 a aQ;have bW:bb=some ⟨aA,aB,none⟩:=L;clear L;subst bW;obtain⟨B,C,L,aT,z⟩:=(be.out.1.same az.out).2.2 a aR;have bX:hA2=some ⟨B,C,none⟩:=L;clear L;subst bX;obtain⟨aU,aV,D⟩:=bQ.out a aQ aR;have N:=fq.same (bd.out.2 _ (List.getElem_mem aQ)) az.out;have U:=fq.same (be.out.2 _ (List.getElem_mem aR)) az.out;generalize j[a]=u at T N aU aV D;generalize k[a]=aW at z U aU aV D;obtain⟨l,⟨V,c,aC⟩,W,⟨X,Y,ad⟩,bk⟩:=u;obtain⟨bY,⟨ak,bm,aD⟩,al,⟨an,ao,ap⟩,bZ⟩:=aW;obtain rfl:l=bY:=aU;obtain rfl:bk=bZ:=aV;have D:W.map RA.at_=al.map RA.at_:=D;have aq:W.length=c:=N.1.1.1;have bn:al.length=bm:=U.1.1.1;obtain rfl:c=bm:=by have h:=congrArg List.length D;simp at h;omega
 have j:c<=9223372036854775807:=N.1.1.2.1;have b0:=Z aq;have b1:=Z bn;have b2:=Z D;have b3:Hid (fp wr ⟨V,c,aC⟩ W):=Z N.1;have b4:Hid (fp wr ⟨ak,c,aD⟩ al):=Z U.1;have b5:Hid (Rt 34 #[O X Y ad,O an ao ap] wr (.bool true)):=Z (λd b=>rH ⟨X,Y,ad⟩ ⟨an,ao,ap⟩ bk d (cY.same N.2.1 b) (cY.same U.2.1 b));clear N U D aq bn;have pU:ae wr (ac aA (aB+a*3)) l:=by have h:=T 0 _ rfl;simpa using h
 have pV:ae wr (ac aA (aB+a*3+1)) (O V c aC):=T 1 _ rfl;have pW:ae wr (ac aA (aB+a*3+2)) (O X Y ad):=T 2 _ rfl;have u20:ae wr (ac B (C+a*3)) l:=by have h:=z 0 _ rfl;simpa using h
 have u21:ae wr (ac B (C+a*3+1)) (O ak c aD):=z 1 _ rfl;have u22:ae wr (ac B (C+a*3+2)) (O an ao ap):=z 2 _ rfl;clear T z;go_upto_region 7 with(first|(refine wpList_store_row rfl 81 (.tmp 8) (.tmp 32) rfl wr.heap.size #[l,O V c aC,O X Y ad] rfl rfl 81 #[ai,ab,ab] (aa.new wr 81 #[ai,ab,ab]) am rfl bw ?_;rw[World.setRow_alloc_new])|fail)
 obtain⟨aX,j,bo,ar,-⟩:=nb wr 81 #[l,O V c aC,O X Y ad];rw[j];clear j;try rw[ie]
 replace u20:=(ag.cell ar.out (p:=(ac B (C+a*3))) aT).trans u20;replace u21:=(ag.cell ar.out (p:=(ac B (C+a*3+1))) aT).trans u21;replace u22:=(ag.cell ar.out (p:=(ac B (C+a*3+2))) aT).trans u22;clear bV aP pU pV pW;have aP:=ay (qb ar (qb M aO));go_upto_region 8 with(first|(refine wpList_store_row rfl 81 (.tmp 9) (.tmp 37) rfl aX.heap.size #[l,O ak c aD,O an ao ap] rfl rfl 81 #[ai,ab,ab] (aa.new aX 81 #[ai,ab,ab]) am rfl bw ?_;rw[World.setRow_alloc_new])|fail)
 obtain⟨b6,j,aF,k,-⟩:=nb aX 81 #[l,O ak c aD,O an ao ap];rw[j];clear j;try rw[ie]
 clear aP u20 u21 u22;have aG:=qb k bo;have bp:=Z (ar.out.trans k.out);have aI:(l.toList==l.toList)=true:=aj
 have aY:((c:Int) !=(c:Int))=false:=aj
 have a0:=ay aG;have P:=aZ aG;have a1:=ay aF;have Q:=aZ aF;go_wp2_with fail
 refine(b5.out b6 bp.out).mono ?_;rintro ba b7 ⟨rfl,aJ⟩;have j:=Z (bp.out.trans aJ);have bq:=qb (Z aJ) aG;have a2:=qb (Z aJ) aF;have b8:=Z (M.out.trans j.out);have br:=Z (b3.out.same j.out);have bs:=Z (b4.out.same j.out);clear a0 P a1 Q aJ aG bo aF;have au:=aS bq;have E:=aS a2;go_upto_region 11 with(fail)
 obtain⟨cB,rfl⟩:∃a3:World,a3=wr:=⟨_,rfl⟩;clear au E aY aI;go_loopg [10] (c+1) (λd f g=>∃b:Nat,f=.int .i64 b/\b<=c/\c-b<d/\Hid (ag b7 g))
 case atStart=>exact⟨0,rfl,by omega,by omega,Z (ag.refl _)⟩
 case round=>
 obtain⟨b,rfl,cC,bt,m⟩:=hrel;have bu:=Z bt;clear bt;have au:=aS (qb m bq);have E:=aS (qb m a2);by_cases j:b<c
 case neg=>
  have d:¬(b:Int)<(c:Int):=af
  go_wp2;go_roundg (e-a)
  case measure=>have:=bj.out;omega
  exact⟨a+1,by go_num,by omega,omg bj,Z (b8.out.trans m.out)⟩
 case pos=>
 have a:(b:Int)<(c:Int):=af
 have a4:b<W.length:=omg b0
 have a5:b<al.length:=omg b1
 obtain⟨F,G,a,e,v⟩:=(br.out.1.same m.out).2.2 b a4;have b9:V=some ⟨F,G,none⟩:=a;clear a;subst b9;obtain⟨f,g,a,R,w⟩:=(bs.out.1.same m.out).2.2 b a5;have ca:ak=some ⟨f,g,none⟩:=a;clear a;subst ca;have x:=congrArg (λa=>a[b]?) b2.out;simp only[List.getElem?_map,List.getElem?_eq_getElem a4,List.getElem?_eq_getElem a5,Option.map_some]at x;have x:=Option.some.inj x;have t:=(br.out.2 _ (List.getElem_mem a4)).1.1.same m.out;have A:=(bs.out.2 _ (List.getElem_mem a5)).1.1.same m.out;generalize W[b]=u at v x t;generalize al[b]=aW at w x A;obtain⟨⟨n,o,H,⟨q,r,s⟩⟩,⟨av,d,aK⟩⟩:=u;obtain⟨cb,⟨aw,bv,aL⟩⟩:=aW;have x:(⟨n,o,H,⟨q,r,s⟩⟩:At)=cb:=x;subst x;have bx:H.length=d:=t.1;have cc:H.length=bv:=A.1;obtain rfl:d=bv:=af
 have a:d<=9223372036854775807:=t.2.1;have cd:=Z bx;have ce:Hid (aE wr 1 ⟨av,d,aK⟩ cq H):=Z t;have cf:Hid (aE wr 1 ⟨aw,d,aL⟩ cq H):=Z A;clear bx cc t A;have u30:ae wr (ac F (G+b*6)) n:=by have h:=v 0 _ rfl;simpa using h
 have u31:ae wr (ac F (G+b*6+1)) o:=v 1 _ rfl;have u32:ae wr (ac F (G+b*6+2)) (O av d aK):=v 2 _ rfl;have u33:ae wr (ac F (G+b*6+3)) q:=v 3 _ rfl;have u34:ae wr (ac F (G+b*6+4)) r:=v 4 _ rfl;have u35:ae wr (ac F (G+b*6+5)) s:=v 5 _ rfl;have u40:ae wr (ac f (g+b*6)) n:=by have h:=w 0 _ rfl;simpa using h
 have ug:ae wr (ac f (g+b*6+1)) o:=w 1 _ rfl;have u42:ae wr (ac f (g+b*6+2)) (O aw d aL):=w 2 _ rfl;have uh:ae wr (ac f (g+b*6+3)) q:=w 3 _ rfl;have u44:ae wr (ac f (g+b*6+4)) r:=w 4 _ rfl;have u45:ae wr (ac f (g+b*6+5)) s:=w 5 _ rfl;clear v w;go_upto_region 14 with(first|(refine wpList_store_row rfl 111 (.tmp 11) (.tmp 75) rfl wr.heap.size #[n,o,O av d aK,q,r,s] rfl rfl 111 #[ai,J 0,ab,J 0,J 0,ai] (aa.new wr 111 #[ai,J 0,ab,J 0,J 0,ai]) am rfl bw ?_;rw[World.setRow_alloc_new])|fail)
 obtain⟨a6,a,cg,y,-⟩:=nb wr 111 #[n,o,O av d aK,q,r,s];rw[a];clear a;try rw[ie]
 replace u40:=(ag.cell y.out (p:=(ac f (g+b*6))) R).trans u40;replace ug:=(ag.cell y.out (p:=(ac f (g+b*6+1))) R).trans ug;replace u42:=(ag.cell y.out (p:=(ac f (g+b*6+2))) R).trans u42;replace uh:=(ag.cell y.out (p:=(ac f (g+b*6+3))) R).trans uh;replace u44:=(ag.cell y.out (p:=(ac f (g+b*6+4))) R).trans u44;replace u45:=(ag.cell y.out (p:=(ac f (g+b*6+5))) R).trans u45;clear au E u30 u31 u32 u33 u34 u35;have E:=aS (qb y (qb m a2));go_upto_region 15 with(first|(refine wpList_store_row rfl 111 (.tmp 12) (.tmp 80) rfl a6.heap.size #[n,o,O aw d aL,q,r,s] rfl rfl 111 #[ai,J 0,ab,J 0,J 0,ai] (aa.new a6 111 #[ai,J 0,ab,J 0,J 0,ai]) am rfl bw ?_;rw[World.setRow_alloc_new])|fail)
 obtain⟨ch,a,I,e,-⟩:=nb a6 111 #[n,o,O aw d aL,q,r,s];rw[a];clear a;try rw[ie]
 clear E u40 ug u42 uh u44 u45;have K:=qb e cg;have a:=Z (y.out.trans e.out);have ci:=Z (m.out.trans a.out);have cj:=Z (ce.out.same a.out);have ck:=Z (cf.out.same a.out);have aI:(n.toList==n.toList)=true:=aj
 have cl:(o !=o)=false:=aj
 have cm:(q !=q)=false:=aj
 have cn:(r !=r)=false:=aj
 have co:(s.toList==s.toList)=true:=aj
 have aY:((d:Int) !=(d:Int))=false:=aj
 have a0:=ay K;have a1:=ay I;have au:=aS K;have E:=aS I;have P:=aZ K;have Q:=aZ I;have cp:=bi K;have cr:=bi I;have cs:=bl K;have ct:=bl I;have cu:=bF K;have cv:=bF I;go_upto_region 18 with(fail)
 obtain⟨cD,rfl⟩:∃a3:World,a3=wr:=⟨_,rfl⟩;clear a0 au P cp cs cu a1 E Q cr ct cv aI cl cm cn co aY;go_loopg [13] (d+1) (λe f g=>∃a:Nat,f=.int .i64 a/\a<=d/\d-a<e/\Hid (ag ch g))
 case atStart=>exact⟨0,rfl,by omega,by omega,Z (ag.refl _)⟩
 case round=>
 obtain⟨i,rfl,cE,bz,S⟩:=hrel;have bA:=Z bz;clear bz;have P:=aZ (qb S K);have Q:=aZ (qb S I);by_cases a:i<d
 case neg=>
  have a:¬(i:Int)<(d:Int):=af
  go_wp2;go_roundg (c-b)
  case measure=>have:=bu.out;omega
  exact⟨b+1,by go_num,by omega,omg bu,Z (ci.out.trans S.out)⟩
 case pos=>
 have a:(i:Int)<(d:Int):=af
 have aq:i<H.length:=omg cd
 obtain⟨bB,bC,a,b,a7⟩:=(cj.out.same S.out).2.2 i aq;have cw:av=some ⟨bB,bC,none⟩:=a;clear a;subst cw;obtain⟨bD,bE,a,b,a8⟩:=(ck.out.same S.out).2.2 i aq;have cx:aw=some ⟨bD,bE,none⟩:=a;clear a;subst cx;generalize H[i]=u at a7 a8;have bG:ae wr (ac bB (bC+i)) u:=by have h:=a7 0 _ rfl;simpa[cq]using h
 have bH:ae wr (ac bD (bE+i)) u:=by have h:=a8 0 _ rfl;simpa[cq]using h
 have aI:(u.toList==u.toList)=true:=aj
 have a:=aH bG;have a:=aH bH;have a:=aH P;have a:=aH Q;clear a7 a8;go_upto_region 20 with(fail)
 clear P Q bG bH;refine wp_region_quiet_below am am ?_;repeat (go_big_quiet_step (fail))
 refine wpQuiet_nil ?_;intro _ cy;obtain⟨⟨bJ,osq⟩,cz⟩:=cy;subst cz;have bK:=Z (ag.reg wr bJ osq);generalize Sort.grow (redrawn wr bJ) osq=cF at bK⊢;go_wp2;go_roundg (d-i)
 case measure=>have:=bA.out;omega
 exact⟨i+1,by go_num,by omega,omg bA,Z (S.out.trans bK.out)⟩
theorem JV {b c:List RT} (h:b.map RT.tb=c.map RT.tb):b.length=c.length/\∀a (d:a<b.length) (h2:a<c.length),b[a].name=c[a].name/\b[a].key=c[a].key/\b[a].ra.map RA.at_=c[a].ra.map RA.at_:=by
 have e:=congrArg List.length h;simp only[List.length_map]at e;refine⟨e,λa d h2=>?_⟩;have f:(b.map RT.tb)[a]'(by simpa using d)=(c.map RT.tb)[a]'(by simpa using h2):=by simp only[h]
 simp only[List.getElem_map,RT.tb]at f;injection f with e2 e3 e4
 exact⟨e2,e4,e3⟩
theorem JW {i aF:Nat} {b:ah} {h h2:Hd} {aj ak:List RT} {e f:cd} (g:eK i b h aj e) (i:eK aF b h2 ak f) (a:e.su (aj.map RT.tb)=f.su (ak.map RT.tb)):
 Calls prog 16 #[.agg (bt h e),.agg (bt h2 f)] b λa aj=>a=.returned (.bool true)/\ag b aj:=by
 obtain⟨aj,ak⟩:=JV (congrArg Su.tabs a);have q:=Z (λd (c:ag b d)=>JU (h:=h) (h2:=h2) (bI.same g.ta c) (bI.same i.ta c) aj ak);have r:=Z (λd (c:ag b d)=>JT (g.same c) (i.same c) (congrArg Su.origins a) (congrArg Su.blocks a) (congrArg Su.fr a) (congrArg Su.keeps a) (congrArg Su.rules a));have s:=Z (λd (c:ag b d)=>JO (g.same c) (i.same c) (congrArg Su.queries a));clear g i a aj ak;obtain⟨j,k,l⟩:=h;obtain⟨m,n,o⟩:=h2;obtain⟨⟨t,u,v⟩,⟨w,x,y⟩,⟨z,A,B⟩,⟨C,D,E⟩,⟨F,G,H⟩,⟨I,J,K⟩,aK,aL,aM,aN,aO,aP⟩:=e;obtain⟨⟨L,M,N⟩,⟨P,Q,R⟩,⟨S,T,U⟩,⟨V,W,X⟩,⟨Y,aa,ab⟩,⟨ac,ad,ae⟩,aQ,aR,aT,aU,aV,aW⟩:=f;replace q:Hid (Rt 28 #[.agg #[O j k l],.agg #[O m n o],.bool false] b (.bool true)):=q;replace r:Hid (Rt 29 #[.agg #[O j k l,O t u v,O w x y,O z A B,O C D E,O F G H,O I J K],.agg #[O m n o,O L M N,O P Q R,O S T U,O V W X,O Y aa ab,O ac ad ae]] b (.bool true)):=r;replace s:Hid (Rt 30 #[.agg #[O j k l,O t u v,O w x y,O z A B,O C D E,O F G H,O I J K],.agg #[O m n o,O L M N,O P Q R,O S T U,O V W X,O Y aa ab,O ac ad ae]] b (.bool true)):=s;show Calls prog 16 #[.agg #[O j k l,O t u v,O w x y,O z A B,O C D E,O F G H,O I J K],.agg #[O m n o,O L M N,O P Q R,O S T U,O V W X,O Y aa ab,O ac ad ae]] b _;go_enter func16,ntmps16
 go_upto_region 1 with(fail)
 obtain⟨i,b,e,f,g⟩:=nb b 37 _;rw[b];clear b;obtain⟨aG,i,al,b,-⟩:=nc g 37 _;rw[i];clear i;have am:=Z (f.out.trans b.out);have an:=qb b e;clear e f b g;have p:=ay an;have e0:=ay al;go_wp2_with fail
 refine(q.out aG am.out).mono ?_;rintro a aH ⟨rfl,af⟩;have b:=Z af;have ao:=Z (am.out.trans af);have c:=qb b an;have d:=qb b al;clear p e0 af;have p:=ay c;have e0:=ay d;have ap:=aS c;have aq:=aS d;have ar:=aZ c;have au:=aZ d;have av:=bi c;have aw:=bi d;have ax:=bl c;have az:=bl d;have aA:=bF c;have aB:=bF d;have aC:=b3 c;have aD:=b3 d;go_wp2_with fail
 refine(r.out aH ao.out).mono ?_;rintro a aI ⟨rfl,ai⟩;have e:=Z ai;have aE:=Z (ao.out.trans ai);have b:=qb e c;have c:=qb e d;clear p e0 ap aq ar au av aw ax az aA aB aC aD ai;have p:=ay b;have e0:=ay c;have ap:=aS b;have aq:=aS c;have ar:=aZ b;have au:=aZ c;have av:=bi b;have aw:=bi c;have ax:=bl b;have az:=bl c;have aA:=bF b;have aB:=bF c;have aC:=b3 b;have aD:=b3 c;go_wp2_with fail
 refine(s.out aI aE.out).mono ?_;rintro a a ⟨rfl,aJ⟩;go_wp2;go_ret;exact⟨rfl,aE.out.trans aJ⟩
end Go.Proofs.YteamkimbmdgdbaaGreatDoor
