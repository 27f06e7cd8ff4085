import Derived.Test.YteamkimbmdgdbaaGreatDoorK27
import Derived.Test.YteamkimbmdgdbaaGreatDoorK28
set_option linter.unusedSimpArgs false
set_option linter.unusedVariables false
set_option maxHeartbeats 16000000
set_option maxRecDepth 100000
namespace Go.Proofs.YteamkimbmdgdbaaGreatDoor
open Go.RowKit
theorem RI.one (a:RI):a.cells.toArray.all (·.oneCell')=true:=by
 obtain⟨c,d,e,f,g,i,j,k,l,m,n,o,p,q,r,s,t,u,v,w,x,y,b⟩:=a;cases b;simp[RI.cells,RE.cells,Hd.val,Value.oneCell']
theorem se:b6.all (·.oneCell')=true:=by simp[b6,Value.oneCell']
theorem Tryz.lg:(Tryz.prog.info? 37).map (·.size)=some b6.size:=ak
theorem Fa {a:Int} {v:ay} (h:gu a=some v):∃a,v=.func (.func a) #[] #[]:=by
 unfold gu at h;repeat' split at h
 all_goals first|exact⟨_,(Option.some.inj h).symm⟩|cases h
theorem oX (a:Act):a.put none undef=a:=rfl
theorem jy {b:Program} {g:Func} {p u:Tmp} {c:bb} (h:g.results=#[.cell p c,.tmp u]) (d:aO) (a:af) (e:Nat) (i:bb) (cs:aO) (f:TypeDesc)
 (j:d.getD p undef=.pointer (some ⟨e,0,none⟩)) (k:a.heap[e]?=some (.cells cs i (0,0))) (l:b.underlying c=some f) (m:(match f with|.struct _|.array _ _=>true|_=>false)=true) (n:(b.info? c).map (·.size)=some cs.size):
 (results g d).run b a=.ok (.tuple #[.agg cs,d.getD u undef]) a:=by
 have b:(asAddr (d.getD p undef)).run b a=.ok ⟨e,0,none⟩ a:=by rw[j];rfl
 rw[results_cell_tmp h,b];simp[Result.andThen,run_loadVar_row a e i c cs (0,0) f k l m n]
theorem Fb (h aR:Hd) (rs:List RI) (cs:List Cg) (d:af) (aS:Ending->World->Prop) (aU:Hid (aS=gy d (cP (rs.map RI.it) cs))) (aV:aF d 25 h RI.cells rs) (bk:∀aW∈rs,df d (λj=>j<d.heap.size) aW) (bm:∀aW∈rs,aW.it.dh) (bq:h.n<=200) (aZ:aF d 8 aR Cg.cells cs) (br:∀aW∈cs,aG aW.name/\aG aW.dflt.s) (aW:cs.length<=1000):
 Calls Tryz.prog 37 #[.agg #[h.val],aR.val] d aS:=by
 obtain⟨F,a0,I⟩:=h;obtain⟨bs,cm,cn⟩:=aR;have co:rs.length=a0:=aV.1;subst co;have cp:cs.length=cm:=aZ.1;subst cp;have cq:=Z aZ;have bt:=Z br;have bu:=Z aV;have bv:=Z bk;have aw:=Z bm;have a1:rs.length<=200:=bq;have al:decide ((200:Int)<(rs.length:Int))=false:=by
  simp;omega
 clear aV bk bq bm aZ br;have cr:=@run_makeMap Tryz.prog;have ct:=Dh rs.length ae;show Calls Tryz.prog 37 #[.agg #[U F rs.length I],U bs cs.length cn] d aS;go_enter Tryz.func37,Tryz.ntmps37
 go_upto_region 5 with(fail)
 have ax:=Z (Di d (U F rs.length I) rs);unfold b6 at ax;obtain⟨aS,aR⟩:∃b,b=((((((d.alloc (.cells #[U F rs.length I] 24)).alloc (.cells #[aa,aa,aa,aa,aa,aa,aa] 37)).alloc (.map #[] 0)).alloc (.cells #[aa,aa,aa,aa,aa,aa,aa,.map (some (d.heap.size+1+1)),O 0] 157)).alloc (.cells #[aj (d.heap.size+1+1+1)] 154)).alloc (.cells ((List.replicate rs.length ((0:Int),(0:Int))).flatMap dP).toArray 97)):=⟨_,rfl⟩;rw[<-aR]at ax⊢;clear aR ct cr al;obtain⟨aS,aV,u0,aW,aZ,bk,aR,bm,bq,br,cm,cn,co,cp⟩:=id ax.out;have cu:=az aR;clear bk aR bm bq br cm cn co cp aS aV u0 aW aZ;go_upto_region 6 with(fail)
 go_loopg [41] (rs.length+1) (λk m wr=>∃i:Nat,m=.int .i64 i/\i<=rs.length/\rs.length-i<k/\Hid (L1 d wr (U F rs.length I) rs i))
 case atStart=>exact⟨0,rfl,by omega,by omega,ax⟩
 obtain⟨i,rfl,cv,T,C⟩:=hrel;have Gk:=Z T;clear T;by_cases al:i<rs.length
 case neg=>
  have cw:¬(i:Int)<rs.length:=ae
  have aI:i=rs.length:=ae
  obtain⟨an,bw,A,ax,bz⟩:=Et (cs:=cs) (by have:=C.out;rw[aI]at this;exact this) a1;have bA:=Z ax;have bB:=Z A;clear ax A C aI;go_upto_region 11 with(fail)
  clear cw;go_loopg [57] (cs.length+1) (λm o r=>∃k:Nat,o=.int .i64 k/\k<=cs.length/\cs.length-k<m/\Hid (L2 d r (U F rs.length I) an bw cs k))
  case atStart=>exact⟨0,rfl,by omega,by omega,bz⟩
  obtain⟨m,rfl,cT,bC,C⟩:=hrel;have bD:=Z bC;clear bC bz;by_cases aL:m<cs.length
  case neg=>
   have ce:¬(m:Int)<cs.length:=ae
   have cf:m=cs.length:=ae
   subst cf;obtain⟨B,K,bz,ax,aR,aS,aV,L,aW,aZ,bk,bm,bq,br⟩:=C.out;have cg:=Z (show fS bw cs=.ok (K.map RT.tb) by rw[br];simp[fS]);have ch:=Z (Ap wr);have hF:=J.lt L;have ci:=Z (λo (r:ag wr o) (t:cH (.int .i64) o wr.heap.size lP)=>(have k:=Kp.of_same (l:=[]) r;⟨ax.trans r,k.blk aR ai,k.blk aS ai,k.blk aV ai,L.kp k ai,⟨bz,k.blk aW ai⟩,aZ.same r,bk,Es bm bq ae ae,t,hF⟩:iO d o (U F rs.length I) B K an wr.heap.size));clear ax aR aS aV L aW aZ bk bm bq br C;go_wp2_with fail
   refine ch.out.mono ?_;rintro E G ⟨R,a2,bE⟩;subst R;have r:=Z (ci G a2 bE);have ao:=aT hF a2.size;have cj:=Z (Ez (rs.map RI.it) r ao);have cu:ac G (am d 0) (U F rs.length I):=J.cell r.bP 0;clear a2 bE;go_upto_region 21 with(fail)
   clear ce;go_loopg [87,14] (rs.length+1) (λk o t z=>∃(i:Nat) (fA:aX) (fn fc:Nat),o=.int .i64 i/\t=.slice fA fn fc/\i<=rs.length/\rs.length-i<k/\Hid (L3 d G z B K an (rs.map RI.it) i ⟨fA,fn,fc⟩))
   case atStart=>exact⟨0,none,0,0,rfl,rfl,by omega,by omega,cj⟩
   obtain⟨i,fA,fn,fc,rfl,rfl,cv,T,C⟩:=hrel;have Gk:=Z T;clear T;obtain⟨b,ck,cl,aR,out,z,T,ax,R⟩:=id C.out;have ap:=Z T;have bF:=Z ax;have bG:=Z R;have a3:=Z (r.same z.kp);have aM:=Z (show fn=out.length from z.hn);clear T ax R;by_cases aN:i<rs.length
   case neg=>
    have aI:i=rs.length:=ae
    have T:eM {Su.zero with tabs:=K.map RT.tb} [] (an.zip (rs.map RI.it))=(b.su (K.map RT.tb),out):=by
     rw[bG.out,aI,List.drop_eq_nil_of_le (by rw[bB.out];exact Nat.le_refl _)];rfl
    have ar:=Z (show cP (rs.map RI.it) cs=(if out=[]then(b.su (K.map RT.tb),[])else(Su.zero,out)) by
     unfold cP;rw[if_pos (by simpa using a1),bA.out];dsimp only;rw[cg.out];dsimp only;rw[T])
    clear T;have o:=Z (z.kp.blk r.bS (ql ae ae));have T:=Z (z.kp.blk r.bp (ql ae ae));have aO:=Z z.wk.bx;have T:=az T;have aP:=se;have Q:=Tryz.lg;have a4:(#[B.val,b.h1.val,b.h2.val,b.h3.val,b.h4.val,b.h5.val,b.h6.val]:Array Value).all (·.oneCell')=true:=by simp[Hd.val,Value.oneCell']
    by_cases V:out=[]
    case pos=>
     have a5:fn=0:=by rw[aM.out,V];rfl
     subst a5;have a6:∀k t,[B.val,b.h1.val,b.h2.val,b.h3.val,b.h4.val,b.h5.val,b.h6.val][k]?=some t->ac wr (ab (d.heap.size+1+1+1) (0+k)) t:=λk t P=>by
      have T:k<7:=(List.getElem?_eq_some_iff.1 P).1;rw[J.cell aO.out (0+k),Nat.zero_add];have:k=0\/k=1\/k=2\/k=3\/k=4\/k=5\/k=6:=ae
      rcases this with E|E|E|E|E|E|E<;>(subst E;exact P)
     have a7:(some 7:Option Nat)=some [B.val,b.h1.val,b.h2.val,b.h3.val,b.h4.val,b.h5.val,b.h6.val].length:=rfl;go_wp2_with (first|(refine mZ rfl 37 (.tmp 135) rfl (d.heap.size+1+1+1) 0 [B.val,b.h1.val,b.h2.val,b.h3.val,b.h4.val,b.h5.val,b.h6.val] rfl a6 _ Tryz.underlying37 rfl a7 ?_)|(refine wpList_store_row rfl 37 (.tmp 4) (.tmp 136) rfl (d.heap.size+1) #[B.val,b.h1.val,b.h2.val,b.h3.val,b.h4.val,b.h5.val,b.h6.val] rfl rfl 37 b6 o.out Q rfl a4 ?_)|fail)
     have T:=jZ wr (d.heap.size+1) #[B.val,b.h1.val,b.h2.val,b.h3.val,b.h4.val,b.h5.val,b.h6.val];have a8:=kM o #[B.val,b.h1.val,b.h2.val,b.h3.val,b.h4.val,b.h5.val,b.h6.val];have aq:=(Kp.refl [d.heap.size+1] _).grown T (λT aq=>.inl (by injection aq with aq;simp[aq]));have ax:=z.wk.kp aq (λj T=>by
      rw[aA T];exact⟨by omega,by omega,λT=>by have:=(z.wk.lt _ T).1;omega⟩)
     have T:=(r.out.wd z.kp).r7 (X:=d.heap.size+1) (λk t P=>by
      rw[J.cell o.out k]at P;exact m3 k t P) aq
     have k:=EA T z.ft z.ss ax ae;refine bodyPost_end (v:=.tuple #[.agg #[B.val,b.h1.val,b.h2.val,b.h3.val,b.h4.val,b.h5.val,b.h6.val],aa]) (jy (p:=4) (u:=5) rfl _ _ (d.heap.size+1) 37 #[B.val,b.h1.val,b.h2.val,b.h3.val,b.h4.val,b.h5.val,b.h6.val] _ rfl a8 Tryz.underlying37 rfl Q) rfl ?_;rw[aU.out,ar.out,if_pos V];exact⟨aq.g4 a3.out (λj t=>by rw[aA t];omega),_,_,rfl,⟨B,K,b,rfl,rfl,k.low r.out.sm.size⟩,⟨aJ,rfl,jw,mf⟩⟩
    have t:0<fn:=by rw[aM.out];exact List.length_pos_iff.2 V
    go_wp2_with (first|(refine wpList_store_row rfl 37 (.tmp 4) (.tmp 131) rfl (d.heap.size+1) b6 rfl rfl 37 b6 o.out Q rfl aP ?_)|fail)
    have t:=jZ wr (d.heap.size+1) b6;have P:=kM o b6;have k:=(Kp.refl [d.heap.size+1] _).grown t (λo k=>.inl (by injection k with k;simp[k]));have t:=cF (h:=⟨fA,fn,fc⟩) p1 aM.out.symm (by show fn<=_;have:=bF.out;have:=aM.out;omega) (l8 z.ow k (λj o a0=>by
     have o:=(b3 z.ow j o).1;rw[aA a0]at o;omega))
    refine bodyPost_ret (v:=.tuple #[.agg b6,U fA fn fc]) (jy (p:=4) (u:=5) rfl _ _ (d.heap.size+1) 37 b6 _ rfl P Tryz.underlying37 rfl Q) rfl ?_;rw[aU.out,ar.out,if_neg V];exact⟨k.g4 a3.out (λj k=>by rw[aA k];omega),_,_,rfl,qn _ _,⟨_,rfl,t,λj k E=>bR r.out.sm.size (k8 (h:=⟨fA,fn,fc⟩) z.ow j k E)⟩⟩
   have T:(i:Int)<rs.length:=ae
   obtain⟨a4,bH,bJ,cx,bK⟩:=bu.out.2.2 i aN;have cy:F=some ⟨a4,bH,none⟩:=bJ;subst cy;have a5:=λm bL aq=>(a3.cell (p:=⟨a4,_,none⟩) cx).trans (bK m bL aq);have bM:(some 25:Option Nat)=some (rs[i]).cells.length:=by simp[RI.len]
   obtain⟨o,T⟩:∃o,o=rs[i]:=⟨_,rfl⟩;rw[<-T]at a5 bM;have bN:=Z T;clear T bK bJ;have cz:(some 25:Option Nat)=some o.cells.toArray.size:=by simp[RI.len]
   have bO:(#[O 0,ah,O 0,ah,ah,aa,aa,O 0,O 0,O 0,aa,ah,ah,aa,aa,aa,O 0,ah,aa,aa,aa,ah,ah,O 0,O 0]:Array Value).size=o.cells.toArray.size:=by simp[RI.len]
   have bT:=RI.one o;have bU:=fx wr (.cells #[O 0,ah,O 0,ah,ah,aa,aa,O 0,O 0,O 0,aa,ah,ah,aa,aa,aa,O 0,ah,aa,aa,aa,ah,ah,O 0,O 0] 95);have bW:=World.setRow_alloc_new wr #[O 0,ah,O 0,ah,ah,aa,aa,O 0,O 0,O 0,aa,ah,ah,aa,aa,aa,O 0,ah,aa,aa,aa,ah,ah,O 0,O 0] o.cells.toArray 95;go_upto_region 23 with(first|(refine mZ rfl 95 (.tmp 90) rfl a4 (bH+i*25) o.cells rfl a5 _ Tryz.underlying95 rfl bM ?_)|(refine wpList_store_row rfl 95 (.tmp 17) (.tmp 91) rfl wr.heap.size o.cells.toArray rfl rfl 95 #[O 0,ah,O 0,ah,ah,aa,aa,O 0,O 0,O 0,aa,ah,ah,aa,aa,aa,O 0,ah,aa,aa,aa,ah,ah,O 0,O 0] bU cz bO bT ?_;rw[bW])|fail)
   rw[oX];obtain⟨t,T⟩:∃b,b=wr.alloc (.cells o.cells.toArray 95):=⟨_,rfl⟩;have a6:=Z (show ag wr t by rw[T];exact(ag.refl wr).alloc _);have ax:wr.heap.size+1<=t.heap.size:=by rw[T];simp
   have ax:t.heap.size<=wr.heap.size+1:=by rw[T];simp
   have bX:=Z (show J t wr.heap.size 95 o.cells.toArray by rw[T];exact J.new wr _ _);rw[<-T];clear T bW bU bT bO a5;have T:=J.lt z.fl;have aO:=Z (z.same a6);have aP:o∈rs:=by rw[bN.out];exact List.getElem_mem aN
   have a7:=az bX;have a8:=Z (show(rs.map RI.it)[i]?=some o.it by rw[List.getElem?_map,List.getElem?_eq_getElem aN,bN.out];rfl);obtain⟨k,z⟩:∃k,an[i]?=some k:=⟨_,List.getElem?_eq_getElem (by rw[bB.out];exact aN)⟩;have ar:=Z z;clear z;have bY:=Z (aO.fl.get (i:=i) (p:=k) (by rw[List.getElem?_append_right (by rw[ap.out];exact Nat.le_refl _),ap.out,Nat.sub_self,List.getElem?_drop,Nat.add_zero];exact ar.out));have cA:=Z (r.mp.kp aO.kp (ql (by have:=r.out.hm;omega) (by have:=r.out.hm;omega)));have a9:=Aq;have ba:=Ar;have hF:=J.lt aO.fl;rcases Ao cA.out o.kind with⟨bZ,cB⟩|⟨bL,aq,cB⟩
   case inl=>
    have w:=Z ((C.same (a6.trans ((ag.refl t).alloc (.cells #[.nilFunc] 162)))).skip ar a8 (.inr bZ));clear bZ;go_upto_region 26 with(fail)
    obtain⟨g,z⟩:∃g:World,g=t.alloc (.cells #[.nilFunc] 162):=⟨_,rfl⟩;rw[<-z]at w⊢;clear z a9 ba;try clear a7
    obtain⟨L,A,z⟩:=w.out.get;have e0:=(A.get z).1;have T:=(A.get z).2;clear A z L;by_cases hp:k.1=0
    case pos=>
     have LN:=Z (w.next hp);have z:(k.1==0)=true:=by simpa using hp
     exact s3
    case neg=>
    obtain⟨Q,T,V,an,z⟩:=w.out.row ao hp;have b4:=Z z;have an:(k.1==0)=false:=by simpa using hp
    obtain⟨b5,b8,b9,ca,cb⟩:=info_parts Tryz.p2;have an:G.heap.size<=g.heap.size:=by
     obtain⟨_,_,_,_,_,P,_⟩:=w.out;exact P.kp.size
    have cc:=Z (aH ((ag.refl g).alloc (.cells #[k.1,k.2] 97)) T);have cD:=Z (cC g #[k.1,k.2] 97 2 rfl);have an:fn<=200:=by have:fn=Q.length:=V;omega
    clear hp z T V;go_wp2_with (first|(at_builtin;refine d6 _ rfl (.tmp 120) (.tmp 125) 38 rfl G.heap.size 97 b5 _ 2 16 Tryz.underlying38 b8 b9 ca cb rfl au (U fA fn fc) fn (Q.flatMap dP) rfl cc.out (g.heap.size+1) (some ⟨g.heap.size,0,none⟩) 1 1 (#[k.1,k.2]:Array Value).toList rfl cD.out bl b1 ae aC ?_;intro z z P bb b0;obtain⟨W,Y,rfl,cE⟩:=bo P;have LN:=Z (b4.out _ _ _ _ P bb b0);clear P bb b0 cE)|fail)
    go_roundg (rs.length-i)
    case measure=>have:=Gk.out;omega
    exact⟨i+1,W,fn+1,Y,by go_num,rfl,by omega,by have:=Gk.out;omega,LN⟩
   case inr=>
   obtain⟨V,cD⟩:=Fa aq;subst cD;have b0:=Z aq;clear aq;by_cases P:k.1=0
   case neg=>
    have w:=Z ((C.same (a6.trans ((ag.refl t).alloc (.cells #[.func (.func V) #[] #[]] 162)))).skip ar a8 (.inl P));have z:(k.1==0)=false:=by simpa using P
    have e0:=bY.1;have b8:=Z P;clear P;go_upto_region 26 with(fail)
    obtain⟨g,z⟩:∃g:World,g=t.alloc (.cells #[.func (.func V) #[] #[]] 162):=⟨_,rfl⟩;rw[<-z]at w⊢;clear z a9 ba;try clear a7
    obtain⟨L,A,z⟩:=w.out.get;have e0:=(A.get z).1;have T:=(A.get z).2;clear A z L;have hp:=b8.out;obtain⟨bb,T,an,aq,z⟩:=w.out.row ao hp;have b9:=Z z;have aq:(k.1==0)=false:=by simpa using hp
    obtain⟨ca,cb,cc,cE,cG⟩:=info_parts Tryz.p2;have aq:G.heap.size<=g.heap.size:=by
     obtain⟨_,_,_,_,_,Q,_⟩:=w.out;exact Q.kp.size
    have cI:=Z (aH ((ag.refl g).alloc (.cells #[k.1,k.2] 97)) T);have cJ:=Z (cC g #[k.1,k.2] 97 2 rfl);have aq:fn<=200:=by have:fn=bb.length:=an;omega
    clear hp z T an;go_wp2_with (first|(at_builtin;refine d6 _ rfl (.tmp 120) (.tmp 125) 38 rfl G.heap.size 97 ca _ 2 16 Tryz.underlying38 cb cc cE cG rfl au (U fA fn fc) fn (bb.flatMap dP) rfl cI.out (g.heap.size+1) (some ⟨g.heap.size,0,none⟩) 1 1 (#[k.1,k.2]:Array Value).toList rfl cJ.out bl b1 ae aC ?_;intro z z Q b4 b5;obtain⟨W,Y,rfl,cK⟩:=bo Q;have LN:=Z (b9.out _ _ _ _ Q b4 b5);clear Q b4 b5 cK)|fail)
    go_roundg (rs.length-i)
    case measure=>have:=Gk.out;omega
    exact⟨i+1,W,fn+1,Y,by go_num,rfl,by omega,by have:=Gk.out;omega,LN⟩
   case pos=>
   have e0:ac t (ab (d.heap.size+1+1+1+1+1) (i*2)) (O 0):=by rw[<-P];exact bY.out.1
   have cE:=Z P;clear P;go_upto_region 25 with(fail)
   have z:=Z (show ag t (t.alloc (.cells #[.func (.func V) #[] #[]] 162))from(ag.refl t).alloc _);have b4:=Z (J.new t 162 #[.func (.func V) #[] #[]]);have T:t.heap.size+1<=(t.alloc (.cells #[.func (.func V) #[] #[]] 162)).heap.size:=ai
   obtain⟨b5,P⟩:∃g:World,g=t.alloc (.cells #[.func (.func V) #[] #[]] 162):=⟨_,rfl⟩;rw[<-P]at z b4 T⊢;clear P;have Q:=Z (aO.same z);have b8:=Z ((Kp.of_same (l:=[]) z).blk bX ai);have b9:=Z (Q.kp.blk r.bp (ql ae ae));have z:=Z (r.same Q.kp);have cG:=Z (show mY b5 (d.heap.size+1+1+1) B K (λj=>j<d.heap.size) o from⟨r.out.wd Q.out.kp,r.out.ko _ ae,r.out.fa,(bv.out o aP).keep (Kp.of_same (l:=[]) z.out) (λj bb=>by cases bb),by omega,λj z=>by omega,(aw.out o aP).e,(aw.out o aP).n,(aw.out o aP).f⟩);have cI:=Z (De (d.heap.size+1+1+1) (d.heap.size+1+1) G.heap.size t.heap.size (d.heap.size+1+1+1+1) wr.heap.size o cl (λj=>j<d.heap.size) B K b ck _ b5 Q.ft Q.wk cG (Q.ss.short ae) b0 b4 b9 b8 ae ae ae);have o:=az b9;have o:=bh b8;go_upto_region 26 with(first|(go_at_call 59;refine cI.out.mono ?_;rintro E bf ⟨D,R,bb⟩;subst R;have o:=M3.r6 r.out ao Q.out ap.out bF.out bG.out ar.out a8.out cE.out b0.out bb;have r:=Z o.1;have w:=Z o.2.2.2;have k:=r.out.get (i:=i) (p:=k) (by rw[List.getElem?_append_right (by rw[ap.out];exact Nat.le_refl _),ap.out,Nat.sub_self,List.getElem?_drop,Nat.add_zero];exact ar.out);have t:=k.1;have t:=k.2;have t:=λt=>J.frozen r.out t;have r:d.heap.size+1+1+1+1+1<bf.heap.size:=J.lt r.out;clear o k bb)|fail)
   obtain⟨g,k⟩:∃g:World,g=((bf.setCell (ab (d.heap.size+1+1+1+1+1) (i*2)) D.1).setCell (ab (d.heap.size+1+1+1+1+1) (i*2+1)) D.2):=⟨_,rfl⟩;rw[<-k]at w⊢;clear k a9 ba;try clear a7
   obtain⟨L,A,k⟩:=w.out.get;have e0:=(A.get k).1;have o:=(A.get k).2;clear A k L;by_cases hp:D.1=0
   case pos=>
    have LN:=Z (w.next hp);have k:(D.1==0)=true:=by simpa using hp
    exact s3
   case neg=>
   obtain⟨ca,o,r,t,k⟩:=w.out.row ao hp;have cJ:=Z k;have t:(D.1==0)=false:=by simpa using hp
   obtain⟨cK,cL,cM,cN,cO⟩:=info_parts Tryz.p2;have t:G.heap.size<=g.heap.size:=by
    obtain⟨_,_,_,_,_,t,_⟩:=w.out;exact t.kp.size
   have cQ:=Z (aH ((ag.refl g).alloc (.cells #[D.1,D.2] 97)) o);have cR:=Z (cC g #[D.1,D.2] 97 2 rfl);have t:fn<=200:=by have:fn=ca.length:=r;omega
   clear hp k o r;go_wp2_with (first|(at_builtin;refine d6 _ rfl (.tmp 120) (.tmp 125) 38 rfl G.heap.size 97 cK _ 2 16 Tryz.underlying38 cL cM cN cO rfl au (U fA fn fc) fn (ca.flatMap dP) rfl cQ.out (g.heap.size+1) (some ⟨g.heap.size,0,none⟩) 1 1 (#[D.1,D.2]:Array Value).toList rfl cR.out bl b1 ae aC ?_;intro k k bb cb cc;obtain⟨W,Y,rfl,cS⟩:=bo bb;have LN:=Z (cJ.out _ _ _ _ bb cb cc);clear bb cb cc cS)|fail)
   go_roundg (rs.length-i)
   case measure=>have:=Gk.out;omega
   exact⟨i+1,W,fn+1,Y,by go_num,rfl,by omega,by have:=Gk.out;omega,LN⟩
  have A:(m:Int)<cs.length:=ae
  obtain⟨a4,L,A,aM,a5,a6,a7,a8,a9,ba,bb,bE,bF,bG⟩:=C.out;obtain⟨aN,bH,bJ,cx,bK⟩:=cq.out.2.2 m aL;have cy:bs=some ⟨aN,bH,none⟩:=bJ;subst cy;have aO:=λb bL Q=>(aM.cell (p:=⟨aN,_,none⟩) cx).trans (bK b bL Q);obtain⟨o,A⟩:∃o,o=cs[m]:=⟨_,rfl⟩;rw[<-A]at aO;have aP:=Z A;clear A bK bJ;have cz:(some 8:Option Nat)=some o.cells.length:=rfl;have cA:(some 8:Option Nat)=some o.cells.toArray.size:=rfl;have bM:(#[O 0,ah,ah,ah,O 0,O 0,O 0,ah]:Array Value).size=o.cells.toArray.size:=rfl;have bN:o.cells.toArray.all (·.oneCell')=true:=by simp[Cg.cells,Value.oneCell']
  have bO:=fx wr (.cells #[O 0,ah,ah,ah,O 0,O 0,O 0,ah] 99);have bT:=World.setRow_alloc_new wr #[O 0,ah,ah,ah,O 0,O 0,O 0,ah] o.cells.toArray 99;have cB:=Z a8;have bU:=Z aM;have cD:=Z a5;have a2:=Z a6;have bW:=Z a7;have bX:=Z a9;have cE:=Z ba;have cG:=Z bb;have bY:=Z bE;have cI:=Z bF;have bZ:=Z bG;clear a8 aM a5 a6 a7 a9 ba bb bE bF bG C;go_upto_region 13 with(first|(refine mZ rfl 99 (.tmp 59) rfl aN (bH+m*8) o.cells rfl aO _ Tryz.underlying99 rfl cz ?_)|(refine wpList_store_row rfl 99 (.tmp 11) (.tmp 60) rfl wr.heap.size o.cells.toArray rfl rfl 99 #[O 0,ah,ah,ah,O 0,O 0,O 0,ah] bO cA bM bN ?_;rw[bT])|fail)
  have k:=Z (show ag wr (wr.alloc (.cells o.cells.toArray 99))from(ag.refl wr).alloc _);have t:=Z (J.new wr 99 o.cells.toArray);rw[oX];obtain⟨r,A⟩:∃b,b=wr.alloc (.cells o.cells.toArray 99):=⟨_,rfl⟩;rw[<-A]at k t⊢;clear A bT bO bN bM aO;have A:=Z (Kp.of_same (l:=[]) k);have V:=Z (A.blk bX ai);have ao:=Z (A.blk bW ai);have A:o∈cs:=by rw[aP.out];exact List.getElem_mem aL
  have ap:=Z (λz (B:ag r z)=>En a4 L o z ((cE.same k).same B) (v8 rfl bY ae) (bt o A).1 (bt o A).2);have b0:=az ao;have cJ:=az V;obtain⟨hA2,b4,b5⟩:=a4;have b8:ac r (ab (d.heap.size+1+1+1) 0) (U hA2 b4 b5):=cJ;have b9:=az t;have ca:=aY t;have cb:=bh t;have cc:=bj t;have ce:=bn t;have cf:=bQ t;have cg:=cd t;have ch:=b7 t;by_cases G:dj (L.map RT.tb) o=0
  case pos=>
   go_cut [57,12,13]from 57 to 82 (λA B E g=>∃(j:Nat) (z:Hd) (H:List RT),A=.int .i64 m/\B=.pointer (some ⟨j,0,none⟩)/\E=.int .i64 0/\Hid (ag r g/\J g j 29 #[z.val]/\bI g z H/\H.map RT.tb=gC (L.map RT.tb) o/\iM r.heap.size L H))
   case first=>
    have A:=J.lt ao;have cK:=J.lt V;have E:=J.lt t;refine ez 12 (S:=λw'=>ag r w') (ag.refl r).drew (λz=>?_);refine tk 0 z ?_ (hy:=by refine Or.inl ⟨rfl,?_⟩;intro w' hSw;have A:=(ag.cell hSw (p:=(ab (d.heap.size+1+1+1+1) 0)) A).trans b0;go_simp;try with_reducible rfl);refine tk 1 z ?_;refine tk 2 z ?_;refine tk 3 z ?_;refine tk 4 z ?_ (hy:=by refine Or.inl ⟨rfl,?_⟩;intro w' hSw;have A:=(ag.cell hSw (p:=(ab (d.heap.size+1+1+1) 0)) cK).trans b8;go_simp;try with_reducible rfl);refine tk 5 z ?_ (hy:=by refine Or.inl ⟨rfl,?_⟩;intro w' hSw;have A:=(ag.cell hSw (p:=(am wr 0)) E).trans b9;have A:=(ag.cell hSw (p:=(am wr 1)) E).trans ca;have A:=(ag.cell hSw (p:=(am wr 2)) E).trans cb;have A:=(ag.cell hSw (p:=(am wr 3)) E).trans cc;have A:=(ag.cell hSw (p:=(am wr 4)) E).trans ce;have A:=(ag.cell hSw (p:=(am wr 5)) E).trans cf;have A:=(ag.cell hSw (p:=(am wr 6)) E).trans cg;have A:=(ag.cell hSw (p:=(am wr 7)) E).trans ch;go_simp;try with_reducible rfl);obtain⟨K,A⟩:∃b,b=r.drew:=⟨_,rfl⟩;rw[<-A]at z⊢;clear A;have a3:=z.size;refine qM 6 10 (λR B=>?ak) (λR B=>?ay)
    case' ak=>
     go_simp;refine(ap.out K z).mono ?_;rintro aq P ⟨cL,ar⟩;rcases cL with⟨cM,_⟩|⟨_,⟨hA3,M,N⟩,H,ci,cj,ck,cl⟩
     ·exact absurd G cM
     have cN:aq=.returned (.tuple #[.agg #[U hA3 M N],O 0]):=ci;clear ci;subst cN;have cO:=Z cj;have bg:=Z ck;have bi:Hid (iM r.heap.size L H):=Z (λA E=>(cl A E).imp id (λh j A aq=>bR a3 (h j A aq)));clear cj ck cl;have k:=Z (z.trans ar);clear ar;refine B.out _ _ (λ_=>k.out) ?_;refine av ?_;refine tk 7 k.out ?_;refine tk 8 k.out ?_;refine tk 9 k.out ?_;refine aK 10 (λR B=>?_);go_simp;have q:=Z (k.trans ((ag.refl P).alloc (.cells #[aa] 29)));refine B.out _ _ (λ_=>q.out) ?_;refine av ?_;have x:=Z (J.new P 29 #[aa]);have aQ:=Z (cO.same ((ag.refl P).alloc (.cells #[aa] 29)));obtain⟨g,E⟩:∃b,b=P.alloc (.cells #[aa] 29):=⟨_,rfl⟩;obtain⟨y,A⟩:∃b,b=P.heap.size:=⟨_,rfl⟩;have ad:r.heap.size<=y:=by rw[A];exact k.out.size
     rw[<-E]at q x aQ⊢;rw[<-A]at x⊢;clear E A
    case' ay=>
     go_simp;have P:=Z (z.trans ((ag.refl K).alloc (.cells #[aa] 29)));refine B.out _ _ (λ_=>P.out) ?_;refine av ?_;refine aK 6 (λR B=>?_);go_simp;refine(ap.out (K.alloc (.cells #[aa] 29)) P.out).mono ?_;rintro aq g ⟨cL,ar⟩;rcases cL with⟨cM,_⟩|⟨_,⟨hA3,M,N⟩,H,ci,cj,ck,cl⟩
     ·exact absurd G cM
     have cN:aq=.returned (.tuple #[.agg #[U hA3 M N],O 0]):=ci;clear ci;subst cN;have z:=Z cj;have bg:=Z ck;have bi:Hid (iM r.heap.size L H):=Z (λA E=>(cl A E).imp id (λh j A aq=>bR (P.size) (h j A aq)));clear cj ck cl;have q:=Z (P.trans ar);have x:=Z ((Kp.of_same (l:=[]) ar).blk (J.new K 29 #[aa]) ai);have aQ:=z;clear ar;refine B.out _ _ (λ_=>q.out) ?_;refine av ?_;refine tk 7 q.out ?_;refine tk 8 q.out ?_;refine tk 9 q.out ?_;obtain⟨y,z⟩:∃b,b=K.heap.size:=⟨_,rfl⟩;have ad:r.heap.size<=y:=by rw[z];exact a3
     rw[<-z]at x⊢;clear z
    all_goals
     have z:=az x;have z:=λm=>J.frozen x m;have P:=Kp.aE (l:=[y]) (p:=(ab y 0)) ai (Kp.refl [y] g) (U hA3 M N);have aq:=Z (P.g4 q (λj z=>by rw[aA z];exact ad));refine aK 11 (λR B=>?_);go_simp;refine B.out _ _ (λ_=>aq.out) ?_;refine av ?_;refine b2 ?_;refine tq 12 ?_;refine bV ?_;have ar:=Z (jB x (U hA3 M N));have ci:=Z (aQ.out.r7 (X:=y) (λm bL Q=>by
      rw[J.cell x.out m]at Q;match m with
      |0=>exact⟨_,_,_,(Option.some.inj Q).symm⟩
      |_+1=>cases Q) P)
     go_wp2_with fail
     go_meet;exact⟨y,⟨hA3,M,N⟩,H,rfl,rfl,rfl,Z ⟨aq.out,ar.out,ci.out,bg.out,bi.out⟩⟩
   case rest=>
   obtain⟨j,⟨hA3,M,N⟩,H,rfl,rfl,rfl,z⟩:=hcut;obtain⟨g,A⟩:∃g:World,g=wc:=⟨_,rfl⟩;rw[<-A]at z⊢;clear A;have A:=Z z.1;have B:=Z z.2.1;have E:=Z z.2.2.1;have K:=Z z.2.2.2.1;have P:=Z z.2.2.2.2;clear z;have Q:=Z ((Kp.of_same (l:=[]) A).blk ao ai);have z:=Z ((Kp.of_same (l:=[]) A).blk V ai);have B:ac g (ab j 0) (U hA3 M N):=J.cell B 0;have B:=az Q;have B:ac g (ab (d.heap.size+1+1+1) 0) (U hA2 b4 b5):=J.cell z 0;have z:=λB=>J.frozen z B;have LN:=Z (Eu (hv:=.slice F rs.length I) (by rw[aP.out];exact List.getElem?_eq_getElem aL) G bU cD a2 bW cB bX cG bY cI bZ k A E K P);go_wp2_with fail
   go_roundg (cs.length-m)
   case measure=>have:=bD.out;omega
   exact⟨m+1,by go_num,by omega,by have:=bD.out;omega,LN⟩
  obtain⟨B,P⟩:∃B,B=dj (L.map RT.tb) o:=⟨_,rfl⟩;go_cut [57,12,13]from 57 to 82 (λo z z g=>o=.int .i64 m/\z=.int .i64 B/\Hid (ag r g))
  case first=>
   have o:=J.lt ao;have cj:=J.lt V;have K:=J.lt t;refine ez 12 (S:=λw'=>ag r w') (ag.refl r).drew (λz=>?_);refine tk 0 z ?_ (hy:=by refine Or.inl ⟨rfl,?_⟩;intro w' hSw;have o:=(ag.cell hSw (p:=(ab (d.heap.size+1+1+1+1) 0)) o).trans b0;go_simp;try with_reducible rfl);refine tk 1 z ?_;refine tk 2 z ?_;refine tk 3 z ?_;refine tk 4 z ?_ (hy:=by refine Or.inl ⟨rfl,?_⟩;intro w' hSw;have o:=(ag.cell hSw (p:=(ab (d.heap.size+1+1+1) 0)) cj).trans b8;go_simp;try with_reducible rfl);refine tk 5 z ?_ (hy:=by refine Or.inl ⟨rfl,?_⟩;intro w' hSw;have o:=(ag.cell hSw (p:=(am wr 0)) K).trans b9;have o:=(ag.cell hSw (p:=(am wr 1)) K).trans ca;have o:=(ag.cell hSw (p:=(am wr 2)) K).trans cb;have o:=(ag.cell hSw (p:=(am wr 3)) K).trans cc;have o:=(ag.cell hSw (p:=(am wr 4)) K).trans ce;have o:=(ag.cell hSw (p:=(am wr 5)) K).trans cf;have o:=(ag.cell hSw (p:=(am wr 6)) K).trans cg;have o:=(ag.cell hSw (p:=(am wr 7)) K).trans ch;go_simp;try with_reducible rfl);obtain⟨R,o⟩:∃b,b=r.drew:=⟨_,rfl⟩;rw[<-o]at z⊢;clear o;have ck:=z.size;refine qM 6 10 (λaq E=>?aB) (λaq E=>?aD)
   case' aB=>
    go_simp;refine(ap.out R z).mono ?_;rintro o ar ⟨cl,a3⟩;rcases cl with⟨_,ci⟩|⟨cK,_⟩
    case inr=>exact absurd cK G
    rw[<-P]at ci;subst ci;have k:=Z (z.trans a3);clear a3;refine E.out _ _ (λ_=>k.out) ?_;refine av ?_;refine tk 7 k.out ?_;refine tk 8 k.out ?_;refine tk 9 k.out ?_;refine aK 10 (λaq E=>?_);go_simp;have q:=Z (k.trans ((ag.refl ar).alloc (.cells #[aa] 29)));refine E.out _ _ (λ_=>q.out) ?_;refine av ?_;have x:=Z (J.new ar 29 #[aa]);obtain⟨g,t⟩:∃b,b=ar.alloc (.cells #[aa] 29):=⟨_,rfl⟩;obtain⟨y,o⟩:∃b,b=ar.heap.size:=⟨_,rfl⟩;have ad:r.heap.size<=y:=by rw[o];exact k.out.size
    rw[<-t]at q x⊢;rw[<-o]at x⊢;clear t o
   case' aD=>
    go_simp;have ar:=Z (z.trans ((ag.refl R).alloc (.cells #[aa] 29)));refine E.out _ _ (λ_=>ar.out) ?_;refine av ?_;refine aK 6 (λaq E=>?_);go_simp;refine(ap.out (R.alloc (.cells #[aa] 29)) ar.out).mono ?_;rintro o g ⟨cl,a3⟩;rcases cl with⟨_,ci⟩|⟨cK,_⟩
    case inr=>exact absurd cK G
    rw[<-P]at ci;subst ci;have q:=Z (ar.trans a3);have x:=Z ((Kp.of_same (l:=[]) a3).blk (J.new R 29 #[aa]) ai);clear a3;refine E.out _ _ (λ_=>q.out) ?_;refine av ?_;refine tk 7 q.out ?_;refine tk 8 q.out ?_;refine tk 9 q.out ?_;obtain⟨y,o⟩:∃b,b=R.heap.size:=⟨_,rfl⟩;have ad:r.heap.size<=y:=by rw[o];exact ck
    rw[<-o]at x⊢;clear o
   all_goals
    have o:=az x;have m:=λm=>J.frozen x m;have m:=Kp.aE (l:=[y]) (p:=(ab y 0)) ai (Kp.refl [y] g) aa;have ar:=Z (m.g4 q (λj m=>by rw[aA m];exact ad));refine aK 11 (λaq E=>?_);go_simp;refine E.out _ _ (λ_=>ar.out) ?_;refine av ?_;refine b2 ?_;refine tq 12 ?_;refine bV ?_;go_wp2_with fail
    go_meet;exact⟨rfl,by rw[P],ar⟩
  case rest=>
  obtain⟨rfl,rfl,z⟩:=hcut;obtain⟨g,m⟩:∃g:World,g=wc:=⟨_,rfl⟩;rw[<-m]at z⊢;clear m;have K:=Z (((Kp.of_same (l:=[]) (k.trans z)).blk a2 ai).alloc (.cells #[B,O (-1)] 97));have m:(B==0)=false:=by rw[P];simpa using G
  have ar:=Z P;have a3:=Z G;clear P G;have ci:=se;have R:=Tryz.lg;go_wp2_with (first|(refine wpList_store_row rfl 37 (.tmp 4) (.tmp 73) rfl (d.heap.size+1) b6 rfl rfl 37 b6 K.out R rfl ci ?_)|fail)
  have cj:=kM K b6;have m:=jZ (g.alloc (.cells #[B,O (-1)] 97)) (d.heap.size+1) b6;have aq:=bU.trans (k.trans z);have E:=(Kp.refl [d.heap.size+1] _).grown m (λm E=>.inl (by injection E with E;simp[E]));have k:=aT (J.lt a2) (k.trans z).size;have k:cP (rs.map RI.it) cs=(Su.zero,[(B,-1)]):=by
   unfold cP;rw[if_pos (by simpa using a1),bA.out];dsimp only;rw[bZ.out,List.drop_eq_getElem_cons aL,<-aP.out,Ep a3.out,<-ar.out]
  refine bodyPost_ret (v:=.tuple #[.agg b6,U (some ⟨g.heap.size,0,none⟩) 1 1]) (jy (p:=4) (u:=5) rfl _ _ (d.heap.size+1) 37 b6 _ rfl cj Tryz.underlying37 rfl R) rfl ?_;rw[aU.out,k];have k:=cF (h:=⟨some ⟨g.heap.size,0,none⟩,1,1⟩) (xs:=[(B,(-1:Int))]) p1 rfl ai (ie g #[B,O (-1)] 97 2 g.heap.size rfl (Nat.le_refl _));exact⟨E.g4 (aq.alloc _) (λj m=>by rw[aA m];omega),_,_,rfl,qn _ _,⟨_,rfl,k.kp E (λj k k m=>by
   have k:g.heap.size=j:=congrArg Addr.block (Option.some.inj k);have:=aA m;omega),λj k k=>by
   have k:g.heap.size=j:=congrArg Addr.block (Option.some.inj k);have:=aq.size;omega⟩⟩
 have T:(i:Int)<rs.length:=ae
 obtain⟨bF,bE,bJ,bH,bG,E,R,V,an,ao,ap,aq,⟨o,ar,aI,aL⟩,aM⟩:=C.out;obtain⟨z,G,aN,bK,aO⟩:=bu.out.2.2 i al;have bL:F=some ⟨z,G,none⟩:=aN;subst bL;have L:=λK F T=>(E.cell (p:=⟨z,_,none⟩) bK).trans (aO K F T);have aP:(some 25:Option Nat)=some (rs[i]).cells.length:=by simp[RI.len]
 obtain⟨k,F⟩:∃k,k=rs[i]:=⟨_,rfl⟩;rw[<-F]at L aP;have a2:=Z F;clear F aO aN;have bM:(some 25:Option Nat)=some k.cells.toArray.size:=by simp[RI.len]
 have a3:(#[O 0,ah,O 0,ah,ah,aa,aa,O 0,O 0,O 0,aa,ah,ah,aa,aa,aa,O 0,ah,aa,aa,aa,ah,ah,O 0,O 0]:Array Value).size=k.cells.toArray.size:=by simp[RI.len]
 have a4:=RI.one k;have a5:=fx wr (.cells #[O 0,ah,O 0,ah,ah,aa,aa,O 0,O 0,O 0,aa,ah,ah,aa,aa,aa,O 0,ah,aa,aa,aa,ah,ah,O 0,O 0] 95);have a6:=World.setRow_alloc_new wr #[O 0,ah,O 0,ah,ah,aa,aa,O 0,O 0,O 0,aa,ah,ah,aa,aa,aa,O 0,ah,aa,aa,aa,ah,ah,O 0,O 0] k.cells.toArray 95;have bN:=Z aM;have r:=Z aL;have bO:=Z ao;have a7:=Z E;have bT:=Z R;have bU:=Z V;have bW:=Z an;have a8:=Z aq;have a9:=Z ap;have ba:=Z aI;clear aM aL ao E R V an aq ap aI C;go_upto_region 8 with(first|(refine mZ rfl 95 (.tmp 44) rfl z (G+i*25) k.cells rfl L _ Tryz.underlying95 rfl aP ?_)|(refine wpList_store_row rfl 95 (.tmp 9) (.tmp 45) rfl wr.heap.size k.cells.toArray rfl rfl 95 #[O 0,ah,O 0,ah,ah,aa,aa,O 0,O 0,O 0,aa,ah,ah,aa,aa,aa,O 0,ah,aa,aa,aa,ah,ah,O 0,O 0] a5 bM a3 a4 ?_;rw[a6])|fail)
 obtain⟨A,b⟩:∃b,b=wr.alloc (.cells k.cells.toArray 95):=⟨_,rfl⟩;have P:=Z (show ag wr A by rw[b];exact(ag.refl wr).alloc _);have C:A.heap.size=wr.heap.size+1:=by rw[b];simp
 have bb:=Z (show J A wr.heap.size 95 k.cells.toArray by rw[b];exact J.new wr _ _);rw[<-b];clear b a6 a5 a4 a3 L;have t:=Z (Kp.of_same (l:=[]) P);have bX:=Z (r.kp t (λj m=>by cases m));have Q:=Z (t.blk bW ai);have bw:k∈rs:=by rw[a2.out];exact List.getElem_mem al
 have bY:=Z (((bv k bw).keep (Kp.of_same (l:=[]) a7) (λj m=>by cases m)).keep (Kp.of_same (l:=[]) P.out) (λj m=>by cases m));have B:=r.lt;have b:=r.hb;have bZ:=Z (C0 (d.heap.size+1+1+1) (d.heap.size+1+1) (d.heap.size+1+1+1+1+1+1) (d.heap.size+1+1+1+1) wr.heap.size k bH (λj=>j<d.heap.size) o.a o.n o.c bF ar bJ bG A bX.out ba.out.symm (by have:=ba.out;have:=a8.out;omega) Q.out bb.out ⟨by omega,by omega,λb=>by have:=(B _ b).1;omega⟩ ⟨by omega,by omega,λb=>by have:=(B _ b).2;omega⟩ bY.out (λj b=>by omega) (aw.out k bw).n);have b:=az Q;have b:=bh bb;go_wp2_with fail
 refine bZ.out.mono ?_;rintro m b ⟨D,bz,⟨bA,b,bB,b,bC,b0⟩⟩;subst bz;have bD:∀j∈(d.heap.size+1+1+1)::(dm (d.heap.size+1+1) ar++(Value.slice o.a o.n o.c).ownBlock.toList),j=d.heap.size+1+1\/j=d.heap.size+1+1+1\/d.heap.size+1+1+1+1+1<j:=λj b4=>by
  rcases dd b4 with m|m
  ·exact .inr (.inl m)
  rcases cY m with m|m
  ·rcases dd m with m|m
   ·exact .inl m
   obtain⟨b,d,bz⟩:=List.mem_map.1 m;have:=(B _ (r.out.nin b d)).1;exact .inr (.inr ae)
  have:=(B _ (r.out.eP _ (List.mem_singleton.2 rfl) j (jm m))).1;exact .inr (.inr ae)
 have b:=Dl (hv:=.slice (some ⟨z,G,none⟩) rs.length I) al a2 (a7.trans P) (t.blk bT ai) (t.blk bU ai) Q (bO.kp t ai) a9 a8 ae bN bA bD bB bC;have L3:=Z b.2;have d:=Z b.1;have j:(bE++List.replicate (rs.length-i) ((0:Int),(0:Int)))[i]?=some (0,0):=by
  have:=a9.out;rw[List.getElem?_append_right ae,List.getElem?_replicate,if_pos ae]
 have e0:=(d.get j).1;have k:=(d.get j).2;have d:=λK=>J.frozen d K;clear b j bA bB bC b0 bD;go_wp2_with fail
 go_roundg (rs.length-i)
 case measure=>have:=Gk.out;omega
 exact⟨i+1,by go_num,by omega,by have:=Gk.out;omega,L3⟩
theorem Fc (h k:Hd) (b:List RI) (l:List Cg) (a:af) (j:Ending->World->Prop) (s:Hid (j=gy a (cP (b.map RI.it) l))) (i:aF a 25 h RI.cells b) (t:200<h.n):
 Calls Tryz.prog 37 #[.agg #[h.val],k.val] a j:=by
 obtain⟨f,m,g⟩:=h;obtain⟨w,x,y⟩:=k;have z:b.length=m:=i.1;have k:m<=9223372036854775807:=i.2.1;subst z;have o:200<b.length:=t;have k:decide ((200:Int)<(b.length:Int))=true:=by
  simp;omega
 obtain⟨c,d,q,k,r⟩:=i.2.2 200 o;have A:f=some ⟨c,d,none⟩:=q;subst A;obtain⟨e,f⟩:∃e,e=b[200].at_:=⟨_,rfl⟩;have k:ac a (ab c (d+200*25+2)) e:=r 2 _ (by rw[f];rfl);have B:=Z (show cP (b.map RI.it) l=(Su.zero,[(3,e)]) by
  unfold cP;rw[if_neg aC,f];simp[o];rfl)
 clear r q i f;have f:(200:Int)<b.length:=ae
 show Calls Tryz.prog 37 #[.agg #[U (some ⟨c,d,none⟩) b.length g],U w x y] a j;go_enter Tryz.func37,Tryz.ntmps37
 go_upto_region 2 with(fail)
 go_region
 go_wp2;have i:=J.new (a.alloc (.cells #[U (some ⟨c,d,none⟩) b.length g] 24)) 37 b6;have f:=ie ((a.alloc (.cells #[U (some ⟨c,d,none⟩) b.length g] 24)).alloc (.cells b6 37)) #[O 3,e] 97 2 0 rfl (Nat.zero_le _);have i:=(Kp.refl [] _).drew.blk (i.alloc (.cells #[O 3,e] 97)) ai;have j:(a.alloc (.cells #[U (some ⟨c,d,none⟩) b.length g] 24)).heap.size=a.heap.size+1:=ai
 have b:((a.alloc (.cells #[U (some ⟨c,d,none⟩) b.length g] 24)).alloc (.cells b6 37)).heap.size=a.heap.size+1+1:=ai
 rw[j]at i;rw[b]at f;refine bodyPost_ret (v:=.tuple #[.agg b6,U (some ⟨a.heap.size+1+1,0,none⟩) 1 1]) (jy (p:=4) (u:=5) rfl _ _ (a.heap.size+1) 37 b6 _ rfl i Tryz.underlying37 rfl Tryz.lg) rfl ?_;rw[s.out,B.out];refine⟨(((((ag.refl a).alloc _).alloc _).alloc _).drew),_,_,rfl,qn _ _,⟨⟨some ⟨a.heap.size+1+1,0,none⟩,1,1⟩,rfl,?_,λb c c=>by
  have j:a.heap.size+1+1=b:=congrArg Addr.block (Option.some.inj c);omega⟩⟩
 exact(cF (h:=⟨some ⟨a.heap.size+1+1,0,none⟩,1,1⟩) (xs:=[((3:Int),e)]) p1 rfl ai f).same (ag.refl _).drew
theorem wB (h d:Hd) (b:List RI) (c:List Cg) (a:af) (f:aF a 25 h RI.cells b) (g:∀e∈b,df a (λi=>i<a.heap.size) e) (i:∀e∈b,e.it.dh) (j:aF a 8 d Cg.cells c) (k:∀e∈c,aG e.name/\aG e.dflt.s) (e:c.length<=1000):
 Calls Tryz.prog 37 #[.agg #[h.val],d.val] a (gy a (cP (b.map RI.it) c)):=by
 by_cases l:h.n<=200
 ·exact Fb h d b c a _ (Z rfl) f g i l j k e
 exact Fc h d b c a _ (Z rfl) f ae
theorem Fe (b:aw) (w:af) (bT:aG b) (cf:b4 w ⟨some ⟨0,0,none⟩,10,10⟩ fb) (cg:0<w.heap.size) (bs:(dq (ba b)).2.1=0):
 Calls Tryz.prog 26 #[b] w λbh n=>iR w (gi (ba b)) bh n:=by
 have cg:∀(cg:Fn) (first cap:aO) (w:af),(Instr.makeFunc cg first cap).run Tryz.prog w=.ok (.func cg first cap) w:=λ_ _ _ _=>rfl;obtain⟨cy,cz,cA,cB,cD⟩:=info_parts Tryz.wl;have cg:(b.size:Int)<=9223372036854775807:=by unfold aG at bT;omega
 have cE:=Z cf;have bU:=Z (wj b (((w.alloc (.cells #[aa] 24)).alloc (.cells #[O 0] 76)).alloc (.cells #[O 0] 3)) bT);have bW:=Z (wu (ba b));have bt:Hid (gi (ba b)=if(dq (ba b)).2.1=0 then qK (b.size:Int) (dq (ba b)).1 else .bad (dq (ba b)).2.1 (dq (ba b)).2.2):=Z (by unfold gi;rw[eJ]);have cg:ag w (((w.alloc (.cells #[aa] 24)).alloc (.cells #[O 0] 76)).alloc (.cells #[O 0] 3)):=(((ag.refl w).alloc _).alloc _).alloc _;have ch:=Z cg;have bX:=Z (show J (((w.alloc (.cells #[aa] 24)).alloc (.cells #[O 0] 76)).alloc (.cells #[O 0] 3)) (w.heap.size) 24 #[aa]from((hL _ rfl).alloc _).alloc _);have bY:=Z (show J (((w.alloc (.cells #[aa] 24)).alloc (.cells #[O 0] 76)).alloc (.cells #[O 0] 3)) (w.heap.size+1) 76 #[O 0]from(hL _ ai).alloc _);have bZ:=Z (show J (((w.alloc (.cells #[aa] 24)).alloc (.cells #[O 0] 76)).alloc (.cells #[O 0] 3)) (w.heap.size+1+1) 3 #[O 0]from hL _ ai);clear cf bT cg;generalize gi (ba b)=a6 at bt⊢;generalize dq (ba b)=cF at bU bW bt bs;obtain⟨bi,a7,ci⟩:=cF;have cG:=Z bs;clear bs;go_enter_defers Tryz.func26,Tryz.ntmps26
 go_wp2_with fail
 refine bU.out.mono ?_;rintro bh ah ⟨⟨b0,b3,b5⟩,cH,bj,sm⟩;obtain rfl:bh=.returned (.tuple #[U b0 b3 b5,a7,ci]):=cH;have bu:=Z bj;have cI:=Z (ch.trans sm);have bv:=Z (bX.below sm bX.lt);have bk:=Z (bY.below sm bY.lt);have a8:=Z (bZ.below sm bZ.lt);clear bj sm bU bX bY bZ ch;have cJ:=λc=>J.frozen bv c;have cK:=λc=>J.frozen bk c;have cL:=λc=>J.frozen a8 c;have cM:=az bv;have cN:=az bk;have cO:=az a8;have bs:=cG.out;subst a7;have bs:=bW rfl;subst ci;have a9:=Z (show a6=iW (b.size:Int) (bi.length+1) [] bi by rw[bt.out];exact if_pos rfl);clear bt bW;have bs:=bu.lies.1;have bs:=bu.cap;obtain⟨d,b6⟩:∃d,d=ah.heap.size:=⟨_,rfl⟩;have bs:w.heap.size+3<=d:=by have:=a8.out.lt;omega
 have b7:Hid (gW w (((ah.setCell (ab (w.heap.size+1) 0) (O 0)).setCell (ab (w.heap.size+1+1) 0) (O 0)).alloc (.cells #[U b0 b3 b5,b.size] 129)) d (b.size:Int) bi none 0 0 []):=Z (by
  have a:=(Kp.aE (p:=(ab (w.heap.size+1+1) 0)) (l:=[w.heap.size,w.heap.size+1,w.heap.size+1+1]) ai (Kp.aE (p:=(ab (w.heap.size+1) 0)) (l:=[w.heap.size,w.heap.size+1,w.heap.size+1+1]) ai (Kp.refl _ ah) (O 0)) (O 0));refine⟨?_,?_,?_,?_,?_,bs,iQ.none_ _ _,by omega⟩
  ·exact(a.old (l':=[]) (Kp.of_same cI.out) (λa hb a=>by simp at hb;omega)).alloc _
  ·exact((J.far (J.far bv.out (p:=(ab (w.heap.size+1) 0)) aD (O 0)) (p:=(ab (w.heap.size+1+1) 0)) aD (O 0))).alloc _
  ·exact((J.far ((bk.out).aP 0 (O 0)) (p:=(ab (w.heap.size+1+1) 0)) aD (O 0))).alloc _
  ·exact((((J.far a8.out (p:=(ab (w.heap.size+1) 0)) aD (O 0))).aP 0 (O 0))).alloc _
  have a:=(bu.out.wo bk.out (O 0)).wo (J.far a8.out (p:=(ab (w.heap.size+1) 0)) aD _) (O 0);refine⟨⟨b0,b3,b5⟩,?_,(a.same ((ag.refl _).alloc _)).up ae⟩;exact hL d (by rw[b6];simp))
 rw[b6]at b7;go_wp2_with fail
 rw[<-b6]at*;go_loopg [] (bi.length+1) (λe wr=>∃(a:List ao) (g:List RI) (j:aX) (m o:Nat),Hid (gW w wr d (b.size:Int) a j m o g)/\a.length<e/\Hid (a6=iW (b.size:Int) e (g.map RI.it) a))
 case atStart=>exact⟨bi,[],none,0,0,b7,by omega,a9⟩
 obtain⟨cj,bl,bw,g,e,a,ck,bb⟩:=hrel;clear b7 a9 bu bv bk a8 cJ cK cL cM cN cO;obtain⟨bm,rfl⟩:∃bm,gk=bm+1:=⟨gk-1,by omega⟩;have cP:=Z ck;clear ck;obtain⟨bx,j,bz,b8,cl,c1⟩:∃(bx:aX) (j bz:Nat),J wr d 129 #[U bx j bz,b.size]/\cj.length=j/\j<=9223372036854775807:=by
  obtain⟨⟨bx,j,bz⟩,hb,bj⟩:=a.out.pb;exact⟨bx,j,bz,hb,bj.lies.1,bj.lies.2.1⟩
 have a8:=az b8;have e0:ac wr (am w 0) (U bw g e):=J.cell a.bO 0;have a8:=a.few;have a8:=a.pb.lt;have a8:=Z b8;clear b8;cases cj with
 |nil=>
  obtain rfl:j=0:=by simpa using cl.symm
  have a9:=Z (show a6=.ok (bl.map RI.it) []from bb);clear bb;have o:ac wr (ab (w.heap.size+1) 0) (O 0):=J.cell a.bE 0;have o:ac wr (ab (w.heap.size+1+1) 0) (O 0):=J.cell a.bA 0;have o:=λc=>J.frozen a.bO c;have o:=λc=>J.frozen a.bE c;have o:=λc=>J.frozen a.bA c;go_wp2;have m:=a9.out;subst m;refine leaves_cons (f:=45) (args:=#[aj w.heap.size,aj (w.heap.size+1),aj (w.heap.size+1+1)]) ai ki ?_;exact EU a.out.fin [] _ rfl rfl rfl
 |cons bL bp=>
  have a8:bp.length+1=j:=by simpa using cl
  have ay:(0:Int)<j:=ae
  by_cases b9:g=200
  case pos=>
   have j:((g:Int)==200)=true:=by simp[b9]
   have a9:=Z (show a6=e8 (b.size:Int) (bL::bp) 3 by rw[bb.out,qu];exact if_pos (by rw[List.length_map,a.out.it.len,b9]));clear bb;go_wp2_with fail
   refine qT (w:=wr) (l:=[d]) 3 (Kp.refl _ wr) a9.out a.out.pb ?aA;intro a7 o j j m;have q:=j.out;subst q;go_wp2_with fail
   refine leaves_cons (f:=45) (args:=#[aj w.heap.size,aj (w.heap.size+1),aj (w.heap.size+1+1)]) ai ki ?_;exact wv (m.out.old a.out.k (λj hb j=>by have:=a.out.pl;simp at hb;omega)) (m.out.blk a.out.bO aU) (m.out.blk a.out.bE aU) (m.out.blk a.out.bA aU) a7 o _ rfl rfl rfl
  have j:((g:Int)==200)=false:=aC
  have cm:=Z (show a6=(iV (b.size:Int) (bL::bp)).bind λj m=>iW (b.size:Int) bm (bl.map RI.it++[j]) m by rw[bb.out,qu];exact if_neg (by rw[List.length_map,a.out.it.len];exact b9));have cQ:=Z (ER (b.size:Int) bL bp);have cR:=Z (cE.same a.k.same);clear bb;go_upto_region 9 with(fail)
  refine ez 6 (S:=(λn=>ac n (am w 0) (U bw g e))) e0 (λbM=>?_);refine dU (i:=0) (oi:=?aB) (v:=?aF) ?aI ak ak ak ak ?aJ (Or.inl ⟨?aL,?aM⟩) bM ?aN
  case aI=>simp only[bc,bd,be];rfl
  case aJ=>exact λe j w h=>qt _ _ au au au e j w h
  case aL=>rfl
  case aM=>
   intro n j;have aQ:=j;go_simp;try with_reducible rfl
  refine av ?_;refine dU (i:=2) (oi:=?aR) (v:=?aS) ?aT ak ak ak ak ?aV (Or.inl ⟨?aW,?aY⟩) bM ?aZ
  case aT=>simp only[bc,bd,be];rfl
  case aV=>exact λe j w h=>qt _ _ au au au e j w h
  case aW=>rfl
  case aY=>
   intro n j;have aQ:=j;go_simp;try with_reducible rfl
  refine av ?_;refine dU (i:=1) (oi:=?bf) (v:=?bg) ?ay ak ak ak ak ?bn (Or.inl ⟨?ah,?aQ⟩) bM ?bq
  case ay=>simp only[bc,bd,be];rfl
  case bn=>exact λe j w h=>qt _ _ au au au e j w h
  case ah=>rfl
  case aQ=>
   intro n j;have aQ:=j;go_simp;try with_reducible rfl
  refine av ?_;refine aK 3 (λca o=>?_);go_simp;refine ud (w:=wr.drew) (l:=[d]) ai (Kp.refl _ _) cm.out (By (b.size:Int) d bL bp _ (a.out.pb.drew) (cR.out.same ((ag.refl _).drew)) ae) ?bB ?bC
  case bB=>
   intro a7 q j j r;have s:=j.out;subst s;have m:=(Kp.of_same ((ag.refl wr).drew)).trans r;go_wp2_with fail
   refine leaves_cons (f:=45) (args:=#[aj w.heap.size,aj (w.heap.size+1),aj (w.heap.size+1+1)]) ai ki ?_;exact wv (m.old a.out.k (λj hb j=>by have:=a.out.pl;simp at hb;omega)) (m.blk a.out.bO aU) (m.blk a.out.bE aU) (m.blk a.out.bA aU) a7 q _ rfl rfl rfl
  intro cS cb cT m cn co br cp cU cq cV;obtain⟨bN,cW,br,cr⟩:=br;have j:=cQ cS cb cn;have bP:=(Kp.of_same ((ag.refl wr).drew)).trans cp;have cs:=Z (show a6=iW (b.size:Int) bm ((bl++[bN]).map RI.it) cb by rw[co.out,List.map_append,<-cW];rfl);have cc:=Z (show df m (Bw wr.heap.size m.heap.size) bN from cr);have bQ:=Z bP;have ct:=(bP.cell a.bO.lt aU).trans e0;have b:=a.pl;have b:=bP.size;obtain⟨bR,cd⟩:∃bR,bR=bN:=⟨_,rfl⟩;rw[<-cd]at cc cs;obtain⟨q,r,s,t,u,⟨x,y,z⟩,c2,⟨A,B,C⟩,c3,D,E,F,⟨G,H,I⟩,c4,K,L,⟨M,N,P⟩,c5,⟨Q,R,T⟩,c6,⟨V,W,X⟩,c8,⟨aM,Y,⟨ad,al,an⟩,c9,⟨ap,aq,ar⟩,da,⟨ax,a0,a1⟩,db,a2,a3,a4,a5⟩⟩:=bN;replace br:cT=.agg #[q,r,s,t,u,U x y z,U A B C,D,E,F,U G H I,K,L,U M N P,U Q R T,U V W X,aM,Y,U ad al an,U ap aq ar,U ax a0 a1,a2,a3,a4,a5]:=br;have cX:=Z (show bR.cells=(#[q,r,s,t,u,U x y z,U A B C,D,E,F,U G H I,K,L,U M N P,U Q R T,U V W X,aM,Y,U ad al an,U ap aq ar,U ax a0 a1,a2,a3,a4,a5]:Array Value).toList by rw[cd];rfl);subst br;have cu:=Z cq.out;clear cr cp cn cm cd cU cq cV co bM bP;try go_simp
  refine o.out _ _ (λ_=>ct) ?_;refine av ?_;refine aK 4 (λca o=>?_);go_simp;refine o.out _ _ (λ_=>(World.cell?_alloc_lt _ _ _ aD).trans ct) ?_;refine av ?_;have ce:=Z (aH ((ag.refl m).alloc (.cells #[q,r,s,t,u,U x y z,U A B C,D,E,F,U G H I,K,L,U M N P,U Q R T,U V W X,aM,Y,U ad al an,U ap aq ar,U ax a0 a1,a2,a3,a4,a5] 95)) (a.out.it.keep bQ.out ai).own);have cv:=Z (cC m #[q,r,s,t,u,U x y z,U A B C,D,E,F,U G H I,K,L,U M N P,U Q R T,U V W X,aM,Y,U ad al an,U ap aq ar,U ax a0 a1,a2,a3,a4,a5] 95 25 rfl);have cw:∀b∈(#[q,r,s,t,u,U x y z,U A B C,D,E,F,U G H I,K,L,U M N P,U Q R T,U V W X,aM,Y,U ad al an,U ap aq ar,U ax a0 a1,a2,a3,a4,a5]:Array Value).toList,b.oneCell'=true:=by simp[Value.oneCell']
  refine aK 5 (λca o=>?_);refine c7 (m.alloc (.cells #[q,r,s,t,u,U x y z,U A B C,D,E,F,U G H I,K,L,U M N P,U Q R T,U V W X,aM,Y,U ad al an,U ap aq ar,U ax a0 a1,a2,a3,a4,a5] 95)) (.tmp 37) (.tmp 40) 22 rfl (d+1) 95 cy _ 25 408 Tryz.underlying22 cz cA cB cD rfl au (U bw g e) g (bl.flatMap RI.cells) rfl ce.out (m.heap.size+1) (some ⟨m.heap.size,0,none⟩) 1 1 (#[q,r,s,t,u,U x y z,U A B C,D,E,F,U G H I,K,L,U M N P,U Q R T,U V W X,aM,Y,U ad al an,U ap aq ar,U ax a0 a1,a2,a3,a4,a5]:Array Value).toList rfl cv.out cw b1 ae aC ?_;intro b b bS hg cx;obtain⟨cY,cZ,rfl,dc⟩:=bo bS;rw[<-cX.out]at bS;have c0:=Z (gW.push a ae bQ cu ((ag.refl m).alloc _) cc.out bS hg cx);have b:∀b,(Value.slice bw g e).ownBlock=some b->d+1<=b:=λb hg=>by
   obtain⟨_,_,_,ho⟩:=bo ce.out;exact oD
  have a:=Z (J.grown (((bQ.blk a.bO aU)).alloc _) hg (λbh=>by have:=b _ bh.symm;omega));have d:=az a;have a:=λc=>J.frozen a c;clear b bS hg cx ce cv cw cc cu bQ;refine o.out _ _ (λ_=>d) ?_;refine av ?_;refine b2 ?_;refine wpAny_take (i:=6) (oi:=?bD) (v:=?bF) ?bG ak ak ak ?bH (Or.inl ⟨?bI,?bJ⟩) ?bK
  case bG=>simp only[bc,bd,be];rfl
  case bH=>exact λe a w h=>qt _ _ au au au e a w h
  case bI=>rfl
  case bJ=>
   intro n;go_simp;try with_reducible rfl
  refine av ?_;refine dp 7 (λca o=>?_);go_simp;refine o _ _ ?_;refine av ?_;refine bV ?_;go_wp2_with fail
  go_roundg bm
  case measure=>omega
  exact⟨cb,bl++[bR],cY,g+1,cZ,c0,by have:=cP.out;simp at this;omega,cs⟩
def PO.Nz {a:Type} (b:PO a):Prop:=∀a c,b=.bad a c->a≠0
theorem PO.Nz.bind {c d:Type} {b:PO c} {f:c->List ao->PO d} (h:b.Nz) (e:∀a ts,(f a ts).Nz):(b.bind f).Nz:=by
 cases b with
 |bad i a=>exact λb c g=>h b c (by injection g with h1 h2;rw[h1,h2])
 |ok a ts=>exact e a ts
theorem PO.Nz.ok {α:Type} {a:α} {ts:List ao}:(PO.ok a ts).Nz:=by intro b b h;cases h
theorem PO.Nz.bad {α:Type} {a b:Int} (h:a≠0):(PO.bad a b:PO α).Nz:=by
 intro a a c;injection c with h1 h2
 exact h1▸h
theorem PO.Nz.ite {d:Type} {a:Prop} [Decidable a] {b c:PO d} (h:b.Nz) (d:c.Nz):(if a then b else c).Nz:=by split<;>assumption
theorem qv {c:Type} (d:Int) (a:List ao) {b:Int} (h:b≠0):(e8 d a b:PO c).Nz:=by cases a<;>exact .bad ae
theorem dz (c:Int) (b:bm):∀a:List ao,(aR c a b).Nz:=by
 induction b with
 |nil=>intro a;cases a<;>exact .ok
 |cons d b e=>
  intro a;have:aR c a (d::b)=if bu a d then aR c a.tail b else e8 c a 4:=by cases a<;>rfl
  rw[this];exact .ite (e _) (qv _ _ au)
theorem wC (b:Int) (a:List ao) (c:Int):(ey b a c).Nz:=by
 cases a with
 |nil=>exact .bad au
 |cons d e=>exact .ite .ok (.bad au)
theorem fq (a:Int) (b:List ao):(bW a b).Nz:=(wC a b 1).bind λ_ _=>.ok
theorem gz (a:Int) (b:List ao):(cq a b).Nz:=(wC a b 2).bind λ_ _=>.ok
theorem mh (a:Int) (b:List ao) (c:bm):(dK a b c).Nz:=by
 unfold dK;split
 ·exact .ok
 exact qv _ _ au
theorem Fh {d:Type} (f:aw) (e:List ao->PO d) (g:∀a,(e a).Nz):∀(b:Nat) (c:List d) (a:List ao),(da f e b c a).Nz:=by
 intro b;induction b with
 |zero=>intro c a;exact .ok
 |succ b i=>intro c a;exact .ite ((g _).bind λb a=>i _ _) .ok
theorem oZ {b:Type} (c:aw) (a:List ao->PO b) (d:∀b,(a b).Nz) (b:List ao):(dA c a b).Nz:=(d _).bind λ_ _=>Fh c a d _ _ _
theorem sf (a:Int) (b:List ao):(hT a b).Nz:=oZ _ _ (fq a) _
theorem wD (a:Int) (b:List ao):(fO a b).Nz:=by
 cases b with
 |nil=>exact .ok
 |cons d c=>exact .ite .ok (.ite .ok (.ite ((gz a c).bind λ_ _=>.ok) (.ite ((gz a c).bind λ_ _=>.ok) (.ite .ok (.ite .ok (.ite .ok .ok))))))
theorem wE (b:Int) (a:List ao):(jF b a).Nz:=(wD b a).bind λc a=>by cases c with|none=>exact qv _ _ au|some c=>exact .ok
theorem wF (b:Int) (a:List ao):(jG b a).Nz:=(wD b a).bind λc a=>by
 cases c with
 |none=>exact(fq b a).bind λd a=>.ite ((fq b _).bind λ_ _=>.ok) .ok
 |some c=>exact .ok
theorem Fi (a:Int) (b:List ao):(mn a b).Nz:=.ite (gz a _) (.ite ((gz a _).bind λ_ _=>.ok) .ok)
theorem Fj (a:Int) (b:List ao):(kB a b).Nz:=(wF a b).bind λ_ _=>(mh a _ _).bind λ_ _=>(wF a _).bind λ_ _=>(Fi a _).bind λ_ _=>.ok
theorem wG (a:Int) (b:List ao):(jH a b).Nz:=(dz a _ _).bind λ_ _=>oZ _ _ (Fj a) _
theorem Fk (a:Int) (b:List ao):(kC a b).Nz:=(fq a b).bind λ_ _=>(mh a _ _).bind λ_ _=>.ite ((wE a _).bind λ_ _=>.ok) .ok
theorem Fl (a:Int) (b:List ao):(kD a b).Nz:=(fq a b).bind λ_ _=>(dz a _ _).bind λ_ _=>(wE a _).bind λ_ _=>.ok
theorem Fm (a:Int) (b:List ao):(kE a b).Nz:=(fq a b).bind λ_ _=>(fq a _).bind λ_ _=>.ok
theorem Fo (a:Int) (b:List ao):(iU a b).Nz:=
 (fq a b).bind λ_ _=>(mh a _ _).bind λ_ _=>(PO.Nz.ite (gz a _) .ok).bind λ_ _=>(dz a _ _).bind λ_ _=>(gz a _).bind λ_ _=>(PO.Nz.ite (gz a _) .ok).bind λ_ _=>(dz a _ _).bind λ_ _=>(gz a _).bind λ_ _=>
  (PO.Nz.ite (gz a _) .ok).bind λ_ _=>(dz a _ _).bind λ_ _=>.ok
theorem qw (a:Int) (b:List ao):(gF a b).Nz:=(fq a b).bind λ_ _=>(dz a _ _).bind λ_ _=>(fq a _).bind λ_ _=>.ok
theorem wH (a:Int) (c:aw) (b:List ao):(lx a c b).Nz:=.ite .ok (sf a b)
theorem Fp (a:Int) (c:Nat) (b:List ao):(em a c b).Nz:=
 .ite ((wG a b).bind λ_ _=>.ok) (.ite ((dz a _ _).bind λ_ _=>(wH a _ _).bind λ_ _=>.ok) (.ite
  ((dz a _ _).bind λ_ _=>(fq a _).bind λ_ _=>(dz a _ _).bind λ_ _=>(fq a _).bind λ_ _=>.ok) (.ite
  (
   (
   dz a _ _).bind λ_ _=>(wH a _ _).bind λ_ _=>(dz a _ _).bind λ_ _=>(mh a _ _).bind λ_ _=>
   (PO.Nz.ite .ok (fq a _)).bind λ_ _=>(dz a _ _).bind λ_ _=>(fq a _).bind λ_ _=>.ok) .ok)))
theorem Fq (b:Int):∀(c:Nat) (a:List ao),(eb b c a).Nz:=by
 intro c;induction c with
 |zero=>intro a;exact qv _ _ au
 |succ c d=>
  intro a;unfold eb;cases hU a 0 fP with
  |none=>exact(fq b a).bind λ_ _=>.ok
  |some e=>exact(d _).bind λc a=>(PO.Nz.ite ((dz b _ _).bind λ_ _=>(d _).bind λ_ _=>.ok) .ok).bind λ_ _=>(Fp b e _).bind λ_ _=>(dz b _ _).bind λ_ _=>.ok
theorem Fr (d:Int):∀(b:Nat) (c:List cL) (a:List ao),(hV d b c a).Nz:=by
 intro b;induction b with
 |zero=>intro c a;exact .ok
 |succ b e=>intro c a;exact .ite .ok ((Fo d a).bind λb a=>e _ _)
theorem wI (a:Int) (b:aI) (c:List ao):(hW a b c).Nz:=(dz a _ _).bind λ_ _=>(fq a _).bind λ_ _=>(dz a _ _).bind λ_ _=>(sf a _).bind λ_ _=>(dz a _ _).bind λ_ _=>.ok
theorem Fs (a:Int) (b:aI) (c:List ao):(en a b c).Nz:=by
 unfold en;refine .ite ?_ (.ite ?_ (.ite ?_ (.ite ?_ (.ite ?_ (.ite ?_ (.ite ?_ (.ite ?_ (.ite ?_ ?_))))))))
 ·exact(dz a _ _).bind λ_ _=>(oZ _ _ (Fk a) _).bind λ_ _=>(dz a _ _).bind λ_ _=>(sf a _).bind λ_ _=>.ok
 ·exact(dz a _ _).bind λ_ _=>(gz a _).bind λ_ _=>.ok
 ·exact(dz a _ _).bind λ_ _=>(qw a _).bind λ_ _=>(dz a _ _).bind λ_ _=>(mh a _ _).bind λ_ _=>.ite ((gz a _).bind λ_ _=>.ok) (.ite ((gz a _).bind λ_ _=>(gz a _).bind λ_ _=>.ok) .ok)
 ·exact(dz a _ _).bind λ_ _=>(fq a _).bind λ_ _=>(dz a _ _).bind λ_ _=>(gz a _).bind λ_ _=>(dz a _ _).bind λ_ _=>(Fr a _ _ _).bind λ_ _=>.ok
 ·exact(qw a _).bind λ_ _=>(dz a _ _).bind λ_ _=>(mh a _ _).bind λ_ _=>.ok
 ·exact wI a b c
 ·exact(wI a b c).bind λb _=>(dz a _ _).bind λ_ _=>(fq a _).bind λ_ _=>.ite ((oZ _ _ (Fl a) _).bind λ_ _=>.ok) .ok
 ·exact(qw a _).bind λ_ _=>(dz a _ _).bind λ_ _=>(qw a _).bind λ_ _=>.ok
 ·exact(oZ _ _ (Fm a) _).bind λ_ _=>(wG a _).bind λ_ _=>.ok
 exact(dz a _ _).bind λ_ _=>(Fq a _ _).bind λ_ _=>.ok
theorem Ft (a:Int) (b:List ao):(iV a b).Nz:=
 (mh a _ _).bind λ_ _=>(PO.Nz.ite .ok (fq a _)).bind λ_ _=>(Fs a _ _).bind λ_ _=>(dz a _ _).bind λ_ _=>.ok
theorem Fu (d:Int):∀(a:Nat) (c:List aI) (b:List ao),(iW d a c b).Nz:=by
 intro a;induction a with
 |zero=>intro c b;exact .ok
 |succ a e=>
  intro c b;cases b with
  |nil=>exact .ok
  |cons f g=>
   rw[qu];split
   ·exact .bad au
   exact(Ft d _).bind λa _=>e _ _
theorem Fv (l:bL):(gi l).Nz:=by
 unfold gi;split
 ·exact Fu _ _ _ _
 rename_i h
 exact .bad h
end Go.Proofs.YteamkimbmdgdbaaGreatDoor
