import Derived.Test.YteamkimbmdgdbaaGreatDoorK29
set_option linter.unusedSimpArgs false
set_option linter.unusedVariables false
set_option maxHeartbeats 16000000
set_option maxRecDepth 100000
namespace Go.Proofs.YteamkimbmdgdbaaGreatDoor
open Go.Proofs.Tryz
open Go.RowKit
theorem RI.one (a:RI):a.cells.toArray.all (·.oneCell')=true:=by
 obtain⟨c,d,e,f,g,i,j,k,l,m,n,o,p,q,r,s,t,u,v,w,x,y,b⟩:=a;cases b;simp[RI.cells,RE.cells,Hd.val,Value.oneCell']
theorem ud:cb.all (·.oneCell')=true:=by simp[cb,Value.oneCell']
theorem Tryz.lS:(prog.info? 37).map (·.size)=some cb.size:=am
theorem IX {a:Int} {v:aA} (h:gF a=some v):∃a,v=.func (.func a) #[] #[]:=by
 unfold gF at h;repeat' split at h
 all_goals first|exact⟨_,(Option.some.inj h).symm⟩|cases h
theorem jj (a:Act):a.put none undef=a:=rfl
theorem jW {b:Program} {g:Func} {p u:Tmp} {c:aX} (h:g.results=#[.cell p c,.tmp u]) (d:aQ) (a:ah) (e:Nat) (i:aX) (cs:aQ) (f:TypeDesc)
 (j:d.getD p undef=.pointer (some ⟨e,0,none⟩)) (k:a.heap[e]?=some (.cells cs i (0,0))) (l:b.underlying c=some f) (m:(match f with|.struct _|.array _ _=>true|_=>false)=true) (n:(b.info? c).map (·.size)=some cs.size):
 (results g d).run b a=.ok (.tuple #[.agg cs,d.getD u undef]) a:=by
 have b:(asAddr (d.getD p undef)).run b a=.ok ⟨e,0,none⟩ a:=by rw[j];rfl
 rw[results_cell_tmp h,b];simp[Result.andThen,run_loadVar_row a e i c cs (0,0) f k l m n]
theorem IY (h aU:Hd) (rs:List RI) (cs:List Cg) (d:ah) (aV:Ending->World->Prop) (aW:Hid (aV=gd d (cT (rs.map RI.it) cs))) (aX:aD d 25 h RI.cells rs) (bk:∀aY∈rs,cz d (λj=>j<d.heap.size) aY) (bl:∀aY∈rs,aY.it.cW) (bm:h.n<=200) (aZ:aD d 8 aU Cg.cells cs) (bq:∀aY∈cs,aJ aY.name/\aJ aY.dflt.s) (aY:cs.length<=1000):
 Calls prog 37 #[.agg #[h.val],aU.val] d aV:=by
 obtain⟨F,a0,I⟩:=h;obtain⟨br,cm,cn⟩:=aU;have co:rs.length=a0:=aX.1;subst co;have cp:cs.length=cm:=aZ.1;subst cp;have cq:=Z aZ;have bs:=Z bq;have bt:=Z aX;have bv:=Z bk;have ar:=Z bl;have a1:rs.length<=200:=bm;have ad:decide ((200:Int)<(rs.length:Int))=false:=by
  simp;omega
 clear aX bk bm bl aZ bq;have cr:=@run_makeMap prog;have ct:=Gs rs.length af;show Calls prog 37 #[.agg #[O F rs.length I],O br cs.length cn] d aV;go_enter func37,ntmps37
 go_upto_region 5 with(fail)
 have az:=Z (Gt d (O F rs.length I) rs);unfold cb at az;obtain⟨aV,aU⟩:∃b,b=((((((d.alloc (.cells #[O F rs.length I] 24)).alloc (.cells zab 37)).alloc (.map #[] 0)).alloc (.cells #[ab,ab,ab,ab,ab,ab,ab,.map (some (d.heap.size+1+1)),J 0] 157)).alloc (.cells #[ak (d.heap.size+1+1+1)] 154)).alloc (.cells ((List.replicate rs.length ((0:Int),(0:Int))).flatMap dS).toArray 97)):=⟨_,rfl⟩;rw[<-aU]at az⊢;clear aU ct cr ad;obtain⟨aV,aX,u0,aY,aZ,bk,aU,bl,bm,bq,cm,cn,co,cp⟩:=id az.out;have cu:=ay aU;clear bk aU bl bm bq cm cn co cp aV aX u0 aY aZ;go_upto_region 6 with(fail)
 go_loopg [41] (rs.length+1) (λk m wr=>∃i:Nat,m=.int .i64 i/\i<=rs.length/\rs.length-i<k/\Hid (L1 d wr (O F rs.length I) rs i))
 case atStart=>exact⟨0,rfl,by omega,by omega,az⟩
 obtain⟨i,rfl,cv,T,C⟩:=hrel;have ga:=Z T;clear T;by_cases ad:i<rs.length
 case neg=>
  have cw:¬(i:Int)<rs.length:=af
  have aE:i=rs.length:=af
  obtain⟨al,bw,A,az,bz⟩:=H1 (cs:=cs) (by have:=C.out;rw[aE]at this;exact this) a1;have bA:=Z az;have bB:=Z A;clear az A C aE;go_upto_region 11 with(fail)
  clear cw;go_loopg [57] (cs.length+1) (λm o r=>∃k:Nat,o=.int .i64 k/\k<=cs.length/\cs.length-k<m/\Hid (L2 d r (O F rs.length I) al bw cs k))
  case atStart=>exact⟨0,rfl,by omega,by omega,bz⟩
  obtain⟨m,rfl,cV,bC,C⟩:=hrel;have bD:=Z bC;clear bC bz;by_cases aG:m<cs.length
  case neg=>
   have ce:¬(m:Int)<cs.length:=af
   have cf:m=cs.length:=af
   subst cf;obtain⟨B,K,bz,az,aU,aV,aX,L,aY,aZ,bk,bl,bm,bq⟩:=C.out;have cg:=Z (show gh bw cs=.ok (K.map RT.tb) by rw[bq];simp[gh]);have ch:=Z (Dv wr);have hF:=aa.lt L;have ci:=Z (λo (r:ag wr o) (t:cQ (.int .i64) o wr.heap.size my)=>(have k:=Kp.of_same (l:=[]) r;⟨az.trans r,k.blk aU aj,k.blk aV aj,k.blk aX aj,L.kp k aj,⟨bz,k.blk aY aj⟩,aZ.same r,bk,H0 bl bm af af,t,hF⟩:jd d o (O F rs.length I) B K al wr.heap.size));clear az aU aV aX L aY aZ bk bl bm bq C;go_wp2_with fail
   refine ch.out.mono ?_;rintro E G ⟨R,a2,bE⟩;subst R;have r:=Z (ci G a2 bE);have am:=aR hF a2.size;have cj:=Z (H7 (rs.map RI.it) r am);have cu:ae G (aq d 0) (O F rs.length I):=aa.cell r.bP 0;clear a2 bE;go_upto_region 21 with(fail)
   clear ce;go_loopg [87,14] (rs.length+1) (λk o t z=>∃(i:Nat) (fA:aT) (fn fc:Nat),o=.int .i64 i/\t=.slice fA fn fc/\i<=rs.length/\rs.length-i<k/\Hid (L3 d G z B K al (rs.map RI.it) i ⟨fA,fn,fc⟩))
   case atStart=>exact⟨0,none,0,0,rfl,rfl,by omega,by omega,cj⟩
   obtain⟨i,fA,fn,fc,rfl,rfl,cv,T,C⟩:=hrel;have ga:=Z T;clear T;obtain⟨b,ck,cl,aU,out,z,T,az,R⟩:=id C.out;have an:=Z T;have bF:=Z az;have bG:=Z R;have a3:=Z (r.same z.kp);have aI:=Z (show fn=out.length from z.hn);clear T az R;by_cases aN:i<rs.length
   case neg=>
    have aE:i=rs.length:=af
    have T:dg {Su.zero with tabs:=K.map RT.tb} [] (al.zip (rs.map RI.it))=(b.su (K.map RT.tb),out):=by
     rw[bG.out,aE,List.drop_eq_nil_of_le (by rw[bB.out];exact Nat.le_refl _)];rfl
    have ap:=Z (show cT (rs.map RI.it) cs=(if out=[]then(b.su (K.map RT.tb),[])else(Su.zero,out)) by
     unfold cT;rw[if_pos (by simpa using a1),bA.out];dsimp only;rw[cg.out];dsimp only;rw[T])
    clear T;have o:=Z (z.kp.blk r.bS (rx af af));have T:=Z (z.kp.blk r.bp (rx af af));have aO:=Z z.wk.bx;have T:=ay T;have aP:=ud;have Q:=Tryz.lS;have a4:(#[B.val,b.h1.val,b.h2.val,b.h3.val,b.h4.val,b.h5.val,b.h6.val]:Array Value).all (·.oneCell')=true:=by simp[Hd.val,Value.oneCell']
    by_cases U:out=[]
    case pos=>
     have a5:fn=0:=by rw[aI.out,U];rfl
     subst a5;have a6:∀k t,[B.val,b.h1.val,b.h2.val,b.h3.val,b.h4.val,b.h5.val,b.h6.val][k]?=some t->ae wr (ac (d.heap.size+1+1+1) (0+k)) t:=λk t P=>by
      have T:k<7:=(List.getElem?_eq_some_iff.1 P).1;rw[aa.cell aO.out (0+k),Nat.zero_add];have:k=0\/k=1\/k=2\/k=3\/k=4\/k=5\/k=6:=af
      rcases this with E|E|E|E|E|E|E<;>(subst E;exact P)
     have a7:(some 7:Option Nat)=some [B.val,b.h1.val,b.h2.val,b.h3.val,b.h4.val,b.h5.val,b.h6.val].length:=rfl;go_wp2_with (first|(refine mW rfl 37 (.tmp 135) rfl (d.heap.size+1+1+1) 0 [B.val,b.h1.val,b.h2.val,b.h3.val,b.h4.val,b.h5.val,b.h6.val] rfl a6 _ underlying37 rfl a7 ?_)|(refine wpList_store_row rfl 37 (.tmp 4) (.tmp 136) rfl (d.heap.size+1) #[B.val,b.h1.val,b.h2.val,b.h3.val,b.h4.val,b.h5.val,b.h6.val] rfl rfl 37 cb o.out Q rfl a4 ?_)|fail)
     have T:=ih wr (d.heap.size+1) #[B.val,b.h1.val,b.h2.val,b.h3.val,b.h4.val,b.h5.val,b.h6.val];have a8:=jG o #[B.val,b.h1.val,b.h2.val,b.h3.val,b.h4.val,b.h5.val,b.h6.val];have ao:=(Kp.refl [d.heap.size+1] _).grown T (λT ao=>.inl (by injection ao with ao;simp[ao]));have az:=z.wk.kp ao (λj T=>by
      rw[aB T];exact⟨by omega,by omega,λT=>by have:=(z.wk.lt _ T).1;omega⟩)
     have T:=(r.out.yF z.kp).tI (X:=d.heap.size+1) (λk t P=>by
      rw[aa.cell o.out k]at P;exact m1 k t P) ao
     have k:=H8 T z.ft z.ss az af;refine bodyPost_end (v:=.tuple #[.agg #[B.val,b.h1.val,b.h2.val,b.h3.val,b.h4.val,b.h5.val,b.h6.val],ab]) (jW (p:=4) (u:=5) rfl _ _ (d.heap.size+1) 37 #[B.val,b.h1.val,b.h2.val,b.h3.val,b.h4.val,b.h5.val,b.h6.val] _ rfl a8 underlying37 rfl Q) rfl ?_;rw[aW.out,ap.out,if_pos U];exact⟨ao.eD a3.out (λj t=>by rw[aB t];omega),_,_,rfl,⟨B,K,b,rfl,rfl,k.low r.out.sm.size⟩,⟨aL,rfl,jU,m0⟩⟩
    have t:0<fn:=by rw[aI.out];exact List.length_pos_iff.2 U
    go_wp2_with (first|(refine wpList_store_row rfl 37 (.tmp 4) (.tmp 131) rfl (d.heap.size+1) cb rfl rfl 37 cb o.out Q rfl aP ?_)|fail)
    have t:=ih wr (d.heap.size+1) cb;have P:=jG o cb;have k:=(Kp.refl [d.heap.size+1] _).grown t (λo k=>.inl (by injection k with k;simp[k]));have t:=cI (h:=⟨fA,fn,fc⟩) q9 aI.out.symm (by show fn<=_;have:=bF.out;have:=aI.out;omega) (mT z.ow k (λj o a0=>by
     have o:=(b6 z.ow j o).1;rw[aB a0]at o;omega))
    refine bodyPost_ret (v:=.tuple #[.agg cb,O fA fn fc]) (jW (p:=4) (u:=5) rfl _ _ (d.heap.size+1) 37 cb _ rfl P underlying37 rfl Q) rfl ?_;rw[aW.out,ap.out,if_neg U];exact⟨k.eD a3.out (λj k=>by rw[aB k];omega),_,_,rfl,ry _ _,⟨_,rfl,t,λj k E=>bL r.out.sm.size (lO (h:=⟨fA,fn,fc⟩) z.ow j k E)⟩⟩
   have T:(i:Int)<rs.length:=af
   obtain⟨a4,bH,bK,cx,bM⟩:=bt.out.2.2 i aN;have cy:F=some ⟨a4,bH,none⟩:=bK;subst cy;have a5:=λm bN ao=>(a3.cell (p:=⟨a4,_,none⟩) cx).trans (bM m bN ao);have bO:(some 25:Option Nat)=some (rs[i]).cells.length:=by simp[RI.len]
   obtain⟨o,T⟩:∃o,o=rs[i]:=⟨_,rfl⟩;rw[<-T]at a5 bO;have bR:=Z T;clear T bM bK;have cA:(some 25:Option Nat)=some o.cells.toArray.size:=by simp[RI.len]
   have bT:(zaa:Array Value).size=o.cells.toArray.size:=by simp[RI.len]
   have bU:=RI.one o;have bV:=fP wr (.cells zaa 95);have bW:=World.setRow_alloc_new wr zaa o.cells.toArray 95;go_upto_region 23 with(first|(refine mW rfl 95 (.tmp 90) rfl a4 (bH+i*25) o.cells rfl a5 _ underlying95 rfl bO ?_)|(refine wpList_store_row rfl 95 (.tmp 17) (.tmp 91) rfl wr.heap.size o.cells.toArray rfl rfl 95 zaa bV cA bT bU ?_;rw[bW])|fail)
   rw[jj];obtain⟨t,T⟩:∃b,b=wr.alloc (.cells o.cells.toArray 95):=⟨_,rfl⟩;have a6:=Z (show ag wr t by rw[T];exact(ag.refl wr).alloc _);have az:wr.heap.size+1<=t.heap.size:=by rw[T];simp
   have az:t.heap.size<=wr.heap.size+1:=by rw[T];simp
   have bX:=Z (show aa t wr.heap.size 95 o.cells.toArray by rw[T];exact aa.new wr _ _);rw[<-T];clear T bW bV bU bT a5;have T:=aa.lt z.fl;have aO:=Z (z.same a6);have aP:o∈rs:=by rw[bR.out];exact List.getElem_mem aN
   have a7:=ay bX;have a8:=Z (show(rs.map RI.it)[i]?=some o.it by rw[List.getElem?_map,List.getElem?_eq_getElem aN,bR.out];rfl);obtain⟨k,z⟩:∃k,al[i]?=some k:=⟨_,List.getElem?_eq_getElem (by rw[bB.out];exact aN)⟩;have ap:=Z z;clear z;have bY:=Z (aO.fl.get (i:=i) (p:=k) (by rw[List.getElem?_append_right (by rw[an.out];exact Nat.le_refl _),an.out,Nat.sub_self,List.getElem?_drop,Nat.add_zero];exact ap.out));have cB:=Z (r.mp.kp aO.kp (rx (by have:=r.out.hm;omega) (by have:=r.out.hm;omega)));have a9:=Dw;have ba:=Dx;have hF:=aa.lt aO.fl;rcases Du cB.out o.kind with⟨bZ,cC⟩|⟨bN,ao,cC⟩
   case inl=>
    have w:=Z ((C.same (a6.trans ((ag.refl t).alloc (.cells #[.nilFunc] 162)))).skip ap a8 (.inr bZ));clear bZ;go_upto_region 26 with(fail)
    obtain⟨g,z⟩:∃g:World,g=t.alloc (.cells #[.nilFunc] 162):=⟨_,rfl⟩;rw[<-z]at w⊢;clear z a9 ba;try clear a7
    obtain⟨L,A,z⟩:=w.out.get;have e0:=(A.get z).1;have T:=(A.get z).2;clear A z L;by_cases hp:k.1=0
    case pos=>
     have LN:=Z (w.next hp);have z:(k.1==0)=true:=by simpa using hp
     exact zE
    case neg=>
    obtain⟨Q,T,U,al,z⟩:=w.out.row am hp;have b2:=Z z;have al:(k.1==0)=false:=by simpa using hp
    obtain⟨b3,b4,b5,b8,ca⟩:=info_parts Tryz.rb;have al:G.heap.size<=g.heap.size:=by
     obtain⟨_,_,_,_,_,P,_⟩:=w.out;exact P.kp.size
    have cd:=Z (aK ((ag.refl g).alloc (.cells #[k.1,k.2] 97)) T);have cD:=Z (cJ g #[k.1,k.2] 97 2 rfl);have al:fn<=200:=by have:fn=Q.length:=U;omega
    clear hp z T U;go_wp2_with (first|(at_builtin;refine ev _ rfl (.tmp 120) (.tmp 125) 38 rfl G.heap.size 97 b3 _ 2 16 underlying38 b4 b5 b8 ca rfl ax (O fA fn fc) fn (Q.flatMap dS) rfl cd.out (g.heap.size+1) (some ⟨g.heap.size,0,none⟩) 1 1 (#[k.1,k.2]:Array Value).toList rfl cD.out bn b9 af aF ?_;intro z z P bb b0;obtain⟨V,W,rfl,cE⟩:=bu P;have LN:=Z (b2.out _ _ _ _ P bb b0);clear P bb b0 cE)|fail)
    go_roundg (rs.length-i)
    case measure=>have:=ga.out;omega
    exact⟨i+1,V,fn+1,W,by go_num,rfl,by omega,omg ga,LN⟩
   case inr=>
   obtain⟨U,cD⟩:=IX ao;subst cD;have b0:=Z ao;clear ao;by_cases P:k.1=0
   case neg=>
    have w:=Z ((C.same (a6.trans ((ag.refl t).alloc (.cells #[.func (.func U) #[] #[]] 162)))).skip ap a8 (.inl P));have z:(k.1==0)=false:=by simpa using P
    have e0:=bY.1;have b4:=Z P;clear P;go_upto_region 26 with(fail)
    obtain⟨g,z⟩:∃g:World,g=t.alloc (.cells #[.func (.func U) #[] #[]] 162):=⟨_,rfl⟩;rw[<-z]at w⊢;clear z a9 ba;try clear a7
    obtain⟨L,A,z⟩:=w.out.get;have e0:=(A.get z).1;have T:=(A.get z).2;clear A z L;have hp:=b4.out;obtain⟨bb,T,al,ao,z⟩:=w.out.row am hp;have b5:=Z z;have ao:(k.1==0)=false:=by simpa using hp
    obtain⟨b8,ca,cd,cE,cF⟩:=info_parts Tryz.rb;have ao:G.heap.size<=g.heap.size:=by
     obtain⟨_,_,_,_,_,Q,_⟩:=w.out;exact Q.kp.size
    have cG:=Z (aK ((ag.refl g).alloc (.cells #[k.1,k.2] 97)) T);have cH:=Z (cJ g #[k.1,k.2] 97 2 rfl);have ao:fn<=200:=by have:fn=bb.length:=al;omega
    clear hp z T al;go_wp2_with (first|(at_builtin;refine ev _ rfl (.tmp 120) (.tmp 125) 38 rfl G.heap.size 97 b8 _ 2 16 underlying38 ca cd cE cF rfl ax (O fA fn fc) fn (bb.flatMap dS) rfl cG.out (g.heap.size+1) (some ⟨g.heap.size,0,none⟩) 1 1 (#[k.1,k.2]:Array Value).toList rfl cH.out bn b9 af aF ?_;intro z z Q b2 b3;obtain⟨V,W,rfl,cK⟩:=bu Q;have LN:=Z (b5.out _ _ _ _ Q b2 b3);clear Q b2 b3 cK)|fail)
    go_roundg (rs.length-i)
    case measure=>have:=ga.out;omega
    exact⟨i+1,V,fn+1,W,by go_num,rfl,by omega,omg ga,LN⟩
   case pos=>
   have e0:ae t (ac (d.heap.size+1+1+1+1+1) (i*2)) (J 0):=by rw[<-P];exact bY.out.1
   have cE:=Z P;clear P;go_upto_region 25 with(fail)
   have z:=Z (show ag t (t.alloc (.cells #[.func (.func U) #[] #[]] 162))from(ag.refl t).alloc _);have b2:=Z (aa.new t 162 #[.func (.func U) #[] #[]]);have T:t.heap.size+1<=(t.alloc (.cells #[.func (.func U) #[] #[]] 162)).heap.size:=aj
   obtain⟨b3,P⟩:∃g:World,g=t.alloc (.cells #[.func (.func U) #[] #[]] 162):=⟨_,rfl⟩;rw[<-P]at z b2 T⊢;clear P;have Q:=Z (aO.same z);have b4:=Z ((Kp.of_same (l:=[]) z).blk bX aj);have b5:=Z (Q.kp.blk r.bp (rx af af));have z:=Z (r.same Q.kp);have cF:=Z (show n5 b3 (d.heap.size+1+1+1) B K (λj=>j<d.heap.size) o from⟨r.out.yF Q.out.kp,r.out.ko _ af,r.out.fa,(bv.out o aP).keep (Kp.of_same (l:=[]) z.out) (λj bb=>by cases bb),by omega,λj z=>by omega,(ar.out o aP).e,(ar.out o aP).n,(ar.out o aP).f⟩);have cG:=Z (Gp (d.heap.size+1+1+1) (d.heap.size+1+1) G.heap.size t.heap.size (d.heap.size+1+1+1+1) wr.heap.size o cl (λj=>j<d.heap.size) B K b ck _ b3 Q.ft Q.wk cF (Q.ss.short af) b0 b2 b5 b4 af af af);have o:=ay b5;have o:=bc b4;go_upto_region 26 with(first|(go_at_call 59;refine cG.out.mono ?_;rintro E bg ⟨D,R,bb⟩;subst R;have o:=M3.tH r.out am Q.out an.out bF.out bG.out ap.out a8.out cE.out b0.out bb;have r:=Z o.1;have w:=Z o.2.2.2;have k:=r.out.get (i:=i) (p:=k) (by rw[List.getElem?_append_right (by rw[an.out];exact Nat.le_refl _),an.out,Nat.sub_self,List.getElem?_drop,Nat.add_zero];exact ap.out);have t:=k.1;have t:=k.2;have t:=λt=>aa.frozen r.out t;have r:d.heap.size+1+1+1+1+1<bg.heap.size:=aa.lt r.out;clear o k bb)|fail)
   obtain⟨g,k⟩:∃g:World,g=((bg.setCell (ac (d.heap.size+1+1+1+1+1) (i*2)) D.1).setCell (ac (d.heap.size+1+1+1+1+1) (i*2+1)) D.2):=⟨_,rfl⟩;rw[<-k]at w⊢;clear k a9 ba;try clear a7
   obtain⟨L,A,k⟩:=w.out.get;have e0:=(A.get k).1;have o:=(A.get k).2;clear A k L;by_cases hp:D.1=0
   case pos=>
    have LN:=Z (w.next hp);have k:(D.1==0)=true:=by simpa using hp
    exact zE
   case neg=>
   obtain⟨b8,o,r,t,k⟩:=w.out.row am hp;have cH:=Z k;have t:(D.1==0)=false:=by simpa using hp
   obtain⟨cK,cL,cM,cN,cO⟩:=info_parts Tryz.rb;have t:G.heap.size<=g.heap.size:=by
    obtain⟨_,_,_,_,_,t,_⟩:=w.out;exact t.kp.size
   have cR:=Z (aK ((ag.refl g).alloc (.cells #[D.1,D.2] 97)) o);have cS:=Z (cJ g #[D.1,D.2] 97 2 rfl);have t:fn<=200:=by have:fn=b8.length:=r;omega
   clear hp k o r;go_wp2_with (first|(at_builtin;refine ev _ rfl (.tmp 120) (.tmp 125) 38 rfl G.heap.size 97 cK _ 2 16 underlying38 cL cM cN cO rfl ax (O fA fn fc) fn (b8.flatMap dS) rfl cR.out (g.heap.size+1) (some ⟨g.heap.size,0,none⟩) 1 1 (#[D.1,D.2]:Array Value).toList rfl cS.out bn b9 af aF ?_;intro k k bb ca cd;obtain⟨V,W,rfl,cU⟩:=bu bb;have LN:=Z (cH.out _ _ _ _ bb ca cd);clear bb ca cd cU)|fail)
   go_roundg (rs.length-i)
   case measure=>have:=ga.out;omega
   exact⟨i+1,V,fn+1,W,by go_num,rfl,by omega,omg ga,LN⟩
  have A:(m:Int)<cs.length:=af
  obtain⟨a4,L,A,aI,a5,a6,a7,a8,a9,ba,bb,bE,bF,bG⟩:=C.out;obtain⟨aN,bH,bK,cx,bM⟩:=cq.out.2.2 m aG;have cy:br=some ⟨aN,bH,none⟩:=bK;subst cy;have aO:=λb bN Q=>(aI.cell (p:=⟨aN,_,none⟩) cx).trans (bM b bN Q);obtain⟨o,A⟩:∃o,o=cs[m]:=⟨_,rfl⟩;rw[<-A]at aO;have aP:=Z A;clear A bM bK;have cA:(some 8:Option Nat)=some o.cells.length:=rfl;have cB:(some 8:Option Nat)=some o.cells.toArray.size:=rfl;have bO:(#[J 0,ai,ai,ai,J 0,J 0,J 0,ai]:Array Value).size=o.cells.toArray.size:=rfl;have bR:o.cells.toArray.all (·.oneCell')=true:=by simp[Cg.cells,Value.oneCell']
  have bT:=fP wr (.cells #[J 0,ai,ai,ai,J 0,J 0,J 0,ai] 99);have bU:=World.setRow_alloc_new wr #[J 0,ai,ai,ai,J 0,J 0,J 0,ai] o.cells.toArray 99;have cC:=Z a8;have bV:=Z aI;have cD:=Z a5;have a2:=Z a6;have bW:=Z a7;have bX:=Z a9;have cE:=Z ba;have cF:=Z bb;have bY:=Z bE;have cG:=Z bF;have bZ:=Z bG;clear a8 aI a5 a6 a7 a9 ba bb bE bF bG C;go_upto_region 13 with(first|(refine mW rfl 99 (.tmp 59) rfl aN (bH+m*8) o.cells rfl aO _ underlying99 rfl cA ?_)|(refine wpList_store_row rfl 99 (.tmp 11) (.tmp 60) rfl wr.heap.size o.cells.toArray rfl rfl 99 #[J 0,ai,ai,ai,J 0,J 0,J 0,ai] bT cB bO bR ?_;rw[bU])|fail)
  have k:=Z (show ag wr (wr.alloc (.cells o.cells.toArray 99))from(ag.refl wr).alloc _);have t:=Z (aa.new wr 99 o.cells.toArray);rw[jj];obtain⟨r,A⟩:∃b,b=wr.alloc (.cells o.cells.toArray 99):=⟨_,rfl⟩;rw[<-A]at k t⊢;clear A bU bT bR bO aO;have A:=Z (Kp.of_same (l:=[]) k);have U:=Z (A.blk bX aj);have am:=Z (A.blk bW aj);have A:o∈cs:=by rw[aP.out];exact List.getElem_mem aG
  have an:=Z (λz (B:ag r z)=>HJ a4 L o z ((cE.same k).same B) (HV rfl bY af) (bs o A).1 (bs o A).2);have b0:=ay am;have cH:=ay U;obtain⟨hA2,b2,b3⟩:=a4;have b4:ae r (ac (d.heap.size+1+1+1) 0) (O hA2 b2 b3):=cH;have b5:=ay t;have b8:=aS t;have ca:=bc t;have cd:=bj t;have ce:=bo t;have cf:=bI t;have cg:=cc t;have ch:=b7 t;by_cases G:dA (L.map RT.tb) o=0
  case pos=>
   go_cut [57,12,13]from 57 to 82 (λA B E g=>∃(j:Nat) (z:Hd) (H:List RT),A=.int .i64 m/\B=.pointer (some ⟨j,0,none⟩)/\E=.int .i64 0/\Hid (ag r g/\aa g j 29 #[z.val]/\bJ g z H/\H.map RT.tb=gP (L.map RT.tb) o/\jc r.heap.size L H))
   case first=>
    have A:=aa.lt am;have cK:=aa.lt U;have E:=aa.lt t;refine eG 12 (S:=λw'=>ag r w') (ag.refl r).drew (λz=>?_);refine tk 0 z ?_ (hy:=by refine Or.inl ⟨rfl,?_⟩;intro w' hSw;have A:=(ag.cell hSw (p:=(ac (d.heap.size+1+1+1+1) 0)) A).trans b0;go_simp;try with_reducible rfl);refine tk 1 z ?_;refine tk 2 z ?_;refine tk 3 z ?_;refine tk 4 z ?_ (hy:=by refine Or.inl ⟨rfl,?_⟩;intro w' hSw;have A:=(ag.cell hSw (p:=(ac (d.heap.size+1+1+1) 0)) cK).trans b4;go_simp;try with_reducible rfl);refine tk 5 z ?_ (hy:=by refine Or.inl ⟨rfl,?_⟩;intro w' hSw;have A:=(ag.cell hSw (p:=(aq wr 0)) E).trans b5;have A:=(ag.cell hSw (p:=(aq wr 1)) E).trans b8;have A:=(ag.cell hSw (p:=(aq wr 2)) E).trans ca;have A:=(ag.cell hSw (p:=(aq wr 3)) E).trans cd;have A:=(ag.cell hSw (p:=(aq wr 4)) E).trans ce;have A:=(ag.cell hSw (p:=(aq wr 5)) E).trans cf;have A:=(ag.cell hSw (p:=(aq wr 6)) E).trans cg;have A:=(ag.cell hSw (p:=(aq wr 7)) E).trans ch;go_simp;try with_reducible rfl);obtain⟨K,A⟩:∃b,b=r.drew:=⟨_,rfl⟩;rw[<-A]at z⊢;clear A;have a3:=z.size;refine mi 6 10 (λR B=>?au) (λR B=>?av)
    case' au=>
     go_simp;refine(an.out K z).mono ?_;rintro ao P ⟨cL,ap⟩;rcases cL with⟨cM,_⟩|⟨_,⟨hA3,M,N⟩,H,ci,cj,ck,cl⟩
     ·exact absurd G cM
     have cN:ao=.returned (.tuple #[.agg #[O hA3 M N],J 0]):=ci;clear ci;subst cN;have cO:=Z cj;have bh:=Z ck;have bi:Hid (jc r.heap.size L H):=Z (λA E=>(cl A E).imp id (λh j A ao=>bL a3 (h j A ao)));clear cj ck cl;have k:=Z (z.trans ap);clear ap;refine B.out _ _ (λ_=>k.out) ?_;refine aw ?_;refine tk 7 k.out ?_;refine tk 8 k.out ?_;refine tk 9 k.out ?_;refine aM 10 (λR B=>?_);go_simp;have q:=Z (k.trans ((ag.refl P).alloc (.cells #[ab] 29)));refine B.out _ _ (λ_=>q.out) ?_;refine aw ?_;have x:=Z (aa.new P 29 #[ab]);have aQ:=Z (cO.same ((ag.refl P).alloc (.cells #[ab] 29)));obtain⟨g,E⟩:∃b,b=P.alloc (.cells #[ab] 29):=⟨_,rfl⟩;obtain⟨y,A⟩:∃b,b=P.heap.size:=⟨_,rfl⟩;have Y:r.heap.size<=y:=by rw[A];exact k.out.size
     rw[<-E]at q x aQ⊢;rw[<-A]at x⊢;clear E A
    case' av=>
     go_simp;have P:=Z (z.trans ((ag.refl K).alloc (.cells #[ab] 29)));refine B.out _ _ (λ_=>P.out) ?_;refine aw ?_;refine aM 6 (λR B=>?_);go_simp;refine(an.out (K.alloc (.cells #[ab] 29)) P.out).mono ?_;rintro ao g ⟨cL,ap⟩;rcases cL with⟨cM,_⟩|⟨_,⟨hA3,M,N⟩,H,ci,cj,ck,cl⟩
     ·exact absurd G cM
     have cN:ao=.returned (.tuple #[.agg #[O hA3 M N],J 0]):=ci;clear ci;subst cN;have z:=Z cj;have bh:=Z ck;have bi:Hid (jc r.heap.size L H):=Z (λA E=>(cl A E).imp id (λh j A ao=>bL (P.size) (h j A ao)));clear cj ck cl;have q:=Z (P.trans ap);have x:=Z ((Kp.of_same (l:=[]) ap).blk (aa.new K 29 #[ab]) aj);have aQ:=z;clear ap;refine B.out _ _ (λ_=>q.out) ?_;refine aw ?_;refine tk 7 q.out ?_;refine tk 8 q.out ?_;refine tk 9 q.out ?_;obtain⟨y,z⟩:∃b,b=K.heap.size:=⟨_,rfl⟩;have Y:r.heap.size<=y:=by rw[z];exact a3
     rw[<-z]at x⊢;clear z
    all_goals
     have z:=ay x;have z:=λm=>aa.frozen x m;have P:=Kp.aH (l:=[y]) (p:=(ac y 0)) aj (Kp.refl [y] g) (O hA3 M N);have ao:=Z (P.eD q (λj z=>by rw[aB z];exact Y));refine aM 11 (λR B=>?_);go_simp;refine B.out _ _ (λ_=>ao.out) ?_;refine aw ?_;refine b1 ?_;refine tq 12 ?_;refine bQ ?_;have ap:=Z (iA x (O hA3 M N));have ci:=Z (aQ.out.tI (X:=y) (λm bN Q=>by
      rw[aa.cell x.out m]at Q;match m with
      |0=>exact⟨_,_,_,(Option.some.inj Q).symm⟩
      |_+1=>cases Q) P)
     go_wp2_with fail
     go_meet;exact⟨y,⟨hA3,M,N⟩,H,rfl,rfl,rfl,Z ⟨ao.out,ap.out,ci.out,bh.out,bi.out⟩⟩
   case rest=>
   obtain⟨j,⟨hA3,M,N⟩,H,rfl,rfl,rfl,z⟩:=hcut;obtain⟨g,A⟩:∃g:World,g=wc:=⟨_,rfl⟩;rw[<-A]at z⊢;clear A;have A:=Z z.1;have B:=Z z.2.1;have E:=Z z.2.2.1;have K:=Z z.2.2.2.1;have P:=Z z.2.2.2.2;clear z;have Q:=Z ((Kp.of_same (l:=[]) A).blk am aj);have z:=Z ((Kp.of_same (l:=[]) A).blk U aj);have B:ae g (ac j 0) (O hA3 M N):=aa.cell B 0;have B:=ay Q;have B:ae g (ac (d.heap.size+1+1+1) 0) (O hA2 b2 b3):=aa.cell z 0;have z:=λB=>aa.frozen z B;have LN:=Z (H2 (hv:=.slice F rs.length I) (by rw[aP.out];exact List.getElem?_eq_getElem aG) G bV cD a2 bW cC bX cF bY cG bZ k A E K P);go_wp2_with fail
   go_roundg (cs.length-m)
   case measure=>have:=bD.out;omega
   exact⟨m+1,by go_num,by omega,omg bD,LN⟩
  obtain⟨B,P⟩:∃B,B=dA (L.map RT.tb) o:=⟨_,rfl⟩;go_cut [57,12,13]from 57 to 82 (λo z z g=>o=.int .i64 m/\z=.int .i64 B/\Hid (ag r g))
  case first=>
   have o:=aa.lt am;have cj:=aa.lt U;have K:=aa.lt t;refine eG 12 (S:=λw'=>ag r w') (ag.refl r).drew (λz=>?_);refine tk 0 z ?_ (hy:=by refine Or.inl ⟨rfl,?_⟩;intro w' hSw;have o:=(ag.cell hSw (p:=(ac (d.heap.size+1+1+1+1) 0)) o).trans b0;go_simp;try with_reducible rfl);refine tk 1 z ?_;refine tk 2 z ?_;refine tk 3 z ?_;refine tk 4 z ?_ (hy:=by refine Or.inl ⟨rfl,?_⟩;intro w' hSw;have o:=(ag.cell hSw (p:=(ac (d.heap.size+1+1+1) 0)) cj).trans b4;go_simp;try with_reducible rfl);refine tk 5 z ?_ (hy:=by refine Or.inl ⟨rfl,?_⟩;intro w' hSw;have o:=(ag.cell hSw (p:=(aq wr 0)) K).trans b5;have o:=(ag.cell hSw (p:=(aq wr 1)) K).trans b8;have o:=(ag.cell hSw (p:=(aq wr 2)) K).trans ca;have o:=(ag.cell hSw (p:=(aq wr 3)) K).trans cd;have o:=(ag.cell hSw (p:=(aq wr 4)) K).trans ce;have o:=(ag.cell hSw (p:=(aq wr 5)) K).trans cf;have o:=(ag.cell hSw (p:=(aq wr 6)) K).trans cg;have o:=(ag.cell hSw (p:=(aq wr 7)) K).trans ch;go_simp;try with_reducible rfl);obtain⟨R,o⟩:∃b,b=r.drew:=⟨_,rfl⟩;rw[<-o]at z⊢;clear o;have ck:=z.size;refine mi 6 10 (λao E=>?aA) (λao E=>?aC)
   case' aA=>
    go_simp;refine(an.out R z).mono ?_;rintro o ap ⟨cl,a3⟩;rcases cl with⟨_,ci⟩|⟨cK,_⟩
    case inr=>exact absurd cK G
    rw[<-P]at ci;subst ci;have k:=Z (z.trans a3);clear a3;refine E.out _ _ (λ_=>k.out) ?_;refine aw ?_;refine tk 7 k.out ?_;refine tk 8 k.out ?_;refine tk 9 k.out ?_;refine aM 10 (λao E=>?_);go_simp;have q:=Z (k.trans ((ag.refl ap).alloc (.cells #[ab] 29)));refine E.out _ _ (λ_=>q.out) ?_;refine aw ?_;have x:=Z (aa.new ap 29 #[ab]);obtain⟨g,t⟩:∃b,b=ap.alloc (.cells #[ab] 29):=⟨_,rfl⟩;obtain⟨y,o⟩:∃b,b=ap.heap.size:=⟨_,rfl⟩;have Y:r.heap.size<=y:=by rw[o];exact k.out.size
    rw[<-t]at q x⊢;rw[<-o]at x⊢;clear t o
   case' aC=>
    go_simp;have ap:=Z (z.trans ((ag.refl R).alloc (.cells #[ab] 29)));refine E.out _ _ (λ_=>ap.out) ?_;refine aw ?_;refine aM 6 (λao E=>?_);go_simp;refine(an.out (R.alloc (.cells #[ab] 29)) ap.out).mono ?_;rintro o g ⟨cl,a3⟩;rcases cl with⟨_,ci⟩|⟨cK,_⟩
    case inr=>exact absurd cK G
    rw[<-P]at ci;subst ci;have q:=Z (ap.trans a3);have x:=Z ((Kp.of_same (l:=[]) a3).blk (aa.new R 29 #[ab]) aj);clear a3;refine E.out _ _ (λ_=>q.out) ?_;refine aw ?_;refine tk 7 q.out ?_;refine tk 8 q.out ?_;refine tk 9 q.out ?_;obtain⟨y,o⟩:∃b,b=R.heap.size:=⟨_,rfl⟩;have Y:r.heap.size<=y:=by rw[o];exact ck
    rw[<-o]at x⊢;clear o
   all_goals
    have o:=ay x;have m:=λm=>aa.frozen x m;have m:=Kp.aH (l:=[y]) (p:=(ac y 0)) aj (Kp.refl [y] g) ab;have ap:=Z (m.eD q (λj m=>by rw[aB m];exact Y));refine aM 11 (λao E=>?_);go_simp;refine E.out _ _ (λ_=>ap.out) ?_;refine aw ?_;refine b1 ?_;refine tq 12 ?_;refine bQ ?_;go_wp2_with fail
    go_meet;exact⟨rfl,by rw[P],ap⟩
  case rest=>
  obtain⟨rfl,rfl,z⟩:=hcut;obtain⟨g,m⟩:∃g:World,g=wc:=⟨_,rfl⟩;rw[<-m]at z⊢;clear m;have K:=Z (((Kp.of_same (l:=[]) (k.trans z)).blk a2 aj).alloc (.cells #[B,J (-1)] 97));have m:(B==0)=false:=by rw[P];simpa using G
  have ap:=Z P;have a3:=Z G;clear P G;have ci:=ud;have R:=Tryz.lS;go_wp2_with (first|(refine wpList_store_row rfl 37 (.tmp 4) (.tmp 73) rfl (d.heap.size+1) cb rfl rfl 37 cb K.out R rfl ci ?_)|fail)
  have cj:=jG K cb;have m:=ih (g.alloc (.cells #[B,J (-1)] 97)) (d.heap.size+1) cb;have ao:=bV.trans (k.trans z);have E:=(Kp.refl [d.heap.size+1] _).grown m (λm E=>.inl (by injection E with E;simp[E]));have k:=aR (aa.lt a2) (k.trans z).size;have k:cT (rs.map RI.it) cs=(Su.zero,[(B,-1)]):=by
   unfold cT;rw[if_pos (by simpa using a1),bA.out];dsimp only;rw[bZ.out,List.drop_eq_getElem_cons aG,<-aP.out,HU a3.out,<-ap.out]
  refine bodyPost_ret (v:=.tuple #[.agg cb,O (some ⟨g.heap.size,0,none⟩) 1 1]) (jW (p:=4) (u:=5) rfl _ _ (d.heap.size+1) 37 cb _ rfl cj underlying37 rfl R) rfl ?_;rw[aW.out,k];have k:=cI (h:=⟨some ⟨g.heap.size,0,none⟩,1,1⟩) (xs:=[(B,(-1:Int))]) q9 rfl aj (iI g #[B,J (-1)] 97 2 g.heap.size rfl (Nat.le_refl _));exact⟨E.eD (ao.alloc _) (λj m=>by rw[aB m];omega),_,_,rfl,ry _ _,⟨_,rfl,k.kp E (λj k k m=>by
   have k:g.heap.size=j:=congrArg Addr.block (Option.some.inj k);have:=aB m;omega),λj k k=>by
   have k:g.heap.size=j:=congrArg Addr.block (Option.some.inj k);have:=ao.size;omega⟩⟩
 have T:(i:Int)<rs.length:=af
 obtain⟨bF,bE,bK,bH,bG,E,R,U,al,am,an,ao,⟨o,ap,aE,aG⟩,aI⟩:=C.out;obtain⟨z,G,aN,bM,aO⟩:=bt.out.2.2 i ad;have bN:F=some ⟨z,G,none⟩:=aN;subst bN;have L:=λK F T=>(E.cell (p:=⟨z,_,none⟩) bM).trans (aO K F T);have aP:(some 25:Option Nat)=some (rs[i]).cells.length:=by simp[RI.len]
 obtain⟨k,F⟩:∃k,k=rs[i]:=⟨_,rfl⟩;rw[<-F]at L aP;have a2:=Z F;clear F aO aN;have bO:(some 25:Option Nat)=some k.cells.toArray.size:=by simp[RI.len]
 have a3:(zaa:Array Value).size=k.cells.toArray.size:=by simp[RI.len]
 have a4:=RI.one k;have a5:=fP wr (.cells zaa 95);have a6:=World.setRow_alloc_new wr zaa k.cells.toArray 95;have bR:=Z aI;have r:=Z aG;have FL:=Z am;have a7:=Z E;have bT:=Z R;have bU:=Z U;have bV:=Z al;have a8:=Z ao;have a9:=Z an;have ba:=Z aE;clear aI aG am E R U al ao an aE C;go_upto_region 8 with(first|(refine mW rfl 95 (.tmp 44) rfl z (G+i*25) k.cells rfl L _ underlying95 rfl aP ?_)|(refine wpList_store_row rfl 95 (.tmp 9) (.tmp 45) rfl wr.heap.size k.cells.toArray rfl rfl 95 zaa a5 bO a3 a4 ?_;rw[a6])|fail)
 obtain⟨A,b⟩:∃b,b=wr.alloc (.cells k.cells.toArray 95):=⟨_,rfl⟩;have P:=Z (show ag wr A by rw[b];exact(ag.refl wr).alloc _);have C:A.heap.size=wr.heap.size+1:=by rw[b];simp
 have bb:=Z (show aa A wr.heap.size 95 k.cells.toArray by rw[b];exact aa.new wr _ _);rw[<-b];clear b a6 a5 a4 a3 L;have t:=Z (Kp.of_same (l:=[]) P);have bW:=Z (r.kp t (λj m=>by cases m));have Q:=Z (t.blk bV aj);have bw:k∈rs:=by rw[a2.out];exact List.getElem_mem ad
 have bX:=Z (((bv k bw).keep (Kp.of_same (l:=[]) a7) (λj m=>by cases m)).keep (Kp.of_same (l:=[]) P.out) (λj m=>by cases m));have B:=r.lt;have b:=r.hb;have bY:=Z (Ga (d.heap.size+1+1+1) (d.heap.size+1+1) (d.heap.size+1+1+1+1+1+1) (d.heap.size+1+1+1+1) wr.heap.size k bH (λj=>j<d.heap.size) o.a o.n o.c bF ap bK bG A bW.out ba.out.symm (by have:=ba.out;have:=a8.out;omega) Q.out bb.out ⟨by omega,by omega,λb=>by have:=(B _ b).1;omega⟩ ⟨by omega,by omega,λb=>by have:=(B _ b).2;omega⟩ bX.out (λj b=>by omega) (ar.out k bw).n);have b:=ay Q;have b:=bc bb;go_wp2_with fail
 refine bY.out.mono ?_;rintro m b ⟨D,bz,⟨bA,b,bB,b,bC,bZ⟩⟩;subst bz;have bD:∀j∈(d.heap.size+1+1+1)::(dE (d.heap.size+1+1) ap++(Value.slice o.a o.n o.c).ownBlock.toList),j=d.heap.size+1+1\/j=d.heap.size+1+1+1\/d.heap.size+1+1+1+1+1<j:=λj b0=>by
  rcases dh b0 with m|m
  ·exact .inr (.inl m)
  rcases cP m with m|m
  ·rcases dh m with m|m
   ·exact .inl m
   obtain⟨b,d,bz⟩:=List.mem_map.1 m;have:=(B _ (r.out.nin b d)).1;exact .inr (.inr af)
  have:=(B _ (r.out.fk _ (List.mem_singleton.2 rfl) j (jI m))).1;exact .inr (.inr af)
 have b:=Gw (hv:=.slice (some ⟨z,G,none⟩) rs.length I) ad a2 (a7.trans P) (t.blk bT aj) (t.blk bU aj) Q (FL.kp t aj) a9 a8 af bR bA bD bB bC;have L3:=Z b.2;have d:=Z b.1;have j:(bE++List.replicate (rs.length-i) ((0:Int),(0:Int)))[i]?=some (0,0):=by
  have:=a9.out;rw[List.getElem?_append_right af,List.getElem?_replicate,if_pos af]
 have e0:=(d.get j).1;have k:=(d.get j).2;have d:=λK=>aa.frozen d K;clear b j bA bB bC bZ bD;go_wp2_with fail
 go_roundg (rs.length-i)
 case measure=>have:=ga.out;omega
 exact⟨i+1,by go_num,by omega,omg ga,L3⟩
theorem IZ (h k:Hd) (b:List RI) (l:List Cg) (a:ah) (j:Ending->World->Prop) (s:Hid (j=gd a (cT (b.map RI.it) l))) (i:aD a 25 h RI.cells b) (t:200<h.n):
 Calls prog 37 #[.agg #[h.val],k.val] a j:=by
 obtain⟨f,m,g⟩:=h;obtain⟨w,x,y⟩:=k;have z:b.length=m:=i.1;have k:m<=9223372036854775807:=i.2.1;subst z;have o:200<b.length:=t;have k:decide ((200:Int)<(b.length:Int))=true:=by
  simp;omega
 obtain⟨c,d,q,k,r⟩:=i.2.2 200 o;have A:f=some ⟨c,d,none⟩:=q;subst A;obtain⟨e,f⟩:∃e,e=b[200].at_:=⟨_,rfl⟩;have k:ae a (ac c (d+200*25+2)) e:=r 2 _ (by rw[f];rfl);have B:=Z (show cT (b.map RI.it) l=(Su.zero,[(3,e)]) by
  unfold cT;rw[if_neg aF,f];simp[o];rfl)
 clear r q i f;have f:(200:Int)<b.length:=af
 show Calls prog 37 #[.agg #[O (some ⟨c,d,none⟩) b.length g],O w x y] a j;go_enter func37,ntmps37
 go_upto_region 2 with(fail)
 go_region
 go_wp2;have i:=aa.new (a.alloc (.cells #[O (some ⟨c,d,none⟩) b.length g] 24)) 37 cb;have f:=iI ((a.alloc (.cells #[O (some ⟨c,d,none⟩) b.length g] 24)).alloc (.cells cb 37)) #[J 3,e] 97 2 0 rfl (Nat.zero_le _);have i:=(Kp.refl [] _).drew.blk (i.alloc (.cells #[J 3,e] 97)) aj;have j:(a.alloc (.cells #[O (some ⟨c,d,none⟩) b.length g] 24)).heap.size=a.heap.size+1:=aj
 have b:((a.alloc (.cells #[O (some ⟨c,d,none⟩) b.length g] 24)).alloc (.cells cb 37)).heap.size=a.heap.size+1+1:=aj
 rw[j]at i;rw[b]at f;refine bodyPost_ret (v:=.tuple #[.agg cb,O (some ⟨a.heap.size+1+1,0,none⟩) 1 1]) (jW (p:=4) (u:=5) rfl _ _ (a.heap.size+1) 37 cb _ rfl i underlying37 rfl Tryz.lS) rfl ?_;rw[s.out,B.out];refine⟨(((((ag.refl a).alloc _).alloc _).alloc _).drew),_,_,rfl,ry _ _,⟨⟨some ⟨a.heap.size+1+1,0,none⟩,1,1⟩,rfl,?_,λb c c=>by
  have j:a.heap.size+1+1=b:=congrArg Addr.block (Option.some.inj c);omega⟩⟩
 exact(cI (h:=⟨some ⟨a.heap.size+1+1,0,none⟩,1,1⟩) (xs:=[((3:Int),e)]) q9 rfl aj f).same (ag.refl _).drew
theorem zF (h d:Hd) (b:List RI) (c:List Cg) (a:ah) (f:aD a 25 h RI.cells b) (g:∀e∈b,cz a (λi=>i<a.heap.size) e) (i:∀e∈b,e.it.cW) (j:aD a 8 d Cg.cells c) (k:∀e∈c,aJ e.name/\aJ e.dflt.s) (e:c.length<=1000):
 Calls prog 37 #[.agg #[h.val],d.val] a (gd a (cT (b.map RI.it) c)):=by
 by_cases l:h.n<=200
 ·exact IY h d b c a _ (Z rfl) f g i l j k e
 exact IZ h d b c a _ (Z rfl) f af
end Go.Proofs.YteamkimbmdgdbaaGreatDoor
