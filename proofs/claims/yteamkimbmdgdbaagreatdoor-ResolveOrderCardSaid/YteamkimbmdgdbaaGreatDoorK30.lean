import Derived.Test.YteamkimbmdgdbaaGreatDoorK28
set_option linter.unusedSimpArgs false
set_option linter.unusedVariables false
set_option maxHeartbeats 16000000
set_option maxRecDepth 100000
namespace Go.Proofs.YteamkimbmdgdbaaGreatDoor
open Go.Proofs.Tryz
open Go.RowKit
theorem RI.one (a:RI):a.cells.toArray.all (·.oneCell')=true:=by
 obtain⟨c,d,e,f,g,i,j,k,l,m,n,o,p,q,r,s,t,u,v,w,x,y,b⟩:=a;cases b;simp[RI.cells,RE.cells,Hd.val,Value.oneCell']
theorem tO:b9.all (·.oneCell')=true:=by simp[b9,Value.oneCell']
theorem Tryz.lR:(prog.info? 37).map (·.size)=some b9.size:=am
theorem IC {a:Int} {v:aA} (h:gI a=some v):∃a,v=.func (.func a) #[] #[]:=by
 unfold gI at h;repeat' split at h
 all_goals first|exact⟨_,(Option.some.inj h).symm⟩|cases h
theorem ie (a:Act):a.put none undef=a:=rfl
theorem jP {b:Program} {g:Func} {p u:Tmp} {c:aX} (h:g.results=#[.cell p c,.tmp u]) (d:aQ) (a:ah) (e:Nat) (i:aX) (cs:aQ) (f:TypeDesc)
 (j:d.getD p undef=.pointer (some ⟨e,0,none⟩)) (k:a.heap[e]?=some (.cells cs i (0,0))) (l:b.underlying c=some f) (m:(match f with|.struct _|.array _ _=>true|_=>false)=true) (n:(b.info? c).map (·.size)=some cs.size):
 (results g d).run b a=.ok (.tuple #[.agg cs,d.getD u undef]) a:=by
 have b:(asAddr (d.getD p undef)).run b a=.ok ⟨e,0,none⟩ a:=by rw[j];rfl
 rw[results_cell_tmp h,b];simp[Result.andThen,run_loadVar_row a e i c cs (0,0) f k l m n]
theorem ID (h aR:Hd) (rs:List RI) (cs:List Cg) (d:ah) (aT:Ending->World->Prop) (aW:Hid (aT=gm d (dj (rs.map RI.it) cs))) (aX:aE d 25 h RI.cells rs) (bk:∀aY∈rs,cW d (λj=>j<d.heap.size) aY) (bm:∀aY∈rs,aY.it.cL) (bn:h.n<=200) (a0:aE d 8 aR Cg.cells cs) (bo:∀aY∈cs,aJ aY.name/\aJ aY.dflt.s) (aY:cs.length<=1000):
 Calls prog 37 #[.agg #[h.val],aR.val] d aT:=by
 obtain⟨F,a1,I⟩:=h;obtain⟨bq,cm,cn⟩:=aR;have co:rs.length=a1:=aX.1;subst co;have cp:cs.length=cm:=a0.1;subst cp;have cq:=Z a0;have br:=Z bo;have bs:=Z aX;have bt:=Z bk;have ar:=Z bm;have a2:rs.length<=200:=bn;have ad:decide ((200:Int)<(rs.length:Int))=false:=by
  simp;omega
 clear aX bk bn bm a0 bo;have cr:=@run_makeMap prog;have ct:=Gi rs.length af;show Calls prog 37 #[.agg #[O F rs.length I],O bq cs.length cn] d aT;go_enter func37,ntmps37
 go_upto_region 5 with(fail)
 have ax:=Z (Gj d (O F rs.length I) rs);unfold b9 at ax;obtain⟨aT,aR⟩:∃b,b=((((((d.alloc (.cells #[O F rs.length I] 24)).alloc (.cells #[ab,ab,ab,ab,ab,ab,ab] 37)).alloc (.map #[] 0)).alloc (.cells #[ab,ab,ab,ab,ab,ab,ab,.map (some (d.heap.size+1+1)),J 0] 157)).alloc (.cells #[ak (d.heap.size+1+1+1)] 154)).alloc (.cells ((List.replicate rs.length ((0:Int),(0:Int))).flatMap d6).toArray 97)):=⟨_,rfl⟩;rw[<-aR]at ax⊢;clear aR ct cr ad;obtain⟨aT,aX,u0,aY,a0,bk,aR,bm,bn,bo,cm,cn,co,cp⟩:=id ax.out;have cu:=ay aR;clear bk aR bm bn bo cm cn co cp aT aX u0 aY a0;go_upto_region 6 with(fail)
 go_loopg [41] (rs.length+1) (λk m wr=>∃i:Nat,m=.int .i64 i/\i<=rs.length/\rs.length-i<k/\Hid (L1 d wr (O F rs.length I) rs i))
 case atStart=>exact⟨0,rfl,by omega,by omega,ax⟩
 obtain⟨i,rfl,cv,T,C⟩:=hrel;have gi:=Z T;clear T;by_cases ad:i<rs.length
 case neg=>
  have cw:¬(i:Int)<rs.length:=af
  have az:i=rs.length:=af
  obtain⟨al,bu,A,ax,bz⟩:=HB (cs:=cs) (by have:=C.out;rw[az]at this;exact this) a2;have bA:=Z ax;have bB:=Z A;clear ax A C az;go_upto_region 11 with(fail)
  clear cw;go_loopg [57] (cs.length+1) (λm o r=>∃k:Nat,o=.int .i64 k/\k<=cs.length/\cs.length-k<m/\Hid (L2 d r (O F rs.length I) al bu cs k))
  case atStart=>exact⟨0,rfl,by omega,by omega,bz⟩
  obtain⟨m,rfl,cU,bC,C⟩:=hrel;have bD:=Z bC;clear bC bz;by_cases aG:m<cs.length
  case neg=>
   have ce:¬(m:Int)<cs.length:=af
   have cf:m=cs.length:=af
   subst cf;obtain⟨B,K,bz,ax,aR,aT,aX,L,aY,a0,bk,bm,bn,bo⟩:=C.out;have cg:=Z (show gh bu cs=.ok (K.map RT.tb) by rw[bo];simp[gh]);have ch:=Z (Dm wr);have hF:=aa.lt L;have ci:=Z (λo (r:ag wr o) (t:cR (.int .i64) o wr.heap.size mq)=>(have k:=Kp.of_same (l:=[]) r;⟨ax.trans r,k.blk aR aj,k.blk aT aj,k.blk aX aj,L.kp k aj,⟨bz,k.blk aY aj⟩,a0.same r,bk,HA bm bn af af,t,hF⟩:iZ d o (O F rs.length I) B K al wr.heap.size));clear ax aR aT aX L aY a0 bk bm bn bo C;go_wp2_with fail
   refine ch.out.mono ?_;rintro E G ⟨R,a3,bE⟩;subst R;have r:=Z (ci G a3 bE);have am:=aV hF a3.size;have cj:=Z (HU (rs.map RI.it) r am);have cu:ae G (ao d 0) (O F rs.length I):=aa.cell r.bP 0;clear a3 bE;go_upto_region 21 with(fail)
   clear ce;go_loopg [87,14] (rs.length+1) (λk o t z=>∃(i:Nat) (fA:aU) (fn fc:Nat),o=.int .i64 i/\t=.slice fA fn fc/\i<=rs.length/\rs.length-i<k/\Hid (L3 d G z B K al (rs.map RI.it) i ⟨fA,fn,fc⟩))
   case atStart=>exact⟨0,none,0,0,rfl,rfl,by omega,by omega,cj⟩
   obtain⟨i,fA,fn,fc,rfl,rfl,cv,T,C⟩:=hrel;have gi:=Z T;clear T;obtain⟨b,ck,cl,aR,out,z,T,ax,R⟩:=id C.out;have an:=Z T;have bG:=Z ax;have bH:=Z R;have a4:=Z (r.same z.kp);have aH:=Z (show fn=out.length from z.hn);clear T ax R;by_cases aN:i<rs.length
   case neg=>
    have az:i=rs.length:=af
    have T:dr {Su.zero with tabs:=K.map RT.tb} [] (al.zip (rs.map RI.it))=(b.su (K.map RT.tb),out):=by
     rw[bH.out,az,List.drop_eq_nil_of_le (by rw[bB.out];exact Nat.le_refl _)];rfl
    have aq:=Z (show dj (rs.map RI.it) cs=(if out=[]then(b.su (K.map RT.tb),[])else(Su.zero,out)) by
     unfold dj;rw[if_pos (by simpa using a2),bA.out];dsimp only;rw[cg.out];dsimp only;rw[T])
    clear T;have o:=Z (z.kp.blk r.bS (rl af af));have T:=Z (z.kp.blk r.bp (rl af af));have aO:=Z z.wk.bx;have T:=ay T;have aP:=tO;have Q:=Tryz.lR;have a5:(#[B.val,b.h1.val,b.h2.val,b.h3.val,b.h4.val,b.h5.val,b.h6.val]:Array Value).all (·.oneCell')=true:=by simp[Hd.val,Value.oneCell']
    by_cases U:out=[]
    case pos=>
     have a6:fn=0:=by rw[aH.out,U];rfl
     subst a6;have a7:∀k t,[B.val,b.h1.val,b.h2.val,b.h3.val,b.h4.val,b.h5.val,b.h6.val][k]?=some t->ae wr (ac (d.heap.size+1+1+1) (0+k)) t:=λk t P=>by
      have T:k<7:=(List.getElem?_eq_some_iff.1 P).1;rw[aa.cell aO.out (0+k),Nat.zero_add];have:k=0\/k=1\/k=2\/k=3\/k=4\/k=5\/k=6:=af
      rcases this with E|E|E|E|E|E|E<;>(subst E;exact P)
     have a8:(some 7:Option Nat)=some [B.val,b.h1.val,b.h2.val,b.h3.val,b.h4.val,b.h5.val,b.h6.val].length:=rfl;go_wp2_with (first|(refine nX rfl 37 (.tmp 135) rfl (d.heap.size+1+1+1) 0 [B.val,b.h1.val,b.h2.val,b.h3.val,b.h4.val,b.h5.val,b.h6.val] rfl a7 _ underlying37 rfl a8 ?_)|(refine wpList_store_row rfl 37 (.tmp 4) (.tmp 136) rfl (d.heap.size+1) #[B.val,b.h1.val,b.h2.val,b.h3.val,b.h4.val,b.h5.val,b.h6.val] rfl rfl 37 b9 o.out Q rfl a5 ?_)|fail)
     have T:=kv wr (d.heap.size+1) #[B.val,b.h1.val,b.h2.val,b.h3.val,b.h4.val,b.h5.val,b.h6.val];have a9:=lu o #[B.val,b.h1.val,b.h2.val,b.h3.val,b.h4.val,b.h5.val,b.h6.val];have ap:=(Kp.refl [d.heap.size+1] _).grown T (λT ap=>.inl (by injection ap with ap;simp[ap]));have ax:=z.wk.kp ap (λj T=>by
      rw[aC T];exact⟨by omega,by omega,λT=>by have:=(z.wk.lt _ T).1;omega⟩)
     have T:=(r.out.yA z.kp).tr (X:=d.heap.size+1) (λk t P=>by
      rw[aa.cell o.out k]at P;exact n3 k t P) ap
     have k:=HV T z.ft z.ss ax af;refine bodyPost_end (v:=.tuple #[.agg #[B.val,b.h1.val,b.h2.val,b.h3.val,b.h4.val,b.h5.val,b.h6.val],ab]) (jP (p:=4) (u:=5) rfl _ _ (d.heap.size+1) 37 #[B.val,b.h1.val,b.h2.val,b.h3.val,b.h4.val,b.h5.val,b.h6.val] _ rfl a9 underlying37 rfl Q) rfl ?_;rw[aW.out,aq.out,if_pos U];exact⟨ap.fY a4.out (λj t=>by rw[aC t];omega),_,_,rfl,⟨B,K,b,rfl,rfl,k.low r.out.sm.size⟩,⟨aL,rfl,jN,mT⟩⟩
    have t:0<fn:=by rw[aH.out];exact List.length_pos_iff.2 U
    go_wp2_with (first|(refine wpList_store_row rfl 37 (.tmp 4) (.tmp 131) rfl (d.heap.size+1) b9 rfl rfl 37 b9 o.out Q rfl aP ?_)|fail)
    have t:=kv wr (d.heap.size+1) b9;have P:=lu o b9;have k:=(Kp.refl [d.heap.size+1] _).grown t (λo k=>.inl (by injection k with k;simp[k]));have t:=cJ (h:=⟨fA,fn,fc⟩) q1 aH.out.symm (by show fn<=_;have:=bG.out;have:=aH.out;omega) (mN z.ow k (λj o a1=>by
     have o:=(b2 z.ow j o).1;rw[aC a1]at o;omega))
    refine bodyPost_ret (v:=.tuple #[.agg b9,O fA fn fc]) (jP (p:=4) (u:=5) rfl _ _ (d.heap.size+1) 37 b9 _ rfl P underlying37 rfl Q) rfl ?_;rw[aW.out,aq.out,if_neg U];exact⟨k.fY a4.out (λj k=>by rw[aC k];omega),_,_,rfl,rm _ _,⟨_,rfl,t,λj k E=>bJ r.out.sm.size (lO (h:=⟨fA,fn,fc⟩) z.ow j k E)⟩⟩
   have T:(i:Int)<rs.length:=af
   obtain⟨a5,bK,bL,cx,bN⟩:=bs.out.2.2 i aN;have cy:F=some ⟨a5,bK,none⟩:=bL;subst cy;have a6:=λm bO ap=>(a4.cell (p:=⟨a5,_,none⟩) cx).trans (bN m bO ap);have bQ:(some 25:Option Nat)=some (rs[i]).cells.length:=by simp[RI.len]
   obtain⟨o,T⟩:∃o,o=rs[i]:=⟨_,rfl⟩;rw[<-T]at a6 bQ;have bR:=Z T;clear T bN bL;have cz:(some 25:Option Nat)=some o.cells.toArray.size:=by simp[RI.len]
   have bT:(#[J 0,ai,J 0,ai,ai,ab,ab,J 0,J 0,J 0,ab,ai,ai,ab,ab,ab,J 0,ai,ab,ab,ab,ai,ai,J 0,J 0]:Array Value).size=o.cells.toArray.size:=by simp[RI.len]
   have bU:=RI.one o;have bV:=fK wr (.cells #[J 0,ai,J 0,ai,ai,ab,ab,J 0,J 0,J 0,ab,ai,ai,ab,ab,ab,J 0,ai,ab,ab,ab,ai,ai,J 0,J 0] 95);have bW:=World.setRow_alloc_new wr #[J 0,ai,J 0,ai,ai,ab,ab,J 0,J 0,J 0,ab,ai,ai,ab,ab,ab,J 0,ai,ab,ab,ab,ai,ai,J 0,J 0] o.cells.toArray 95;go_upto_region 23 with(first|(refine nX rfl 95 (.tmp 90) rfl a5 (bK+i*25) o.cells rfl a6 _ underlying95 rfl bQ ?_)|(refine wpList_store_row rfl 95 (.tmp 17) (.tmp 91) rfl wr.heap.size o.cells.toArray rfl rfl 95 #[J 0,ai,J 0,ai,ai,ab,ab,J 0,J 0,J 0,ab,ai,ai,ab,ab,ab,J 0,ai,ab,ab,ab,ai,ai,J 0,J 0] bV cz bT bU ?_;rw[bW])|fail)
   rw[ie];obtain⟨t,T⟩:∃b,b=wr.alloc (.cells o.cells.toArray 95):=⟨_,rfl⟩;have a7:=Z (show ag wr t by rw[T];exact(ag.refl wr).alloc _);have ax:wr.heap.size+1<=t.heap.size:=by rw[T];simp
   have ax:t.heap.size<=wr.heap.size+1:=by rw[T];simp
   have bX:=Z (show aa t wr.heap.size 95 o.cells.toArray by rw[T];exact aa.new wr _ _);rw[<-T];clear T bW bV bU bT a6;have T:=aa.lt z.fl;have aO:=Z (z.same a7);have aP:o∈rs:=by rw[bR.out];exact List.getElem_mem aN
   have a8:=ay bX;have a9:=Z (show(rs.map RI.it)[i]?=some o.it by rw[List.getElem?_map,List.getElem?_eq_getElem aN,bR.out];rfl);obtain⟨k,z⟩:∃k,al[i]?=some k:=⟨_,List.getElem?_eq_getElem (by rw[bB.out];exact aN)⟩;have aq:=Z z;clear z;have bY:=Z (aO.fl.get (i:=i) (p:=k) (by rw[List.getElem?_append_right (by rw[an.out];exact Nat.le_refl _),an.out,Nat.sub_self,List.getElem?_drop,Nat.add_zero];exact aq.out));have cA:=Z (r.mp.kp aO.kp (rl (by have:=r.out.hm;omega) (by have:=r.out.hm;omega)));have ba:=Dn;have bb:=Do;have hF:=aa.lt aO.fl;rcases Dl cA.out o.kind with⟨b0,cB⟩|⟨bO,ap,cB⟩
   case inl=>
    have w:=Z ((C.same (a7.trans ((ag.refl t).alloc (.cells #[.nilFunc] 162)))).skip aq a9 (.inr b0));clear b0;go_upto_region 26 with(fail)
    obtain⟨g,z⟩:∃g:World,g=t.alloc (.cells #[.nilFunc] 162):=⟨_,rfl⟩;rw[<-z]at w⊢;clear z ba bb;try clear a8
    obtain⟨L,A,z⟩:=w.out.get;have e0:=(A.get z).1;have T:=(A.get z).2;clear A z L;by_cases hp:k.1=0
    case pos=>
     have LN:=Z (w.next hp);have z:(k.1==0)=true:=by simpa using hp
     exact za
    case neg=>
    obtain⟨Q,T,U,al,z⟩:=w.out.row am hp;have b4:=Z z;have al:(k.1==0)=false:=by simpa using hp
    obtain⟨b5,b6,b8,ca,cb⟩:=info_parts Tryz.q2;have al:G.heap.size<=g.heap.size:=by
     obtain⟨_,_,_,_,_,P,_⟩:=w.out;exact P.kp.size
    have cd:=Z (aK ((ag.refl g).alloc (.cells #[k.1,k.2] 97)) T);have cC:=Z (cO g #[k.1,k.2] 97 2 rfl);have al:fn<=200:=by have:fn=Q.length:=U;omega
    clear hp z T U;go_wp2_with (first|(at_builtin;refine eL _ rfl (.tmp 120) (.tmp 125) 38 rfl G.heap.size 97 b5 _ 2 16 underlying38 b6 b8 ca cb rfl au (O fA fn fc) fn (Q.flatMap d6) rfl cd.out (g.heap.size+1) (some ⟨g.heap.size,0,none⟩) 1 1 (#[k.1,k.2]:Array Value).toList rfl cC.out bw cc af aF ?_;intro z z P bc b1;obtain⟨V,W,rfl,cD⟩:=bv P;have LN:=Z (b4.out _ _ _ _ P bc b1);clear P bc b1 cD)|fail)
    go_roundg (rs.length-i)
    case measure=>have:=gi.out;omega
    exact⟨i+1,V,fn+1,W,by go_num,rfl,by omega,omg gi,LN⟩
   case inr=>
   obtain⟨U,cC⟩:=IC ap;subst cC;have b1:=Z ap;clear ap;by_cases P:k.1=0
   case neg=>
    have w:=Z ((C.same (a7.trans ((ag.refl t).alloc (.cells #[.func (.func U) #[] #[]] 162)))).skip aq a9 (.inl P));have z:(k.1==0)=false:=by simpa using P
    have e0:=bY.1;have b6:=Z P;clear P;go_upto_region 26 with(fail)
    obtain⟨g,z⟩:∃g:World,g=t.alloc (.cells #[.func (.func U) #[] #[]] 162):=⟨_,rfl⟩;rw[<-z]at w⊢;clear z ba bb;try clear a8
    obtain⟨L,A,z⟩:=w.out.get;have e0:=(A.get z).1;have T:=(A.get z).2;clear A z L;have hp:=b6.out;obtain⟨bc,T,al,ap,z⟩:=w.out.row am hp;have b8:=Z z;have ap:(k.1==0)=false:=by simpa using hp
    obtain⟨ca,cb,cd,cD,cE⟩:=info_parts Tryz.q2;have ap:G.heap.size<=g.heap.size:=by
     obtain⟨_,_,_,_,_,Q,_⟩:=w.out;exact Q.kp.size
    have cF:=Z (aK ((ag.refl g).alloc (.cells #[k.1,k.2] 97)) T);have cG:=Z (cO g #[k.1,k.2] 97 2 rfl);have ap:fn<=200:=by have:fn=bc.length:=al;omega
    clear hp z T al;go_wp2_with (first|(at_builtin;refine eL _ rfl (.tmp 120) (.tmp 125) 38 rfl G.heap.size 97 ca _ 2 16 underlying38 cb cd cD cE rfl au (O fA fn fc) fn (bc.flatMap d6) rfl cF.out (g.heap.size+1) (some ⟨g.heap.size,0,none⟩) 1 1 (#[k.1,k.2]:Array Value).toList rfl cG.out bw cc af aF ?_;intro z z Q b4 b5;obtain⟨V,W,rfl,cH⟩:=bv Q;have LN:=Z (b8.out _ _ _ _ Q b4 b5);clear Q b4 b5 cH)|fail)
    go_roundg (rs.length-i)
    case measure=>have:=gi.out;omega
    exact⟨i+1,V,fn+1,W,by go_num,rfl,by omega,omg gi,LN⟩
   case pos=>
   have e0:ae t (ac (d.heap.size+1+1+1+1+1) (i*2)) (J 0):=by rw[<-P];exact bY.out.1
   have cD:=Z P;clear P;go_upto_region 25 with(fail)
   have z:=Z (show ag t (t.alloc (.cells #[.func (.func U) #[] #[]] 162))from(ag.refl t).alloc _);have b4:=Z (aa.new t 162 #[.func (.func U) #[] #[]]);have T:t.heap.size+1<=(t.alloc (.cells #[.func (.func U) #[] #[]] 162)).heap.size:=aj
   obtain⟨b5,P⟩:∃g:World,g=t.alloc (.cells #[.func (.func U) #[] #[]] 162):=⟨_,rfl⟩;rw[<-P]at z b4 T⊢;clear P;have Q:=Z (aO.same z);have b6:=Z ((Kp.of_same (l:=[]) z).blk bX aj);have b8:=Z (Q.kp.blk r.bp (rl af af));have z:=Z (r.same Q.kp);have cE:=Z (show nW b5 (d.heap.size+1+1+1) B K (λj=>j<d.heap.size) o from⟨r.out.yA Q.out.kp,r.out.ko _ af,r.out.fa,(bt.out o aP).keep (Kp.of_same (l:=[]) z.out) (λj bc=>by cases bc),by omega,λj z=>by omega,(ar.out o aP).e,(ar.out o aP).n,(ar.out o aP).f⟩);have cF:=Z (Gf (d.heap.size+1+1+1) (d.heap.size+1+1) G.heap.size t.heap.size (d.heap.size+1+1+1+1) wr.heap.size o cl (λj=>j<d.heap.size) B K b ck _ b5 Q.ft Q.wk cE (Q.ss.short af) b1 b4 b8 b6 af af af);have o:=ay b8;have o:=aZ b6;go_upto_region 26 with(first|(go_at_call 59;refine cF.out.mono ?_;rintro E bd ⟨D,R,bc⟩;subst R;have o:=M3.tp r.out am Q.out an.out bG.out bH.out aq.out a9.out cD.out b1.out bc;have r:=Z o.1;have w:=Z o.2.2.2;have k:=r.out.get (i:=i) (p:=k) (by rw[List.getElem?_append_right (by rw[an.out];exact Nat.le_refl _),an.out,Nat.sub_self,List.getElem?_drop,Nat.add_zero];exact aq.out);have t:=k.1;have t:=k.2;have t:=λt=>aa.frozen r.out t;have r:d.heap.size+1+1+1+1+1<bd.heap.size:=aa.lt r.out;clear o k bc)|fail)
   obtain⟨g,k⟩:∃g:World,g=((bd.setCell (ac (d.heap.size+1+1+1+1+1) (i*2)) D.1).setCell (ac (d.heap.size+1+1+1+1+1) (i*2+1)) D.2):=⟨_,rfl⟩;rw[<-k]at w⊢;clear k ba bb;try clear a8
   obtain⟨L,A,k⟩:=w.out.get;have e0:=(A.get k).1;have o:=(A.get k).2;clear A k L;by_cases hp:D.1=0
   case pos=>
    have LN:=Z (w.next hp);have k:(D.1==0)=true:=by simpa using hp
    exact za
   case neg=>
   obtain⟨ca,o,r,t,k⟩:=w.out.row am hp;have cG:=Z k;have t:(D.1==0)=false:=by simpa using hp
   obtain⟨cH,cI,cK,cM,cN⟩:=info_parts Tryz.q2;have t:G.heap.size<=g.heap.size:=by
    obtain⟨_,_,_,_,_,t,_⟩:=w.out;exact t.kp.size
   have cQ:=Z (aK ((ag.refl g).alloc (.cells #[D.1,D.2] 97)) o);have cS:=Z (cO g #[D.1,D.2] 97 2 rfl);have t:fn<=200:=by have:fn=ca.length:=r;omega
   clear hp k o r;go_wp2_with (first|(at_builtin;refine eL _ rfl (.tmp 120) (.tmp 125) 38 rfl G.heap.size 97 cH _ 2 16 underlying38 cI cK cM cN rfl au (O fA fn fc) fn (ca.flatMap d6) rfl cQ.out (g.heap.size+1) (some ⟨g.heap.size,0,none⟩) 1 1 (#[D.1,D.2]:Array Value).toList rfl cS.out bw cc af aF ?_;intro k k bc cb cd;obtain⟨V,W,rfl,cT⟩:=bv bc;have LN:=Z (cG.out _ _ _ _ bc cb cd);clear bc cb cd cT)|fail)
   go_roundg (rs.length-i)
   case measure=>have:=gi.out;omega
   exact⟨i+1,V,fn+1,W,by go_num,rfl,by omega,omg gi,LN⟩
  have A:(m:Int)<cs.length:=af
  obtain⟨a5,L,A,aH,a6,a7,a8,a9,ba,bb,bc,bE,bG,bH⟩:=C.out;obtain⟨aN,bK,bL,cx,bN⟩:=cq.out.2.2 m aG;have cy:bq=some ⟨aN,bK,none⟩:=bL;subst cy;have aO:=λb bO Q=>(aH.cell (p:=⟨aN,_,none⟩) cx).trans (bN b bO Q);obtain⟨o,A⟩:∃o,o=cs[m]:=⟨_,rfl⟩;rw[<-A]at aO;have aP:=Z A;clear A bN bL;have cz:(some 8:Option Nat)=some o.cells.length:=rfl;have cA:(some 8:Option Nat)=some o.cells.toArray.size:=rfl;have bQ:(#[J 0,ai,ai,ai,J 0,J 0,J 0,ai]:Array Value).size=o.cells.toArray.size:=rfl;have bR:o.cells.toArray.all (·.oneCell')=true:=by simp[Cg.cells,Value.oneCell']
  have bT:=fK wr (.cells #[J 0,ai,ai,ai,J 0,J 0,J 0,ai] 99);have bU:=World.setRow_alloc_new wr #[J 0,ai,ai,ai,J 0,J 0,J 0,ai] o.cells.toArray 99;have cB:=Z a9;have bV:=Z aH;have cC:=Z a6;have a3:=Z a7;have bW:=Z a8;have bX:=Z ba;have cD:=Z bb;have cE:=Z bc;have bY:=Z bE;have cF:=Z bG;have b0:=Z bH;clear a9 aH a6 a7 a8 ba bb bc bE bG bH C;go_upto_region 13 with(first|(refine nX rfl 99 (.tmp 59) rfl aN (bK+m*8) o.cells rfl aO _ underlying99 rfl cz ?_)|(refine wpList_store_row rfl 99 (.tmp 11) (.tmp 60) rfl wr.heap.size o.cells.toArray rfl rfl 99 #[J 0,ai,ai,ai,J 0,J 0,J 0,ai] bT cA bQ bR ?_;rw[bU])|fail)
  have k:=Z (show ag wr (wr.alloc (.cells o.cells.toArray 99))from(ag.refl wr).alloc _);have t:=Z (aa.new wr 99 o.cells.toArray);rw[ie];obtain⟨r,A⟩:∃b,b=wr.alloc (.cells o.cells.toArray 99):=⟨_,rfl⟩;rw[<-A]at k t⊢;clear A bU bT bR bQ aO;have A:=Z (Kp.of_same (l:=[]) k);have U:=Z (A.blk bX aj);have am:=Z (A.blk bW aj);have A:o∈cs:=by rw[aP.out];exact List.getElem_mem aG
  have an:=Z (λz (B:ag r z)=>Hu a5 L o z ((cD.same k).same B) (Hx rfl bY af) (br o A).1 (br o A).2);have b1:=ay am;have cG:=ay U;obtain⟨hA2,b4,b5⟩:=a5;have b6:ae r (ac (d.heap.size+1+1+1) 0) (O hA2 b4 b5):=cG;have b8:=ay t;have ca:=aS t;have cb:=aZ t;have cd:=bi t;have ce:=bl t;have cf:=bF t;have cg:=b3 t;have ch:=b7 t;by_cases G:dz (L.map RT.tb) o=0
  case pos=>
   go_cut [57,12,13]from 57 to 82 (λA B E g=>∃(j:Nat) (z:Hd) (H:List RT),A=.int .i64 m/\B=.pointer (some ⟨j,0,none⟩)/\E=.int .i64 0/\Hid (ag r g/\aa g j 29 #[z.val]/\bI g z H/\H.map RT.tb=gO (L.map RT.tb) o/\iY r.heap.size L H))
   case first=>
    have A:=aa.lt am;have cH:=aa.lt U;have E:=aa.lt t;refine eI 12 (S:=λw'=>ag r w') (ag.refl r).drew (λz=>?_);refine tk 0 z ?_ (hy:=by refine Or.inl ⟨rfl,?_⟩;intro w' hSw;have A:=(ag.cell hSw (p:=(ac (d.heap.size+1+1+1+1) 0)) A).trans b1;go_simp;try with_reducible rfl);refine tk 1 z ?_;refine tk 2 z ?_;refine tk 3 z ?_;refine tk 4 z ?_ (hy:=by refine Or.inl ⟨rfl,?_⟩;intro w' hSw;have A:=(ag.cell hSw (p:=(ac (d.heap.size+1+1+1) 0)) cH).trans b6;go_simp;try with_reducible rfl);refine tk 5 z ?_ (hy:=by refine Or.inl ⟨rfl,?_⟩;intro w' hSw;have A:=(ag.cell hSw (p:=(ao wr 0)) E).trans b8;have A:=(ag.cell hSw (p:=(ao wr 1)) E).trans ca;have A:=(ag.cell hSw (p:=(ao wr 2)) E).trans cb;have A:=(ag.cell hSw (p:=(ao wr 3)) E).trans cd;have A:=(ag.cell hSw (p:=(ao wr 4)) E).trans ce;have A:=(ag.cell hSw (p:=(ao wr 5)) E).trans cf;have A:=(ag.cell hSw (p:=(ao wr 6)) E).trans cg;have A:=(ag.cell hSw (p:=(ao wr 7)) E).trans ch;go_simp;try with_reducible rfl);obtain⟨K,A⟩:∃b,b=r.drew:=⟨_,rfl⟩;rw[<-A]at z⊢;clear A;have a4:=z.size;refine rZ 6 10 (λR B=>?av) (λR B=>?aA)
    case' av=>
     go_simp;refine(an.out K z).mono ?_;rintro ap P ⟨cI,aq⟩;rcases cI with⟨cK,_⟩|⟨_,⟨hA3,M,N⟩,H,ci,cj,ck,cl⟩
     ·exact absurd G cK
     have cM:ap=.returned (.tuple #[.agg #[O hA3 M N],J 0]):=ci;clear ci;subst cM;have cN:=Z cj;have bh:=Z ck;have bj:Hid (iY r.heap.size L H):=Z (λA E=>(cl A E).imp id (λh j A ap=>bJ a4 (h j A ap)));clear cj ck cl;have k:=Z (z.trans aq);clear aq;refine B.out _ _ (λ_=>k.out) ?_;refine aw ?_;refine tk 7 k.out ?_;refine tk 8 k.out ?_;refine tk 9 k.out ?_;refine aM 10 (λR B=>?_);go_simp;have q:=Z (k.trans ((ag.refl P).alloc (.cells #[ab] 29)));refine B.out _ _ (λ_=>q.out) ?_;refine aw ?_;have x:=Z (aa.new P 29 #[ab]);have aQ:=Z (cN.same ((ag.refl P).alloc (.cells #[ab] 29)));obtain⟨g,E⟩:∃b,b=P.alloc (.cells #[ab] 29):=⟨_,rfl⟩;obtain⟨y,A⟩:∃b,b=P.heap.size:=⟨_,rfl⟩;have Y:r.heap.size<=y:=by rw[A];exact k.out.size
     rw[<-E]at q x aQ⊢;rw[<-A]at x⊢;clear E A
    case' aA=>
     go_simp;have P:=Z (z.trans ((ag.refl K).alloc (.cells #[ab] 29)));refine B.out _ _ (λ_=>P.out) ?_;refine aw ?_;refine aM 6 (λR B=>?_);go_simp;refine(an.out (K.alloc (.cells #[ab] 29)) P.out).mono ?_;rintro ap g ⟨cI,aq⟩;rcases cI with⟨cK,_⟩|⟨_,⟨hA3,M,N⟩,H,ci,cj,ck,cl⟩
     ·exact absurd G cK
     have cM:ap=.returned (.tuple #[.agg #[O hA3 M N],J 0]):=ci;clear ci;subst cM;have z:=Z cj;have bh:=Z ck;have bj:Hid (iY r.heap.size L H):=Z (λA E=>(cl A E).imp id (λh j A ap=>bJ (P.size) (h j A ap)));clear cj ck cl;have q:=Z (P.trans aq);have x:=Z ((Kp.of_same (l:=[]) aq).blk (aa.new K 29 #[ab]) aj);have aQ:=z;clear aq;refine B.out _ _ (λ_=>q.out) ?_;refine aw ?_;refine tk 7 q.out ?_;refine tk 8 q.out ?_;refine tk 9 q.out ?_;obtain⟨y,z⟩:∃b,b=K.heap.size:=⟨_,rfl⟩;have Y:r.heap.size<=y:=by rw[z];exact a4
     rw[<-z]at x⊢;clear z
    all_goals
     have z:=ay x;have z:=λm=>aa.frozen x m;have P:=Kp.aI (l:=[y]) (p:=(ac y 0)) aj (Kp.refl [y] g) (O hA3 M N);have ap:=Z (P.fY q (λj z=>by rw[aC z];exact Y));refine aM 11 (λR B=>?_);go_simp;refine B.out _ _ (λ_=>ap.out) ?_;refine aw ?_;refine bZ ?_;refine tq 12 ?_;refine bM ?_;have aq:=Z (jf x (O hA3 M N));have ci:=Z (aQ.out.tr (X:=y) (λm bO Q=>by
      rw[aa.cell x.out m]at Q;match m with
      |0=>exact⟨_,_,_,(Option.some.inj Q).symm⟩
      |_+1=>cases Q) P)
     go_wp2_with fail
     go_meet;exact⟨y,⟨hA3,M,N⟩,H,rfl,rfl,rfl,Z ⟨ap.out,aq.out,ci.out,bh.out,bj.out⟩⟩
   case rest=>
   obtain⟨j,⟨hA3,M,N⟩,H,rfl,rfl,rfl,z⟩:=hcut;obtain⟨g,A⟩:∃g:World,g=wc:=⟨_,rfl⟩;rw[<-A]at z⊢;clear A;have A:=Z z.1;have B:=Z z.2.1;have E:=Z z.2.2.1;have K:=Z z.2.2.2.1;have P:=Z z.2.2.2.2;clear z;have Q:=Z ((Kp.of_same (l:=[]) A).blk am aj);have z:=Z ((Kp.of_same (l:=[]) A).blk U aj);have B:ae g (ac j 0) (O hA3 M N):=aa.cell B 0;have B:=ay Q;have B:ae g (ac (d.heap.size+1+1+1) 0) (O hA2 b4 b5):=aa.cell z 0;have z:=λB=>aa.frozen z B;have LN:=Z (HG (hv:=.slice F rs.length I) (by rw[aP.out];exact List.getElem?_eq_getElem aG) G bV cC a3 bW cB bX cE bY cF b0 k A E K P);go_wp2_with fail
   go_roundg (cs.length-m)
   case measure=>have:=bD.out;omega
   exact⟨m+1,by go_num,by omega,omg bD,LN⟩
  obtain⟨B,P⟩:∃B,B=dz (L.map RT.tb) o:=⟨_,rfl⟩;go_cut [57,12,13]from 57 to 82 (λo z z g=>o=.int .i64 m/\z=.int .i64 B/\Hid (ag r g))
  case first=>
   have o:=aa.lt am;have cj:=aa.lt U;have K:=aa.lt t;refine eI 12 (S:=λw'=>ag r w') (ag.refl r).drew (λz=>?_);refine tk 0 z ?_ (hy:=by refine Or.inl ⟨rfl,?_⟩;intro w' hSw;have o:=(ag.cell hSw (p:=(ac (d.heap.size+1+1+1+1) 0)) o).trans b1;go_simp;try with_reducible rfl);refine tk 1 z ?_;refine tk 2 z ?_;refine tk 3 z ?_;refine tk 4 z ?_ (hy:=by refine Or.inl ⟨rfl,?_⟩;intro w' hSw;have o:=(ag.cell hSw (p:=(ac (d.heap.size+1+1+1) 0)) cj).trans b6;go_simp;try with_reducible rfl);refine tk 5 z ?_ (hy:=by refine Or.inl ⟨rfl,?_⟩;intro w' hSw;have o:=(ag.cell hSw (p:=(ao wr 0)) K).trans b8;have o:=(ag.cell hSw (p:=(ao wr 1)) K).trans ca;have o:=(ag.cell hSw (p:=(ao wr 2)) K).trans cb;have o:=(ag.cell hSw (p:=(ao wr 3)) K).trans cd;have o:=(ag.cell hSw (p:=(ao wr 4)) K).trans ce;have o:=(ag.cell hSw (p:=(ao wr 5)) K).trans cf;have o:=(ag.cell hSw (p:=(ao wr 6)) K).trans cg;have o:=(ag.cell hSw (p:=(ao wr 7)) K).trans ch;go_simp;try with_reducible rfl);obtain⟨R,o⟩:∃b,b=r.drew:=⟨_,rfl⟩;rw[<-o]at z⊢;clear o;have ck:=z.size;refine rZ 6 10 (λap E=>?aB) (λap E=>?aD)
   case' aB=>
    go_simp;refine(an.out R z).mono ?_;rintro o aq ⟨cl,a4⟩;rcases cl with⟨_,ci⟩|⟨cH,_⟩
    case inr=>exact absurd cH G
    rw[<-P]at ci;subst ci;have k:=Z (z.trans a4);clear a4;refine E.out _ _ (λ_=>k.out) ?_;refine aw ?_;refine tk 7 k.out ?_;refine tk 8 k.out ?_;refine tk 9 k.out ?_;refine aM 10 (λap E=>?_);go_simp;have q:=Z (k.trans ((ag.refl aq).alloc (.cells #[ab] 29)));refine E.out _ _ (λ_=>q.out) ?_;refine aw ?_;have x:=Z (aa.new aq 29 #[ab]);obtain⟨g,t⟩:∃b,b=aq.alloc (.cells #[ab] 29):=⟨_,rfl⟩;obtain⟨y,o⟩:∃b,b=aq.heap.size:=⟨_,rfl⟩;have Y:r.heap.size<=y:=by rw[o];exact k.out.size
    rw[<-t]at q x⊢;rw[<-o]at x⊢;clear t o
   case' aD=>
    go_simp;have aq:=Z (z.trans ((ag.refl R).alloc (.cells #[ab] 29)));refine E.out _ _ (λ_=>aq.out) ?_;refine aw ?_;refine aM 6 (λap E=>?_);go_simp;refine(an.out (R.alloc (.cells #[ab] 29)) aq.out).mono ?_;rintro o g ⟨cl,a4⟩;rcases cl with⟨_,ci⟩|⟨cH,_⟩
    case inr=>exact absurd cH G
    rw[<-P]at ci;subst ci;have q:=Z (aq.trans a4);have x:=Z ((Kp.of_same (l:=[]) a4).blk (aa.new R 29 #[ab]) aj);clear a4;refine E.out _ _ (λ_=>q.out) ?_;refine aw ?_;refine tk 7 q.out ?_;refine tk 8 q.out ?_;refine tk 9 q.out ?_;obtain⟨y,o⟩:∃b,b=R.heap.size:=⟨_,rfl⟩;have Y:r.heap.size<=y:=by rw[o];exact ck
    rw[<-o]at x⊢;clear o
   all_goals
    have o:=ay x;have m:=λm=>aa.frozen x m;have m:=Kp.aI (l:=[y]) (p:=(ac y 0)) aj (Kp.refl [y] g) ab;have aq:=Z (m.fY q (λj m=>by rw[aC m];exact Y));refine aM 11 (λap E=>?_);go_simp;refine E.out _ _ (λ_=>aq.out) ?_;refine aw ?_;refine bZ ?_;refine tq 12 ?_;refine bM ?_;go_wp2_with fail
    go_meet;exact⟨rfl,by rw[P],aq⟩
  case rest=>
  obtain⟨rfl,rfl,z⟩:=hcut;obtain⟨g,m⟩:∃g:World,g=wc:=⟨_,rfl⟩;rw[<-m]at z⊢;clear m;have K:=Z (((Kp.of_same (l:=[]) (k.trans z)).blk a3 aj).alloc (.cells #[B,J (-1)] 97));have m:(B==0)=false:=by rw[P];simpa using G
  have aq:=Z P;have a4:=Z G;clear P G;have ci:=tO;have R:=Tryz.lR;go_wp2_with (first|(refine wpList_store_row rfl 37 (.tmp 4) (.tmp 73) rfl (d.heap.size+1) b9 rfl rfl 37 b9 K.out R rfl ci ?_)|fail)
  have cj:=lu K b9;have m:=kv (g.alloc (.cells #[B,J (-1)] 97)) (d.heap.size+1) b9;have ap:=bV.trans (k.trans z);have E:=(Kp.refl [d.heap.size+1] _).grown m (λm E=>.inl (by injection E with E;simp[E]));have k:=aV (aa.lt a3) (k.trans z).size;have k:dj (rs.map RI.it) cs=(Su.zero,[(B,-1)]):=by
   unfold dj;rw[if_pos (by simpa using a2),bA.out];dsimp only;rw[b0.out,List.drop_eq_getElem_cons aG,<-aP.out,Hw a4.out,<-aq.out]
  refine bodyPost_ret (v:=.tuple #[.agg b9,O (some ⟨g.heap.size,0,none⟩) 1 1]) (jP (p:=4) (u:=5) rfl _ _ (d.heap.size+1) 37 b9 _ rfl cj underlying37 rfl R) rfl ?_;rw[aW.out,k];have k:=cJ (h:=⟨some ⟨g.heap.size,0,none⟩,1,1⟩) (xs:=[(B,(-1:Int))]) q1 rfl aj (iB g #[B,J (-1)] 97 2 g.heap.size rfl (Nat.le_refl _));exact⟨E.fY (ap.alloc _) (λj m=>by rw[aC m];omega),_,_,rfl,rm _ _,⟨_,rfl,k.kp E (λj k k m=>by
   have k:g.heap.size=j:=congrArg Addr.block (Option.some.inj k);have:=aC m;omega),λj k k=>by
   have k:g.heap.size=j:=congrArg Addr.block (Option.some.inj k);have:=ap.size;omega⟩⟩
 have T:(i:Int)<rs.length:=af
 obtain⟨bG,bE,bL,bK,bH,E,R,U,al,am,an,ap,⟨o,aq,az,aG⟩,aH⟩:=C.out;obtain⟨z,G,aN,bN,aO⟩:=bs.out.2.2 i ad;have bO:F=some ⟨z,G,none⟩:=aN;subst bO;have L:=λK F T=>(E.cell (p:=⟨z,_,none⟩) bN).trans (aO K F T);have aP:(some 25:Option Nat)=some (rs[i]).cells.length:=by simp[RI.len]
 obtain⟨k,F⟩:∃k,k=rs[i]:=⟨_,rfl⟩;rw[<-F]at L aP;have a3:=Z F;clear F aO aN;have bQ:(some 25:Option Nat)=some k.cells.toArray.size:=by simp[RI.len]
 have a4:(#[J 0,ai,J 0,ai,ai,ab,ab,J 0,J 0,J 0,ab,ai,ai,ab,ab,ab,J 0,ai,ab,ab,ab,ai,ai,J 0,J 0]:Array Value).size=k.cells.toArray.size:=by simp[RI.len]
 have a5:=RI.one k;have a6:=fK wr (.cells #[J 0,ai,J 0,ai,ai,ab,ab,J 0,J 0,J 0,ab,ai,ai,ab,ab,ab,J 0,ai,ab,ab,ab,ai,ai,J 0,J 0] 95);have a7:=World.setRow_alloc_new wr #[J 0,ai,J 0,ai,ai,ab,ab,J 0,J 0,J 0,ab,ai,ai,ab,ab,ab,J 0,ai,ab,ab,ab,ai,ai,J 0,J 0] k.cells.toArray 95;have bR:=Z aH;have r:=Z aG;have FL:=Z am;have a8:=Z E;have bT:=Z R;have bU:=Z U;have bV:=Z al;have a9:=Z ap;have ba:=Z an;have bb:=Z az;clear aH aG am E R U al ap an az C;go_upto_region 8 with(first|(refine nX rfl 95 (.tmp 44) rfl z (G+i*25) k.cells rfl L _ underlying95 rfl aP ?_)|(refine wpList_store_row rfl 95 (.tmp 9) (.tmp 45) rfl wr.heap.size k.cells.toArray rfl rfl 95 #[J 0,ai,J 0,ai,ai,ab,ab,J 0,J 0,J 0,ab,ai,ai,ab,ab,ab,J 0,ai,ab,ab,ab,ai,ai,J 0,J 0] a6 bQ a4 a5 ?_;rw[a7])|fail)
 obtain⟨A,b⟩:∃b,b=wr.alloc (.cells k.cells.toArray 95):=⟨_,rfl⟩;have P:=Z (show ag wr A by rw[b];exact(ag.refl wr).alloc _);have C:A.heap.size=wr.heap.size+1:=by rw[b];simp
 have bc:=Z (show aa A wr.heap.size 95 k.cells.toArray by rw[b];exact aa.new wr _ _);rw[<-b];clear b a7 a6 a5 a4 L;have t:=Z (Kp.of_same (l:=[]) P);have bW:=Z (r.kp t (λj m=>by cases m));have Q:=Z (t.blk bV aj);have bu:k∈rs:=by rw[a3.out];exact List.getElem_mem ad
 have bX:=Z (((bt k bu).keep (Kp.of_same (l:=[]) a8) (λj m=>by cases m)).keep (Kp.of_same (l:=[]) P.out) (λj m=>by cases m));have B:=r.lt;have b:=r.hb;have bY:=Z (F0 (d.heap.size+1+1+1) (d.heap.size+1+1) (d.heap.size+1+1+1+1+1+1) (d.heap.size+1+1+1+1) wr.heap.size k bK (λj=>j<d.heap.size) o.a o.n o.c bG aq bL bH A bW.out bb.out.symm (by have:=bb.out;have:=a9.out;omega) Q.out bc.out ⟨by omega,by omega,λb=>by have:=(B _ b).1;omega⟩ ⟨by omega,by omega,λb=>by have:=(B _ b).2;omega⟩ bX.out (λj b=>by omega) (ar.out k bu).n);have b:=ay Q;have b:=aZ bc;go_wp2_with fail
 refine bY.out.mono ?_;rintro m b ⟨D,bz,⟨bA,b,bB,b,bC,b0⟩⟩;subst bz;have bD:∀j∈(d.heap.size+1+1+1)::(dC (d.heap.size+1+1) aq++(Value.slice o.a o.n o.c).ownBlock.toList),j=d.heap.size+1+1\/j=d.heap.size+1+1+1\/d.heap.size+1+1+1+1+1<j:=λj b1=>by
  rcases de b1 with m|m
  ·exact .inr (.inl m)
  rcases cP m with m|m
  ·rcases de m with m|m
   ·exact .inl m
   obtain⟨b,d,bz⟩:=List.mem_map.1 m;have:=(B _ (r.out.nin b d)).1;exact .inr (.inr af)
  have:=(B _ (r.out.fj _ (List.mem_singleton.2 rfl) j (jB m))).1;exact .inr (.inr af)
 have b:=Gm (hv:=.slice (some ⟨z,G,none⟩) rs.length I) ad a3 (a8.trans P) (t.blk bT aj) (t.blk bU aj) Q (FL.kp t aj) ba a9 af bR bA bD bB bC;have L3:=Z b.2;have d:=Z b.1;have j:(bE++List.replicate (rs.length-i) ((0:Int),(0:Int)))[i]?=some (0,0):=by
  have:=ba.out;rw[List.getElem?_append_right af,List.getElem?_replicate,if_pos af]
 have e0:=(d.get j).1;have k:=(d.get j).2;have d:=λK=>aa.frozen d K;clear b j bA bB bC b0 bD;go_wp2_with fail
 go_roundg (rs.length-i)
 case measure=>have:=gi.out;omega
 exact⟨i+1,by go_num,by omega,omg gi,L3⟩
theorem IE (h k:Hd) (b:List RI) (l:List Cg) (a:ah) (j:Ending->World->Prop) (s:Hid (j=gm a (dj (b.map RI.it) l))) (i:aE a 25 h RI.cells b) (t:200<h.n):
 Calls prog 37 #[.agg #[h.val],k.val] a j:=by
 obtain⟨f,m,g⟩:=h;obtain⟨w,x,y⟩:=k;have z:b.length=m:=i.1;have k:m<=9223372036854775807:=i.2.1;subst z;have o:200<b.length:=t;have k:decide ((200:Int)<(b.length:Int))=true:=by
  simp;omega
 obtain⟨c,d,q,k,r⟩:=i.2.2 200 o;have A:f=some ⟨c,d,none⟩:=q;subst A;obtain⟨e,f⟩:∃e,e=b[200].at_:=⟨_,rfl⟩;have k:ae a (ac c (d+200*25+2)) e:=r 2 _ (by rw[f];rfl);have B:=Z (show dj (b.map RI.it) l=(Su.zero,[(3,e)]) by
  unfold dj;rw[if_neg aF,f];simp[o];rfl)
 clear r q i f;have f:(200:Int)<b.length:=af
 show Calls prog 37 #[.agg #[O (some ⟨c,d,none⟩) b.length g],O w x y] a j;go_enter func37,ntmps37
 go_upto_region 2 with(fail)
 go_region
 go_wp2;have i:=aa.new (a.alloc (.cells #[O (some ⟨c,d,none⟩) b.length g] 24)) 37 b9;have f:=iB ((a.alloc (.cells #[O (some ⟨c,d,none⟩) b.length g] 24)).alloc (.cells b9 37)) #[J 3,e] 97 2 0 rfl (Nat.zero_le _);have i:=(Kp.refl [] _).drew.blk (i.alloc (.cells #[J 3,e] 97)) aj;have j:(a.alloc (.cells #[O (some ⟨c,d,none⟩) b.length g] 24)).heap.size=a.heap.size+1:=aj
 have b:((a.alloc (.cells #[O (some ⟨c,d,none⟩) b.length g] 24)).alloc (.cells b9 37)).heap.size=a.heap.size+1+1:=aj
 rw[j]at i;rw[b]at f;refine bodyPost_ret (v:=.tuple #[.agg b9,O (some ⟨a.heap.size+1+1,0,none⟩) 1 1]) (jP (p:=4) (u:=5) rfl _ _ (a.heap.size+1) 37 b9 _ rfl i underlying37 rfl Tryz.lR) rfl ?_;rw[s.out,B.out];refine⟨(((((ag.refl a).alloc _).alloc _).alloc _).drew),_,_,rfl,rm _ _,⟨⟨some ⟨a.heap.size+1+1,0,none⟩,1,1⟩,rfl,?_,λb c c=>by
  have j:a.heap.size+1+1=b:=congrArg Addr.block (Option.some.inj c);omega⟩⟩
 exact(cJ (h:=⟨some ⟨a.heap.size+1+1,0,none⟩,1,1⟩) (xs:=[((3:Int),e)]) q1 rfl aj f).same (ag.refl _).drew
theorem zb (h d:Hd) (b:List RI) (c:List Cg) (a:ah) (f:aE a 25 h RI.cells b) (g:∀e∈b,cW a (λi=>i<a.heap.size) e) (i:∀e∈b,e.it.cL) (j:aE a 8 d Cg.cells c) (k:∀e∈c,aJ e.name/\aJ e.dflt.s) (e:c.length<=1000):
 Calls prog 37 #[.agg #[h.val],d.val] a (gm a (dj (b.map RI.it) c)):=by
 by_cases l:h.n<=200
 ·exact ID h d b c a _ (Z rfl) f g i l j k e
 exact IE h d b c a _ (Z rfl) f af
end Go.Proofs.YteamkimbmdgdbaaGreatDoor
