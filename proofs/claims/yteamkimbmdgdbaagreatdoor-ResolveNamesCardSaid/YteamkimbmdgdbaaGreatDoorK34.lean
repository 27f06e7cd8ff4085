import Derived.Test.YteamkimbmdgdbaaGreatDoorK33
set_option linter.unusedSimpArgs false
set_option linter.unusedVariables false
set_option maxHeartbeats 16000000
set_option maxRecDepth 100000
namespace Go.Proofs.YteamkimbmdgdbaaGreatDoor
open Go.Proofs.Tryz
open Go.RowKit
mutual
theorem Ak (a:ByteArray->ByteArray):∀b:Ex,b.cW->(jf a b).cW
 |.mk kind table kids conds names attr cN agg at_,h=>by
  have h:names.length<=5001/\kids.length<=5001/\Ex.ij kids:=h;rw[jf];exact⟨h.1,by rw[um,List.length_map];exact h.2.1,Am a kids h.2.2⟩
theorem Am (b:ByteArray->ByteArray):∀a:List Ex,Ex.ij a->Ex.ij (hE b a)
 |[],h=>by rw[hE];exact h
 |e::a,h=>by
  rw[hE];exact⟨Ak b e h.1,Am b a h.2⟩
end
theorem Kc (a:ByteArray->ByteArray) {b:aE} (h:b.cW):(cZ a b).cW:=⟨h.n,h.f,Ak a _ h.e⟩
def rV (a:Nat):ByteArray:=if a=0 then⟨#[]⟩else if a=1 then⟨#[120]⟩else if a=2 then⟨#[95,49]⟩else⟨#[97,98,99,100]⟩
theorem Kd (a:Nat) (h:a<4):lU (rV a)=true/\(rV a).size<=4:=by
 match a,h with
 |0,_=>exact⟨by decide+kernel,by decide+kernel⟩
 |1,_=>exact⟨by decide+kernel,by decide+kernel⟩
 |2,_=>exact⟨by decide+kernel,by decide+kernel⟩
 |3,_=>exact⟨by decide+kernel,by decide+kernel⟩
theorem Ke (a:Nat) (h:a<4):(#[ai,.string ⟨#[120]⟩,.string ⟨#[95,49]⟩,.string ⟨#[97,98,99,100]⟩]:Array Value)[a]?=some (.string (rV a)):=by
 match a,h with
 |0,_=>rfl
 |1,_=>rfl
 |2,_=>rfl
 |3,_=>rfl
theorem Kf {b c:List RT} {d:av} (h:c.map RT.tb=(b.map RT.tb).map (gf d)):b.length=c.length/\∀a (e:a<b.length) (h2:a<c.length),b[a].key=c[a].key/\b[a].ra.map RA.at_=c[a].ra.map RA.at_:=by
 have f:=congrArg List.length h;simp only[List.length_map]at f;refine⟨f.symm,λa e h2=>?_⟩;have g:(c.map RT.tb)[a]'(by simpa using h2)=((b.map RT.tb).map (gf d))[a]'(by simpa using e):=by simp only[h]
 simp only[List.getElem_map,RT.tb,gf]at g;injection g with e2 e3 e4
 exact⟨e4.symm,e3.symm⟩
theorem Kg (M:av) (an:Nat) (ao:an<256) (w:ah) (co:aJ M) (a7:bV w ⟨some ⟨0,0,none⟩,10,10⟩ fF) (a8:0<w.heap.size):
 Calls prog 7 #[M,.int .u8 (an:Int)] w λn w'=>n=.returned (.bool true)/\ag w w':=by
 have cp:=Z (Jy w a7 a8);obtain⟨a9,ao⟩:=au (fS (ba M));have aQ:=Z (λa (b:ag w a)=>zG M a co (a7.same b) (aR a8 b.size));simp only[<-ao]at aQ;have bb:=Z (ao▸zO (ba M));have aU:=Z (λs G (h:a9=.ok s G)=>zD (ao.symm.trans h));have bg:=Z (λs G (h:a9=.ok s G)=>JP (ao.symm.trans h));have cq:=Tryz.lS;obtain⟨N,cr⟩:=au (an%4);have cs:N<4:=af
 have ct:Int.tmod (IntKind.i64.wrap (an:Int)) 4=(N:Int):=by
  rw[IntWalk.i64_in (an:Int) af,cr,Int.tmod_eq_emod_of_nonneg af];omega
 have c8:=Z ct;obtain⟨o,an⟩:=au (rV N);have cu:=Z (show lU o=true/\o.size<=4 by rw[an];exact Kd N cs);have c9:=Z (show(#[ai,.string ⟨#[120]⟩,.string ⟨#[95,49]⟩,.string ⟨#[97,98,99,100]⟩]:Array Value)[N]?=some (.string o) by rw[an];exact Ke N cs);clear ao co a7 a8 cr ct an;go_enter func7,ntmps7
 go_wp2_with fail
 refine cp.mono ?_;rintro n cv ⟨rfl,W⟩;by_cases cw:(3000:Int)<(M.size:Int)
 case pos=>
  go_wp2;go_ret;exact⟨rfl,W⟩
 have da:decide ((3000:Int)<(M.size:Int))=false:=by simpa using cw
 clear cw cp;cases a9 with
 |bad a b=>
  have b:=bb a b rfl;have a:(a !=0)=true:=by simpa using b
  clear b aU bb bg;go_wp2_with (first|(go_at_call 26;refine(aQ.out cv W).mono ?_;rintro n H ⟨c,i⟩;subst i;have aP:=Z c;clear c)|fail)
  go_ret;exact⟨rfl,(W.trans aP.out).alloc _⟩
 |ok s G=>
 have cx:=Z (aU s G rfl).1;have cy:=Z (aU s G rfl).2;have cA:=Z (bg s G rfl);clear aU bb bg;have db:((0:Int) !=0)=false:=rfl;go_upto_region 5 with(first|(go_at_call 26;refine(aQ.out cv W).mono ?_;rintro n H ⟨a,⟨z,A,B⟩,C,b,c,i,j,m⟩;have q:n=.returned (.tuple #[.agg #[O z A B],J 0,J 0]):=b;clear b;subst q;have aP:=Z a;have cm:=Z i;have cn:=Z j;have al:=Z c;clear a i j m c)|fail)
 clear aQ;have M:=Z (show ag H (H.alloc (.cells #[O z A B] 24))from(ag.refl H).alloc _);have aV:=Z (aa.new H 24 #[O z A B]);obtain⟨an,ao⟩:=au (H.alloc (.cells #[O z A B] 24));rw[<-ao]at M aV⊢;clear ao;have cB:=Z (W.trans (aP.trans M));have bh:=Z (cm.same M);have bi:=Z (λa b=>cz.mono (S':=λc=>c<an.heap.size) ((cn a b).keep (Kp.of_same (l:=[]) M) aj) (λa a=>aR a.2 M.size));have bk:=Z (λa (b:a∈C)=>cx a.it (by rw[<-al.out];exact List.mem_map.2 ⟨a,b,rfl⟩));have dc:=Z (λa (b:a∈C)=>cA a.it (by rw[<-al.out];exact List.mem_map.2 ⟨a,b,rfl⟩));have dd:=Z (show C.length<=200 by have h:=cy;rw[<-al.out,List.length_map]at h;exact h);have bl:Hid (Calls prog 14 #[.agg #[O z A B]] an (gd an (cT s []))):=Z (by
  have h:=ue ⟨z,A,B⟩ C an bh bi bk;rw[al.out]at h;exact h)
 obtain⟨ap,an⟩:=au (cT s []);rw[<-an]at bl;have bn:=Z an;clear an cm cn M W aP cA cx cy;have aW:=ay aV;go_wp2_with fail
 refine bl.mono ?_;rintro n ar ⟨cC,de,df,ax,⟨az,E,i,aE,cD,cE⟩,⟨⟨M,aX,W⟩,aL,cF,bp⟩⟩;have bq:n=.returned (.tuple #[.agg (bm az i),O M aX W]):=by
  rw[ax,aE,aL];rfl
 subst bq;clear ax aE aL bp bl;have dg:=Z cD;have cG:=Z (show ap.2.length=aX from cF.1);have cH:=Z cC;clear cF cC cD aW;go_upto_region 8 with(first|(refine wpList_store_row rfl 37 (.tmp 9) (.tmp 31) rfl ar.heap.size (bm az i) rfl rfl 37 zab (fP ar (.cells zab 37)) cq rfl (jk az i) ?_;rw[World.setRow_alloc_new])|fail)
 obtain⟨br,M,cI,y,-⟩:=nb ar 37 (bm az i);rw[M];clear M;try rw[jj]
 have M:=Z (cH.out.trans y.out);have bt:=Z (cB.out.trans M.out);have cJ:=Z (bh.out.same M.out);have cK:=Z (λa b=>cz.mono (S':=λc=>c<br.heap.size) ((bi.out a b).keep (Kp.of_same (l:=[]) M.out) aj) (λa a=>aR a M.out.size));have cL:=qb M aV;have aN:=Z (cE.same y.out);clear cB M y cH bh bi aV cE da db;obtain⟨P,m,X⟩:=az;have bu:Hid (aa br ar.heap.size 37 #[O P m X,i.h1.val,i.h2.val,i.h3.val,i.h4.val,i.h5.val,i.h6.val]):=cI;clear cI;have M:E.length=m:=aN.out.ta.1.1;have W:m<=9223372036854775807:=aN.out.ta.1.2.1;have cM:=Z M;clear M;go_upto_region 9 with(fail)
 go_loopg [11] (m+1) (λb c j=>∃a:Nat,c=.int .i64 a/\a<=m/\m-a<b/\Hid (ag br j)/\Hid (∀b (c:b<E.length),b<a->E[b].name.size<=20))
 case atStart=>exact⟨0,rfl,by omega,by omega,Z (ag.refl _),Z (λa a h=>absurd h af)⟩
 case round=>
 obtain⟨v,rfl,dh,cN,q,bv⟩:=hrel;have bw:=Z cN;clear cN;have di:=ay (qb q bu);by_cases dj:v<m
 case pos=>
  have c:(v:Int)<(m:Int):=af
  have c:v<E.length:=omg cM
  obtain⟨r,F,c,_,Y⟩:=(aN.out.ta.1.same q.out).2.2 v c;have ad:P=some ⟨r,F,none⟩:=c;clear c;subst ad;obtain⟨b,c⟩:=au E[v].name;have r:ae wr (ac r (F+v*3)) b:=by rw[c];have h:=Y 0 _ rfl;simpa using h
  have aO:=Z c;clear Y c;by_cases a:(20:Int)<(b.size:Int)
  ·have c:decide ((20:Int)<(b.size:Int))=true:=decide_eq_true a
   clear a;go_wp2;go_ret;exact⟨rfl,bt.out.trans q.out⟩
  have b:decide ((20:Int)<(b.size:Int))=false:=decide_eq_false a;have aY:=Z a;clear a;go_wp2;go_roundg (m-v)
  case measure=>have:=bw.out;omega
  case rel=>exact⟨v+1,by go_num,by omega,omg bw,q,Z (λj a b=>by
   by_cases h:j<v
   ·exact bv.out j a h
   obtain rfl:j=v:=af
   rw[<-aO.out];have:=aY.out;omega)⟩
 case neg=>
 have dk:¬(v:Int)<(m:Int):=af
 have dl:=Z (show∀a∈E,a.name.size<=20 by
  intro a b;obtain⟨c,j,rfl⟩:=List.mem_iff_getElem.1 b;exact bv.out c j (omg cM))
 clear bv;go_upto_region 13 with(fail)
 obtain⟨r,rfl⟩:∃v:World,v=wr:=⟨_,rfl⟩;have dm:=Z (bt.out.trans q.out);have M:=qb q cL;have dn:=qb q bu;have dp:=Z (aN.out.same q.out);have v:=Z (cJ.out.same q.out);have W:=Z (λa b=>cz.mono (S':=λc=>c<r.heap.size) ((cK.out a b).keep (Kp.of_same (l:=[]) q.out) aj) (λa a=>aR a q.out.size));have dq:Hid (∀a,ag r a->Calls prog 27 #[.agg #[O z A B],o] a (uq o C a)):=Z (λb a=>J0 ⟨z,A,B⟩ C o b (v.out.same a) (λb c=>cz.mono ((W.out b c).keep (Kp.of_same (l:=[]) a) aj) (λb b=>aR b a.size)) bk.out dc.out dd.out cu.out.2);obtain⟨aO,v⟩:=au (cT (s.map (cZ (·++o))) []);have ds:Hid (∀a (Q:Hd) (x:List RI),x.map RI.it=C.map (λb=>cZ (·++o) b.it)->aD a 25 Q RI.cells x->(∀b∈x,cz a (·<a.heap.size) b)->Calls prog 14 #[.agg #[Q.val]] a (gd a aO)):=Z (λb Q x a c j=>by
  have h:=ue Q x b c j (λb c=>by
   have b:b.it∈x.map RI.it:=List.mem_map.2 ⟨b,c,rfl⟩;rw[a]at b;obtain⟨b,c,n⟩:=List.mem_map.1 b;rw[<-n];exact Kc _ (bk.out b c))
  rw[a]at h;have a:C.map (λa=>cZ (·++o) a.it)=s.map (cZ (·++o)):=by rw[<-al.out,List.map_map];rfl
  rw[a,<-v]at h;exact h)
 have dt:=Z v;clear v di dj dk bw dh q cL aN cJ cK bt bu;have aW:=ay M;have cO:=aa.lt M;go_cut [12,13] (λc j a=>∃(b:Nat) (k:Hd) (I:List RT) (e:cd) (K:aT) (D L:Nat),c=.pointer (some ⟨b,0,none⟩)/\j=.slice K D L/\Hid (ag r a/\aa a b 37 (bm k e)/\e.su (I.map RT.tb)=aO.1/\(∃b,eO b a k I e)/\aD a 2 ⟨K,D,L⟩ dS aO.2))
 case first=>
  refine eG 14 (S:=λw'=>ag r w') (ag.refl r).drew (λhS=>?_);refine tk 0 hS ?_ (hy:=by refine Or.inl ⟨rfl,?_⟩;intro w' hSw;have a:=(ag.cell hSw (p:=(aq H 0)) cO).trans aW;go_simp;try with_reducible rfl);refine tk 2 hS ?_;refine gl ?_;obtain⟨a,q⟩:=au r.drew;rw[<-q]at hS⊢;clear q;have b:=Z hS;clear hS;refine mi 1 12 (λj c=>?ak) (λj c=>?aA)
  case' aA=>
   go_simp;have q:=Z ((ag.refl a).alloc (.cells zab 37));refine c _ _ (λ_=>b.out.trans q.out) ?_;refine aw ?_;have d:=Z (aa.new a 37 zab);obtain⟨F,M⟩:=au (a.alloc (.cells zab 37));obtain⟨f,v⟩:=au a.heap.size;rw[<-M]at q d⊢;have R:r.heap.size<=f:=by rw[v];exact b.out.size
   have am:a.heap.size<=f:=by rw[v];exact Nat.le_refl _
   rw[<-v]at d⊢;clear M v;try have T:=Z (And.intro U V)
   try have y:=q
   have b:=Z (b.out.trans q.out);try have g:=qb q g
   try have t:=Z (t.out.same q.out)
   try have u:=Z (λv M=>cz.mono (S':=λW=>W<F.heap.size) ((u.out v M).keep (Kp.of_same (l:=[]) q.out) aj) (λv v=>aR v q.out.size))
   clear q;obtain⟨a,rfl⟩:=au F;refine aM 1 (λj c=>?_)
  all_goals
   go_simp;have F:=Z ((ag.refl a).alloc (.cells #[ai,.string ⟨#[120]⟩,.string ⟨#[95,49]⟩,.string ⟨#[97,98,99,100]⟩] 9));refine c _ _ (λ_=>b.out.trans F.out) ?_;refine aw ?_;have g:=Z (aa.new a 9 #[ai,.string ⟨#[120]⟩,.string ⟨#[95,49]⟩,.string ⟨#[97,98,99,100]⟩]);obtain⟨Y,q⟩:=au (a.alloc (.cells #[ai,.string ⟨#[120]⟩,.string ⟨#[95,49]⟩,.string ⟨#[97,98,99,100]⟩] 9));obtain⟨M,v⟩:=au a.heap.size;rw[<-q]at F g⊢;rw[<-v]at g⊢;clear q v;have b:=Z (b.out.trans F.out);try have d:=qb F d
   refine tk 5 b.out ?_ (hy:=by refine Or.inl ⟨rfl,?_⟩;intro w' hSw;go_simp;rw[c8.out,if_pos af,Int.toNat_natCast]);clear F;obtain⟨a,rfl⟩:=au Y
  case' ak=>
   refine mi 6 12 (λj c=>?aC) (λj c=>?aF)
  case' aF=>
   go_simp;have q:=Z ((ag.refl a).alloc (.cells zab 37));refine c _ _ (λ_=>b.out.trans q.out) ?_;refine aw ?_;have d:=Z (aa.new a 37 zab);obtain⟨F,M⟩:=au (a.alloc (.cells zab 37));obtain⟨f,v⟩:=au a.heap.size;rw[<-M]at q d⊢;have R:r.heap.size<=f:=by rw[v];exact b.out.size
   have am:a.heap.size<=f:=by rw[v];exact Nat.le_refl _
   rw[<-v]at d⊢;clear M v;try have T:=Z (And.intro U V)
   try have y:=q
   have b:=Z (b.out.trans q.out);try have g:=qb q g
   try have t:=Z (t.out.same q.out)
   try have u:=Z (λv M=>cz.mono (S':=λW=>W<F.heap.size) ((u.out v M).keep (Kp.of_same (l:=[]) q.out) aj) (λv v=>aR v q.out.size))
   clear q;obtain⟨a,rfl⟩:=au F;refine aM 6 (λj c=>?_)
  any_goals refine aM 6 (λj c=>?_)
  all_goals
   have F:=(aa.cell g.out N).trans c9.out;go_simp;refine c _ _ (λ_=>b.out) ?_;clear c j F;refine aw ?_
  case' aC=>
   refine mi 7 12 (λj c=>?aG) (λj c=>?aH)
  case' aH=>
   go_simp;have q:=Z ((ag.refl a).alloc (.cells zab 37));refine c _ _ (λ_=>b.out.trans q.out) ?_;refine aw ?_;have d:=Z (aa.new a 37 zab);obtain⟨F,M⟩:=au (a.alloc (.cells zab 37));obtain⟨f,v⟩:=au a.heap.size;rw[<-M]at q d⊢;have R:r.heap.size<=f:=by rw[v];exact b.out.size
   have am:a.heap.size<=f:=by rw[v];exact Nat.le_refl _
   rw[<-v]at d⊢;clear M v;try have T:=Z (And.intro U V)
   try have y:=q
   have b:=Z (b.out.trans q.out);try have g:=qb q g
   try have t:=Z (t.out.same q.out)
   try have u:=Z (λv M=>cz.mono (S':=λN=>N<F.heap.size) ((u.out v M).keep (Kp.of_same (l:=[]) q.out) aj) (λv v=>aR v q.out.size))
   clear q;obtain⟨a,rfl⟩:=au F;refine aM 7 (λj c=>?_)
  any_goals refine aM 7 (λj c=>?_)
  all_goals
   go_simp;refine(dq.out a b.out).mono ?_;rintro q aZ ⟨Q,x,rfl,F,Y,ad,aY⟩;have q:=Z aY;have c6:=Z F;have t:=Z Y;have u:=Z ad;clear F Y ad aY;refine c _ _ (λ_=>b.out.trans q.out) ?_;refine aw ?_;have b:=Z (b.out.trans q.out);try have g:=qb q g
   try have d:=qb q d
   clear q;obtain⟨a,rfl⟩:=au aZ
  case' aG=>
   refine mi 8 12 (λj c=>?aI) (λj c=>?aK)
  case' aK=>
   go_simp;have q:=Z ((ag.refl a).alloc (.cells zab 37));refine c _ _ (λ_=>b.out.trans q.out) ?_;refine aw ?_;have d:=Z (aa.new a 37 zab);obtain⟨F,M⟩:=au (a.alloc (.cells zab 37));obtain⟨f,v⟩:=au a.heap.size;rw[<-M]at q d⊢;have R:r.heap.size<=f:=by rw[v];exact b.out.size
   have am:a.heap.size<=f:=by rw[v];exact Nat.le_refl _
   rw[<-v]at d⊢;clear M v;try have T:=Z (And.intro U V)
   try have y:=q
   have b:=Z (b.out.trans q.out);try have g:=qb q g
   try have t:=Z (t.out.same q.out)
   try have u:=Z (λv M=>cz.mono (S':=λN=>N<F.heap.size) ((u.out v M).keep (Kp.of_same (l:=[]) q.out) aj) (λv v=>aR v q.out.size))
   clear q;obtain⟨a,rfl⟩:=au F;refine aM 8 (λj c=>?_)
  any_goals refine aM 8 (λj c=>?_)
  all_goals
   go_simp;refine(ds.out a Q x c6.out t.out u.out).mono ?_;rintro q a1 ⟨Y,de,df,ax,⟨k,I,e,aE,ad,aY⟩,⟨⟨K,D,L⟩,aL,aZ,a0⟩⟩;have F:=Z Y;have bq:q=.returned (.tuple #[.agg (bm k e),O K D L]):=by
    rw[ax,aE,aL];rfl
   clear ax aE aL;subst bq;have a6:=Z ad;have U:=Z aY;have V:=Z aZ;have bp:=Z a0;clear ad aY aZ a0 Y;refine c _ _ (λ_=>b.out.trans F.out) ?_;refine aw ?_;try have c7:=aa.lt d.out
   have b:=Z (b.out.trans F.out);try have g:=qb F g
   try have d:=qb F d
   refine tk 9 b.out ?_;refine tk 10 b.out ?_;refine tk 11 b.out ?_;clear F;obtain⟨a,rfl⟩:=au a1
  case' aI=>
   refine aM 12 (λj c=>?_);go_simp;have q:=Z ((ag.refl a).alloc (.cells zab 37));refine c _ _ (λ_=>b.out.trans q.out) ?_;refine aw ?_;have d:=Z (aa.new a 37 zab);obtain⟨F,M⟩:=au (a.alloc (.cells zab 37));obtain⟨f,v⟩:=au a.heap.size;rw[<-M]at q d⊢;have R:r.heap.size<=f:=by rw[v];exact b.out.size
   have am:a.heap.size<=f:=by rw[v];exact Nat.le_refl _
   rw[<-v]at d⊢;clear M v;try have T:=Z (And.intro U V)
   try have y:=q
   have b:=Z (b.out.trans q.out);try have g:=qb q g
   try have t:=Z (t.out.same q.out)
   try have u:=Z (λv M=>cz.mono (S':=λN=>N<F.heap.size) ((u.out v M).keep (Kp.of_same (l:=[]) q.out) aj) (λv v=>aR v q.out.size))
   clear q;obtain⟨a,rfl⟩:=au F
  all_goals
   have Y:=Z (((Kp.refl [f] a).grown (ih a f (bm k e)) (λq F=>.inl (by injection F with F;simp[F]))).eD b.out (λq q=>by rw[aB q];exact R));have ad:Hid ((∃q,eO q (a.setRow f (bm k e)) k I e)/\aD (a.setRow f (bm k e)) 2 ⟨K,D,L⟩ dS aO.2):=by
    first
    |(
     have F:=Z (((Kp.refl [f] a).grown (ih a f (bm k e)) (λa F=>.inl (by injection F with F;simp[F]))).eD y.out (λa a=>by rw[aB a];exact am));exact Z ⟨⟨_,T.out.1.out.same F.out⟩,T.out.2.out.same F.out⟩)
    |(
     obtain⟨q,a,r,b⟩:=oe (w:=r) d.out m1 U.out c7 R b.out;exact Z ⟨⟨_,b⟩,V.out.kp a (λa b q r=>by have:=bp.out a b q;rw[aB r]at this;omega)⟩)
   have F:=Z (jG d.out (bm k e));refine aM 13 (λj c=>?_);refine wp_store_row 37 (.tmp 12) (.tmp 61) rfl f (bm k e) rfl rfl 37 zab d.out cq rfl (jk k e) (c _ _ (λ_=>Y.out) ?_);refine aw ?_;refine b1 ?_;refine tq 14 ?_;refine bQ ?_;go_wp2_with fail
   go_meet;exact⟨f,k,I,e,K,D,L,rfl,rfl,Z ⟨Y.out,F.out,a6.out,ad.out.1,ad.out.2⟩⟩
 case rest=>
 obtain⟨du,k,I,e,K,D,L,rfl,rfl,Y⟩:=hcut;obtain⟨c,rfl⟩:=au wc;have q:=Z Y.out.1;have aY:=Z Y.out.2.1;have a6:=Z Y.out.2.2.1;obtain⟨v,r⟩:=Y.out.2.2.2.1;have bx:=Z r;have cP:=Z Y.out.2.2.2.2;clear Y r aW cO;have cQ:=Z (dm.out.trans q.out);have aZ:=qb q dn;have bz:=Z (dp.out.same q.out);by_cases ad:ap.2=[]
 case neg=>
  have a:0<aX:=by rw[<-cG.out];exact List.length_pos_iff.2 ad
  have a:=Z ad;clear ad;go_wp2;go_ret;exact⟨rfl,cQ.out⟩
 have dv:aX=0:=by rw[<-cG.out,ad];rfl
 subst dv;have b:=dg.out;have bA:E.map RT.tb=ap.1.tabs:=congrArg Su.tabs b;have cR:aO=({ap.1 with tabs:=ap.1.tabs.map (gf o)},[]):=by
  rw[dt.out,bn.out];refine JG cu.out.1 (by rw[<-bn.out];exact ad) (λq a=>?_);rw[<-bn.out,<-bA]at a;obtain⟨j,F,rfl⟩:=List.mem_map.1 a;exact dl.out j F
 have a:=a6.out;rw[cR]at a cP;have dw:D=0:=cP.out.1.symm;subst dw;have o:I.map RT.tb=(E.map RT.tb).map (gf o):=by rw[bA];exact congrArg Su.tabs a
 obtain⟨q,r⟩:=Kf o;have v:i.os=e.os:=(congrArg Su.origins b).trans (congrArg Su.origins a).symm;have y:i.bs=e.bs:=(congrArg Su.blocks b).trans (congrArg Su.blocks a).symm;have E:i.ms.map dr.mt=e.ms.map dr.mt:=(congrArg Su.js b).trans (congrArg Su.js a).symm;have M:i.ks=e.ks:=(congrArg Su.keeps b).trans (congrArg Su.keeps a).symm;have N:i.rs.map cj.ru=e.rs.map cj.ru:=(congrArg Su.rules b).trans (congrArg Su.rules a).symm;have W:i.qs.map dy.qy=e.qs.map dy.qy:=(congrArg Su.queries b).trans (congrArg Su.queries a).symm;have bB:=Z (λF (j:ag c F)=>J9 (h:=⟨P,m,X⟩) (h2:=k) (bJ.same bz.out.ta j) (bJ.same bx.out.ta j) q r);have bC:=Z (λF (j:ag c F)=>Kb (bz.out.same j) (bx.out.same j) v y E M N);have bD:=Z (λF (j:ag c F)=>J5 (bz.out.same j) (bx.out.same j) W);clear o q r v y E M N W b a ad bA cR;obtain⟨a0,a1,a2⟩:=k;obtain⟨⟨bE,bF,bG⟩,⟨bH,bK,bL⟩,⟨bM,bN,bO⟩,⟨bP,bR,bS⟩,⟨bT,bU,bW⟩,⟨bX,bY,bZ⟩,dC,dD,dE,dF,dG,x⟩:=i;obtain⟨⟨b0,b2,b3⟩,⟨b4,b5,b6⟩,⟨b7,b8,b9⟩,⟨ca,cb,ce⟩,⟨cf,cg,ch⟩,⟨ci,ck,cl⟩,dH,dI,dJ,dK,dL,dM⟩:=e;replace bB:Hid (Rt 28 #[.agg #[O P m X],.agg #[O a0 a1 a2],.bool true] c (.bool true)):=bB;replace bC:Hid (Rt 29 #[.agg #[O P m X,O bE bF bG,O bH bK bL,O bM bN bO,O bP bR bS,O bT bU bW,O bX bY bZ],.agg #[O a0 a1 a2,O b0 b2 b3,O b4 b5 b6,O b7 b8 b9,O ca cb ce,O cf cg ch,O ci ck cl]] c (.bool true)):=bC;replace bD:Hid (Rt 30 #[.agg #[O P m X,O bE bF bG,O bH bK bL,O bM bN bO,O bP bR bS,O bT bU bW,O bX bY bZ],.agg #[O a0 a1 a2,O b0 b2 b3,O b4 b5 b6,O b7 b8 b9,O ca cb ce,O cf cg ch,O ci ck cl]] c (.bool true)):=bD;replace aZ:Hid (aa c ar.heap.size 37 #[O P m X,O bE bF bG,O bH bK bL,O bM bN bO,O bP bR bS,O bT bU bW,O bX bY bZ]):=aZ;replace aY:Hid (aa c du 37 #[O a0 a1 a2,O b0 b2 b3,O b4 b5 b6,O b7 b8 b9,O ca cb ce,O cf cg ch,O ci ck cl]):=aY;have a3:=ay aZ;have dx:=ay aY;go_wp2_with fail
 refine(bB.out c (ag.refl _)).mono ?_;rintro n dz ⟨rfl,cS⟩;have a4:=Z cS;have j:=qb a4 aZ;have F:=qb a4 aY;clear a3 dx cS;have a3:=ay j;have e0:=ay F;have cU:=aS j;have b:=aS F;have cV:=bc j;have a:=bc F;have cW:=bj j;have cX:=bj F;have cY:=bo j;have c0:=bo F;have c1:=bI j;have c2:=bI F;have c3:=cc j;have c4:=cc F;go_wp2_with fail
 refine(bC.out dz a4.out).mono ?_;rintro n dA ⟨rfl,a5⟩;have c5:=Z (a4.out.trans a5);have c:=qb (Z a5) j;have i:=qb (Z a5) F;clear a3 e0 cU b cV a cW cX cY c0 c1 c2 c3 c4 a5;have a3:=ay c;have e0:=ay i;have cU:=aS c;have b:=aS i;have cV:=bc c;have a:=bc i;have cW:=bj c;have cX:=bj i;have cY:=bo c;have c0:=bo i;have c1:=bI c;have c2:=bI i;have c3:=cc c;have c4:=cc i;go_wp2_with fail
 refine(bD.out dA c5.out).mono ?_;rintro n a ⟨rfl,dB⟩;go_wp2;go_ret;exact⟨rfl,cQ.out.trans (c5.out.trans dB)⟩
end Go.Proofs.YteamkimbmdgdbaaGreatDoor
