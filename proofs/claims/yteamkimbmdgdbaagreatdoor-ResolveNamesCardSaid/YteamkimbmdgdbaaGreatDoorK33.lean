import Derived.Test.YteamkimbmdgdbaaGreatDoorK32
set_option linter.unusedSimpArgs false
set_option linter.unusedVariables false
set_option maxHeartbeats 16000000
set_option maxRecDepth 100000
namespace Go.Proofs.YteamkimbmdgdbaaGreatDoor
open Go.Proofs.Tryz
open Go.RowKit
theorem RI.set1 (a:RI) (s:av):a.cells.set 1 s=({a with name:=s}:RI).cells:=rfl
theorem RI.JT (a:RI) (s:av):a.cells.set 3 s=({a with table:=s}:RI).cells:=rfl
theorem RI.JU (a:RI) (s:av):a.cells.set 11 s=({a with other:=s}:RI).cells:=rfl
theorem RI.JV (a:RI) (h:Hd) (l:List Vr):a.cells.set 14 h.val=({a with hvars:=h,vars:=l}:RI).cells:=rfl
theorem RI.JW (a:RI) (q:RE):gG a.cells 16 q.cells=({a with e:=q}:RI).cells:=by
 unfold gG RI.cells;rw[List.take_left' (by rfl),List.drop_eq_nil_of_le (by rw[List.length_append,RE.len,RE.len];simp),List.append_nil]
theorem RI.c16 (a:RI) (b:Nat) (v:aA) (h:a.e.cells[b]?=some v):a.cells[16+b]?=some v:=by
 unfold RI.cells;rw[List.getElem?_append_right aj];simpa using h
theorem ou {a:ah} {b:Nat} {c:aX} {l:bg} (d:aa a b c l.toArray) (c:Nat):a.cell? (ac b c)=l[c]?:=by rw[aa.cell d,List.getElem?_toArray]
theorem eh.kp {b:Type} {At:World->(Nat->Prop)->b->Prop} {c:Nat} {t:aX} {m:Nat} {enc:b->List Value} {d:Nat} {e f wr:ah} {g:aT} {n i:Nat} {j:List b} (o:oq At) (b:eh At c t m enc d e f g n i j) {l:List Nat} (k:Kp l f wr) (f:∀a∈l,c<=a/\a<d/\e.heap.size<=a):eh At c t m enc d e wr g n i j:=
 ⟨k.eD b.k (λa c=>(f a c).2.2),bD b.own k (λa c=>(f a c).2.1),b.len,λc d=>o.mono (o.keep (b.sub c d) k (λa b q=>by
  have h:=f a b;rcases q with p|p
  ·omega
  have:=p.1.1;omega)) (λa a=>a.imp id (λh=>⟨⟨h.1.1,aR h.1.2 k.size⟩,h.2⟩))⟩
theorem uo {wr b:ah} {a:Nat} (d:ag wr b) (e:wr.heap.size<=a) (c:Nat) (v:aA):ag wr (b.setCell (ac a c) v):=(Kp.aH (p:=(ac a c)) (l:=[a]) aj (Kp.refl [a] b) v).eD d (λa a=>by rw[aB a];exact e)
theorem JX:oq (λ(_:ah) (_:Nat->Prop) (_:Vr)=>True):=⟨λ_ _=>trivial,λ_ _ _ _=>trivial⟩
theorem rS {c:ah} {a:Nat} {d:aX} {l e:bg} (f:aa c a d l.toArray) (b:Nat) (v:aA) (g:l.set b v=e):aa (c.setCell (ac a b) v) a d e.toArray:=by
 have h:=f.aP b v;rw[List.setIfInBounds_toArray,g]at h;exact h
theorem JY {a:ah} {b:Nat} {d:aX} {l:bg} (c:aa a b d l.toArray) (d e:Nat) (h:d+e<=l.length):a.there b d e:=λa a=>by
 refine⟨?_,aa.frozen c _⟩;rw[aa.cell c];simp;omega
def pY (b:av) (a:RI):RI:={a with name:=if a.kind=1 then a.name++b else a.name,table:=fM (·++b) a.table,other:=fM (·++b) a.other}
def JZ (a:av) (v:Vr):Vr:={v with table:=v.table++a}
def uq (d:av) (e:List RI) (w:ah) (f:Ending) (a:ah):Prop:=
 ∃(c:Hd) (b:List RI),f=.returned (.agg #[c.val])/\b.map RI.it=e.map (λe=>cZ (·++d) e.it)/\aD a 25 c RI.cells b/\(∀c∈b,cz a (·<a.heap.size) c)/\ag w a
theorem J0 (h:Hd) (j:List RI) (b:av) (w:ah) (bN:aD w 25 h RI.cells j) (bO:∀m∈j,cz w (·<w.heap.size) m) (bP:∀m∈j,m.it.cW) (sm:∀m∈j,m.it.Sm) (c4:j.length<=200) (bR:b.size<=4):
 Calls prog 27 #[.agg #[h.val],b] w (uq b j w):=by
 obtain⟨ck,D,c5⟩:=h;have cl:j.length=D:=bN.1;have cm:=Z cl;have dH:D<=200:=af
 have c6:=Z bN;have c7:=Z bO;have dH:=Z bP;have c8:=Z sm;have c9:=Z (λm (a:m∈j)=>show m.vars.length<=5002 from(sm m a).l);have da:=Z (λm (a:m∈j)=>JS (Nat.le_refl w.heap.size) bR (bO m a).ex (bP m a).e (sm m a).e);have bT:∀(i:av),i.size<=200->∀aZ,(Op.stringOp .add i b).run prog aZ=.ok (.string (i++b)) aZ:=λi bS aZ=>run_string_add_sum aZ i b af;have bv:=Z bT;have cn:=Z bR;obtain⟨db,dc,dd,df,dg⟩:=info_parts Tryz.t7;obtain⟨dh,di,dj,dk,dl⟩:=info_parts Tryz.vI;clear bN bO bP sm c4 bR cl bT;show Calls prog 27 #[.agg #[O ck D c5],b] w _;go_enter func27,ntmps27
 go_upto_region 1 with(fail)
 obtain⟨bR,bN,bO,G,bP⟩:=nb w 24 _;rw[bN];clear bN;have bN:=G;obtain⟨bw,bR,co,G,cl⟩:=nc bP 24 _;rw[bR];clear bR;have bU:=Z (bN.out.trans G.out);have cp:=qb G bO;clear G bN bO bP;have a8:bw.heap.size=w.heap.size+2:=cl;clear cl;go_upto_region 2 with(fail)
 obtain⟨bP,bO,cq,G,bN⟩:=nb bw 24 _;rw[bO];clear bO;have bO:=qb G cp;have bP:=qb G co;have dm:=G;have bR:bw.heap.size=w.heap.size+2:=a8;rw[a8]at cq bN;have cr:=Z a8;have cl:=Z bN;clear G bN a8 bR bO bP;go_upto_region 3 with(fail)
 go_loopg [6] (D+1) (λq r c=>∃(a d:Nat) (f:aT) (g:List RI),r=.int .i64 a/\a<=D/\D-a<q/\Hid (eh cz w.heap.size 95 25 RI.cells (w.heap.size+3) bw c f a d g)/\Hid (aa c (w.heap.size+2) 24 #[O f a d])/\Hid (g.map RI.it=(j.take a).map (λm=>cZ (·++b) m.it)))
 case atStart=>exact⟨0,0,none,[],rfl,by omega,by omega,Z ⟨dm.out,⟨by simp,.inl ⟨rfl,rfl⟩⟩,rfl,λa h=>by cases h⟩,cq,Z aj⟩
 case round=>
 obtain⟨d,a2,a3,bx,rfl,dI,cs,a4,bW,ct⟩:=hrel;have cu:=Z cs;clear cs;have a9:=Z a4.out.k;have G:=qb a9 cp;have dn:=ay G;by_cases G:d<D
 case neg=>
  have y:¬(d:Int)<(D:Int):=af
  have f:=qb a9 co;have y:=λd=>aa.frozen f.out d;have y:=aa.lt f.out;have y:=ay f;have y:=ay bW;have r:d=D:=af
  subst r;have s:=Z (show bx.map RI.it=j.map (λm=>cZ (·++b) m.it) by rw[ct.out,List.take_of_length_le (omg cm)]);go_wp2_with fail
  have f:=iA f.out (O a3 d a2);have g:=Kp.aH (p:=(ac (w.heap.size+1) 0)) (l:=[w.heap.size+1]) aj (Kp.refl [w.heap.size+1] wr) (O a3 d a2);refine bodyPost_ret (v:=.agg #[O a3 d a2]) (results_cell_row rfl _ _ (w.heap.size+1) 24 #[O a3 d a2] (0,0) _ ?_ f underlying24 rfl am) rfl ?_
  ·rfl
  have a8:=cr.out;have u:ag w (wr.setCell (ac (w.heap.size+1) 0) (O a3 d a2)):=g.eD (bU.out.trans a9.out) (λa a=>by rw[aB a];omega);have q:∀a∈[w.heap.size+1],¬(a<w.heap.size\/Bw (w.heap.size+3) wr.heap.size a):=λa c hS=>by
   rw[aB c]at hS;rcases hS with h|h
   ·omega
   have:=h.1;omega
  unfold uq;refine⟨⟨a3,d,a2⟩,bx,rfl,s.out,(a4.out.lies RI.len af).kp g (λa f r c=>q a c (a4.out.hd a f r)),λm f=>lW.mono (lW.keep (lW.mono (a4.out.sub m f) (λa c=>c.imp id (λh=>h.1))) g q) (λa c=>?_),u⟩;have f:=g.size;have f:=a9.out.size;show a<_;rcases c with h|h
  ·omega
  have:=h.2;omega
 case pos=>
 have m:(d:Int)<(D:Int):=af
 have ba:d<j.length:=omg cm
 obtain⟨q,bX,m,G,bY⟩:=(c6.out.same (bU.out.trans a9.out)).2.2 d ba;have dp:ck=some ⟨q,bX,none⟩:=m;clear m;subst dp;have bZ:=Z (c7.out j[d] (List.getElem_mem ba));have a0:=Z (c8.out j[d] (List.getElem_mem ba));have cv:=Z (da.out j[d] (List.getElem_mem ba));have cw:=Z (c9.out j[d] (List.getElem_mem ba));have b0:j.take (d+1)=j.take d++[j[d]]:=by rw[List.take_succ_eq_append_getElem ba]
 generalize j[d]=a at bY bZ a0 cv cw b0;have dr:=Z b0;have bj:∀a5 a1,a.cells[a5]?=some a1->ae wr (ac q (bX+d*25+a5)) a1:=bY;have ds:(prog.info? 95).map (·.size)=some a.cells.length:=by rw[RI.len];kernel_rfl
 have dt:(prog.info? 95).map (·.size)=some a.cells.toArray.size:=by rw[List.size_toArray,RI.len];kernel_rfl
 have cx:(zaa:Array Value).size=a.cells.toArray.size:=by simp[RI.len]
 have u:a.cells.toArray.all (·.oneCell')=true:=RI.one a;have cy:=fP wr (.cells zaa 95);have cA:=World.setRow_alloc_new wr zaa a.cells.toArray 95;clear b0 bY;go_upto_region 6 with(first|(refine mW rfl 95 (.tmp 20) rfl q (bX+d*25) a.cells rfl bj _ underlying95 rfl ds ?_)|(refine wpList_store_row rfl 95 (.tmp 7) (.tmp 21) rfl wr.heap.size a.cells.toArray rfl rfl 95 zaa cy dt cx u ?_;rw[cA])|fail)
 clear cy cA bj cx u;obtain⟨m,j,a6,b2,-⟩:=nb wr 95 a.cells.toArray;rw[j];clear j dn;try rw[jj]
 obtain⟨f,j⟩:=au wr.heap.size;rw[<-j]at a6⊢;have bz:=Z j;clear j;have bk:=λd=>aa.frozen a6.out d;have bl:=aa.lt a6.out;have du:ae m (ac f 0) a.kind:=(ou a6.out 0).trans rfl;have bm:ae m (ac f 1) a.name:=(ou a6.out 1).trans rfl;go_upto_if 24 with(fail)
 go_cut [] (λc=>Hid (aa c f 95 ({a with name:=if a.kind=1 then a.name++b else a.name}:RI).cells.toArray)/\Hid (ag wr c))
 case first=>
  by_cases c:a.kind=1
  ·have g:(a.kind==1)=true:=by simpa using c
   have g:=bv.out a.name a0.out.n;have u:=Z c;clear c;go_wp2_with fail
   go_meet;exact⟨Z (by rw[if_pos u.out];exact rS a6.out 1 _ (RI.set1 a _)),Z (uo b2.out (omg bz) _ _)⟩
  have g:(a.kind==1)=false:=by simpa using c
  have u:=Z c;clear c;go_wp2_with fail
  go_meet;exact⟨Z (by rw[if_neg u.out];exact a6.out),b2⟩
 case rest=>
 obtain⟨dv,rfl⟩:=au wc;obtain⟨bb,b3⟩:=hcut;clear a6 b2 bk bl bm du;go_upto_region 8 with(fail)
 have bk:=λd=>aa.frozen bb.out d;have bl:=aa.lt bb.out;have bm:ae dv (ac f 3) a.table:=(ou bb.out 3).trans rfl;go_upto_if 32 with(fail)
 go_cut [] (λc=>Hid (aa c f 95 ({a with name:=if a.kind=1 then a.name++b else a.name,table:=fM (·++b) a.table}:RI).cells.toArray)/\Hid (ag wr c))
 case first=>
  by_cases c:a.table=e0
  ·have g:a.table.toList.isEmpty=true:=by rw[jY,c];decide+kernel
   have j:(!a.table.toList.isEmpty)=false:=by rw[g];rfl
   have u:=Z c;rw[j];clear c g j;go_wp2_with fail
   go_meet;exact⟨Z (by rw[show fM (·++b) a.table=a.table from(if_pos u.out).trans u.out.symm];exact bb.out),b3⟩
  have g:a.table.toList.isEmpty=false:=by rw[jY];exact decide_eq_false (λh=>c (by have j:=(dU a.table).trans h;exact kV (List.eq_nil_of_length_eq_zero j)))
  have j:(!a.table.toList.isEmpty)=true:=by rw[g];rfl
  have m:=bv.out a.table a0.out.t;have u:=Z c;rw[j];clear c g j;go_wp2_with fail
  go_meet;exact⟨Z (by rw[show fM (·++b) a.table=a.table++b from if_neg u.out];exact rS bb.out 3 _ (RI.JT {a with name:=if a.kind=1 then a.name++b else a.name} _)),Z (uo b3.out (omg bz) _ _)⟩
 case rest=>
 obtain⟨dw,rfl⟩:=au wc;obtain⟨bc,b4⟩:=hcut;clear bb b3 bk bl bm;go_upto_region 10 with(fail)
 have bk:=λd=>aa.frozen bc.out d;have bl:=aa.lt bc.out;have bm:ae dw (ac f 11) a.other:=(ou bc.out 11).trans rfl;go_upto_if 40 with(fail)
 go_cut [] (λc=>Hid (aa c f 95 ({a with name:=if a.kind=1 then a.name++b else a.name,table:=fM (·++b) a.table,other:=fM (·++b) a.other}:RI).cells.toArray)/\Hid (ag wr c))
 case first=>
  by_cases c:a.other=e0
  ·have g:a.other.toList.isEmpty=true:=by rw[jY,c];decide+kernel
   have j:(!a.other.toList.isEmpty)=false:=by rw[g];rfl
   have u:=Z c;rw[j];clear c g j;go_wp2_with fail
   go_meet;exact⟨Z (by rw[show fM (·++b) a.other=a.other from(if_pos u.out).trans u.out.symm];exact bc.out),b4⟩
  have g:a.other.toList.isEmpty=false:=by rw[jY];exact decide_eq_false (λh=>c (by have j:=(dU a.other).trans h;exact kV (List.eq_nil_of_length_eq_zero j)))
  have j:(!a.other.toList.isEmpty)=true:=by rw[g];rfl
  have m:=bv.out a.other a0.out.o;have u:=Z c;rw[j];clear c g j;go_wp2_with fail
  go_meet;exact⟨Z (by rw[show fM (·++b) a.other=a.other++b from if_neg u.out];exact rS bc.out 11 _ (RI.JU {a with name:=if a.kind=1 then a.name++b else a.name,table:=fM (·++b) a.table} _)),Z (uo b4.out (omg bz) _ _)⟩
 case rest=>
 obtain⟨z,rfl⟩:=au wc;obtain⟨bg,cB⟩:=hcut;clear bc b4 bk bl bm;replace bg:Hid (aa z f 95 (pY b a).cells.toArray):=bg;have bA:=Z (bU.out.trans a9.out);have cC:=Z (bA.out.trans cB.out);have b5:=Z (bZ.out.lv.same cC.out);have bo:ae z (ac f 14) a.hvars.val:=(ou bg.out 14).trans rfl;obtain⟨dx,j⟩:=au a.hvars;rw[<-j]at b5 bo;have m:=Z j;clear j;obtain⟨A,g,y⟩:=dx;have bo:ae z (ac f 14) (O A g y):=bo;have j:a.vars.length=g:=b5.out.1;have cD:=Z j;have m:g<=100000:=omg cw
 have bB:=aa.lt bg.out;clear j;go_upto_region 14 with(fail)
 obtain⟨bp,rfl⟩:∃j:World,j=wr:=⟨_,rfl⟩;go_loopg [8,9] (g+1) (λs u B C=>∃(c j:Nat) (m:aT) (r:List Vr),u=.slice m c j/\B=.int .i64 c/\c<=g/\g-c<s/\Hid (eh (λ_ _ _=>True) w.heap.size 133 2 Vr.cells z.heap.size z C m c j r)/\Hid (r=(a.vars.take c).map (JZ b)))
 case atStart=>exact⟨0,0,none,[],rfl,rfl,by omega,by omega,Z (eh.zero _),Z aj⟩
 case round=>
 obtain⟨c,E,F,H,rfl,rfl,dJ,cE,bh,b7⟩:=hrel;have cF:=Z cE;clear cE;have a7:=Z bh.out.k;have cG:=(ag.cell a7.out (p:=(ac f 14)) bB).trans bo;by_cases j:c<g
 case pos=>
  have j:(c:Int)<(g:Int):=af
  have P:c<a.vars.length:=omg cD
  obtain⟨r,s,j,I,N⟩:=b5.out.2.2 c P;have ap:A=some ⟨r,s,none⟩:=j;clear j;subst ap;have Q:=a0.out.v a.vars[c] (List.getElem_mem P);have R:a.vars.take (c+1)=a.vars.take c++[a.vars[c]]:=by rw[List.take_succ_eq_append_getElem P]
  generalize a.vars[c]=V at N Q R;have aq:=Z R;clear R;obtain⟨C,B⟩:=V;have bT:=bv.out B Q;have j:ae z (ac r (s+c*2)) C:=by have h:=N 0 _ rfl;simpa using h
  have m:ae z (ac r (s+c*2+1)) B:=N 1 _ rfl;clear N Q;have u:=a7.out.size;have Y:(λw':World=>ae w' (ac f 14) (O (some ⟨r,s,none⟩) g y)/\ae w' (ac r (s+c*2)) C/\ae w' (ac r (s+c*2+1)) B) wr.drew:=
   ⟨cG,(ag.cell a7.out (p:=(ac r (s+c*2))) I).trans j,(ag.cell a7.out (p:=(ac r (s+c*2+1))) I).trans m⟩
  have ad:Hid (∀j:Addr,j.block<z.heap.size->∀{aZ m:ah},wr.heap.size<=aZ.heap.size->aZ.grownBy m (Value.slice F c E).ownBlock->m.cell? j=aZ.cell? j):=Z (λj m aZ m m m=>World.cell?_of_block (m.block j.block af (λb=>by
   have:=(bh.out.row _ b.symm).1;omega)))
  go_upto_region 16 with(fail)
  refine eG (S:=(λw':World=>ae w' (ac f 14) (O (some ⟨r,s,none⟩) g y)/\ae w' (ac r (s+c*2)) C/\ae w' (ac r (s+c*2+1)) B)) 18 Y λhS=>?_;refine dq ?_;refine eo ?_;refine sO ?_;refine tk 15 hS ?_;refine aM 16 (λT L=>?_);go_simp;have j:=λ(K:Addr) (ak:K.block<z.heap.size)=>World.cell?_alloc_lt wr.drew (.cells #[C,.string (B++b)] 133) K (show K.block<wr.heap.size by omega);have M:(λw':World=>ae w' (ac f 14) (O (some ⟨r,s,none⟩) g y)/\ae w' (ac r (s+c*2)) C/\ae w' (ac r (s+c*2+1)) B) (wr.drew.alloc (.cells #[C,.string (B++b)] 133)):=
   ⟨(j ⟨f,14,none⟩ bB).trans hS.1,(j ⟨r,s+c*2,none⟩ I).trans hS.2.1,(j ⟨r,s+c*2+1,none⟩ I).trans hS.2.2⟩
  refine L _ _ (λ_=>M) ?_;clear L T j;refine aw ?_;refine aM 17 (λT L=>?_);have U:=Z (show ag wr (wr.drew.alloc (.cells #[C,.string (B++b)] 133))from((ag.refl wr).drew).alloc _);have al:=Z (aK U.out bh.out.own);have an:=Z (cJ wr.drew #[C,.string (B++b)] 133 2 rfl);have ar:=U.out.size;refine de (wr.drew.alloc (.cells #[C,.string (B++b)] 133)) (.tmp 53) (.tmp 69) 89 rfl z.heap.size 133 dh _ 2 32 underlying89 di dj dk dl rfl ax (O F c E) c (H.flatMap Vr.cells) rfl al.out (wr.heap.size+1) (some ⟨wr.heap.size,0,none⟩) 1 1 (#[C,.string (B++b)]:Array Value).toList rfl an.out bn b9 af af ?_;intro j j W X ao;obtain⟨az,aA,rfl,aC⟩:=bu W;have bK:=Z (eh.push (x:=(⟨C,B++b⟩:Vr)) JX (by have:=cC.out.size;omega) (Nat.le_refl _) a7.out.size bh.out U.out trivial X ao W);have j:=λ(K:Addr) (ak:K.block<z.heap.size)=>ad.out K ak ar X;refine L _ _ (λ_=>⟨(j ⟨f,14,none⟩ bB).trans M.1,(j ⟨r,s+c*2,none⟩ I).trans M.2.1,(j ⟨r,s+c*2+1,none⟩ I).trans M.2.2⟩) ?_;clear L T j W X ao aC hS Y M al an ad;refine aw ?_;refine b1 ?_;refine tq 18 ?_;refine bQ ?_;go_wp2_with fail
  go_roundg (g-c)
  case measure=>have:=cF.out;omega
  exact⟨c+1,aA,az,H++[⟨C,B++b⟩],rfl,by go_num,by omega,omg cF,bK,Z (by rw[aq.out,List.map_append,b7.out];rfl)⟩
 case neg=>
 have j:¬(c:Int)<(g:Int):=af
 obtain rfl:c=g:=af
 have j:=b7.out;rw[List.take_of_length_le (omg cD)]at j;have b8:=Z j;clear j b7;have bC:=Z ((Kp.of_same (l:=[]) a7.out).blk bg.out aj);have dy:=λd=>aa.frozen bC.out d;have dz:=aa.lt bC.out;go_upto_region 18 with(fail)
 have bq:Hid (aa _ f 95 ({pY b a with hvars:=⟨F,c,E⟩,vars:=H}:RI).cells.toArray):=Z (rS bC.out 14 (O F c E) (RI.JV (pY b a) ⟨F,c,E⟩ H));have bE:=Z (Kp.aH (p:=(ac f 14)) (l:=[f]) aj (Kp.refl [f] wr) (O F c E));obtain⟨bF,j⟩:=au (wr.setCell (ac f 14) (O F c E));rw[<-j]at bq bE⊢;clear j dy dz bo cG bC bg;have j:f<=bp.heap.size/\bp.heap.size<=f:=omg bz
 have cH:f<z.heap.size:=bB;have j:=Z (cB.out.trans a7.out);have cK:=Z (bE.out.eD j.out (λq j=>by rw[aB j];omega));have bG:=Z (⟨bD bh.out.own bE.out (λq j=>by rw[aB j];exact cH),bh.out.len⟩:bF.ownsRow z.heap.size 133 2 (O F c E) c (H.flatMap Vr.cells)/\H.length=c);have bj:∀a5 a1,a.e.cells[a5]?=some a1->ae bF (ac f (16+a5)) a1:=λa5 a1 bi=>(ou bq.out (16+a5)).trans (RI.c16 _ a5 a1 bi);have cL:(prog.info? 93).map (·.size)=some a.e.cells.length:=by rw[RE.len];kernel_rfl
 go_wp2_with (first|(refine mW rfl 93 (.tmp 73) rfl f 16 a.e.cells rfl bj _ underlying93 rfl cL ?_)|fail)
 refine(cv.out bF (bA.out.trans cK.out)).mono ?_;rintro j br ⟨s,rfl,cM,cN,ca⟩;have cO:=Z cM;have cP:=Z cN;have cb:=Z ca;have cc:=Z ((Kp.of_same (l:=[]) ca).blk bq.out aj);have cd:=JY cc.out 16 s.cells.toArray.size (by rw[List.size_toArray,RE.len,RI.len];decide);have ce:(prog.info? 93).map (·.size)=some s.cells.toArray.size:=by rw[List.size_toArray,RE.len];kernel_rfl
 have cf:s.cells.toArray.all (·.oneCell')=true:=by cases s;simp[RE.cells,Hd.val,Value.oneCell']
 have j:f<bF.heap.size:=aa.lt bq.out;clear bj cM cN ca cL bq;go_upto_region 19 with(first|(refine wpList_store_mid rfl 93 (.tmp 77) (.tmp 76) f 16 s.cells.toArray rfl rfl cd ce cf ?_)|(refine wpList_store_mid rfl 93 (.tmp 77) (.tmp 76) rfl f 16 s.cells.toArray rfl rfl cd ce cf ?_)|fail)
 have cg:Hid (aa (br.setCells f 16 s.cells) f 95 ({pY b a with hvars:=⟨F,c,E⟩,vars:=H,e:=s}:RI).cells.toArray):=Z (by
  have h:=pp s.cells 16 _ br cc.out (by rw[RE.len,RI.len];decide);rw[RI.JW]at h;exact h)
 have bs:=Z ((Kp.refl [f] br).grown (sW f s.cells 16 br) (λj r=>.inl (by injection r with r;simp[r])));obtain⟨B,j⟩:=au (br.setCells f 16 s.cells);try rw[List.toList_toArray]
 rw[<-j]at cg bs⊢;clear j cd ce cf cc;have bH:=Z (bs.out.eD (cK.out.trans cb.out) (λq j=>by rw[aB j];omega));have j:=Z (bA.out.trans bH.out);obtain⟨bI,bJ⟩:=au ({pY b a with hvars:=⟨F,c,E⟩,vars:=H,e:=s}:RI);have dA:=Z (show bI.it=cZ (·++b) a.it by
  rw[bJ];show aE.mk _ _ _ _ _ _ _ _ _ _ _ _ _ _ H _ s.ex=_;rw[cO.out,b8.out];rfl)
 have dB:=Z (show cz B (λq=>q<w.heap.size\/Bw bp.heap.size B.heap.size q) bI by
  have r:=bZ.out;have i:=j.out;have j:∀{h:Hd},aV (·<w.heap.size) h->aV (λq=>q<w.heap.size\/Bw bp.heap.size B.heap.size q) h:=λh=>h.mono (λq j=>.inl j);have m:=bA.out.size;have m:=bs.out.size;have m:=cb.out.size;have m:=bE.out.size;have m:=a7.out.size;have m:=b6 bG.out.1;rw[bJ];refine⟨r.lc.same i,j r.ic,r.fc,bV.same r.ln i,j r.iN,r.lt.same i,j r.it,r.ft,r.lf.same i,j r.iF,r.ff,?_,?_,?_,r.ld.same i,j r.iD,r.fd,?_,?_⟩
  ·exact(cI (h:=⟨F,c,E⟩) (λ_=>rfl) bG.out.2 (by show c<=_;omega) (bD (aK cb.out bG.out.1) bs.out (λq c=>by rw[aB c];exact cH)))
  ·exact(kH bG.out.1).mono (λq c=>.inr ⟨by have:=c.1;omega,by have:=c.2;omega⟩)
  ·intro a1 bi
   have bi:a1∈H:=bi;rw[b8.out]at bi;obtain⟨C,I,rfl⟩:=List.mem_map.1 bi;have c:=r.fv C I;have j:=a0.out.v C I;refine⟨c.1,?_⟩;show aJ (C.table++b);unfold aJ;rw[pX];have:=cn.out;omega
  ·refine lV.mono (lV.keep cP.out bs.out (λq c hS=>?_)) (λq c=>c.imp id (λh=>⟨by have:=h.1;omega,by have:=h.2;omega⟩))
   rw[aB c]at hS;rcases hS with h|h
   ·omega
   have:=h.1;omega
  obtain⟨K,L,M,N,P,Q,R,T,U,W⟩:=r.ok;have C:∀i:ByteArray,i.size<=200->aJ (i++b):=λi bS=>by
   unfold aJ;rw[pX];have:=cn.out;omega
  have I:∀i:ByteArray,i.size<=200->aJ i->aJ (fM (·++b) i):=λi bS X=>by
   unfold fM;split
   ·rename_i h;rw[<-h];exact X
   exact C i bS
  refine⟨K,?_,M,I _ a0.out.t N,P,Q,R,T,I _ a0.out.o U,W⟩;show aJ (if a.kind=1 then a.name++b else a.name);split
  ·exact C _ a0.out.n
  exact L)
 rw[<-bJ]at cg;have cQ:=Z ((Kp.of_same (l:=[]) bH.out).blk bW.out aj);have a:=Z (a4.out.same lW bH.out);clear bJ cO b8 cP;obtain⟨r,C,I,K,L,⟨M,N,P⟩,cR,⟨Q,R,T⟩,cS,U,W,X,⟨Y,ad,ak⟩,cT,al,an,⟨ao,ap,aq⟩,cU,⟨A,g,y⟩,cV,⟨ar,az,aA⟩,cX,⟨aC,aF,⟨aG,aI,aL⟩,cY,⟨aN,aO,aP⟩,c0,⟨aQ,aR,aS⟩,c1,aU,aW,aX,aY⟩⟩:=bI;have bI:True:=trivial;have dC:Hid (aa B f 95 #[r,C,I,K,L,O M N P,O Q R T,U,W,X,O Y ad ak,al,an,O ao ap aq,O A g y,O ar az aA,aC,aF,O aG aI aL,O aN aO aP,O aQ aR aS,aU,aW,aX,aY]):=cg;have a:(#[r,C,I,K,L,O M N P,O Q R T,U,W,X,O Y ad ak,al,an,O ao ap aq,O A g y,O ar az aA,aC,aF,O aG aI aL,O aN aO aP,O aQ aR aS,aU,aW,aX,aY]:Array Value).all (·.oneCell')=true:=bn
 have a:ae B (ac (w.heap.size+2) 0) (O a3 d a2):=ay cQ;have ch:=Z (bH.out.alloc (.cells #[r,C,I,K,L,O M N P,O Q R T,U,W,X,O Y ad ak,al,an,O ao ap aq,O A g y,O ar az aA,aC,aF,O aG aI aL,O aN aO aP,O aQ aR aS,aU,aW,aX,aY] 95));have dD:=Z (aK ch.out a4.out.own);have dE:=Z (cJ B #[r,C,I,K,L,O M N P,O Q R T,U,W,X,O Y ad ak,al,an,O ao ap aq,O A g y,O ar az aA,aC,aF,O aG aI aL,O aN aO aP,O aQ aR aS,aU,aW,aX,aY] 95 25 rfl);have a8:=cr.out;have a:w.heap.size+2<bp.heap.size:=aa.lt bW.out;have dF:w.heap.size+3<=(B.alloc (.cells #[r,C,I,K,L,O M N P,O Q R T,U,W,X,O Y ad ak,al,an,O ao ap aq,O A g y,O ar az aA,aC,aF,O aG aI aL,O aN aO aP,O aQ aR aS,aU,aW,aX,aY] 95)).heap.size:=by have:=ch.out.size;omega
 go_wp2_with (first|(refine gX rfl 95 (.tmp 7) rfl f #[r,C,I,K,L,O M N P,O Q R T,U,W,X,O Y ad ak,al,an,O ao ap aq,O A g y,O ar az aA,aC,aF,O aG aI aL,O aN aO aP,O aQ aR aS,aU,aW,aX,aY] rfl 95 dC.out _ underlying95 rfl am ?_)|(at_builtin;refine ev _ rfl (.tmp 79) (.tmp 81) 22 rfl (w.heap.size+3) 95 db _ 25 408 underlying22 dc dd df dg rfl ax (O a3 d a2) d (bx.flatMap RI.cells) rfl dD.out (B.heap.size+1) (some ⟨B.heap.size,0,none⟩) 1 1 (#[r,C,I,K,L,O M N P,O Q R T,U,W,X,O Y ad ak,al,an,O ao ap aq,O A g y,O ar az aA,aC,aF,O aG aI aL,O aN aO aP,O aQ aR aS,aU,aW,aX,aY]:Array Value).toList rfl dE.out bn b9 af dF ?_;intro a c3 ci cj c2;obtain⟨bL,bM,rfl,dG⟩:=bu ci;have bK:=Z (eh.push (x:=(⟨r,C,I,K,L,⟨M,N,P⟩,cR,⟨Q,R,T⟩,cS,U,W,X,⟨Y,ad,ak⟩,cT,al,an,⟨ao,ap,aq⟩,cU,⟨A,g,y⟩,cV,⟨ar,az,aA⟩,cX,⟨aC,aF,⟨aG,aI,aL⟩,cY,⟨aN,aO,aP⟩,c0,⟨aQ,aR,aS⟩,c1,aU,aW,aX,aY⟩⟩:RI)) lW af af af a4.out ch.out (lW.mono (lW.keep dB.out (Kp.of_same (l:=[]) ((ag.refl B).alloc _)) aj) (λq a=>a.imp id (λh=>⟨h.1,by have:=h.2;simp;omega⟩))) cj c2 ci);have bt:=Z (aa.grown ((Kp.of_same (l:=[]) ((ag.refl B).alloc (.cells #[r,C,I,K,L,O M N P,O Q R T,U,W,X,O Y ad ak,al,an,O ao ap aq,O A g y,O ar az aA,aC,aF,O aG aI aL,O aN aO aP,O aQ aR aS,aU,aW,aX,aY] 95))).blk cQ.out aj) cj (λb=>by have:=(a4.out.row _ b.symm).1;omega));have a:=λd=>aa.frozen bt.out d;have a:=aa.lt bt.out;have a:=ay bt;clear ci cj c2 dG)|fail)
 go_roundg (D-d)
 case measure=>have:=cu.out;omega
 exact⟨d+1,bM,bL,bx++[⟨r,C,I,K,L,⟨M,N,P⟩,cR,⟨Q,R,T⟩,cS,U,W,X,⟨Y,ad,ak⟩,cT,al,an,⟨ao,ap,aq⟩,cU,⟨A,g,y⟩,cV,⟨ar,az,aA⟩,cX,⟨aC,aF,⟨aG,aI,aL⟩,cY,⟨aN,aO,aP⟩,c0,⟨aQ,aR,aS⟩,c1,aU,aW,aX,aY⟩⟩],rfl,by omega,omg cu,Z (eh.kp lW bK.out (Kp.aH (p:=(ac (w.heap.size+2) 0)) (l:=[w.heap.size+2]) aj (Kp.refl [w.heap.size+2] c3) (O bL (d+1) bM)) (λq a=>by rw[aB a];omega)),Z (iA bt (O bL (d+1) bM)),Z (by rw[List.map_append,ct.out,dr.out,List.map_append];show _++[RI.it _]=_++[cZ _ _];rw[dA.out])⟩
theorem Ah:∀{b c:List At},eb b c=true->b.length=c.length/\∀a (d:a<b.length) (e:a<c.length),b[a].name=c[a].name/\b[a].kind=c[a].kind
 |[],[],_=>⟨rfl,λa h=>absurd h (Nat.not_lt_zero _)⟩
 |[],_::_,h=>by cases h
 |_::_,[],h=>by cases h
 |b::l,c::m,h=>by
  rw[eb]at h;simp only[Bool.and_eq_true,decide_eq_true_eq]at h;obtain⟨b,f⟩:=Ah h.2;exact⟨by simp[b],λa d e=>by
   cases a with
   |zero=>exact h.1
   |succ a=>exact f a (by simpa using d) (by simpa using e)⟩
theorem Ai:∀(a:List At),eb a a=true
 |[]=>rfl
 |a::l=>by rw[eb,Ai l];simp
theorem J1 (e f:Hd) (a c:List RA) (w:ah) (g:aD w 6 e RA.cells a) (j:aD w 6 f RA.cells c) (l:eb (a.map RA.at_) (c.map RA.at_)=true):
 Calls prog 57 #[e.val,f.val] w λt u=>t=.returned (.bool true)/\ag w u:=by
 obtain⟨m,n,v⟩:=e;obtain⟨o,x,y⟩:=f;have z:a.length=n:=g.1;have A:c.length=x:=j.1;have n:n<=9223372036854775807:=g.2.1;obtain⟨k,p⟩:=Ah l;simp only[List.length_map]at k;have q:∀d (e:d<a.length) (f:d<c.length),a[d].at_.name=c[d].at_.name/\a[d].at_.kind=c[d].at_.kind:=λd e f=>by
  have h:=p d (by simpa using e) (by simpa using f);rw[List.getElem_map,List.getElem_map]at h;exact h
 subst z A;have B:=Z g;have C:=Z j;have D:=Z q;have E:=Z k;have e:((a.length:Int) !=(c.length:Int))=false:=aF
 clear g j l p q k;show Calls prog 57 #[O m a.length v,O o c.length y] w _;go_enter func57,ntmps57
 go_wp2;go_loopw [5] (λd wr=>∃b:Nat,b<=a.length/\d=.int .i64 b/\Hid (ag w wr)) (λd _=>a.length-(intOf d).toNat)
 case atStart=>exact⟨0,Nat.zero_le _,rfl,ag.refl w⟩
 obtain⟨b,H,rfl,i⟩:=hrel;by_cases f:b<a.length
 ·have g:b<c.length:=omg E
  obtain⟨l,n,j,e,d⟩:=(B.out.same i.out).2.2 b f;obtain⟨p,q,k,t,e⟩:=(C.out.same i.out).2.2 b g;have F:m=some ⟨l,n,none⟩:=j;have G:o=some ⟨p,q,none⟩:=k;obtain⟨g,l⟩:=D.out b f g;obtain⟨r,m⟩:=au (a[b].at_.name);obtain⟨s,n⟩:=au (a[b].at_.kind);have o:=d 0 (.string a[b].at_.name) rfl;have q:=d 1 (J a[b].at_.kind) rfl;have f:=e 0 (.string c[b].at_.name) rfl;have p:=e 1 (J c[b].at_.kind) rfl;rw[<-g]at f;rw[<-l]at p;rw[<-m]at o f;rw[<-n]at q p;simp only[Nat.add_zero]at o f;clear d e j k m n g l;subst F G;have a:(b:Int)<(a.length:Int):=af
  have a:(b:Int)<(c.length:Int):=af
  have a:(r.toList==r.toList)=true:=aj
  have a:(s !=s)=false:=aj
  go_wp2_with fail
  go_quiet (fail)
  go_wp2;go_roundw
  case rel=>exact⟨b+1,by omega,by go_num,(i.out.drewN _)⟩
  simp[intOf];omega
 go_wp2;go_ret;exact⟨rfl,i⟩
theorem rT (b c:Hd) (a:List Int) (w:ah) (f:cX w b a) (g:cX w c a):
 Calls prog 34 #[b.val,c.val] w λd e=>d=.returned (.bool true)/\ag w e:=
 (zR b c a a w f g).mono (λd e h=>⟨by rw[h.1];simp,h.2⟩)
theorem Aj (j k:Hd) (e:List cF) (w:ah) (f:aD w 12 j cF.cells e) (l:aD w 12 k cF.cells e):
 Calls prog 100 #[j.val,k.val] w λL M=>L=.returned (.bool true)/\ag w M:=by
 obtain⟨m,a,N⟩:=j;obtain⟨n,o,P⟩:=k;have p:e.length=a:=f.1;have Q:e.length=o:=l.1;obtain rfl:a=o:=af
 have j:a<=9223372036854775807:=f.2.1;have R:=Z f;have S:=Z l;have T:=Z p;have j:((a:Int) !=(a:Int))=false:=aj
 clear f l p Q;show Calls prog 100 #[O m a N,O n a P] w _;go_enter func100,ntmps100
 go_upto_region 4 with(fail)
 go_loopg [5] (a+1) (λc d f=>∃b:Nat,d=.int .i64 b/\b<=a/\a-b<c/\Hid (ag w f))
 case atStart=>exact⟨0,rfl,by omega,by omega,Z (ag.refl _)⟩
 case round=>
 obtain⟨d,rfl,aa,q,g⟩:=hrel;have r:=Z q;clear q;by_cases f:d<a
 case pos=>
  have f:(d:Int)<(a:Int):=af
  have s:d<e.length:=omg T
  obtain⟨t,u,f,j,b⟩:=(R.out.same g.out).2.2 d s;have U:m=some ⟨t,u,none⟩:=f;clear f;subst U;obtain⟨v,x,f,j,c⟩:=(S.out.same g.out).2.2 d s;have V:n=some ⟨v,x,none⟩:=f;clear f;subst V;generalize e[d]=W at b c;obtain⟨⟨i,y,⟨z,A,B⟩⟩,C,⟨D,E,⟨F,G,H⟩⟩,I⟩:=W;have e:=aI (show ae wr (ac t (u+d*12)) i by have h:=b 0 _ rfl;simpa using h);have e:=aI (b 1 _ rfl);have e:=aI (b 2 _ rfl);have e:=aI (b 3 _ rfl);have e:=aI (b 4 _ rfl);have e:=aI (b 5 _ rfl);have e:=aI (b 6 _ rfl);have e:=aI (b 7 _ rfl);have e:=aI (b 8 _ rfl);have e:=aI (b 9 _ rfl);have e:=aI (b 10 _ rfl);have e:=aI (b 11 _ rfl);have e:=aI (show ae wr (ac v (x+d*12)) i by have h:=c 0 _ rfl;simpa using h);have e:=aI (c 1 _ rfl);have e:=aI (c 2 _ rfl);have e:=aI (c 3 _ rfl);have e:=aI (c 4 _ rfl);have e:=aI (c 5 _ rfl);have e:=aI (c 6 _ rfl);have e:=aI (c 7 _ rfl);have e:=aI (c 8 _ rfl);have e:=aI (c 9 _ rfl);have e:=aI (c 10 _ rfl);have e:=aI (c 11 _ rfl);clear b c;have b:(i !=i)=false:=aj
  have b:(y !=y)=false:=aj
  have b:(z !=z)=false:=aj
  have b:(A !=A)=false:=aj
  have b:(B.toList==B.toList)=true:=aj
  have b:(C !=C)=false:=aj
  have b:(D !=D)=false:=aj
  have b:(E !=E)=false:=aj
  have b:(F !=F)=false:=aj
  have b:(G !=G)=false:=aj
  have b:(H.toList==H.toList)=true:=aj
  have b:(I !=I)=false:=aj
  go_upto_region 6 with(fail)
  refine wp_region_quiet_below am am ?_;repeat (go_big_quiet_step (fail))
  refine wpQuiet_nil ?_;intro _ X;obtain⟨⟨J,osq⟩,Y⟩:=X;subst Y;have K:=Z (ag.reg wr J osq);generalize Sort.grow (redrawn wr J) osq=ab at K⊢;go_wp2;go_roundg (a-d)
  case measure=>have:=r.out;omega
  exact⟨d+1,by go_num,by omega,omg r,Z (g.out.trans K.out)⟩
 case neg=>
 have a:¬(d:Int)<(a:Int):=af
 go_wp2;go_ret;exact⟨rfl,g.out⟩
def rU (b:ah) (c d:aC):Prop:=∀a,ag b a->Calls prog 50 #[.agg c.cells.toArray,.agg d.cells.toArray] a λb c=>b=.returned (.bool true)/\ag a c
theorem J2 {d:ah} {m n:Int} {I J:Hd} {i j:List aC} {t u:Hd} {q:List cF} {v b:Hd} {r:List Int} {o p:Int} {x y:Hd} {z A:List RA}
 (B:aD d 8 I aC.cells i) (K:aD d 8 J aC.cells j) (R:aD d 12 t cF.cells q) (L:aD d 12 u cF.cells q) (S:cX d v r) (T:cX d b r) (U:aD d 6 x RA.cells z) (V:aD d 6 y RA.cells A)
 (W:eb (z.map RA.at_) (A.map RA.at_)=true) (a7:i.length=j.length) (X:∀a (h:a<i.length) (Y:a<j.length),rU d i[a] j[a]):rU d (.mk m n I i t q v r o p x z) (.mk m n J j u q b r o p y A):=by
 intro g e;have M:=Z (λc (d:ag g c)=>Aj t u q c (R.same (e.trans d)) (L.same (e.trans d)));have N:=Z (λc (d:ag g c)=>rT v b r c (cX.same S (e.trans d)) (cX.same T (e.trans d)));have P:=Z (λc (d:ag g c)=>J1 x y z A c (U.same (e.trans d)) (V.same (e.trans d)) W);have a8:=Z (B.same e);have a9:=Z (K.same e);have ba:=Z (λa h Y c (d:ag g c)=>X a h Y c (e.trans d));obtain⟨aa,c,bb⟩:=I;obtain⟨ab,ad,bg⟩:=J;have ai:i.length=c:=B.1;have ak:j.length=ad:=K.1;obtain rfl:c=ad:=af
 have d:c<=9223372036854775807:=B.2.1;have bh:=Z ai;have bi:=Z ak;obtain⟨al,an,ao⟩:=t;obtain⟨ap,aq,ar⟩:=u;obtain⟨av,aw,ax⟩:=v;obtain⟨az,aA,aB⟩:=b;obtain⟨aE,aF,aG⟩:=x;obtain⟨aH,aJ,aK⟩:=y;replace M:Hid (Rt 100 #[O al an ao,O ap aq ar] g (.bool true)):=M;replace N:Hid (Rt 34 #[O av aw ax,O az aA aB] g (.bool true)):=N;replace P:Hid (Rt 57 #[O aE aF aG,O aH aJ aK] g (.bool true)):=P;clear B K R L S T U V X e W a7 ai ak;show Calls prog 50 #[.agg #[m,n,O aa c bb,O al an ao,O av aw ax,o,p,O aE aF aG],.agg #[m,n,O ab c bg,O ap aq ar,O az aA aB,o,p,O aH aJ aK]] g _;go_enter func50,ntmps50
 go_upto_region 1 with(fail)
 obtain⟨r,e,g,d,q⟩:=nb g 105 _;rw[e];clear e;have e:=d;obtain⟨bk,r,k,d,t⟩:=nc q 105 _;rw[r];clear r;have aL:=Z (e.out.trans d.out);have l:=qb d g;clear d e g q t;have tk:((c:Int) !=(c:Int))=false:=aj
 have bl:(m !=m)=false:=aj
 have bm:(n !=n)=false:=aj
 have bn:(o !=o)=false:=aj
 have bp:(p !=p)=false:=aj
 have bq:=ay l;have br:=ay k;have bs:=aS l;have bt:=aS k;have C:=bc l;have D:=bc k;have bu:=bj l;have bv:=bj k;have bw:=bI l;have bx:=bI k;have bz:=cc l;have bA:=cc k;go_wp2_with fail
 refine(M.out bk aL.out).mono ?_;rintro aM bB ⟨rfl,E⟩;have aN:=Z (aL.out.trans E);have aO:=qb (Z E) l;have aP:=qb (Z E) k;clear bq br bs bt C D bu bv bw bx bz bA E;have bC:=bo aO;have bD:=bo aP;go_wp2_with fail
 refine(N.out bB aN.out).mono ?_;rintro aM bE ⟨rfl,F⟩;have aQ:=Z (aN.out.trans F);have aR:=qb (Z F) aO;have aT:=qb (Z F) aP;clear bC bD F;have bF:=b7 aR;have bG:=b7 aT;go_wp2_with fail
 refine(P.out bE aQ.out).mono ?_;rintro aM bH ⟨rfl,G⟩;have aU:=Z (aQ.out.trans G);have bJ:=qb (Z G) aR;have bK:=qb (Z G) aT;clear bF bG G bl bm bn bp tk;go_upto_region 4 with(fail)
 go_loopg [5] (c+1) (λd e f=>∃a:Nat,e=.int .i64 a/\a<=c/\c-a<d/\Hid (ag bH f))
 case atStart=>exact⟨0,rfl,by omega,by omega,Z (ag.refl _)⟩
 case round=>
 obtain⟨a,rfl,co,aV,s⟩:=hrel;have aW:=Z aV;clear aV;have C:=bc (qb s bJ);have D:=bc (qb s bK);by_cases d:a<c
 case neg=>
  have d:¬(a:Int)<(c:Int):=af
  go_wp2;go_ret;exact⟨rfl,aU.out.trans s.out⟩
 case pos=>
 have d:(a:Int)<(c:Int):=af
 have aX:a<i.length:=omg bh
 have aY:a<j.length:=omg bi
 have Q:=Z (aU.out.trans s.out);obtain⟨aZ,a0,d,e,f⟩:=(a8.out.same Q.out).2.2 a aX;have bL:aa=some ⟨aZ,a0,none⟩:=d;clear d;subst bL;obtain⟨a1,a2,d,L,b⟩:=(a9.out.same Q.out).2.2 a aY;have bM:ab=some ⟨a1,a2,none⟩:=d;clear d;subst bM;have H:=Z (λd (e:ag wr d)=>ba.out a aX aY d (Q.out.trans e));obtain⟨bN,d⟩:=au i[a];obtain⟨bO,e⟩:=au j[a];rw[<-d]at f H;rw[<-e]at b H;clear d e;obtain⟨a3,bP,⟨bQ,bR,bS⟩,cp,⟨bT,bU,bV⟩,cq,⟨bW,bX,bY⟩,cr,bZ,b0,⟨b1,b2,b3⟩,cs⟩:=bN;obtain⟨a4,b4,⟨b5,b6,b8⟩,ct,⟨b9,ca,cb⟩,cu,⟨cd,ce,cf⟩,cv,cg,ch,⟨ci,cj,ck⟩,cw⟩:=bO;have d:=aI (show ae wr (ac aZ (a0+a*8)) a3 by have h:=f 0 _ rfl;simpa using h);have d:=aI (f 1 _ rfl);have d:=aI (f 2 _ rfl);have d:=aI (f 3 _ rfl);have d:=aI (f 4 _ rfl);have d:=aI (f 5 _ rfl);have d:=aI (f 6 _ rfl);have d:=aI (f 7 _ rfl);have d:=aI (show ae wr (ac a1 (a2+a*8)) a4 by have h:=b 0 _ rfl;simpa using h);have d:=aI (b 1 _ rfl);have d:=aI (b 2 _ rfl);have d:=aI (b 3 _ rfl);have d:=aI (b 4 _ rfl);have d:=aI (b 5 _ rfl);have d:=aI (b 6 _ rfl);have d:=aI (b 7 _ rfl);have d:Hid (Rt 50 #[.agg #[a3,bP,O bQ bR bS,O bT bU bV,O bW bX bY,bZ,b0,O b1 b2 b3],.agg #[a4,b4,O b5 b6 b8,O b9 ca cb,O cd ce cf,cg,ch,O ci cj ck]] wr (.bool true)):=H;have cl:=kX (w:=wr) d.out;have e:=aI C;have e:=aI D;clear f b H d;go_upto_region 6 with(fail)
 clear C D;refine wp_region_quiet_below am am ?_;repeat (go_big_quiet_step (first|(go_at_call 50;exact cl _ _)))
 refine wpQuiet_nil ?_;intro _ cm;obtain⟨⟨a5,osq⟩,cn⟩:=cm;subst cn;have a6:=Z (ag.reg wr a5 osq);generalize Sort.grow (redrawn wr a5) osq=cx at a6⊢;go_wp2;go_roundg (c-a)
 case measure=>have:=aW.out;omega
 exact⟨a+1,by go_num,by omega,omg aW,Z (s.out.trans a6.out)⟩
theorem J3 {b a:List At} (h:b=a):eb b a=true:=by rw[h];exact Ai a
theorem J4 {c:ah} {f g:Nat->Prop} {d:aC} (i:dM c f d):∀{b:aC},dM c g b->d.pl=b.pl->rU c d b:=by
 induction i with
 |mk j u v k w l x m y n=>
  intro b o e;cases o with
  |@mk z A B C D E F G H I J K p L q r M s N t O=>
   rw[aC.pl,aC.pl]at e;injection e with e1 e2 e3 e4 e5 e6 e7 e8
   subst e1 e2 e4 e5 e6 e7;rw[aC.g0,aC.g0]at e3;have b:=congrArg List.length e3;simp only[List.length_map]at b;refine J2 j p k r l s m.a.1 t.a.1 (J3 e8) b (λc h b=>n _ (List.getElem_mem h) (q _ (List.getElem_mem b)) ?_);have c:=congrArg (λd=>d[c]?) e3;simpa[h,b]using c
theorem J5 {aM aN:Nat} {w:ah} {h h2:Hd} {aO aP:List RT} {k d:cd} (z:eO aM w h aO k) (A:eO aN w h2 aP d) (B:k.qs.map dy.qy=d.qs.map dy.qy):
 Calls prog 30 #[.agg (bm h k),.agg (bm h2 d)] w λu aM=>u=.returned (.bool true)/\ag w aM:=by
 have v:=congrArg List.length B;simp only[List.length_map]at v;have aQ:=Z (λa (b:a<k.qs.length) (h2:a<d.qs.length)=>show k.qs[a].name=d.qs[a].name/\rU w k.qs[a].rp d.qs[a].rp by
  have u:(k.qs.map dy.qy)[a]'(by simpa using b)=(d.qs.map dy.qy)[a]'(by simpa using h2):=by simp only[B]
  simp only[List.getElem_map,dy.qy]at u;injection u with s t
  exact⟨s,J4 (z.q _ (List.getElem_mem b)) (A.q _ (List.getElem_mem h2)) t⟩)
 have L1:=Z z.l6;have L2:=Z A.l6;clear z A B;obtain⟨aR,aS,aT⟩:=h;obtain⟨hA2,aU,c⟩:=h2;obtain⟨⟨aV,aW,aX⟩,⟨aY,aZ,a0⟩,⟨a1,a2,a3⟩,⟨a4,a5,a6⟩,⟨a7,a8,a9⟩,⟨C,b,F⟩,bD,bE,bF,bG,bH,l⟩:=k;obtain⟨⟨ba,bb,bc⟩,⟨bd,be,bf⟩,⟨bg,bh,bi⟩,⟨bj,bk,bl⟩,⟨bn,bo,bp⟩,⟨D,G,H⟩,bI,bJ,bK,bL,bM,m⟩:=d;have I:l.length=b:=L1.out.1;have J:m.length=G:=L2.out.1;have v:l.length=m.length:=v;obtain rfl:b=G:=af
 have k:b<=9223372036854775807:=L1.out.2.1;have bq:=Z I;have br:=Z J;have bs:((b:Int) !=(b:Int))=false:=aj
 clear v I J;replace L1:Hid (aD w 9 ⟨C,b,F⟩ dy.cells l):=L1;replace L2:Hid (aD w 9 ⟨D,b,H⟩ dy.cells m):=L2;show Calls prog 30 #[.agg #[O aR aS aT,O aV aW aX,O aY aZ a0,O a1 a2 a3,O a4 a5 a6,O a7 a8 a9,O C b F],.agg #[O hA2 aU c,O ba bb bc,O bd be bf,O bg bh bi,O bj bk bl,O bn bo bp,O D b H]] w _;go_enter func30,ntmps30
 go_upto_region 1 with(fail)
 obtain⟨A,u,v,k,z⟩:=nb w 37 _;rw[u];clear u;have u:=k;obtain⟨bt,A,K,k,B⟩:=nc z 37 _;rw[A];clear A;have L:=Z (u.out.trans k.out);have M:=qb k v;clear k u v z B;have x:=cc M;have y:=cc K;go_upto_region 4 with(fail)
 clear x y bs;go_loopg [5] (b+1) (λe f g=>∃a:Nat,f=.int .i64 a/\a<=b/\b-a<e/\Hid (ag bt g))
 case atStart=>exact⟨0,rfl,by omega,by omega,Z (ag.refl _)⟩
 case round=>
 obtain⟨a,rfl,bN,N,o⟩:=hrel;have P:=Z N;clear N;have x:=cc (qb o M);have y:=cc (qb o K);by_cases k:a<b
 case neg=>
  have e:¬(a:Int)<(b:Int):=af
  go_wp2;go_ret;exact⟨rfl,L.out.trans o.out⟩
 case pos=>
 have k:(a:Int)<(b:Int):=af
 have Q:a<l.length:=omg bq
 have R:a<m.length:=omg br
 have E:=Z (L.out.trans o.out);obtain⟨f,g,s,k,e⟩:=(L1.out.same E.out).2.2 a Q;have bu:C=some ⟨f,g,none⟩:=s;clear s;subst bu;obtain⟨i,j,t,k,c⟩:=(L2.out.same E.out).2.2 a R;have bv:D=some ⟨i,j,none⟩:=t;clear t;subst bv;obtain⟨p,k⟩:=aQ.out a Q R;have n:=Z (λn (r:ag wr n)=>k n (E.out.trans r));replace p:l[a].name=m[a].name:=p;replace n:Hid (Rt 50 #[.agg l[a].rp.cells.toArray,.agg m[a].rp.cells.toArray] wr (.bool true)):=n;clear k;obtain⟨bw,k⟩:=au l[a];obtain⟨bx,l⟩:=au m[a];rw[<-k]at e n p;rw[<-l]at c n p;clear k l;obtain⟨r,⟨S,T,⟨U,d,V⟩,bO,⟨W,X,Y⟩,bP,⟨aa,ab,ad⟩,bQ,ai,ak,⟨al,an,ao⟩,bR⟩⟩:=bw;obtain⟨bz,⟨ap,aq,⟨ar,av,aw⟩,bS,⟨ax,ay,az⟩,bT,⟨aA,aB,aC⟩,bU,aE,aF,⟨aG,aH,aJ⟩,bV⟩⟩:=bx;obtain rfl:r=bz:=p;have k:=aI (show ae wr (ac f (g+a*9)) r by have h:=e 0 _ rfl;simpa using h);have k:=aI (show ae wr (ac i (j+a*9)) r by have h:=c 0 _ rfl;simpa using h);have pZ:=aI (show ae wr (ac f (g+a*9+1)) S from e 1 _ rfl);have p0:=aI (show ae wr (ac f (g+a*9+1+1)) T from e 2 _ rfl);have p1:=aI (show ae wr (ac f (g+a*9+1+2)) (O U d V)from e 3 _ rfl);have p2:=aI (show ae wr (ac f (g+a*9+1+3)) (O W X Y)from e 4 _ rfl);have J6:=aI (show ae wr (ac f (g+a*9+1+4)) (O aa ab ad)from e 5 _ rfl);have J7:=aI (show ae wr (ac f (g+a*9+1+5)) ai from e 6 _ rfl);have u16:=aI (show ae wr (ac f (g+a*9+1+6)) ak from e 7 _ rfl);have J8:=aI (show ae wr (ac f (g+a*9+1+7)) (O al an ao)from e 8 _ rfl);have u20:=aI (show ae wr (ac i (j+a*9+1)) ap from c 1 _ rfl);have u21:=aI (show ae wr (ac i (j+a*9+1+1)) aq from c 2 _ rfl);have u22:=aI (show ae wr (ac i (j+a*9+1+2)) (O ar av aw)from c 3 _ rfl);have u23:=aI (show ae wr (ac i (j+a*9+1+3)) (O ax ay az)from c 4 _ rfl);have u24:=aI (show ae wr (ac i (j+a*9+1+4)) (O aA aB aC)from c 5 _ rfl);have u25:=aI (show ae wr (ac i (j+a*9+1+5)) aE from c 6 _ rfl);have u26:=aI (show ae wr (ac i (j+a*9+1+6)) aF from c 7 _ rfl);have u27:=aI (show ae wr (ac i (j+a*9+1+7)) (O aG aH aJ)from c 8 _ rfl);have d:Hid (Rt 50 #[.agg #[S,T,O U d V,O W X Y,O aa ab ad,ai,ak,O al an ao],.agg #[ap,aq,O ar av aw,O ax ay az,O aA aB aC,aE,aF,O aG aH aJ]] wr (.bool true)):=n;have bA:=kX (w:=wr) d.out;have f:=aI x;have f:=aI y;have f:(r.toList==r.toList)=true:=aj
 clear e c n d;go_upto_region 6 with(fail)
 clear x y;refine wp_region_quiet_below am am ?_;repeat (go_big_quiet_step (first|(go_at_call 50;exact bA _ _)))
 refine wpQuiet_nil ?_;intro _ bB;obtain⟨⟨aK,osq⟩,bC⟩:=bB;subst bC;have aL:=Z (ag.reg wr aK osq);generalize Sort.grow (redrawn wr aK) osq=bW at aL⊢;go_wp2;go_roundg (b-a)
 case measure=>have:=P.out;omega
 exact⟨a+1,by go_num,by omega,omg P,Z (o.out.trans aL.out)⟩
theorem J9 {w:ah} {h h2:Hd} {q r:List RT} (S:bJ w h q) (aK:bJ w h2 r) (bL:q.length=r.length)
 (a7:∀a (aL:a<q.length) (h2:a<r.length),q[a].key=r[a].key/\q[a].ra.map RA.at_=r[a].ra.map RA.at_):
 Calls prog 28 #[.agg #[h.val],.agg #[h2.val],.bool true] w λa8 bM=>a8=.returned (.bool true)/\ag w bM:=by
 obtain⟨a9,e,bN⟩:=h;obtain⟨hA2,ba,z⟩:=h2;have aL:q.length=e:=S.1.1;have h2:r.length=ba:=aK.1.1;obtain rfl:e=ba:=af
 have ba:e<=9223372036854775807:=S.1.2.1;have bO:=Z aL;have bP:=Z h2;have bQ:=Z a7;have bb:=Z S;have bd:=Z aK;have bR:((e:Int) !=(e:Int))=false:=aj
 clear S aK aL h2 a7 bL;show Calls prog 28 #[.agg #[O a9 e bN],.agg #[O hA2 e z],.bool true] w _;go_enter func28,ntmps28
 go_upto_region 1 with(fail)
 obtain⟨a7,s,aK,S,aL⟩:=nb w 29 _;rw[s];clear s;have a7:=S;obtain⟨bS,A,aM,S,ba⟩:=nc aL 29 _;rw[A];clear A;have be:=Z (a7.out.trans S.out);have bf:=qb S aK;clear S a7 aK aL ba;have bT:=ay bf;have bU:=ay aM;go_upto_region 4 with(fail)
 clear bT bU bR;go_loopg [7] (e+1) (λb c d=>∃a:Nat,c=.int .i64 a/\a<=e/\e-a<b/\Hid (ag bS d))
 case atStart=>exact⟨0,rfl,by omega,by omega,Z (ag.refl _)⟩
 case round=>
 obtain⟨a,rfl,cy,bg,L⟩:=hrel;have bh:=Z bg;clear bg;have bV:=ay (qb L bf);have aN:=ay (qb L aM);by_cases S:a<e
 case neg=>
  have b:¬(a:Int)<(e:Int):=af
  go_wp2;go_ret;exact⟨rfl,be.out.trans L.out⟩
 case pos=>
 have S:(a:Int)<(e:Int):=af
 have aO:a<q.length:=omg bO
 have aP:a<r.length:=omg bP
 have ax:=Z (be.out.trans L.out);obtain⟨az,aA,S,aK,T⟩:=(bb.out.1.same ax.out).2.2 a aO;have bW:a9=some ⟨az,aA,none⟩:=S;clear S;subst bW;obtain⟨B,C,S,aQ,z⟩:=(bd.out.1.same ax.out).2.2 a aP;have bX:hA2=some ⟨B,C,none⟩:=S;clear S;subst bX;obtain⟨aR,D⟩:=bQ.out a aO aP;have M:=fr.same (bb.out.2 _ (List.getElem_mem aO)) ax.out;have U:=fr.same (bd.out.2 _ (List.getElem_mem aP)) ax.out;generalize q[a]=t at T M aR D;generalize r[a]=aT at z U aR D;obtain⟨aU,⟨V,c,aB⟩,W,⟨X,Y,ad⟩,bi⟩:=t;obtain⟨aV,⟨ak,bk,aC⟩,al,⟨an,ao,ap⟩,bY⟩:=aT;obtain rfl:bi=bY:=aR;have D:W.map RA.at_=al.map RA.at_:=D;have aq:W.length=c:=M.1.1.1;have bl:al.length=bk:=U.1.1.1;obtain rfl:c=bk:=by have h:=congrArg List.length D;simp at h;omega
 have q:c<=9223372036854775807:=M.1.1.2.1;have bZ:=Z aq;have b0:=Z bl;have b1:=Z D;have b2:Hid (fq wr ⟨V,c,aB⟩ W):=Z M.1;have b3:Hid (fq wr ⟨ak,c,aC⟩ al):=Z U.1;have b4:Hid (Rt 34 #[O X Y ad,O an ao ap] wr (.bool true)):=Z (λd b=>rT ⟨X,Y,ad⟩ ⟨an,ao,ap⟩ bi d (cX.same M.2.1 b) (cX.same U.2.1 b));clear M U D aq bl;have pZ:ae wr (ac az (aA+a*3)) aU:=by have h:=T 0 _ rfl;simpa using h
 have p0:ae wr (ac az (aA+a*3+1)) (O V c aB):=T 1 _ rfl;have p1:ae wr (ac az (aA+a*3+2)) (O X Y ad):=T 2 _ rfl;have u20:ae wr (ac B (C+a*3)) aV:=by have h:=z 0 _ rfl;simpa using h
 have u21:ae wr (ac B (C+a*3+1)) (O ak c aC):=z 1 _ rfl;have u22:ae wr (ac B (C+a*3+2)) (O an ao ap):=z 2 _ rfl;clear T z;go_upto_region 7 with(first|(refine wpList_store_row rfl 81 (.tmp 8) (.tmp 32) rfl wr.heap.size #[aU,O V c aB,O X Y ad] rfl rfl 81 #[ai,ab,ab] (aa.new wr 81 #[ai,ab,ab]) am rfl bn ?_;rw[World.setRow_alloc_new])|fail)
 obtain⟨aW,q,bm,ar,-⟩:=nb wr 81 #[aU,O V c aB,O X Y ad];rw[q];clear q;try rw[jj]
 replace u20:=(ag.cell ar.out (p:=(ac B (C+a*3))) aQ).trans u20;replace u21:=(ag.cell ar.out (p:=(ac B (C+a*3+1))) aQ).trans u21;replace u22:=(ag.cell ar.out (p:=(ac B (C+a*3+2))) aQ).trans u22;clear bV aN pZ p0 p1;have aN:=ay (qb ar (qb L aM));go_upto_region 8 with(first|(refine wpList_store_row rfl 81 (.tmp 9) (.tmp 37) rfl aW.heap.size #[aV,O ak c aC,O an ao ap] rfl rfl 81 #[ai,ab,ab] (aa.new aW 81 #[ai,ab,ab]) am rfl bn ?_;rw[World.setRow_alloc_new])|fail)
 obtain⟨b5,q,aE,r,-⟩:=nb aW 81 #[aV,O ak c aC,O an ao ap];rw[q];clear q;try rw[jj]
 clear aN u20 u21 u22;have aF:=qb r bm;have bp:=Z (ar.out.trans r.out);have aX:((c:Int) !=(c:Int))=false:=aj
 have aY:=ay aF;have N:=bc aF;have aZ:=ay aE;have P:=bc aE;go_wp2_with fail
 refine(b4.out b5 bp.out).mono ?_;rintro a8 b6 ⟨rfl,aG⟩;have q:=Z (bp.out.trans aG);have bq:=qb (Z aG) aF;have a0:=qb (Z aG) aE;have b7:=Z (L.out.trans q.out);have br:=Z (b2.out.same q.out);have bs:=Z (b3.out.same q.out);clear aY N aZ P aG aF bm aE;have au:=aS bq;have E:=aS a0;go_upto_region 11 with(fail)
 obtain⟨cz,rfl⟩:∃a1:World,a1=wr:=⟨_,rfl⟩;clear au E aX;go_loopg [10] (c+1) (λd f g=>∃b:Nat,f=.int .i64 b/\b<=c/\c-b<d/\Hid (ag b6 g))
 case atStart=>exact⟨0,rfl,by omega,by omega,Z (ag.refl _)⟩
 case round=>
 obtain⟨b,rfl,cA,bt,j⟩:=hrel;have bu:=Z bt;clear bt;have au:=aS (qb j bq);have E:=aS (qb j a0);by_cases q:b<c
 case neg=>
  have d:¬(b:Int)<(c:Int):=af
  go_wp2;go_roundg (e-a)
  case measure=>have:=bh.out;omega
  exact⟨a+1,by go_num,by omega,omg bh,Z (b7.out.trans j.out)⟩
 case pos=>
 have a:(b:Int)<(c:Int):=af
 have a2:b<W.length:=omg bZ
 have a3:b<al.length:=omg b0
 obtain⟨F,G,a,e,u⟩:=(br.out.1.same j.out).2.2 b a2;have b8:V=some ⟨F,G,none⟩:=a;clear a;subst b8;obtain⟨f,g,a,Q,v⟩:=(bs.out.1.same j.out).2.2 b a3;have b9:ak=some ⟨f,g,none⟩:=a;clear a;subst b9;have x:=congrArg (λa=>a[b]?) b1.out;simp only[List.getElem?_map,List.getElem?_eq_getElem a2,List.getElem?_eq_getElem a3,Option.map_some]at x;have x:=Option.some.inj x;have s:=(br.out.2 _ (List.getElem_mem a2)).1.1.same j.out;have A:=(bs.out.2 _ (List.getElem_mem a3)).1.1.same j.out;generalize W[b]=t at u x s;generalize al[b]=aT at v x A;obtain⟨⟨k,l,H,⟨m,n,o⟩⟩,⟨av,d,aH⟩⟩:=t;obtain⟨ca,⟨aw,bv,aJ⟩⟩:=aT;have x:(⟨k,l,H,⟨m,n,o⟩⟩:At)=ca:=x;subst x;have bw:H.length=d:=s.1;have cb:H.length=bv:=A.1;obtain rfl:d=bv:=af
 have a:d<=9223372036854775807:=s.2.1;have cc:=Z bw;have cd:Hid (aD wr 1 ⟨av,d,aH⟩ dt H):=Z s;have ce:Hid (aD wr 1 ⟨aw,d,aJ⟩ dt H):=Z A;clear bw cb s A;have u30:ae wr (ac F (G+b*6)) k:=by have h:=u 0 _ rfl;simpa using h
 have u31:ae wr (ac F (G+b*6+1)) l:=u 1 _ rfl;have u32:ae wr (ac F (G+b*6+2)) (O av d aH):=u 2 _ rfl;have u33:ae wr (ac F (G+b*6+3)) m:=u 3 _ rfl;have u34:ae wr (ac F (G+b*6+4)) n:=u 4 _ rfl;have u35:ae wr (ac F (G+b*6+5)) o:=u 5 _ rfl;have u40:ae wr (ac f (g+b*6)) k:=by have h:=v 0 _ rfl;simpa using h
 have ur:ae wr (ac f (g+b*6+1)) l:=v 1 _ rfl;have u42:ae wr (ac f (g+b*6+2)) (O aw d aJ):=v 2 _ rfl;have ut:ae wr (ac f (g+b*6+3)) m:=v 3 _ rfl;have u44:ae wr (ac f (g+b*6+4)) n:=v 4 _ rfl;have u45:ae wr (ac f (g+b*6+5)) o:=v 5 _ rfl;clear u v;go_upto_region 14 with(first|(refine wpList_store_row rfl 111 (.tmp 11) (.tmp 75) rfl wr.heap.size #[k,l,O av d aH,m,n,o] rfl rfl 111 #[ai,J 0,ab,J 0,J 0,ai] (aa.new wr 111 #[ai,J 0,ab,J 0,J 0,ai]) am rfl bn ?_;rw[World.setRow_alloc_new])|fail)
 obtain⟨a4,a,cf,y,-⟩:=nb wr 111 #[k,l,O av d aH,m,n,o];rw[a];clear a;try rw[jj]
 replace u40:=(ag.cell y.out (p:=(ac f (g+b*6))) Q).trans u40;replace ur:=(ag.cell y.out (p:=(ac f (g+b*6+1))) Q).trans ur;replace u42:=(ag.cell y.out (p:=(ac f (g+b*6+2))) Q).trans u42;replace ut:=(ag.cell y.out (p:=(ac f (g+b*6+3))) Q).trans ut;replace u44:=(ag.cell y.out (p:=(ac f (g+b*6+4))) Q).trans u44;replace u45:=(ag.cell y.out (p:=(ac f (g+b*6+5))) Q).trans u45;clear au E u30 u31 u32 u33 u34 u35;have E:=aS (qb y (qb j a0));go_upto_region 15 with(first|(refine wpList_store_row rfl 111 (.tmp 12) (.tmp 80) rfl a4.heap.size #[k,l,O aw d aJ,m,n,o] rfl rfl 111 #[ai,J 0,ab,J 0,J 0,ai] (aa.new a4 111 #[ai,J 0,ab,J 0,J 0,ai]) am rfl bn ?_;rw[World.setRow_alloc_new])|fail)
 obtain⟨cg,a,I,e,-⟩:=nb a4 111 #[k,l,O aw d aJ,m,n,o];rw[a];clear a;try rw[jj]
 clear E u40 ur u42 ut u44 u45;have K:=qb e cf;have a:=Z (y.out.trans e.out);have ch:=Z (j.out.trans a.out);have ci:=Z (cd.out.same a.out);have cj:=Z (ce.out.same a.out);have bx:(k.toList==k.toList)=true:=aj
 have ck:(l !=l)=false:=aj
 have cl:(m !=m)=false:=aj
 have cm:(n !=n)=false:=aj
 have cn:(o.toList==o.toList)=true:=aj
 have aX:((d:Int) !=(d:Int))=false:=aj
 have aY:=ay K;have aZ:=ay I;have au:=aS K;have E:=aS I;have N:=bc K;have P:=bc I;have co:=bj K;have cp:=bj I;have cq:=bo K;have cr:=bo I;have cs:=bI K;have ct:=bI I;go_upto_region 18 with(fail)
 obtain⟨cB,rfl⟩:∃a1:World,a1=wr:=⟨_,rfl⟩;clear aY au N co cq cs aZ E P cp cr ct bx ck cl cm cn aX;go_loopg [13] (d+1) (λe f g=>∃a:Nat,f=.int .i64 a/\a<=d/\d-a<e/\Hid (ag cg g))
 case atStart=>exact⟨0,rfl,by omega,by omega,Z (ag.refl _)⟩
 case round=>
 obtain⟨i,rfl,cC,bz,R⟩:=hrel;have bA:=Z bz;clear bz;have N:=bc (qb R K);have P:=bc (qb R I);by_cases a:i<d
 case neg=>
  have a:¬(i:Int)<(d:Int):=af
  go_wp2;go_roundg (c-b)
  case measure=>have:=bu.out;omega
  exact⟨b+1,by go_num,by omega,omg bu,Z (ch.out.trans R.out)⟩
 case pos=>
 have a:(i:Int)<(d:Int):=af
 have aq:i<H.length:=omg cc
 obtain⟨bB,bC,a,b,a5⟩:=(ci.out.same R.out).2.2 i aq;have cu:av=some ⟨bB,bC,none⟩:=a;clear a;subst cu;obtain⟨bD,bE,a,b,a6⟩:=(cj.out.same R.out).2.2 i aq;have cv:aw=some ⟨bD,bE,none⟩:=a;clear a;subst cv;generalize H[i]=t at a5 a6;have bF:ae wr (ac bB (bC+i)) t:=by have h:=a5 0 _ rfl;simpa[dt]using h
 have bG:ae wr (ac bD (bE+i)) t:=by have h:=a6 0 _ rfl;simpa[dt]using h
 have bx:(t.toList==t.toList)=true:=aj
 have a:=aI bF;have a:=aI bG;have a:=aI N;have a:=aI P;clear a5 a6;go_upto_region 20 with(fail)
 clear N P bF bG;refine wp_region_quiet_below am am ?_;repeat (go_big_quiet_step (fail))
 refine wpQuiet_nil ?_;intro _ cw;obtain⟨⟨bH,osq⟩,cx⟩:=cw;subst cx;have bK:=Z (ag.reg wr bH osq);generalize Sort.grow (redrawn wr bH) osq=cD at bK⊢;go_wp2;go_roundg (d-i)
 case measure=>have:=bA.out;omega
 exact⟨i+1,by go_num,by omega,omg bA,Z (R.out.trans bK.out)⟩
theorem Ka {w:ah} {aC n:Nat->Prop} {o p:cj} (e:eV w aC o) (g:eV w n p) (h:o.ru=p.ru):
 Calls prog 49 #[.agg o.cells.toArray,.agg p.cells.toArray] w λq aC=>q=.returned (.bool true)/\ag w aC:=by
 obtain⟨r,s,t,⟨z,A,B⟩,aE,u,⟨C,a,W⟩,i,v,x,⟨D,E,F⟩,aF,⟨G,H,I⟩,aG⟩:=o;obtain⟨bb,bd,be,⟨J,K,L⟩,bf,bg,⟨M,X,Y⟩,bh,bi,bk,⟨N,P,Q⟩,bl,⟨R,S,T⟩,bm⟩:=p;simp only[cj.ru]at h;injection h with l m e3 e4 e5 e6 e7 e8 e9 e10
 subst l m e3 e4 e5 e6 e7 e8 e9 e10;have aa:i.length=a:=e.lf.1;have aH:i.length=X:=g.lf.1;obtain rfl:a=X:=af
 have o:a<=9223372036854775807:=e.lf.2.1;have aJ:=Z aa;have L1:Hid (aD w 4 ⟨C,a,W⟩ Fx.cells i):=Z e.lf;have L2:Hid (aD w 4 ⟨M,a,Y⟩ Fx.cells i):=Z g.lf;have aK:Hid (Rt 34 #[O z A B,O J K L] w (.bool true)):=Z (λc b=>rT ⟨z,A,B⟩ ⟨J,K,L⟩ aE c (cX.same e.lc b) (cX.same g.lc b));have aL:Hid (Rt 34 #[O D E F,O N P Q] w (.bool true)):=Z (λc b=>rT ⟨D,E,F⟩ ⟨N,P,Q⟩ aF c (cX.same e.lb b) (cX.same g.lb b));have aM:Hid (Rt 100 #[O G H I,O R S T] w (.bool true)):=Z (λc b=>Aj ⟨G,H,I⟩ ⟨R,S,T⟩ aG c (e.ls.same b) (g.ls.same b));clear e g aa aH;show Calls prog 49 #[.agg #[r,s,t,O z A B,u,O C a W,v,x,O D E F,O G H I],.agg #[r,s,t,O J K L,u,O M a Y,v,x,O N P Q,O R S T]] w _;go_enter func49,ntmps49
 go_upto_region 1 with(fail)
 obtain⟨z,g,o,e,p⟩:=nb w 64 _;rw[g];clear g;have g:=e;obtain⟨aN,z,c,e,A⟩:=nc p 64 _;rw[z];clear z;have n:=Z (g.out.trans e.out);have d:=qb e o;clear e g o p A;have ab:(r !=r)=false:=aj
 have ad:(s.toList==s.toList)=true:=aj
 have ai:(t !=t)=false:=aj
 have ak:(u !=u)=false:=aj
 have aO:(v !=v)=false:=aj
 have aP:(x !=x)=false:=aj
 have aQ:((a:Int) !=(a:Int))=false:=aj
 have aR:=ay d;have aT:=ay c;have aU:=aS d;have aV:=aS c;have aW:=bc d;have aX:=bc c;have aY:=bo d;have aZ:=bo c;have a0:=bI d;have a1:=bI c;have a2:=cc d;have a3:=cc c;have a4:=b7 d;have a5:=b7 c;go_upto_region 4 with(fail)
 clear aR aT aU aV aW aX aY aZ a0 a1 a2 a3 a4 a5 ab ad ai ak aO aP aQ;go_loopg [5] (a+1) (λe f g=>∃b:Nat,f=.int .i64 b/\b<=a/\a-b<e/\Hid (ag aN g))
 case atStart=>exact⟨0,rfl,by omega,by omega,Z (ag.refl _)⟩
 case round=>
 obtain⟨b,rfl,bn,al,f⟩:=hrel;have an:=Z al;clear al;have U:=bI (qb f d);have V:=bI (qb f c);by_cases e:b<a
 case pos=>
  have e:(b:Int)<(a:Int):=af
  have ao:b<i.length:=omg aJ
  have ap:=Z (n.out.trans f.out);obtain⟨aq,ar,l,e,j⟩:=(L1.out.same ap.out).2.2 b ao;have a6:C=some ⟨aq,ar,none⟩:=l;clear l;subst a6;obtain⟨au,av,m,e,k⟩:=(L2.out.same ap.out).2.2 b ao;have a7:M=some ⟨au,av,none⟩:=m;clear m;subst a7;generalize i[b]=a8 at j k;obtain⟨y,⟨aw,ax,az⟩⟩:=a8;have e:=aI (show ae wr (ac aq (ar+b*4)) y by have h:=j 0 _ rfl;simpa using h);have e:=aI (j 1 _ rfl);have e:=aI (j 2 _ rfl);have e:=aI (j 3 _ rfl);have e:=aI (show ae wr (ac au (av+b*4)) y by have h:=k 0 _ rfl;simpa using h);have e:=aI (k 1 _ rfl);have e:=aI (k 2 _ rfl);have e:=aI (k 3 _ rfl);clear j k;have ab:(y !=y)=false:=aj
  have ad:(aw !=aw)=false:=aj
  have ai:(ax !=ax)=false:=aj
  have ak:(az.toList==az.toList)=true:=aj
  have e:=aI U;have e:=aI V;go_upto_region 6 with(fail)
  clear U V;refine wp_region_quiet_below am am ?_;repeat (go_big_quiet_step (fail))
  refine wpQuiet_nil ?_;intro _ a9;obtain⟨⟨aA,osq⟩,ba⟩:=a9;subst ba;have aB:=Z (ag.reg wr aA osq);generalize Sort.grow (redrawn wr aA) osq=bp at aB⊢;go_wp2;go_roundg (a-b)
  case measure=>have:=an.out;omega
  exact⟨b+1,by go_num,by omega,omg an,Z (f.out.trans aB.out)⟩
 case neg=>
 have a:¬(b:Int)<(a:Int):=af
 have y:=Z (n.out.trans f.out);have ao:=qb f d;have ap:=qb f c;have aw:=bj ao;have ax:=bj ap;go_wp2_with fail
 refine(aK.out wr y.out).mono ?_;rintro q az ⟨rfl,j⟩;have aq:=Z (y.out.trans j);have ar:=qb (Z j) ao;have au:=qb (Z j) ap;clear aw ax j U V;have aA:=b4 ar;have aB:=b4 au;go_wp2_with fail
 refine(aL.out az aq.out).mono ?_;rintro q a6 ⟨rfl,k⟩;have av:=Z (aq.out.trans k);have a:=qb (Z k) ar;have b:=qb (Z k) au;clear aA aB k;have a:=jn a;have a:=jn b;go_wp2_with fail
 refine(aM.out a6 av.out).mono ?_;rintro q a ⟨rfl,a7⟩;go_wp2;go_ret;exact⟨rfl,av.out.trans a7⟩
theorem Kb {I aY:Nat} {w:ah} {h h2:Hd} {b4 b5:List RT} {x i:cd} (H:eO I w h b4 x) (I:eO aY w h2 b5 i)
 (k:x.os=i.os) (n:x.bs=i.bs) (ak:x.ms.map dr.mt=i.ms.map dr.mt) (aJ:x.ks=i.ks) (aY:x.rs.map cj.ru=i.rs.map cj.ru):
 Calls prog 29 #[.agg (bm h x),.agg (bm h2 i)] w λz az=>z=.returned (.bool true)/\ag w az:=by
 have aK:=congrArg List.length ak;have aL:=congrArg List.length aY;simp only[List.length_map]at aK aL;have b6:=Z (λa (b:a<x.ms.length) (h2:a<i.ms.length)=>show x.ms[a].mt=i.ms[a].mt/\fi w _ x.ms[a]/\fi w _ i.ms[a] by
  have z:(x.ms.map dr.mt)[a]'(by simpa using b)=(i.ms.map dr.mt)[a]'(by simpa using h2):=by simp only[ak]
  simp only[List.getElem_map]at z;exact⟨z,H.m _ (List.getElem_mem b),I.m _ (List.getElem_mem h2)⟩)
 have aZ:=Z (λa (b:a<x.rs.length) (h2:a<i.rs.length) C (c:ag w C)=>show Calls prog 49 #[.agg x.rs[a].cells.toArray,.agg i.rs[a].cells.toArray] C λz az=>z=.returned (.bool true)/\ag C az by
  have z:(x.rs.map cj.ru)[a]'(by simpa using b)=(i.rs.map cj.ru)[a]'(by simpa using h2):=by simp only[aY]
  simp only[List.getElem_map]at z;exact Ka ((H.r _ (List.getElem_mem b)).keep (Kp.of_same (l:=[]) c) aj) ((I.r _ (List.getElem_mem h2)).keep (Kp.of_same (l:=[]) c) aj) z)
 have L1:=Z H.l1;have L2:=Z H.l2;have L3:=Z H.l3;have aA:=Z H.l4;have aB:=Z H.l5;have aM:=Z I.l1;have aN:=Z I.l2;have M3:=Z I.l3;have aO:=Z I.l4;have aP:=Z I.l5;clear H I ak aY;obtain⟨b7,b8,b9⟩:=h;obtain⟨hA2,ca,b⟩:=h2;obtain⟨⟨a0,o,bk⟩,⟨a1,q,bl⟩,⟨a2,s,bp⟩,⟨a3,t,bq⟩,⟨a4,u,br⟩,⟨cb,cc,ce⟩,S,T,K,U,V,c4⟩:=x;obtain⟨⟨a5,bt,bu⟩,⟨a6,bv,bw⟩,⟨a7,bx,bz⟩,⟨a8,bA,bB⟩,⟨a9,bC,bD⟩,⟨cf,cg,ch⟩,ci,ck,L,cl,W,c5⟩:=i;obtain rfl:S=ci:=k;obtain rfl:T=ck:=n;obtain rfl:U=cl:=aJ;have aK:K.length=L.length:=aK;have aL:V.length=W.length:=aL;have bE:S.length=o:=L1.out.1;have cm:S.length=bt:=aM.out.1;have bF:T.length=q:=L2.out.1;have cn:T.length=bv:=aN.out.1;have bG:K.length=s:=L3.out.1;have bH:L.length=bx:=M3.out.1;have bJ:U.length=t:=aA.out.1;have co:U.length=bA:=aO.out.1;have bK:V.length=u:=aB.out.1;have bL:W.length=bC:=aP.out.1;obtain rfl:o=bt:=af
 obtain rfl:q=bv:=af
 obtain rfl:s=bx:=af
 obtain rfl:t=bA:=af
 obtain rfl:u=bC:=af
 have v:o<=9223372036854775807:=L1.out.2.1;have d:q<=9223372036854775807:=L2.out.2.1;have ba:s<=9223372036854775807:=L3.out.2.1;have bb:t<=9223372036854775807:=aA.out.2.1;have x:u<=9223372036854775807:=aB.out.2.1;have cp:=Z bE;have cq:=Z bF;have cr:=Z bG;have cs:=Z bH;have ct:=Z bJ;have cu:=Z bK;have cv:=Z bL;replace L1:Hid (aD w 2 ⟨a0,o,bk⟩ Og.cells S):=L1;replace aM:Hid (aD w 2 ⟨a5,o,bu⟩ Og.cells S):=aM;replace L2:Hid (aD w 6 ⟨a1,q,bl⟩ Bk.cells T):=L2;replace aN:Hid (aD w 6 ⟨a6,q,bw⟩ Bk.cells T):=aN;replace L3:Hid (aD w 4 ⟨a2,s,bp⟩ dr.cells K):=L3;replace M3:Hid (aD w 4 ⟨a7,s,bz⟩ dr.cells L):=M3;replace aA:Hid (aD w 3 ⟨a3,t,bq⟩ dX.cells U):=aA;replace aO:Hid (aD w 3 ⟨a8,t,bB⟩ dX.cells U):=aO;replace aB:Hid (aD w 10 ⟨a4,u,br⟩ cj.cells V):=aB;replace aP:Hid (aD w 10 ⟨a9,u,bD⟩ cj.cells W):=aP;replace aZ:Hid (∀a (c:a<V.length) (h2:a<W.length) C,ag w C->Calls prog 49 #[.agg V[a].cells.toArray,.agg W[a].cells.toArray] C λz az=>z=.returned (.bool true)/\ag C az):=aZ;clear aK aL bE cm bF cn bG bH bJ co bK bL;show Calls prog 29 #[.agg #[O b7 b8 b9,O a0 o bk,O a1 q bl,O a2 s bp,O a3 t bq,O a4 u br,O cb cc ce],.agg #[O hA2 ca b,O a5 o bu,O a6 q bw,O a7 s bz,O a8 t bB,O a9 u bD,O cf cg ch]] w _;go_enter func29,ntmps29
 go_upto_region 1 with(fail)
 obtain⟨az,z,H,x,I⟩:=nb w 37 _;rw[z];clear z;have z:=x;obtain⟨aC,az,A,x,aK⟩:=nc I 37 _;rw[az];clear az;have al:=Z (z.out.trans x.out);have D:=qb x H;clear x z H I aK;have cw:=aS D;have cx:=aS A;have X:((o:Int) !=(o:Int))=false:=aj
 have cy:=bc D;have cz:=bc A;have an:((q:Int) !=(q:Int))=false:=aj
 have cA:=bj D;have cB:=bj A;have bd:((s:Int) !=(s:Int))=false:=aj
 have cC:=bo D;have cD:=bo A;have be:((t:Int) !=(t:Int))=false:=aj
 have cE:=bI D;have cF:=bI A;have bf:((u:Int) !=(u:Int))=false:=aj
 go_upto_region 4 with(fail)
 clear cw cx cy cz cA cB cC cD cE cF X an bd be bf;go_loopg [5] (o+1) (λc e f=>∃a:Nat,e=.int .i64 a/\a<=o/\o-a<c/\Hid (ag aC f))
 case atStart=>exact⟨0,rfl,by omega,by omega,Z (ag.refl _)⟩
 case round=>
 obtain⟨a,rfl,M,y,c⟩:=hrel;have g:=Z y;clear y;have j:=aS (qb c D);have f:=aS (qb c A);by_cases N:a<o
 case pos=>
  have x:(a:Int)<(o:Int):=af
  have E:a<S.length:=omg cp
  have F:=Z (al.out.trans c.out);obtain⟨v,G,k,x,e⟩:=(L1.out.same F.out).2.2 a E;have ad:a0=some ⟨v,G,none⟩:=k;clear k;subst ad;obtain⟨d,P,n,x,b⟩:=(aM.out.same F.out).2.2 a E;have ao:a5=some ⟨d,P,none⟩:=n;clear n;subst ao;generalize S[a]=ap at e b;obtain⟨B,Q⟩:=ap;have x:=aI (show ae wr (ac v (G+a*2)) B by have h:=e 0 _ rfl;simpa using h);have x:=aI (e 1 _ rfl);have x:=aI (show ae wr (ac d (P+a*2)) B by have h:=b 0 _ rfl;simpa using h);have x:=aI (b 1 _ rfl);clear e b;have e:(B.toList==B.toList)=true:=aj
  have X:(Q !=Q)=false:=aj
  have e:=aI j;have e:=aI f;go_upto_region 6 with(fail)
  clear j f;refine wp_region_quiet_below am am ?_;repeat (go_big_quiet_step (fail))
  refine wpQuiet_nil ?_;intro _ aq;obtain⟨⟨R,osq⟩,ar⟩:=aq;subst ar;have Y:=Z (ag.reg wr R osq);generalize Sort.grow (redrawn wr R) osq=av at Y⊢;go_wp2;go_roundg (o-a)
  case measure=>have:=g.out;omega
  exact⟨a+1,by go_num,by omega,omg g,Z (c.out.trans Y.out)⟩
 case neg=>
 have P:¬(a:Int)<(o:Int):=af
 go_upto_region 9 with(fail)
 obtain⟨c6,rfl⟩:∃E:World,E=wr:=⟨_,rfl⟩;have cG:=c;clear c N P M g j f;go_loopg [6] (q+1) (λe o x=>∃a:Nat,o=.int .i64 a/\a<=q/\q-a<e/\Hid (ag aC x))
 case atStart=>exact⟨0,rfl,by omega,by omega,cG⟩
 case round=>
 obtain⟨a,rfl,M,y,c⟩:=hrel;have g:=Z y;clear y;have j:=bc (qb c D);have f:=bc (qb c A);by_cases N:a<q
 case pos=>
  have o:(a:Int)<(q:Int):=af
  have F:a<T.length:=omg cq
  have G:=Z (al.out.trans c.out);obtain⟨v,Q,k,o,e⟩:=(L2.out.same G.out).2.2 a F;have aw:a1=some ⟨v,Q,none⟩:=k;clear k;subst aw;obtain⟨d,R,n,o,b⟩:=(aN.out.same G.out).2.2 a F;have ax:a6=some ⟨d,R,none⟩:=n;clear n;subst ax;generalize T[a]=aE at e b;obtain⟨B,Y,ad,ao,ap,aq⟩:=aE;have o:=aI (show ae wr (ac v (Q+a*6)) B by have h:=e 0 _ rfl;simpa using h);have o:=aI (e 1 _ rfl);have o:=aI (e 2 _ rfl);have o:=aI (e 3 _ rfl);have o:=aI (e 4 _ rfl);have o:=aI (e 5 _ rfl);have o:=aI (show ae wr (ac d (R+a*6)) B by have h:=b 0 _ rfl;simpa using h);have o:=aI (b 1 _ rfl);have o:=aI (b 2 _ rfl);have o:=aI (b 3 _ rfl);have o:=aI (b 4 _ rfl);have o:=aI (b 5 _ rfl);clear e b;have e:(B.toList==B.toList)=true:=aj
  have X:(Y !=Y)=false:=aj
  have an:(ad !=ad)=false:=aj
  have bd:(ao !=ao)=false:=aj
  have be:(ap !=ap)=false:=aj
  have bf:(aq !=aq)=false:=aj
  have e:=aI j;have e:=aI f;go_upto_region 11 with(fail)
  clear j f;refine wp_region_quiet_below am am ?_;repeat (go_big_quiet_step (fail))
  refine wpQuiet_nil ?_;intro _ aF;obtain⟨⟨ar,osq⟩,aG⟩:=aF;subst aG;have av:=Z (ag.reg wr ar osq);generalize Sort.grow (redrawn wr ar) osq=aH at av⊢;go_wp2;go_roundg (q-a)
  case measure=>have:=g.out;omega
  exact⟨a+1,by go_num,by omega,omg g,Z (c.out.trans av.out)⟩
 case neg=>
 have P:¬(a:Int)<(q:Int):=af
 go_upto_region 14 with(fail)
 obtain⟨c7,rfl⟩:∃E:World,E=wr:=⟨_,rfl⟩;have cH:=c;clear c N P M g j f;go_loopg [7] (t+1) (λe o q=>∃a:Nat,o=.int .i64 a/\a<=t/\t-a<e/\Hid (ag aC q))
 case atStart=>exact⟨0,rfl,by omega,by omega,cH⟩
 case round=>
 obtain⟨a,rfl,M,y,c⟩:=hrel;have g:=Z y;clear y;have j:=bo (qb c D);have f:=bo (qb c A);by_cases N:a<t
 case pos=>
  have o:(a:Int)<(t:Int):=af
  have F:a<U.length:=omg ct
  have G:=Z (al.out.trans c.out);obtain⟨v,Q,k,o,e⟩:=(aA.out.same G.out).2.2 a F;have aq:a3=some ⟨v,Q,none⟩:=k;clear k;subst aq;obtain⟨d,R,n,o,b⟩:=(aO.out.same G.out).2.2 a F;have ar:a8=some ⟨d,R,none⟩:=n;clear n;subst ar;generalize U[a]=av at e b;obtain⟨B,Y,ad⟩:=av;have o:=aI (show ae wr (ac v (Q+a*3)) B by have h:=e 0 _ rfl;simpa using h);have o:=aI (e 1 _ rfl);have o:=aI (e 2 _ rfl);have o:=aI (show ae wr (ac d (R+a*3)) B by have h:=b 0 _ rfl;simpa using h);have o:=aI (b 1 _ rfl);have o:=aI (b 2 _ rfl);clear e b;have e:(B !=B)=false:=aj
  have X:(Y !=Y)=false:=aj
  have an:(ad !=ad)=false:=aj
  have e:=aI j;have e:=aI f;go_upto_region 16 with(fail)
  clear j f;refine wp_region_quiet_below am am ?_;repeat (go_big_quiet_step (fail))
  refine wpQuiet_nil ?_;intro _ aw;obtain⟨⟨ao,osq⟩,ax⟩:=aw;subst ax;have ap:=Z (ag.reg wr ao osq);generalize Sort.grow (redrawn wr ao) osq=aE at ap⊢;go_wp2;go_roundg (t-a)
  case measure=>have:=g.out;omega
  exact⟨a+1,by go_num,by omega,omg g,Z (c.out.trans ap.out)⟩
 case neg=>
 have P:¬(a:Int)<(t:Int):=af
 go_upto_region 19 with(fail)
 obtain⟨c8,rfl⟩:∃E:World,E=wr:=⟨_,rfl⟩;have cI:=c;clear c N P M g j f;go_loopg [8] (u+1) (λe o q=>∃a:Nat,o=.int .i64 a/\a<=u/\u-a<e/\Hid (ag aC q))
 case atStart=>exact⟨0,rfl,by omega,by omega,cI⟩
 case round=>
 obtain⟨a,rfl,M,y,c⟩:=hrel;have g:=Z y;clear y;have j:=bI (qb c D);have f:=bI (qb c A);by_cases N:a<u
 case pos=>
  have o:(a:Int)<(u:Int):=af
  have G:a<V.length:=omg cu
  have Q:a<W.length:=omg cv
  have F:=Z (al.out.trans c.out);obtain⟨v,R,k,o,e⟩:=(aB.out.same F.out).2.2 a G;have ar:a4=some ⟨v,R,none⟩:=k;clear k;subst ar;obtain⟨d,Y,n,o,b⟩:=(aP.out.same F.out).2.2 a Q;have av:a9=some ⟨d,Y,none⟩:=n;clear n;subst av;have B:=Z (λC (o:ag wr C)=>aZ.out a G Q C (F.out.trans o));obtain⟨aw,o⟩:=au V[a];obtain⟨ax,q⟩:=au W[a];rw[<-o]at e B;rw[<-q]at b B;clear o q;obtain⟨ad,aE,i,⟨aF,aG,aH⟩,cN,aQ,⟨aR,aT,aU⟩,cO,aV,aW,⟨aX,bg,bh⟩,cP,⟨bi,bM,bN⟩,cQ⟩:=aw;obtain⟨ao,bO,bP,⟨bQ,bR,bS⟩,cR,bT,⟨bU,bV,bW⟩,cS,bX,bY,⟨bZ,b0,b1⟩,cT,⟨b2,b3,cJ⟩,cU⟩:=ax;have pZ:=aI (show ae wr (ac v (R+a*10)) ad by have h:=e 0 _ rfl;simpa using h);have p0:=aI (e 1 _ rfl);have p1:=aI (e 2 _ rfl);have p2:=aI (e 3 _ rfl);have J6:=aI (e 4 _ rfl);have J7:=aI (e 5 _ rfl);have u16:=aI (e 6 _ rfl);have J8:=aI (e 7 _ rfl);have Lb:=aI (e 8 _ rfl);have Lc:=aI (e 9 _ rfl);have u20:=aI (show ae wr (ac d (Y+a*10)) ao by have h:=b 0 _ rfl;simpa using h);have u21:=aI (b 1 _ rfl);have u22:=aI (b 2 _ rfl);have u23:=aI (b 3 _ rfl);have u24:=aI (b 4 _ rfl);have u25:=aI (b 5 _ rfl);have u26:=aI (b 6 _ rfl);have u27:=aI (b 7 _ rfl);have u28:=aI (b 8 _ rfl);have u29:=aI (b 9 _ rfl);have i:Hid (Rt 49 #[.agg #[ad,aE,i,O aF aG aH,aQ,O aR aT aU,aV,aW,O aX bg bh,O bi bM bN],.agg #[ao,bO,bP,O bQ bR bS,bT,O bU bV bW,bX,bY,O bZ b0 b1,O b2 b3 cJ]] wr (.bool true)):=B;have cK:=kX (w:=wr) i.out;have o:=aI j;have o:=aI f;clear e b B i;go_upto_region 21 with(fail)
  clear j f;refine wp_region_quiet_below am am ?_;repeat (go_big_quiet_step (first|(go_at_call 49;exact cK _ _)))
  refine wpQuiet_nil ?_;intro _ cL;obtain⟨⟨ap,osq⟩,cM⟩:=cL;subst cM;have aq:=Z (ag.reg wr ap osq);generalize Sort.grow (redrawn wr ap) osq=cV at aq⊢;go_wp2;go_roundg (u-a)
  case measure=>have:=g.out;omega
  exact⟨a+1,by go_num,by omega,omg g,Z (c.out.trans aq.out)⟩
 case neg=>
 have P:¬(a:Int)<(u:Int):=af
 go_upto_region 24 with(fail)
 obtain⟨c9,rfl⟩:∃E:World,E=wr:=⟨_,rfl⟩;have cJ:=c;clear c N P M g j f;go_loopg [9] (s+1) (λe i o=>∃a:Nat,i=.int .i64 a/\a<=s/\s-a<e/\Hid (ag aC o))
 case atStart=>exact⟨0,rfl,by omega,by omega,cJ⟩
 case round=>
 obtain⟨a,rfl,M,y,c⟩:=hrel;have g:=Z y;clear y;have j:=bj (qb c D);have f:=bj (qb c A);by_cases N:a<s
 case neg=>
  have P:¬(a:Int)<(s:Int):=af
  go_wp2;go_ret;exact⟨rfl,al.out.trans c.out⟩
 case pos=>
 have i:(a:Int)<(s:Int):=af
 have bM:a<K.length:=omg cr
 have bN:a<L.length:=omg cs
 have aQ:=Z (al.out.trans c.out);obtain⟨v,bg,k,i,ao⟩:=(L3.out.same aQ.out).2.2 a bM;have cK:a2=some ⟨v,bg,none⟩:=k;clear k;subst cK;obtain⟨d,Y,n,aR,b⟩:=(M3.out.same aQ.out).2.2 a bN;have cL:a7=some ⟨d,Y,none⟩:=n;clear n;subst cL;obtain⟨ap,i,k⟩:=b6.out a bM bN;replace ap:K[a].mt=L[a].mt:=ap;have Q:=Z (i.l.same aQ.out);have ad:=Z (k.l.same aQ.out);replace Q:Hid (aD wr 7 K[a].h Wg.cells K[a].terms):=Q;replace ad:Hid (aD wr 7 L[a].h Wg.cells L[a].terms):=ad;clear i k;generalize K[a]=bh at ao Q ap;generalize L[a]=cM at b ad ap;obtain⟨R,ar,aq,⟨aE,e,aT⟩,av⟩:=bh;obtain⟨db,dc,da,⟨aF,bO,aU⟩,dd⟩:=cM;simp only[dr.mt]at ap;injection ap with f1 f2 f3 f4
 subst f1 f2 f3 f4;have bP:av.length=e:=Q.out.1;obtain rfl:e=bO:=by have h2:av.length=bO:=ad.out.1;omega
 have i:e<=9223372036854775807:=Q.out.2.1;have cN:=Z bP;clear bP;have pZ:=(show ae wr (ac v (bg+a*4)) R by have h:=ao 0 _ rfl;simpa using h);have p0:=(ao 1 _ rfl);have p1:=(ao 2 _ rfl);have p2:=(ao 3 _ rfl);have u20:=(show ae wr (ac d (Y+a*4)) R by have h:=b 0 _ rfl;simpa using h);have u21:=(b 1 _ rfl);have u22:=(b 2 _ rfl);have u23:=(b 3 _ rfl);replace Q:Hid (aD wr 7 ⟨aE,e,aT⟩ Wg.cells av):=Q;replace ad:Hid (aD wr 7 ⟨aF,e,aU⟩ Wg.cells av):=ad;replace p2:ae wr (ac v (bg+a*4+3)) (O aE e aT):=p2;replace u23:ae wr (ac d (Y+a*4+3)) (O aF e aU):=u23;go_upto_region 27 with(first|(refine wpList_store_row rfl 55 (.tmp 10) (.tmp 140) rfl wr.heap.size #[R,ar,aq,O aE e aT] rfl rfl 55 #[ai,J 0,J 0,ab] (aa.new wr 55 #[ai,J 0,J 0,ab]) am rfl bn ?_;rw[World.setRow_alloc_new])|fail)
 obtain⟨bi,i,cO,aw,-⟩:=nb wr 55 #[R,ar,aq,O aE e aT];rw[i];clear i j;try rw[jj]
 replace u20:=(ag.cell aw.out (p:=(ac d (Y+a*4))) aR).trans u20;replace u21:=(ag.cell aw.out (p:=(ac d (Y+a*4+1))) aR).trans u21;replace u22:=(ag.cell aw.out (p:=(ac d (Y+a*4+2))) aR).trans u22;replace u23:=(ag.cell aw.out (p:=(ac d (Y+a*4+3))) aR).trans u23;clear f pZ p0 p1 p2;have f:=bj (qb aw (qb c A));go_upto_region 28 with(first|(refine wpList_store_row rfl 55 (.tmp 11) (.tmp 145) rfl bi.heap.size #[R,ar,aq,O aF e aU] rfl rfl 55 #[ai,J 0,J 0,ab] (aa.new bi 55 #[ai,J 0,J 0,ab]) am rfl bn ?_;rw[World.setRow_alloc_new])|fail)
 obtain⟨cP,d,aG,i,-⟩:=nb bi 55 #[R,ar,aq,O aF e aU];rw[d];clear d f u20 u21 u22 u23;try rw[jj]
 have aH:=qb i cO;have d:=Z (aw.out.trans i.out);have cQ:=Z (Q.out.same d.out);have cR:=Z (ad.out.same d.out);have cS:=Z (c.out.trans d.out);have bQ:(R.toList==R.toList)=true:=aj
 have X:(ar !=ar)=false:=aj
 have an:(aq !=aq)=false:=aj
 have cT:((e:Int) !=(e:Int))=false:=aj
 have cU:=ay aH;have cV:=aS aH;have cW:=bc aH;have aV:=bj aH;have cX:=ay aG;have cY:=aS aG;have cZ:=bc aG;have aW:=bj aG;go_upto_region 31 with(fail)
 obtain⟨de,rfl⟩:∃E:World,E=wr:=⟨_,rfl⟩;clear cU cV cW aV cX cY cZ aW bQ X an cT ao b;go_loopg [12] (e+1) (λc d f=>∃b:Nat,d=.int .i64 b/\b<=e/\e-b<c/\Hid (ag cP f))
 case atStart=>exact⟨0,rfl,by omega,by omega,Z (ag.refl _)⟩
 case round=>
 obtain⟨B,rfl,df,bR,ax⟩:=hrel;have bS:=Z bR;clear bR;have aV:=bj (qb ax aH);have aW:=bj (qb ax aG);by_cases b:B<e
 case neg=>
  have b:¬(B:Int)<(e:Int):=af
  go_wp2;go_roundg (s-a)
  case measure=>have:=g.out;omega
  exact⟨a+1,by go_num,by omega,omg g,Z (cS.out.trans ax.out)⟩
 case pos=>
 have a:(B:Int)<(e:Int):=af
 have bT:B<av.length:=omg cN
 obtain⟨ba,bU,ak,a,F⟩:=(cQ.out.same ax.out).2.2 B bT;have c0:aE=some ⟨ba,bU,none⟩:=ak;clear ak;subst c0;obtain⟨bb,bV,aJ,a,G⟩:=(cR.out.same ax.out).2.2 B bT;have c1:aF=some ⟨bb,bV,none⟩:=aJ;clear aJ;subst c1;generalize av[B]=bh at F G;obtain⟨aX,bW,bX,bY,bZ,b0,b1⟩:=bh;have a:=aI (show ae wr (ac ba (bU+B*7)) aX by have h:=F 0 _ rfl;simpa using h);have a:=aI (F 1 _ rfl);have a:=aI (F 2 _ rfl);have a:=aI (F 3 _ rfl);have a:=aI (F 4 _ rfl);have a:=aI (F 5 _ rfl);have a:=aI (F 6 _ rfl);have a:=aI (show ae wr (ac bb (bV+B*7)) aX by have h:=G 0 _ rfl;simpa using h);have a:=aI (G 1 _ rfl);have a:=aI (G 2 _ rfl);have a:=aI (G 3 _ rfl);have a:=aI (G 4 _ rfl);have a:=aI (G 5 _ rfl);have a:=aI (G 6 _ rfl);clear F G;have bQ:(aX !=aX)=false:=aj
 have X:(bW !=bW)=false:=aj
 have an:(bX !=bX)=false:=aj
 have bd:(bY !=bY)=false:=aj
 have be:(bZ !=bZ)=false:=aj
 have bf:(b0 !=b0)=false:=aj
 have a:(b1 !=b1)=false:=aj
 have a:=aI aV;have a:=aI aW;go_upto_region 33 with(fail)
 clear aV aW;refine wp_region_quiet_below am am ?_;repeat (go_big_quiet_step (fail))
 refine wpQuiet_nil ?_;intro _ c2;obtain⟨⟨b2,osq⟩,c3⟩:=c2;subst c3;have b3:=Z (ag.reg wr b2 osq);generalize Sort.grow (redrawn wr b2) osq=dg at b3⊢;go_wp2;go_roundg (e-B)
 case measure=>have:=bS.out;omega
 exact⟨B+1,by go_num,by omega,omg bS,Z (ax.out.trans b3.out)⟩
end Go.Proofs.YteamkimbmdgdbaaGreatDoor
