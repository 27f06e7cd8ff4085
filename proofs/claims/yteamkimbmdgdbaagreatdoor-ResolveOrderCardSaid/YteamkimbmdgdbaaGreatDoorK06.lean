import Derived.Test.YteamkimbmdgdbaaGreatDoorK03
import Derived.Test.YteamkimbmdgdbaaGreatDoorK04
set_option linter.unusedSimpArgs false
set_option linter.unusedVariables false
set_option maxHeartbeats 16000000
set_option maxRecDepth 100000
namespace Go.Proofs.YteamkimbmdgdbaaGreatDoor
open Go.Proofs.Tryz
open Go.RowKit
theorem nk (a:UInt8->Bool) (l:bR):cm a l<=l.length:=by
 induction l with
 |nil=>simp[cm]
 |cons b l c=>simp only[cm];split<;>simp<;>omega
theorem vM (f:UInt8->Bool) (c:bR) (b:Nat) (h:∀d (g:d<c.length),d<b->f c[d]=true) (e:b<=c.length) (a:b=c.length\/∃e:b<c.length,f c[b]=false):cm f c=b:=by
 induction c generalizing b with
 |nil=>simp at e;subst e;rfl
 |cons k c i=>
  cases b with
  |zero=>
   rcases a with a|⟨_,a⟩
   ·simp at a
   simp at a;simp[cm,a]
  |succ b=>
   have c:=h 0 aj af;simp at c;rw[cm,if_pos c,i b (λd g b=>h (d+1) aF af) (by simp at e;omega) ?_];rcases a with a|⟨j,a⟩
   ·left;simp at a;exact a
   right;exact⟨by simp at j;omega,by simpa using a⟩
theorem B4 (a:ax) (b c:Nat) (h:b+c<a.size) (d:c<((ba a).drop b).length):((ba a).drop b)[c]=a[b+c]:=by
 simp[ba];rfl
theorem gr (a:ax) (b:Nat):((ba a).drop b).length=a.size-b:=by simp[eZ]
theorem mi.quiet {d:Nat} {e:UInt8->Bool} (f:mi d e) (a:UInt8) (b:ah) (c:Nat):Calls prog d #[.int .u8 (a.toNat:Int)] (b.drewN c) λd g=>d=.returned (.bool (e a))/\∃d,g=b.drewN d:=
 (f a (b.drewN c)).mono λ_ _ ⟨a,b⟩=>⟨a,c,b.symm⟩
theorem ql (i:Nat) (f:UInt8->Bool) (n:mi i f) (o:∀o e,(callFunc i o).run prog e=.ok (.enter i o) e) (j:Nat) (c:ax) (a:Nat) (e:ah) (o:c.size<=20000) (o:a<=c.size) (v:vL e j c a):
 Calls prog 154 #[ak j,.func (.func i) #[] #[]] e λi o=>i=.returned (J (cm f ((ba c).drop a)))/\∃d,o=e.drewN d:=by
 obtain⟨p,q⟩:=v;have w:=Z n;clear n;go_enter func154,ntmps154
 go_wp2;go_loopw [5] (λg wr=>∃b:Nat,a+b<=c.size/\g=.int .i64 b/\Hid (∃d,wr=e.drewN d)/\Hid (∀e (g:e<((ba c).drop a).length),e<b->f ((ba c).drop a)[e]=true)) (λb _=>c.size-(intOf b).toNat)
 case atStart=>exact⟨0,by omega,rfl,⟨0,rfl⟩,λb _ b=>absurd b (Nat.not_lt_zero _)⟩
 obtain⟨b,y,rfl,g,k⟩:=hrel;have z:ae wr (ac j 0) c:=by obtain⟨d,rfl⟩:=g.out;exact p
 have A:ae wr (ac j 1) a:=by obtain⟨d,rfl⟩:=g.out;exact q
 clear p q;have e:IntKind.i64.wrap ((a:Int)+b)=(a:Int)+b:=IntWalk.i64_in _ af;have e:(0:Int)<=(a:Int)+b:=af
 have e:((a:Int)+b).toNat=a+b:=af
 by_cases e:a+b<c.size
 ·have i:(a:Int)+b<c.size:=by omega
  have r:b<((ba c).drop a).length:=by rw[gr];omega
  have s:=Z (B4 c a b e r);have l:=λe=>w.quiet c[a+b] wr e;generalize t:f c[a+b]=x at l;have u:=Z t;clear t;cases x
  case true=>
   go_wp2_with fail
   go_quiet ((exact l _))
   go_wp2;go_roundw
   case rel=>
    refine⟨b+1,by omega,by go_num,by obtain⟨d,rfl⟩:=g.out;exact⟨_,World.drewN_drewN _ _ _⟩,λm e i=>?_⟩;by_cases i:m<b
    ·exact k m e i
    obtain rfl:m=b:=af
    rw[s.out];exact u.out
   simp[intOf];omega
  go_wp2_with fail
  go_quiet ((exact l _))
  go_wp2;go_ret;exact⟨iC (by rw[vM f _ b (λe i j=>k.out e i j) (by rw[gr];omega) (.inr ⟨r,by rw[s.out];exact u.out⟩)]),by obtain⟨d,rfl⟩:=g.out;exact⟨_,World.drewN_drewN _ _ _⟩⟩
 have a:decide ((a:Int)+b<c.size)=false:=aF
 go_wp2_with fail
 go_quiet (fail)
 go_wp2;go_ret;exact⟨iC (by rw[vM f _ b (λa b c=>k.out a b c) (by rw[gr];omega) (.inl (by rw[gr];omega))]),by obtain⟨d,rfl⟩:=g.out;exact⟨_,World.drewN_drewN _ _ _⟩⟩
def eS (a:ah) (b:Nat) (c:ax) (d:Nat):Prop:=aa a b 182 #[c,d]
theorem eS.at_ {w:ah} {B:Nat} {s:ax} {a:Nat} (h:eS w B s a):vL w B s a:=⟨aa.cell h 0,aa.cell h 1⟩
theorem sa {a:UInt8} {l:bR} (h:a=32\/a=9\/a=10):cV false (a::l)=cV false l+1:=by simp[cV,h]
theorem B5 {a:UInt8} {l:bR} (h:¬(a=32\/a=9\/a=10)) (b:a≠35):cV false (a::l)=0:=by simp[cV,h,b]
theorem B6 (a:bR):cV true a=cm (λb=>!decide (b=10)) a+cV false (a.drop (cm (λb=>!decide (b=10)) a)):=by
 induction a with
 |nil=>simp[cV,cm]
 |cons b a c=>
  by_cases h:b=10
  ·subst h;simp[cV,cm]
  simp[cV,cm,h];omega
theorem B7 (l:bR):cV false (35::l)=cm (λa=>!decide (a=10)) (35::l)+cV false ((35::l).drop (cm (λa=>!decide (a=10)) (35::l))):=by
 have:=B6 l;simp[cV,cm];omega
theorem ll (a:ax) (b:Nat) (h:b<a.size):(ba a).drop b=a[b]::(ba a).drop (b+1):=by
 rw[List.drop_eq_getElem_cons (by rw[eZ];exact h)];rfl
theorem lm (b:UInt8) (a:Nat) (c:a<256):((b.toNat:Int)==(a:Int))=decide (b=UInt8.ofNat a):=by
 rw[Bool.eq_iff_iff];simp[<-UInt8.toNat_inj,Nat.mod_eq_of_lt c];omega
theorem vN (d:Nat) (s:ax) (a:Nat) (c:ah) (D:s.size<=20000) (i:a<=s.size) (m:eS c d s a):
 Calls prog 85 #[ak d] c λw p=>w=.returned (.tuple #[])/\eS p d s (a+cV false ((ba s).drop a))/\Kp [d] c p:=by
 have x:∀x c,(callFunc 160 x).run prog c=.ok (.enter 160 x) c:=enters_of func160 am rfl;have F:=Z (λa i b e=>ql 160 _ B3 x d s a b D i e);have G:=Z m;clear m x;go_enter func85,ntmps85
 go_wp2;go_loopg [] (s.size-a) (λb wr=>∃at_:Nat,at_<=s.size/\s.size-at_=b/\Hid (eS wr d s at_)/\Hid (Kp [d] c wr)/\Hid (at_+cV false ((ba s).drop at_)=a+cV false ((ba s).drop a)))
 case atStart=>exact⟨a,i,rfl,G,Z (Kp.refl _ _),Z rfl⟩
 obtain⟨at_,H,y,hB,K,E⟩:=hrel;have HK:=Z y;clear y;have I:=hB.at_.text;have L:=hB.at_.off;have M:=aa.frozen hB 1;by_cases c:at_<s.size
 ·have i:(at_:Int)<s.size:=by omega
  have HC:=Z (ll s at_ c);have e:((s[at_].toNat:Int)==32)=decide (s[at_]=32):=lm s[at_] 32 af;have g:((s[at_].toNat:Int)==9)=decide (s[at_]=9):=lm s[at_] 9 af;have j:((s[at_].toNat:Int)==10)=decide (s[at_]=10):=lm s[at_] 10 af;have k:((s[at_].toNat:Int)==35)=decide (s[at_]=35):=lm s[at_] 35 af;by_cases c:s[at_]=32
  ·have HS:=Z (sa (l:=(ba s).drop (at_+1)) (.inl c))
   have b:((s[at_].toNat:Int)==32)=true:=by rw[e];exact decide_eq_true c
   clear e g j k c;exact sb
  by_cases i:s[at_]=9
  ·have HS:=Z (sa (l:=(ba s).drop (at_+1)) (.inr (.inl i)))
   have b:((s[at_].toNat:Int)==32)=false:=by rw[e];exact decide_eq_false c
   have b:((s[at_].toNat:Int)==9)=true:=by rw[g];exact decide_eq_true i
   clear e g j k c i;exact sb
  by_cases m:s[at_]=10
  ·have HS:=Z (sa (l:=(ba s).drop (at_+1)) (.inr (.inr m)))
   have b:((s[at_].toNat:Int)==32)=false:=by rw[e];exact decide_eq_false c
   have b:((s[at_].toNat:Int)==9)=false:=by rw[g];exact decide_eq_false i
   have b:((s[at_].toNat:Int)==10)=true:=by rw[j];exact decide_eq_true m
   clear e g j k c i m;exact sb
  have x:((s[at_].toNat:Int)==32)=false:=by rw[e];exact decide_eq_false c
  have x:((s[at_].toNat:Int)==9)=false:=by rw[g];exact decide_eq_false i
  have x:((s[at_].toNat:Int)==10)=false:=by rw[j];exact decide_eq_false m
  have N:=Z (show¬(s[at_]=32\/s[at_]=9\/s[at_]=10) by simp[c,i,m]);clear c i m;by_cases n:s[at_]=35
  ·have HS:=Z (B7 ((ba s).drop (at_+1)))
   have c:((s[at_].toNat:Int)==35)=true:=by rw[k];exact decide_eq_true n
   have q:=Z n;clear e g j k n;go_wp2_with fail
   go_quiet (fail)
   have f:eS (wr.drewN nq) d s at_:=aa.drewN hB nq;have r:=Z (K.drewN nq);generalize wr.drewN nq=z at f r⊢;have O:=f.at_.text;have P:=f.at_.off;have b:=Z f;clear I L M hB K f;go_wp2_with fail
   go_quiet (fail)
   have f:eS (z.drewN nq) d s at_:=aa.drewN b nq;have A:=Z (r.drewN nq);generalize z.drewN nq=Q at f A⊢;clear b r O P;go_wp2_with fail
   have b:=Z f;clear f;have t:=kZ (λc d=>((F at_ H c ⟨(d.cell (b.lt)).trans b.at_.text,(d.cell (b.lt)).trans b.at_.off⟩).mono λw p (⟨f,d,i⟩:_/\∃d,p=c.drewN d)=>⟨f,by rw[i];exact(ag.refl c).drewN d⟩));have R:=aH b.at_.text;have S:=aH b.at_.off;have d:=nk (λc=>!decide (c=10)) ((ba s).drop at_);rw[gr]at d;obtain⟨o,c⟩:=av (cm (λc=>!decide (c=10)) ((ba s).drop at_));rw[<-c]at t d;have B:=Z c;clear c;refine Bm 9 am am am ?_;simp only[List.take_succ_cons,List.take_zero,List.drop_succ_cons,List.drop_zero];repeat (go_big_quiet_step (first|(go_at_call 154;exact t _ _)))
   refine wpQuiet_nil ?_;intro c C;have u:ag Q c:=by obtain⟨U,rfl⟩:=C;exact ag.reg _ _ _
   clear C R S t;have v:=Z (aa.below b u b.lt);have T:=Z u;have b:=aa.frozen v 1;have b:=aS v;clear u;go_wp2;have b:0<o:=by
    rw[B.out,HC.out,q.out];simp[cm]
   go_roundg (s.size-(at_+o))
   case measure=>have:=HK.out;omega
   refine⟨at_+o,by omega,rfl,Z ?_,Z ((A.out.trans (Kp.of_same T.out)).setCell (.inl aj) _),Z ?_⟩
   ·have:=aa.aR v.out 1 (J ((at_:Int)+o))
    rw[show((at_:Int)+o)=((at_+o:Nat):Int) by omega]at this⊢;exact this
   rw[<-E.out,HC.out,q.out,HS.out,<-q.out,<-HC.out,<-B.out,List.drop_drop];omega
  have b:((s[at_].toNat:Int)==35)=false:=by rw[k];exact decide_eq_false n
  have HS:=Z (B5 (l:=(ba s).drop (at_+1)) N n);clear e g j k n;go_wp2_with fail
  go_quiet (fail)
  go_wp2_with fail
  go_quiet (fail)
  go_wp2;refine bodyPost_ret (results_none rfl _ _ _) rfl ?_;have e0:a+cV false ((ba s).drop a)=at_:=by rw[<-E.out,HC.out,HS.out];omega
  exact⟨rfl,by rw[e0];exact aa.drewN hB.out _,K.out.drewN _⟩
 have b:decide ((at_:Int)<s.size)=false:=aF
 go_wp2_with fail
 go_quiet (fail)
 go_wp2;go_end0
 have e0:a+cV false ((ba s).drop a)=at_:=by rw[<-E.out,List.drop_of_length_le qn];rfl
 exact⟨rfl,by rw[e0];exact aa.drewN hB.out _,K.out.drewN _⟩
def iE (a:Int) (b:bR) (c:Int) (d:Nat):Value:=.agg #[a,.string (ee b),c,d]
def oZ (a:Int) (b:Int):Value:=.iface 178 (.agg #[a,b])
def lq (e:Nat) (f:ah) (g:Rd) (d:Ending) (i:ah):Prop:=
 ag f i/\match g with
 |.none=>∃a b c,d=.returned (.tuple #[iE a b c 0,J 0])
 |.tok a b c len=>d=.returned (.tuple #[iE a b c 0,len])
 |.bad er=>d=.panicked [{v:=oZ er e,recovered:=false}]
theorem o0 (b:ax) (a c:Nat) (h:a+c<=b.size):b.extract a (a+c)=ee (((ba b).drop a).take c):=by
 apply oc;rw[m3];simp[ba,Lib.extract_data,List.take_drop]
theorem B8 (f:Nat) (b:ax) (a:Nat) (c:ah) (w:b.size<=20000) (l:a<b.size) (i:eS c f b a):
 Calls prog 81 #[ak f] c λm u=>lq a c (kc ((ba b).drop a)) m u:=by
 have u:∀u c,(callFunc 155 u).run prog c=.ok (.enter 155 u) c:=enters_of func155 am rfl;have w:=Z (λa l d e=>ql 155 _ vK u f b a d w l e);have x:=Z i;have y:=ll b a l;have d:Hid (kc ((ba b).drop a)=if jr b[a]then(if 24<cm fC ((ba b).drop a)then .bad 3 else .tok 1 (((ba b).drop a).take (cm fC ((ba b).drop a))) 0 (cm fC ((ba b).drop a)))else .none):=by
  apply Z;unfold kc;rw[show((ba b).drop a).headD 0=b[a] by rw[y];rfl]
 have z:=nk fC ((ba b).drop a);rw[gr]at z;obtain⟨e,g⟩:=av (cm fC ((ba b).drop a));have l:=w a af;rw[<-g]at l d z;have F:=Z l;clear y u w l;have l:=Z g;have G:=Z (o0 b a e af);clear g;have A:=i.at_.text;have n:=i.at_.off;have B:=i.lt;clear i;have i:(a:Int)<b.size:=af
 have i:f≠c.heap.size:=af
 have k:=λi=>vJ.quiet b[a] (c.alloc (.cells #[J 0,ai,J 0,J 0] 188)) i;generalize jr b[a]=H at k d;generalize kc ((ba b).drop a)=C at d⊢;cases H
 case false=>
  go_enter func81,ntmps81
  go_wp2_with fail
  go_quiet ((go_at_call 153;exact k _))
  go_wp2;refine bodyPost_ret (v:=.tuple #[iE 0 [] 0 0,J 0]) ?_ rfl ?_
  ·simp[results,results81,go_sem]
   rfl
  rw[d.out];refine⟨?_,0,[],0,rfl⟩;repeat (refine ag.setCell ?_ (Nat.le_refl _) _)
  exact((ag.refl c).alloc _).drewN _
 go_enter func81,ntmps81
 go_wp2_with fail
 go_quiet ((go_at_call 153;exact k _))
 have o:ag c ((c.alloc (.cells #[J 0,ai,J 0,J 0] 188)).drewN nq):=((ag.refl c).alloc _).drewN _;have p:aa ((c.alloc (.cells #[J 0,ai,J 0,J 0] 188)).drewN nq) c.heap.size 188 #[J 0,ai,J 0,J 0]:=(aa.new c _ _).drewN _;generalize (c.alloc (.cells #[J 0,ai,J 0,J 0] 188)).drewN nq=D at o p⊢;have q:=Z o;have E:=Z p;clear o p A n k;go_wp2_with fail
 refine(F.out D (show eS D f b a from aa.below x.out q.out B).at_).mono ?_;rintro m r ⟨rfl,s⟩;have j:=Z (show aa r c.heap.size 188 _ by obtain⟨j,rfl⟩:=s;exact E.out.drewN _);have t:=Z (show ag c r by obtain⟨t,rfl⟩:=s;exact q.out.drewN _);clear q E s;have c:=Z (show eS r f b a from aa.below x t B);have A:=c.at_.text;have n:=c.at_.off;by_cases g:24<e
 ·have c:(24:Int)<e:=by omega
  have I:=Z (show C=.bad 3 by have:=d.out;simpa[g]using this);clear d;go_wp2_with (go_at_call 86;refine(kf f 3 a _ n).mono ?_;rintro m c ⟨rfl,rfl⟩)
  refine⟨rfl,?_⟩;rw[I.out];exact⟨t,rfl⟩
 have c:¬(24:Int)<e:=af
 have I:=Z (show C=.tok 1 (((ba b).drop a).take e) 0 e by have:=d.out;simpa[g]using this);clear d;go_wp2_with fail
 have c:=ay j;have c:=aS j;have c:=aZ j;have c:=bi j;have c:=λc=>aa.frozen j c;go_region
 all_goals
  go_wp2;refine bodyPost_ret (v:=.tuple #[iE 1 (((ba b).drop a).take e) 0 0,e]) ?_ rfl ?_
  ·simp[results,results81,go_sem, *]
   rw[G.out];rfl
  rw[I.out];refine⟨?_,rfl⟩;refine ag.drew ?_;repeat (refine ag.setCell ?_ (Nat.le_refl _) _)
  exact t
theorem vP:∀(b:bR) (d a:Nat),(∀c∈b,dJ c=true)->b.length+a<=10->d<10 ^ a->Lib.parseUint10 d b=.ok (b.foldl (λe c=>e*10+(c.toNat-48)) d)/\b.foldl (λe c=>e*10+(c.toNat-48)) d<10 ^ (b.length+a)
 |[],d,a,_,_,ha=>⟨rfl,by simpa using ha⟩
 |c::b,d,a,hd,hl,ha=>by
  have e:=hd c aj;simp only[dJ,Bool.and_eq_true,decide_eq_true_eq,UInt8.le_iff_toNat_le]at e;have f:(48:UInt8).toNat=48:=rfl;have g:(57:UInt8).toNat=57:=rfl;rw[f,g]at e;have f:10 ^ a<=10 ^ 9:=Nat.pow_le_pow_right af (by simp at hl;omega);have f:10 ^ (a+1)=10 ^ a*10:=Nat.pow_succ ..;obtain⟨d,f⟩:=vP b (d*10+(c.toNat-48)) (a+1) (λd h=>hd d (by simp[h])) (by simp at hl;omega) af;refine⟨?_,?_⟩
  ·rw[Lib.parseUint10,if_pos ⟨e.1,e.2⟩,if_neg af,if_neg af,d]
   rfl
  have:(c::b).length+a=b.length+(a+1):=aF
  rw[this];exact f
theorem vQ (b:bR) (d:b≠[]) (e:∀a∈b,dJ a=true) (f:b.length<=10):Lib.atoiAll b=.ok (gU b:Int)/\gU b<10000000000:=by
 cases b with
 |nil=>exact absurd rfl d
 |cons a c=>
  obtain⟨f,b⟩:=vP (a::c) 0 0 e af af;have g:10 ^ ((a::c).length+0)<=10 ^ 10:=Nat.pow_le_pow_right af af;have g:gU (a::c)<10000000000:=aV b g;have b:=e a aj;simp only[dJ,Bool.and_eq_true,decide_eq_true_eq,UInt8.le_iff_toNat_le]at b;have e:(48:UInt8).toNat=48:=rfl;rw[e]at b;refine⟨?_,g⟩;unfold Lib.atoiAll;have b:¬(a.toNat=43\/a.toNat=45):=af
  have e:¬a.toNat=45:=af
  simp only[];rw[if_neg b];unfold Lib.parseMag;rw[if_neg d,f];show(if¬a.toNat=45/\9223372036854775808<=gU (a::c)then Lib.NumEnd.range else if a.toNat=45/\9223372036854775808<gU (a::c)then Lib.NumEnd.range else Lib.NumEnd.ok (if a.toNat=45 then -(gU (a::c):Int)else(gU (a::c):Int)))=_;rw[if_neg af,if_neg af,if_neg e]
theorem sc (c:UInt8->Bool):∀(a:bR),∀b∈a.take (cm c a),c b=true
 |[],b,h=>by simp at h
 |d::a,b,h=>by
  simp only[cm]at h;split at h
  ·rename_i e
   simp only[List.take_succ_cons,List.mem_cons]at h;rcases h with rfl|h
   ·exact e
   exact sc c a b h
  simp at h
theorem Cl (f:Nat) (b:ax) (a:Nat) (d:ah) (N:b.size<=20000) (l:a<b.size) (y:eS d f b a):
 Calls prog 82 #[ak f] d λi l=>lq a d (kd ((ba b).drop a)) i l:=by
 have O:∀l d,(callFunc 155 l).run prog d=.ok (.enter 155 l) d:=enters_of func155 am rfl;have l:∀l d,(callFunc 156 l).run prog d=.ok (.enter 156 l) d:=enters_of func156 am rfl;have z:=Z (λc e=>ql 156 _ vI l f b a c N af e);have A:=Z (λc e=>ql 155 _ vK O f b a c N af e);have B:=Z y;have C:=y.lt;have N:=nk dJ ((ba b).drop a);rw[gr]at N;have j:=Z (λc e=>vQ (((ba b).drop a).take (cm dJ ((ba b).drop a))) c (sc dJ _) e);have e:Hid (kd ((ba b).drop a)=if cm dJ ((ba b).drop a)=0 then .none else if 10<cm dJ ((ba b).drop a)\/cm dJ ((ba b).drop a)<cm fC ((ba b).drop a)then .bad 6
  else .tok 2 (((ba b).drop a).take (cm dJ ((ba b).drop a))) (gU (((ba b).drop a).take (cm dJ ((ba b).drop a)))) (cm dJ ((ba b).drop a))):=Z rfl
 have P:=nk fC ((ba b).drop a);rw[gr]at P;obtain⟨c,Q⟩:=av (cm dJ ((ba b).drop a));obtain⟨D,R⟩:=av (cm fC ((ba b).drop a));rw[<-Q]at z j e N;rw[<-R]at A e P;have s:=Z (o0 b a c af);have E:Hid ((((ba b).drop a).take c).length=c):=Z (by rw[List.length_take,gr];omega);clear Q R O l y;generalize kd ((ba b).drop a)=t at e⊢;have l:(a:Int)<=b.size:=by omega
 have l:IntKind.i64.wrap ((a:Int)+c)=(a:Int)+c:=IntWalk.i64_in _ af;have F:ag d (d.alloc (.cells #[J 0,ai,J 0,J 0] 188)):=(ag.refl d).alloc _;have S:=Z (show eS (d.alloc _) f b a from aa.below B F C);go_enter func82,ntmps82
 go_wp2_with fail
 refine(z _ S.at_).mono ?_;rintro i u ⟨rfl,G⟩;have g:=Z (show aa u d.heap.size 188 _ by obtain⟨g,rfl⟩:=G;exact(aa.new d _ _).drewN g);have m:=Z (show ag d u by obtain⟨k,rfl⟩:=G;exact F.drewN k);clear G S F z;have w:=Z (show eS u f b a from aa.below B m C);have n:=w.at_.off;have T:=ay g;have U:=aS g;have V:=aZ g;have W:=bi g;have X:=λH=>aa.frozen g H;by_cases o:c=0
 ·have l:((c:Int)==0)=true:=by simp[o]
  have k:=Z (show t=.none by have:=e.out;simpa[o]using this);clear e j;go_wp2;refine bodyPost_ret (v:=.tuple #[iE 0 [] 0 0,J 0]) ?_ rfl ?_
  ·simp[results,results82,go_sem, *]
   rfl
  rw[k.out];refine⟨?_,0,[],0,rfl⟩;repeat (refine ag.setCell ?_ (Nat.le_refl _) _)
  exact m
 have l:((c:Int)==0)=false:=aF
 by_cases Y:10<c
 ·have l:(10:Int)<c:=by omega
  have k:=Z (show t=.bad 6 by have:=e.out;simpa[o,Y]using this);clear e j;go_wp2_with (go_at_call 86;refine(kf f 6 a _ n).mono ?_;rintro i l ⟨rfl,rfl⟩)
  refine⟨rfl,?_⟩;rw[k.out];exact⟨m,rfl⟩
 have l:¬(10:Int)<c:=af
 have l:=w.at_.text;clear T U V W X n l;go_wp2_with fail
 refine(A u w.at_).mono ?_;rintro i p ⟨rfl,I⟩;have ab:=Z (show aa p d.heap.size 188 _ by obtain⟨k,rfl⟩:=I;exact g.out.drewN k);have x:=Z (show ag d p by obtain⟨k,rfl⟩:=I;exact m.out.drewN k);clear I w m g A;have K:=Z (show eS p f b a from aa.below B x C);have an:=K.at_.text;have n:=K.at_.off;by_cases ac:c<D
 ·have g:(c:Int)<D:=by omega
  have k:=Z (show t=.bad 6 by have:=e.out;simpa[o,ac]using this);clear e j;go_wp2_with (go_at_call 86;refine(kf f 6 a _ n).mono ?_;rintro i p ⟨rfl,rfl⟩)
  refine⟨rfl,?_⟩;rw[k.out];exact⟨x,rfl⟩
 have f:¬(c:Int)<D:=af
 have ad:=Z (show t=.tok 2 (((ba b).drop a).take c) (gU (((ba b).drop a).take c)) c by have:=e.out;simpa[o,Y,ac]using this);obtain⟨g,m⟩:=j (by intro h;have:=E.out;rw[h]at this;simp at this;omega) (by rw[E.out];omega);have f:(a:Int)<=(a:Int)+c:=by omega
 have f:(a:Int)+c<=b.size:=af
 have f:((a:Int)+c).toNat=a+c:=af
 obtain⟨l,f⟩:=av (b.extract a (a+c));have o:=Z f;have aj:=Z (λk=>Tryz.strconv_Atoi_ok l (by rw[f,s.out];show(ee _).size<=_;rw[<-eZ,m3,E.out];omega) (gU (((ba b).drop a).take c):Int) (by rw[f,s.out];show Lib.atoiAll (ba (ee _))=_;rw[m3];exact g) k);have ap:=Z (f.trans s);obtain⟨aq,l⟩:=av (gU (((ba b).drop a).take c));rw[<-l]at ad aj m;clear e j l g s;clear f;have ar:=o.symm;go_wp2_with fail
 go_quiet (fail)
 have L:=Z (x.drewN nq);have q:=Z (ab.drewN nq);generalize p.drewN nq=al at L q⊢;clear an n K x ab;try rw[ar]
 go_wp2_with fail
 refine(aj _).mono ?_;rintro i k ⟨rfl,M⟩;have au:=Z (show ag d k from L.out.trans (by
  rcases M with rfl|⟨r,rfl⟩
  ·exact ag.refl _
  exact Lib.bytesWorld_below al _ r))
 have r:=Z (show aa k d.heap.size 188 #[J 0,ai,J 0,J 0]from by
  rcases M with rfl|⟨aw,rfl⟩
  ·exact q
  exact aa.below q (Lib.bytesWorld_below al _ aw) q.lt)
 clear M L q;have T:ae k (ao d 0) (J 0):=aa.cell r.out 0;have U:ae k (ao d 1) ai:=aa.cell r.out 1;have V:ae k (ao d 2) (J 0):=aa.cell r.out 2;have W:ae k (ao d 3) (J 0):=aa.cell r.out 3;have X:=λH=>aa.frozen r.out H;go_wp2;refine bodyPost_ret (v:=.tuple #[iE 2 (((ba b).drop a).take c) aq 0,c]) ?_ rfl ?_
 ·simp[results,results82,go_sem, *]
  rw[ap.out];rfl
 rw[ad.out];refine⟨?_,rfl⟩;repeat (refine ag.setCell ?_ (Nat.le_refl _) _)
 exact au.out
theorem qp (a:UInt8):∀c:List UInt8,-1<=Lib.indexByte c a/\(decide (0<=Lib.indexByte c a)=c.contains a)
 |[]=>⟨by simp[Lib.indexByte],by simp[Lib.indexByte]⟩
 |b::c=>by
  obtain⟨f,e⟩:=qp a c;by_cases d:b=a
  ·subst d;simp[Lib.indexByte]
  have f:(b==a)=false:=by simpa using d
  have d:(a==b)=false:=by simpa using λg=>d g.symm
  simp only[Lib.indexByte,f,Bool.false_eq_true,if_false,List.contains_cons,d,Bool.false_or];by_cases d:Lib.indexByte c a= -1
  ·simp only[d,beq_self_eq_true,if_true]
   exact⟨by omega,by rw[<-e,d]⟩
  have d:(Lib.indexByte c a== -1)=false:=by simpa using d
  simp only[d,Bool.false_eq_true,if_false];refine⟨by omega,?_⟩;rw[<-e];have:(0<=Lib.indexByte c a+1)↔(0<=Lib.indexByte c a):=by omega
  simp only[this]
theorem vR (b c:UInt8) (a:bR):Lib.hasPrefix a [b,c]=decide (a.take 2=[b,c]):=by
 cases a with
 |nil=>simp[Lib.hasPrefix]
 |cons d a=>
  cases a with
  |nil=>simp[Lib.hasPrefix,List.isPrefixOf]
  |cons e a=>
   rw[Bool.eq_iff_iff];simp[Lib.hasPrefix];constructor<;>rintro⟨rfl,rfl⟩<;>exact⟨rfl,rfl⟩
theorem Cm (q:Nat) (a:ax) (b:Nat) (f:ah) (B:a.size<=20000) (B:b<a.size) (r:eS f q a b):
 Calls prog 84 #[ak q] f λd e=>lq b f (hL ((ba a).drop b)) d e:=by
 have B:=Z r;have C:=r.lt;have s:=Z (show ag f (f.alloc (.cells #[J 0,ai,J 0,J 0] 188))from(ag.refl f).alloc _);have t:=Z (show eS (f.alloc _) q a b from aa.below B s C);have x:=Z (aa.new f 188 #[J 0,ai,J 0,J 0]);obtain⟨D,u⟩:=av (a.extract b a.size);have w:ba D=(ba a).drop b:=by
  rw[u,show a.extract b a.size=a.extract b (b+(a.size-b)) by rw[show b+(a.size-b)=a.size by omega],o0 a b _ af,m3,List.take_of_length_le (by rw[gr];omega)]
 have q:D.size=a.size-b:=by rw[<-eZ,w,gr]
 have q:0<D.size:=af
 have c:Hid (hL ((ba a).drop b)=if decide ((ba D).take 2=[33,61])=true\/decide ((ba D).take 2=[60,61])=true then .tok 4 ((ba D).take 2) 0 2 else if nj.contains D[0]=true then .tok 4 ((ba D).take 1) 0 1 else .none):=by
  apply Z;rw[<-w];unfold hL;have g:(ba D).headD 0=D[0]:=by
   have:=ll D 0 q;simp only[List.drop_zero]at this;rw[this];rfl
  simp only[decide_eq_true_eq,g]
 have g:=Z (λg=>Tryz.strings_HasPrefix D ⟨#[33,61]⟩ g);have i:=Z (λi=>Tryz.strings_HasPrefix D ⟨#[60,61]⟩ i);have j:=Z (λj=>Tryz.strings_IndexByte ⟨#[59,58,44,46,40,41,123,125,61,60,43,45,47,64]⟩ (D[0].toNat:Int) j);have y:Lib.hasPrefix D.data.toList (⟨#[33,61]⟩:ByteArray).data.toList=decide ((ba D).take 2=[33,61]):=vR 33 61 (ba D);have z:Lib.hasPrefix D.data.toList (⟨#[60,61]⟩:ByteArray).data.toList=decide ((ba D).take 2=[60,61]):=vR 60 61 (ba D);have l:=qp D[0] nj;have A:Lib.indexByte (⟨#[59,58,44,46,40,41,123,125,61,60,43,45,47,64]⟩:ByteArray).data.toList (D[0].toNat:Int).toNat.toUInt8=Lib.indexByte nj D[0]:=by
  rw[show(D[0].toNat:Int).toNat.toUInt8=D[0] by simp];rfl
 have m:Hid (decide ((ba D).take 2=[33,61])=true\/decide ((ba D).take 2=[60,61])=true->2<=D.size):=Z (by
  intro h;rw[<-eZ];simp only[decide_eq_true_eq]at h;have:((ba D).take 2).length=2:=by rcases h with h|h<;>rw[h]<;>rfl
  rw[List.length_take]at this;omega)
 have HX:Hid (∀k,k<=D.size->D.extract 0 k=ee ((ba D).take k)):=Z (λk n=>by
  have:=o0 D 0 k af;rw[Nat.zero_add,List.drop_zero]at this;exact this)
 rw[y]at g;rw[z]at i;rw[A]at j;obtain⟨n,q⟩:=av (Lib.indexByte nj D[0]);obtain⟨F,B⟩:=av (decide ((ba D).take 2=[33,61]));obtain⟨G,C⟩:=av (decide ((ba D).take 2=[60,61]));obtain⟨H,E⟩:=av (nj.contains D[0]);rw[<-q]at j l;rw[<-E]at c l;rw[<-B]at g c m;rw[<-C]at i c m;have I:=l.1;have o:=l.2;have I:=Z u;clear B C E q y z l A r w u;have K:=I.symm;generalize hL ((ba a).drop b)=p at c⊢;have a:(b:Int)<=a.size:=af
 have L:=t.at_.text;have M:=t.at_.off;go_enter func84,ntmps84
 go_wp2_with fail
 go_quiet (fail)
 have S2:=Z (s.drewN nq);have k:=Z (x.drewN nq);generalize (f.alloc (.cells #[J 0,ai,J 0,J 0] 188)).drewN nq=N at S2 k⊢;clear L M t s x;try rw[K]
 have a:=ay k;have a:=aS k;have a:=aZ k;have a:=bi k;have a:=λn=>aa.frozen k n;cases F
 case true=>
  have hl2:=m (.inl rfl);have a:(2:Int)<=D.size:=af
  have nl:=Z (show p=.tok 4 ((ba D).take 2) 0 2 by rw[c.out];rfl);clear i j c;go_wp2_with (go_at_call 159;refine(g.out _).mono ?_;rintro d e ⟨rfl,rfl⟩)
  exact vS
 cases G
 case true=>
  have hl2:=m (.inr rfl);have a:(2:Int)<=D.size:=af
  have nl:=Z (show p=.tok 4 ((ba D).take 2) 0 2 by rw[c.out];rfl);clear j c;go_wp2_with (first|(go_at_call 159;with_reducible refine(g.out _).mono ?_;rintro d e ⟨rfl,rfl⟩)|(go_at_call 159;with_reducible refine(i.out _).mono ?_;rintro d e ⟨rfl,rfl⟩))
  exact vS
 cases H
 case true=>
  have a:(0:Int)<=n:=by simpa using o
  have a:(1:Int)<=D.size:=af
  have nl:=Z (show p=.tok 4 ((ba D).take 1) 0 1 by rw[c.out];rfl);clear c o;go_wp2_with (first|(go_at_call 159;with_reducible refine(g.out _).mono ?_;rintro d e ⟨rfl,rfl⟩)|(go_at_call 159;with_reducible refine(i.out _).mono ?_;rintro d e ⟨rfl,rfl⟩)|(go_at_call 158;refine(j.out _).mono ?_;rintro d e ⟨rfl,rfl⟩))
  refine bodyPost_ret (v:=.tuple #[iE 4 ((ba D).take 1) 0 0,J 1]) ?_ rfl ?_
  ·simp[results,results84,go_sem, *]
   rw[HX.out 1 af];rfl
  rw[nl.out];refine⟨?_,rfl⟩;repeat (refine ag.setCell ?_ (Nat.le_refl _) _)
  exact S2
 have a:¬(0:Int)<=n:=by simpa using o
 have nl:=Z (show p=.none by rw[c.out];rfl);clear c o;go_wp2_with (first|(go_at_call 159;with_reducible refine(g.out _).mono ?_;rintro d e ⟨rfl,rfl⟩)|(go_at_call 159;with_reducible refine(i.out _).mono ?_;rintro d e ⟨rfl,rfl⟩)|(go_at_call 158;refine(j.out _).mono ?_;rintro d e ⟨rfl,rfl⟩))
 refine bodyPost_ret (v:=.tuple #[iE 4 [] 0 0,J 0]) ?_ rfl ?_
 ·simp[results,results84,go_sem, *]
  rfl
 rw[nl.out];refine⟨?_,4,[],0,rfl⟩;repeat (refine ag.setCell ?_ (Nat.le_refl _) _)
 exact S2
def fD (a b:Int):Value:=.iface 97 (.agg #[a,b])
def RP {b:Type} (l:List Nat) (w:ah) (e:RO b) (V:b->Value->World->Prop) (c:Ending) (d:ah):Prop:=
 Kp l w d/\match e with
 |.ok a=>∃b,c=.returned b/\V a b d
 |.bad er at_=>c=.panicked [{v:=fD er at_,recovered:=false}]
theorem vT (b:Nat) (e at_:Int) (a:ah) (c:ae a (ac b 8) at_):
 Calls prog 182 #[ak b,e] a λb c=>b=.panicked [{v:=fD e at_,recovered:=false}]/\a=c:=by
 go_enter func182,ntmps182
 go_wp2;exact⟨rfl,rfl,rfl⟩
theorem Cq (b:Nat) (c:Bool) (e at_:Int) (a:ah) (d:ae a (ac b 8) at_):
 Calls prog 107 #[ak b,c,e] a λf g=>a=g/\f=if c then .returned (.tuple #[])else .panicked [{v:=fD e at_,recovered:=false}]:=by
 cases c
 case true=>
  go_enter func107,ntmps107
  go_wp2;go_end0
  exact⟨rfl,rfl⟩
 have i:=Z (vT b e at_ a d);go_enter func107,ntmps107
 go_wp2_with (go_at_call 182;refine i.out.mono ?_;rintro e a ⟨rfl,rfl⟩)
 exact⟨rfl,rfl,rfl⟩
theorem fM (n a b:Int) (w:ah):Calls prog 108 #[n,a,b] w λc d=>c=.returned (.bool (aY n a b))/\w=d:=by
 have HE:Hid (aY n a b=(decide (a<=n)&&decide (n<=b))):=Z rfl;generalize aY n a b=e at HE⊢;go_enter func108,ntmps108
 exact r9
theorem Cr (k:Int) (e:ah):Calls prog 110 #[k] e λf g=>f=.returned (J (ei k))/\e=g:=by
 have a:Hid (ei k=if k=6\/k=7\/k=8 then 9 else k):=Z rfl;generalize ei k=i at a⊢;by_cases b:k=6
 ·have c:(k==6)=true:=by simp[b]
  go_enter func110,ntmps110
  go_wp2;go_ret;exact⟨iC (by rw[a.out,if_pos (.inl b)]),rfl⟩
 have e:(k==6)=false:=by simp[b]
 by_cases c:k=7
 ·have d:(k==7)=true:=by simp[c]
  go_enter func110,ntmps110
  go_wp2;go_ret;exact⟨iC (by rw[a.out,if_pos (.inr (.inl c))]),rfl⟩
 have e:(k==7)=false:=by simp[c]
 by_cases d:k=8
 ·have e:(k==8)=true:=by simp[d]
  go_enter func110,ntmps110
  go_wp2;go_ret;exact⟨iC (by rw[a.out,if_pos (.inr (.inr d))]),rfl⟩
 have e:(k==8)=false:=by simp[d]
 go_enter func110,ntmps110
 go_wp2;go_ret;exact⟨iC (by rw[a.out,if_neg (by simp[b,c,d])]),rfl⟩
theorem vU (a:ax) (b:Nat) (h:b<a.size):(ba a)[b]'(by rw[eZ];exact h)=a[b]:=rfl
theorem Cs (a c:ax) (k:ah) (p:aJ a):Calls prog 183 #[a,c] k λe f=>e=.returned (.bool ((ba a).all (ba c).contains))/\k=f:=by
 have k:(a.size:Int)<=9223372036854775807:=by unfold aJ at p;omega
 have q:=Z (λ(b:UInt8) d=>Tryz.strings_IndexByte c (b.toNat:Int) d);have r:=Z (λ(b:UInt8)=>qp b (ba c));have s:=Z (λb:UInt8=>show Lib.indexByte c.data.toList (b.toNat:Int).toNat.toUInt8=Lib.indexByte (ba c) b by rw[show(b.toNat:Int).toNat.toUInt8=b by simp];rfl);go_enter func183,ntmps183
 go_wp2;go_loop [8] (λd=>∃b:Nat,b<=a.size/\d=.int .i64 b/\Hid (∀d (g:d<a.size),d<b->(ba c).contains a[d]=true)) (λb=>a.size-(intOf b).toNat)
 case atStart=>exact⟨0,Nat.zero_le _,rfl,λb _ b=>absurd b (Nat.not_lt_zero _)⟩
 obtain⟨b,v,rfl,l⟩:=hrel;by_cases t:b<a.size
 ·have k:(b:Int)<a.size:=by omega
  have m:=Z (λd=>q.out a[b] d);have n:=r.out a[b];obtain⟨g,i⟩:∃g,g=Lib.indexByte (ba c) a[b]:=⟨_,rfl⟩;have o:Hid (∀d,Calls prog 158 #[c,.int .u8 (a[b].toNat:Int)] d λe f=>e=.returned g/\f=d):=Z (λd=>by rw[i,<-s.out];exact m.out d);rw[<-i]at n;obtain⟨w,d⟩:=n;clear i m;cases hcont:(ba c).contains a[b]with
  |true=>
   rw[hcont]at d;have c:¬g<0:=by simpa using d
   have u:=Z hcont;clear hcont d;go_wp2_with (go_at_call 158;refine(o.out _).mono ?_;rintro e f ⟨rfl,rfl⟩)
   go_round
   case rel=>
    refine⟨b+1,by omega,by go_num,Z λj c i=>?_⟩;by_cases h:j<b
    ·exact l.out j c h
    obtain rfl:j=b:=af
    exact u.out
   simp[intOf];omega
  |false=>
   rw[hcont]at d;have c:g<0:=by simpa using d
   have j:=Z hcont;clear hcont d;go_wp2_with (go_at_call 158;refine(o.out _).mono ?_;rintro e f ⟨rfl,rfl⟩)
   go_ret;refine⟨ke ?_,rfl⟩;symm
   rw[List.all_eq_false];exact⟨a[b],by rw[<-vU a b t];exact List.getElem_mem _,by rw[j.out];simp⟩
 have b:¬(b:Int)<a.size:=af
 go_wp2;go_ret;refine⟨ke ?_,rfl⟩;symm
 rw[List.all_eq_true];intro b g;obtain⟨d,i,rfl⟩:=List.mem_iff_getElem.1 g;have b:d<a.size:=by rw[<-eZ];exact i
 rw[vU a d b];exact l.out d b af
def mj:ByteArray:=⟨#[97,98,99,100,101,102,103,104,105,106,107,108,109,110,111,112,113,114,115,116,117,118,119,120,121,122,65,66,67,68,69,70,71,72,73,74,75,76,77,78,79,80,81,82,83,84,85,86,87,88,89,90]⟩
def qr:ByteArray:=⟨#[97,98,99,100,101,102,103,104,105,106,107,108,109,110,111,112,113,114,115,116,117,118,119,120,121,122,65,66,67,68,69,70,71,72,73,74,75,76,77,78,79,80,81,82,83,84,85,86,87,88,89,90,48,49,50,51,52,53,54,55,56,57,95]⟩
theorem Ct (a:UInt8):(ba mj).contains a=hC a:=by
 have h:∀b:Fin 256,(ba mj).contains (UInt8.ofNat b.val)=hC (UInt8.ofNat b.val):=by decide+kernel
 have:=h ⟨a.toNat,a.toNat_lt⟩;simpa using this
theorem Cu (a:UInt8):(ba qr).contains a=hD a:=by
 have h:∀b:Fin 256,(ba qr).contains (UInt8.ofNat b.val)=hD (UInt8.ofNat b.val):=by decide+kernel
 have:=h ⟨a.toNat,a.toNat_lt⟩;simpa using this
theorem Cv {a:UInt8} (h:hC a=true):hD a=true:=by unfold hD;rw[h];rfl
theorem Cw (a:ax) (b:0<a.size) (c:a.size<=24):bC a=(hC a[0]&&(ba a).all hD):=by
 have b:=ll a 0 b;rw[List.drop_zero]at b;unfold bC;rw[b];have b:(decide (a.size≠0)&&decide (a.size<=24))=true:=by rw[Bool.and_eq_true,decide_eq_true_eq,decide_eq_true_eq];exact⟨by omega,c⟩
 rw[b,Bool.and_true];simp only[ge,List.all_cons];cases hl:hC a[0]with
 |false=>rfl
 |true=>simp[Cv hl]
theorem Cx (a:ax) (b:a.size=0):bC a=false:=by unfold bC;simp[b]
theorem Cy (a:ax) (h:¬a.size<=24):bC a=false:=by unfold bC;simp;omega
theorem qt (a:ax) (m:ah) (n:aJ a):Calls prog 109 #[a] m λb d=>b=.returned (.bool (bC a))/\m=d:=by
 have m:(a.size:Int)<=9223372036854775807:=by unfold aJ at n;omega
 have m:=oo a;by_cases k:a.size=0
 ·have e:=Z (Cx a k)
  have f:a=⟨#[]⟩:=by
   apply oc;exact List.eq_nil_of_length_eq_zero (by rw[eZ,k])
  subst f;generalize bC _=g at e⊢;go_enter func109,ntmps109
  go_wp2;go_ret;exact⟨ke e.out.symm,rfl⟩
 have m:(a.toList==[])=false:=by
  cases h:a.toList with
  |nil=>exact absurd ((fX a).1 h) k
  |cons _ _=>rfl
 by_cases o:a.size<=24
 case neg=>
  have f:¬(a.size:Int)<=24:=af
  have e:=Z (Cy a o);generalize bC a=g at e⊢;go_enter func109,ntmps109
  go_wp2;go_ret;exact⟨ke e.out.symm,rfl⟩
 have k:(a.size:Int)<=24:=af
 have k:0<a.size:=af
 have m:(0:Int)<a.size:=af
 have e:=Z (Cw a k o);have i:=Z (λf=>Tryz.strings_IndexByte mj (a[0].toNat:Int) f);have j:=Z (λf=>Cs a qr f n);have p:Lib.indexByte mj.data.toList (a[0].toNat:Int).toNat.toUInt8=Lib.indexByte (ba mj) a[0]:=by
  rw[show(a[0].toNat:Int).toNat.toUInt8=a[0] by simp];rfl
 rw[p]at i;have l:=qp a[0] (ba mj);rw[Ct]at l;have q:Hid ((ba a).all (ba qr).contains=(ba a).all hD):=Z (by congr 1;funext c;exact Cu c);rw[q.out]at j;obtain⟨g,r⟩:∃g,g=Lib.indexByte (ba mj) a[0]:=⟨_,rfl⟩;rw[<-r]at i l;obtain⟨v,f⟩:=l;clear p r q;generalize bC a=w at e⊢;generalize (ba a).all hD=t at e j;have s:Hid (∀k,Calls prog 158 #[.string ⟨#[97,98,99,100,101,102,103,104,105,106,107,108,109,110,111,112,113,114,115,116,117,118,119,120,121,122,65,66,67,68,69,70,71,72,73,74,75,76,77,78,79,80,81,82,83,84,85,86,87,88,89,90]⟩,.int .u8 (a[0].toNat:Int)] k λb d=>b=.returned g/\d=k):=i;have u:Hid (Rq 183 #[a,.string ⟨#[97,98,99,100,101,102,103,104,105,106,107,108,109,110,111,112,113,114,115,116,117,118,119,120,121,122,65,66,67,68,69,70,71,72,73,74,75,76,77,78,79,80,81,82,83,84,85,86,87,88,89,90,48,49,50,51,52,53,54,55,56,57,95]⟩] (.bool t)):=j;clear i j;cases hl:hC a[0]with
 |false=>
  rw[hl]at f e;have a:¬0<=g:=by simpa using f
  clear f;go_enter func109,ntmps109
  go_wp2_with (go_at_call 158;refine(s.out _).mono ?_;rintro b d ⟨rfl,rfl⟩)
  go_ret;exact⟨ke (by rw[e.out];rfl),rfl⟩
 |true=>
  rw[hl]at f e;have a:0<=g:=by simpa using f
  clear f;go_enter func109,ntmps109
  go_wp2_with (first|(go_at_call 158;refine(s.out _).mono ?_;rintro b d ⟨rfl,rfl⟩)|(go_at_call 183;refine(u.out _).mono ?_;rintro b d ⟨rfl,rfl⟩))
  go_ret;exact⟨ke (by rw[e.out];rfl),rfl⟩
def hP (a:Int) (v:aA) (_:ah):Prop:=v=.int .i64 a
theorem fN {d:Type} {c:Nat} {w a:ah} {l:List Nat} {b:Bool} {e at_:Int} {R f:RO d} {d:Ending->World->Prop} (i:Kp l w a) (g:R=RO.ap b e at_ f) (i:ae a (ac c 8) at_)
 (j:Hid (R=.bad e at_)->b=false->d (.panicked [{v:=fD e at_,recovered:=false}]) a) (k:Hid (R=f)->b=true->d (.returned (.tuple #[])) a):
 Calls prog 107 #[ak c,b,e] a d:=by
 refine(Cq c b e at_ a i).mono ?_;rintro a a ⟨rfl,rfl⟩;cases b
 case true=>exact k (Z g) rfl
 exact j (Z g) rfl
theorem o1 (c:Nat) (h:Hd) (b:List RT) (a:ax) (at_:Int) (w:ah) (p:c<w.heap.size) (g:ae w (ac c 0) h.val) (i:ae w (ac c 8) at_) (j:bI w h b):
 Calls prog 190 #[ak c,a] w λd e=>RP [] w (d1 (b.map RT.tb) at_ a) hP d e:=by
 have f:=Z (sd h b a w j);have HE:=Z (show d1 (b.map RT.tb) at_ a=RO.ap (decide (0<=cE (b.map RT.tb) a)) 8 at_ (.ok (cE (b.map RT.tb) a))from rfl);generalize cE (b.map RT.tb) a=q at f HE;generalize d1 (b.map RT.tb) at_ a=s at HE⊢;obtain⟨k,m,n⟩:=h;have o:Hid (Calls prog 41 #[.agg #[O k m n],a] w λd e=>d=.returned q/\ag w e):=f;have r:ae w (ac c 0) (O k m n):=g;clear f g j;go_enter func190,ntmps190
 go_wp2_with fail
 refine o.mono ?_;rintro d a ⟨rfl,S1⟩;have d8:=(S1.cell p).trans i;clear r i o;by_cases hq:0<=q
 ·exact vV
 have e1:decide (0<=q)=false:=aF
 rw[e1]at HE;go_wp2_with fail
 refine fN (w:=w) (l:=[]) (Kp.of_same S1) HE.out d8 ?_ (λ_ h=>by cases h);intro HR _;go_wp2;refine⟨rfl,?_⟩;rw[HR.out];exact⟨Kp.of_same S1,rfl⟩
theorem o2 (e:Nat) (a:RT) (b:ax) (at_:Int) (w:ah) (i:e<w.heap.size) (j:ae w (ac e 8) at_) (k:fq w a):
 Calls prog 187 #[ak e,a.val,b] w λm y=>RP [] w (cS at_ a.tb.attrs b) hP m y:=by
 have g:=Z (λc (d:ag w c)=>qq a b c (k.same d));have c:=Z (show cS at_ a.tb.attrs b=RO.ap (decide (0<=bu a.tb.attrs b)) 8 at_ (.ok (bu a.tb.attrs b))from rfl);generalize bu a.tb.attrs b=f at g c;generalize cS at_ a.tb.attrs b=A at c⊢;obtain⟨n,⟨o,p,q⟩,B,⟨r,s,t⟩,C⟩:=a;have u:Hid (Rt 55 #[.agg #[n,O o p q,O r s t],b] w f):=g;clear g k;show Calls prog 187 #[ak e,.agg #[n,O o p q,O r s t],b] w _;have a:=bb i;go_enter func187,ntmps187
 go_wp2_with fail
 refine(u _ ((ag.refl w).alloc _)).mono ?_;rintro m a ⟨rfl,v⟩;have d:=Z (((ag.refl w).alloc _).trans v);have x:=(d.cell i).trans j;clear v j u;by_cases a:0<=f
 ·have a:decide (0<=f)=true:=by simp[a]
  rw[a]at c;go_wp2_with fail
  refine fN (w:=w) (l:=[]) (Kp.of_same d.out) c.out x (λ_ h=>by cases h) ?_;intro z _;go_wp2;go_ret;rw[z.out];exact⟨Kp.of_same d,_,rfl,rfl⟩
 have a:decide (0<=f)=false:=aF
 rw[a]at c;go_wp2_with fail
 refine fN (w:=w) (l:=[]) (Kp.of_same d.out) c.out x ?_ (λ_ h=>by cases h);intro z _;go_wp2;refine⟨rfl,?_⟩;rw[z.out];exact⟨Kp.of_same d,rfl⟩
theorem Cz (a:Nat) (c:ax) (d:ah) (e:a<d.heap.size) (j:ae d (ac a 0) c) (k:List RA):
 gD 315 #[ak a] d (λb=>.agg b.cells.toArray) (λb:RA=>decide (b.at_.name=c)) k:=by
 intro b _ f g;have d:=(g.cell e).trans j;have d:=aV e g.size;have d:a≠f.heap.size:=af
 obtain⟨⟨i,l,s,⟨m,n,o⟩⟩,⟨p,q,r⟩⟩:=b;clear j e g;show Calls prog 315 #[.agg #[i,l,O p q r,m,n,o],ak a] f λa b=>a=.returned (.bool (decide (i=c)))/\ag f b;have a:=jV i c;go_enter func315,ntmps315
 go_wp2;go_ret;exact⟨cj aj,(ag.refl _).alloc _⟩
theorem se (h:Hd) (b:List RA) (a:ax) (w:ah) (i:fp w h b):
 Calls prog 274 #[h.val,a] w λd f=>d=.returned (J (ew (b.map RA.at_) a))/\ag w f:=by
 have e:∀(e:Fn) (first cap:aQ) (w:ah),(Instr.makeFunc e first cap).run prog w=.ok (.func e first cap) w:=λ_ _ _ _=>rfl;have j:∀e w,(callFunc 315 e).run prog w=.ok (.enter 315 e) w:=enters_of func315 am rfl;have g:=Z (λ(c:ah) (k:ag w c) (e:Nat) (l:e<c.heap.size) (m:ae c (ac e 0) a)=>
  rQ 315 #[ak e] j h RA.cells (λn=>⟨_,_,_,_,_,_,rfl⟩) (λn:RA=>decide (n.at_.name=a)) b c (i.same k).1 (Cz e a c l m b))
 have c:Hid (ew (b.map RA.at_) a=co (λc:RA=>decide (c.at_.name=a)) b):=Z (qc RA.at_ _ b);generalize co (λe:RA=>decide (e.at_.name=a)) b=o at g c;generalize ew (b.map RA.at_) a=r at c⊢;clear i j;obtain⟨k,l,m⟩:=h;have p:Hid (∀(b:ah),ag w b->∀e,e<b.heap.size->ae b (ac e 0) a->Calls prog 102 #[O k l m,.func (.func 315) #[] #[ak e]] b λd f=>d=.returned o/\ag b f):=g;clear g;show Calls prog 274 #[O k l m,a] w _;go_enter func274,ntmps274
 go_wp2_with fail
 refine(p _ ?_ _ ?_ ?_).mono ?_
 ·exact(ag.refl w).alloc _
 ·simp
 ·simp
 rintro d a ⟨rfl,n⟩;have q:=Z (((ag.refl w).alloc _).trans n);clear n;go_wp2;go_ret;exact⟨eg c.symm,q⟩
theorem qu (d:Nat) (h:Hd) (b:List RA) (a:ax) (c:Int) (w:ah) (p:d<w.heap.size) (i:ae w (ac d 8) c) (j:fp w h b):
 Calls prog 272 #[ak d,h.val,a] w λe f=>RP [] w (ek c (b.map RA.at_) a) hP e f:=by
 have g:=Z (se h b a w j);have HE:=Z (show ek c (b.map RA.at_) a=RO.ap (decide (0<=ew (b.map RA.at_) a)) 8 c (.ok (ew (b.map RA.at_) a))from rfl);generalize ew (b.map RA.at_) a=q at g HE;generalize ek c (b.map RA.at_) a=r at HE⊢;obtain⟨k,m,n⟩:=h;have o:Hid (Calls prog 274 #[O k m n,a] w λe f=>e=.returned q/\ag w f):=g;clear g j;show Calls prog 272 #[ak d,O k m n,a] w _;go_enter func272,ntmps272
 go_wp2_with fail
 refine o.mono ?_;rintro e a ⟨rfl,S1⟩;have d8:=(S1.cell p).trans i;clear i o;by_cases hq:0<=q
 ·exact vV
 have e1:decide (0<=q)=false:=aF
 rw[e1]at HE;go_wp2_with fail
 refine fN (w:=w) (l:=[]) (Kp.of_same S1) HE.out d8 ?_ (λ_ h=>by cases h);intro HR _;go_wp2;refine⟨rfl,?_⟩;rw[HR.out];exact⟨Kp.of_same S1,rfl⟩
open Go.RowKit Go.Sort Go.Shelf Go.Maps
def Tryz.nw:Go.Shelf.Ren:=⟨λ|6=>111|8=>184|9=>185|11=>263|a=>a,λ|26=>3|28=>211|24=>60|0=>0|33=>269|a=>a,λa=>a⟩
theorem Tryz.Dp:SlLaysZI.n11 prog Tryz.nw:={
 mixed:=am
 f11:=⟨"slices.AppendSeq[[]int,int]",by decide,func263.trans (congrArg some am)⟩
 t0:=underlying0
 a0:=isAgg0
 z0:=sizeOf0
 v0:=zeroValue0
 t24:=underlying60
 a24:=isAgg60
 z24:=sizeOf60
 v24:=zeroValue60
 t26:=underlying3
 a26:=isAgg3
 z26:=sizeOf3
 v26:=zeroValue3
 t28:=underlying211
 a28:=isAgg211
 z28:=sizeOf211
 v28:=zeroValue211
 i26:=by kernel_rfl}
theorem Dq (i:Fence) (l:Nat) (t:i.fn 186) (u:i.round=none) (c:1<=l) (o q m e j v:Nat) (a:List Int) (w:e<m) (r:World) (d:List Int->World->Prop) (x:∀f c,d f c->Below m r c) (m:a.length<=1000000)
 (y:∀f g c,d f c->f.length<a.length->YieldAt i (l-1) prog o #[.int .i64 g] c λk m=>k=.returned (.bool true)/\d (f++[g]) m)
 (c:World) (f:c.cell? ⟨q,0,none⟩=some (.slice (some ⟨e,j,none⟩) a.length v)) (z:∀f (v:f<a.length),r.cell? ⟨e,j+f,none⟩=some (.int .i64 a[f])) (A:d [] c):
 CallsIn i l prog 186 #[.func (.yield o) #[] #[],.pointer (some ⟨q,0,none⟩)] c λk m=>(∃c,k=.returned c)/\d a m:=by
 refine callsIn_of_wp func186 rfl t ?_ u;simp only[ntmps186,List.size_toArray,List.length_cons,List.length_nil,Nat.reduceAdd,Nat.reduceSub,Array.replicate_succ,Array.replicate_zero,List.push_toArray,List.append_toArray,List.nil_append,List.cons_append];gi_wp2
 gi_loopw [7] (λc wr=>∃b:Nat,b<=a.length/\c=.int .i64 b/\d (a.take b) wr) (λb _=>a.length-(intOf b).toNat)
 case atStart=>exact⟨0,Nat.zero_le _,rfl,by simpa using A⟩
 obtain⟨b,C,rfl,n⟩:=hrel;by_cases c:b<a.length
 ·have e:wr.cell? ⟨e,j+b,none⟩=some (.int .i64 a[b]):=((x _ _ n).cell (p:=⟨e,j+b,none⟩) w).trans (z b c)
  obtain⟨i,j,l,m,f,d⟩:=y _ a[b] wr n (by rw[List.length_take];omega);have s:a.take (b+1)=a.take b++[a[b]]:=by rw[List.take_succ_eq_append_getElem c]
  obtain⟨g,c⟩:∃g,g=a[b]:=⟨_,rfl⟩;rw[<-c]at e f d s;clear c;gi_wp2
  refine d.mono ?_;rintro k c ⟨rfl,B⟩;gi_wp2
  go_roundw
  case rel=>exact⟨b+1,by omega,by simp,by rw[s];exact B⟩
  simp[intOf];omega
 obtain rfl:b=a.length:=af
 gi_wp2
 go_end0
 exact⟨⟨_,rfl⟩,by simpa using n⟩
theorem Dr (k:Fence) (n:Nat) (w:k.fn 263) (x:k.fn 186) (u:k.round=none) (o:3<=n) (f r t v:Nat) (c:List Int) (F:c.length<=1000000) (a:World) (G:r<a.heap.size) (H:f<a.heap.size)
 (I:a.cell? ⟨f,0,none⟩=some (.slice (some ⟨r,t,none⟩) c.length v)) (J:∀o (M:o<c.length),a.cell? ⟨r,t+o,none⟩=some (.int .i64 c[o])):
 CallsIn k n prog 263 #[.slice none 0 0,.func (.func 186) #[] #[.pointer (some ⟨f,0,none⟩)]] a λd o=>∃g:Value,d=.returned g/\o.ownsRow a.heap.size 3 1 g c.length (c.map encZ)/\(g=.slice none 0 0↔c=[])/\Below a.heap.size a o:=by
 have M:1<=n:=af
 have N:∀o a,(callFunc 186 o).run prog a=.ok (.enter 186 o) a:=enters_of func186 am rfl;refine callsIn_of_wp_marks func263 rfl w ?_ u;simp only[ntmps263,List.size_toArray,List.length_cons,List.length_nil,Nat.reduceAdd,Nat.reduceSub,Array.replicate_succ,Array.replicate_zero,List.push_toArray,List.append_toArray,List.nil_append,List.cons_append];gi_wp2
 refine wpIn_rangeFunc ?_;intro l O;rw[u];obtain⟨b,o⟩:∃b,a.alloc (.cells #[.slice none 0 0] 60)=b:=⟨_,rfl⟩;have Q:b.heap.size=a.heap.size+1:=by rw[<-o];simp
 have R:b.heap[a.heap.size]?=some (.cells #[.slice none 0 0] 60 (0,0)):=by rw[<-o];exact World.alloc_heap_new a _
 have w:Below a.heap.size a b:=by rw[<-o];exact(Below.refl _ a).alloc (Nat.le_refl _) _
 rw[o];obtain⟨m,S⟩:∃g:Value,g=.func (.func 186) #[] #[.pointer (some ⟨f,0,none⟩)]:=⟨_,rfl⟩;obtain⟨e,o⟩:∃e,(b.alloc (.deferred (some []))).alloc (.loop (AnyZI.apRec Tryz.nw l m a.heap.size b.heap.size .ready none))=e:=⟨_,rfl⟩;have U:∀i,i<b.heap.size->e.heap[i]?=b.heap[i]?:=λi T=>by
  rw[<-o];exact(Below.heap_alloc _ _ i aF).trans (Below.heap_alloc _ _ i T)
 have y:Below a.heap.size a e:=by rw[<-o];exact(w.alloc w.size _).alloc (by have:=w.size;simp;omega) _
 have w:e.heap.size=b.heap.size+2:=by rw[<-o];simp
 have V:AnyZI.ApAt Tryz.nw a l m a.heap.size (b.heap.size+1) b.heap.size [] e:=
  ⟨
   ⟨_,(U a.heap.size af).trans R,⟨rfl,.inl ⟨rfl,rfl⟩⟩,by simp⟩,
   by rw[<-o];have:=World.alloc_heap_new (b.alloc (.deferred (some []))) (.loop (AnyZI.apRec Tryz.nw l m a.heap.size b.heap.size .ready none));rwa[World.size_alloc]at this,
   by rw[<-o];exact(Below.heap_alloc _ _ _ aj).trans (World.alloc_heap_new b _),y⟩
 refine⟨b.heap.size+1,[{target:=.collected b.heap.size,args:=#[]}],e,{target:=.fn (.func 186) #[.pointer (some ⟨f,0,none⟩)],args:=#[.func (.yield (b.heap.size+1)) #[] #[]]},e,186,
  #[.func (.yield (b.heap.size+1)) #[] #[]]++#[.pointer (some ⟨f,0,none⟩)],e,?_,?_,?_,?_,λ_=>M,?_⟩
 ·rw[<-o,S];exact run_enterLoop_outer _ _ _ _ _
 ·simp[resolve,go_sem]
 ·intro o j;simp[Target.leads]at j;subst j;exact x
 ·simp[invoke,go_sem,N]
 have W:e.cell? ⟨f,0,none⟩=some (.slice (some ⟨r,t,none⟩) c.length v):=(y.cell (p:=⟨f,0,none⟩) H).trans I;refine(Dq k (n-1) x u af (b.heap.size+1) f a.heap.size r t v c G a (AnyZI.ApAt Tryz.nw a l m a.heap.size (b.heap.size+1) b.heap.size) (λ_ _ h=>h.below) F
  (
   λf j o q r=>by
   have h:=AnyZI.apYield Tryz.Dp k (n-1-1) a l O m a.heap.size (b.heap.size+1) b.heap.size af af af (Nat.le_refl _) af c.length cc af f j o q r;obtain⟨s,z,A,B,C,D⟩:=h;exact⟨s,z,A,B,C,D.mono (λd f h=>⟨h.1,h.2.1⟩)⟩) e W J V).mono ?_
 rintro d z ⟨⟨e,rfl⟩,q⟩;obtain⟨g,f,e,X⟩:=q.box;have A:=run_endLoop (P:=prog) q.L (by simp[AnyZI.apRec]);obtain⟨j,s⟩:∃j,z.putObj (b.heap.size+1) (.loop {AnyZI.apRec Tryz.nw l m a.heap.size b.heap.size .ready none with state:=.exhausted})=j:=⟨_,rfl⟩;rw[s]at A;have B:z.grownBy j (some (b.heap.size+1)):=by rw[<-s];exact grownBy_putObj_a _ _ _
 have Y:j.heap[a.heap.size]?=some (.cells #[g] 60 (0,0)):=by rw[<-s];exact(World.putObj_heap_other af).trans f
 have C:j.heap[b.heap.size]?=some (.deferred (some [])):=by rw[<-s];exact(World.putObj_heap_other af).trans q.K
 have D:j.ownsRow a.heap.size 3 1 g c.length (c.map encZ):=e.kept B (ownsRow_ne_a e q.L (λb d=>by cases d));have E:Below a.heap.size a j:=q.below.grown B q.below.size (λi d=>by cases d;omega);obtain⟨a,b⟩:=cell_of_box_a Y;clear s;refine⟨none,j,A,?_⟩;gi_wp2
 rw[<-Q];refine⟨by simp,.inl ⟨_,_,rfl,run_takeDeferred C,?_⟩⟩;exact⟨_,results_tmp rfl _ _ _,g,rfl,D.kept (grownBy_putObj_a _ _ _) (ownsRow_ne_a D C (λa d=>by cases d)),X,E.grown (grownBy_putObj_a _ _ _) E.size (λi d=>by cases d;omega)⟩
theorem Ds (g l o i:Nat) (a:List Int) (w:a.length<=1000000) (b:ah) (f:l<b.heap.size) (y:g<b.heap.size)
 (z:ae b (ac g 0) (O (some ⟨l,o,none⟩) a.length i)) (A:∀m (s:m<a.length),ae b (ac l (o+m)) (J a[m])):
 Calls prog 111 #[.func (.func 186) #[] #[ak g]] b λd c=>∃v:Value,d=.returned v/\c.ownsRow b.heap.size 3 1 v a.length ((a.mergeSort λx p=>decide (x<=p)).map encZ)/\Below b.heap.size b c:=by
 refine(callsIn_wide (n:=6)).1 ?_;have l:=Dr Fence.wide 4 trivial trivial rfl af g l o i a w b f y z A;have B:CallsIn Fence.wide 5 prog 184 #[.func (.func 186) #[] #[ak g]] b λd c=>∃v:Value,d=.returned v/\c.ownsRow b.heap.size 3 1 v a.length (a.map encZ)/\(v=.slice none 0 0↔a=[])/\Below b.heap.size b c:=by
  have b:Fence.wide.fn 263:=trivial;refine callsIn_of_wp func184 rfl trivial ?_ rfl;simp only[ntmps184,List.size_toArray,List.length_cons,List.length_nil,Nat.reduceAdd,Nat.reduceSub,Array.replicate_succ,Array.replicate_zero,List.push_toArray,List.append_toArray,List.nil_append,List.cons_append];gi_wp2_with (gi_at_call 263;refine l.mono ?_;rintro d c ⟨v,rfl,k,r,f⟩)
  go_ret;exact⟨v,rfl,k,r,f⟩
 have b:Fence.wide.fn 184:=trivial;have b:Fence.wide.fn 185:=trivial;refine callsIn_of_wp func111 rfl trivial ?_ rfl;simp only[ntmps111,List.size_toArray,List.length_cons,List.length_nil,Nat.reduceAdd,Nat.reduceSub,Array.replicate_succ,Array.replicate_zero,List.push_toArray,List.append_toArray,List.nil_append,List.cons_append];gi_wp2_with (gi_at_call 184;refine B.mono ?_;rintro d e ⟨v,rfl,k,r,f⟩)
 rcases k.2 with⟨rfl,C⟩|⟨j,i,H,rfl,t,q,D,E,F,G⟩
 ·have u:a=[]:=List.eq_nil_of_length_eq_zero C
  subst u;have b:CallsIn Fence.wide 5 prog 185 #[ab] e λd c=>d=.returned (.tuple #[])/\c=e:=callsIn_wide.2 (Tryz.slices_Sort_int_none none 0 e);gi_wp2_with (gi_at_call 185;refine b.mono ?_;rintro d c ⟨rfl,rfl⟩)
  go_ret;exact⟨.slice none 0 0,rfl,by simpa using k,f⟩
 have b:Holds encZ e j 0 a.toArray:=holds_of_block_i q (by simpa using G);have g:j<e.heap.size:=(Array.getElem?_eq_some_iff.1 q).1;have a:CallsIn Fence.wide 5 prog 185 #[O (some ⟨j,0,none⟩) a.length i] e λd c=>d=.returned (.tuple #[])/\∃l u,c=grow (putRow encZ (Sort.ahead e l) j 0 (a.mergeSort λx p=>decide (x<=p)).toArray) u:=callsIn_wide.2 (Tryz.slices_Sort_int j 0 i a e b g af);gi_wp2_with (gi_at_call 185;refine a.mono ?_;rintro d c ⟨rfl,I,u,rfl⟩)
 go_ret;exact⟨_,rfl,ownsRow_sorted_i aj t q D E F,f.grown (grownBy_sorted_i _) f.size (λm s=>by cases s;exact t)⟩
theorem Dt (h:Hd) (a:ah):Calls prog 112 #[h.val] a λb c=>b=.returned (.func (.func 186) #[] #[ak a.heap.size])/\c=a.alloc (.cells #[h.val] 60):=by
 obtain⟨d,e,f⟩:=h;have b:∀(b:Fn) (first cap:aQ) (a:ah),(Instr.makeFunc b first cap).run prog a=.ok (.func b first cap) a:=λ_ _ _ _=>rfl;show Calls prog 112 #[O d e f] a _;go_enter func112,ntmps112
 go_wp2;go_ret;exact⟨rfl,rfl⟩
theorem b1 {i:Type} {b:Nat} {c a:ah} {l:List Nat} {e at_:Int} {d j:RO i} {f:Ending->World->Prop} (g:Kp l c a) (k:d=RO.ap false e at_ j) (m:ae a (ac b 8) at_)
 (
  hb:Kp l c a->Hid (d=.bad e at_)->f (.panicked [{v:=fD e at_,recovered:=false}]) a:=by
  (
   intro K HX;first
   |(refine⟨rfl,?_⟩;rw[HX.out];first|exact⟨rfl,K.same⟩|exact⟨K,rfl⟩)
   |(go_wp2;refine⟨rfl,?_⟩;rw[HX.out];first|exact⟨rfl,K.same⟩|exact⟨K,rfl⟩))):
 Calls prog 107 #[ak b,.bool false,e] a f:=
 fN g k m (λh _=>hb g h) (λ_ h=>by cases h)
theorem bV {g:Type} {b:Nat} {w a:ah} {l:List Nat} {c d:Int} {e f:RO g} {g:Ending->World->Prop} (i:Kp l w a) (j:e=RO.ap true c d f) (k:ae a (ac b 8) d)
 (m:Hid (e=f)->g (.returned (.tuple #[])) a):
 Calls prog 107 #[ak b,.bool true,c] a g:=
 fN i j k (λ_ h=>by cases h) (λh _=>m h)
theorem wh:∀(c d:List At),c.length≠d.length->d9 c d=false
 |[],[],h=>absurd rfl h
 |[],_::_,_=>rfl
 |_::_,[],_=>rfl
 |a::c,b::d,h=>by
  show((decide (a.name=b.name)&&decide (a.kind=b.kind))&&d9 c d)=false;rw[wh c d (λc=>h (by simp[c]))];simp
theorem Du {b c:List At} {a:Nat} (d:a<b.length) (e:a<c.length):d9 (b.drop a) (c.drop a)=((decide (b[a].name=c[a].name)&&decide (b[a].kind=c[a].kind))&&d9 (b.drop (a+1)) (c.drop (a+1))):=by
 rw[List.drop_eq_getElem_cons d,List.drop_eq_getElem_cons e];rfl
theorem Dv (d e:RA) (f:ah):Calls prog 276 #[.agg d.cells.toArray,.agg e.cells.toArray] f λi j=>i=.returned (.bool (decide (d.at_.name=e.at_.name)&&decide (d.at_.kind=e.at_.kind)))/\ag f j:=by
 obtain⟨⟨a,k,z,⟨m,n,o⟩⟩,⟨p,q,r⟩⟩:=d;obtain⟨⟨b,l,A,⟨s,t,u⟩⟩,⟨v,w,x⟩⟩:=e;show Calls prog 276 #[.agg #[a,k,O p q r,m,n,o],.agg #[b,l,O v w x,s,t,u]] f λi j=>i=.returned (.bool (decide (a=b)&&decide (k=l)))/\ag f j;have g:=jV a b;by_cases c:a=b
 ·have d:(a.toList==b.toList)=true:=by rw[g];simp;exact c
  have y:=Z c;clear g c;go_enter func276,ntmps276
  go_wp2;go_ret;exact⟨cj (by by_cases h:k=l<;>simp[y.out,h]),((ag.refl _).alloc _).alloc _⟩
 have a:(a.toList==b.toList)=false:=by rw[g];simp;exact c
 have y:=Z c;clear g c;go_enter func276,ntmps276
 go_wp2;go_ret;exact⟨cj (by simp[y.out]),((ag.refl _).alloc _).alloc _⟩
theorem wi (r s:Hd) (a b:List RA) (c:ah) (k:fp c r a) (l:fp c s b):
 Calls prog 275 #[r.val,s.val,.func (.func 276) #[] #[]] c λg t=>g=.returned (.bool (d9 (a.map RA.at_) (b.map RA.at_)))/\ag c t:=by
 have an:=Z k;have ao:=Z l;have B:=k.1.1;have C:=l.1.1;have ap:=k.1.2.1;have aq:=l.1.2.1;clear k l;obtain⟨ar,au,aw⟩:=r;obtain⟨ax,ay,az⟩:=s;simp only at B C ap aq;show Calls prog 275 #[O ar au aw,O ax ay az,.func (.func 276) #[] #[]] c _;subst B C;have u:Hid ((a.map RA.at_).length=a.length):=List.length_map _;have v:Hid ((b.map RA.at_).length=b.length):=List.length_map _;obtain⟨aA,k⟩:=av (d9 (a.map RA.at_) (b.map RA.at_));rw[<-k];have D:=Z k;clear k;have k:∀k c,(callFunc 276 k).run prog c=.ok (.enter 276 k) c:=enters_of func276 am rfl;by_cases m:a.length=b.length
 case neg=>
  have e:((a.length:Int) !=(b.length:Int))=true:=aF
  have d:=Z m;clear m;go_enter func275,ntmps275
  go_wp2;go_ret;exact⟨cj (by rw[D.out,wh _ _ (by rw[u.out,v.out];exact d.out)]),ag.refl _⟩
 have k:((a.length:Int) !=(b.length:Int))=false:=aF
 have E:=Z m;clear m;go_enter func275,ntmps275
 go_wp2;go_loopw [17] (λe wr=>∃d:Nat,d<=a.length/\e=.int .i64 d/\Hid (ag c wr)/\Hid (aA=d9 ((a.map RA.at_).drop d) ((b.map RA.at_).drop d))) (λd _=>a.length-(intOf d).toNat)
 case atStart=>exact⟨0,Nat.zero_le _,rfl,ag.refl c,D⟩
 obtain⟨d,aG,rfl,i,w⟩:=hrel;by_cases c:d<a.length
 ·have k:d<b.length:=omg E
  obtain⟨l,m,aB,r,e⟩:=(an.1.same i).2.2 d c;obtain⟨l,m,aC,r,f⟩:=(ao.1.same i).2.2 d k;have j:=Z (w.trans (Du (by rw[u.out];exact c) (by rw[v.out];exact k)));simp only[List.getElem_map]at j;obtain⟨F,G⟩:=av (a[d]);obtain⟨H,I⟩:=av (b[d]);rw[<-G]at e j;rw[<-I]at f j;have J:=Z (λc=>Dv F H c);obtain⟨⟨n,o,aH,⟨K,L,M⟩⟩,⟨N,P,Q⟩⟩:=F;obtain⟨⟨p,q,aI,⟨R,S,T⟩⟩,⟨U,V,W⟩⟩:=H;have x:Hid (∀c,Calls prog 276 #[.agg #[n,o,O N P Q,K,L,M],.agg #[p,q,O U V W,R,S,T]] c λg k=>g=.returned (.bool (decide (n=p)&&decide (o=q)))/\ag c k):=J;have y:=j;clear J j w;have z:=e 0 n rfl;have X:=e 1 o rfl;have Y:=e 2 (O N P Q) rfl;have aa:=e 3 K rfl;have ab:=e 4 L rfl;have ac:=e 5 M rfl;have A:=f 0 p rfl;have ad:=f 1 q rfl;have ae:=f 2 (O U V W) rfl;have ai:=f 3 R rfl;have aj:=f 4 S rfl;have ak:=f 5 T rfl;simp only[Nat.add_zero]at z A;clear e f G I;subst aB aC;have a:(d:Int)<(a.length:Int):=by omega
  have a:(d:Int)<(b.length:Int):=af
  have a:(0:Int)<=(d:Int):=af
  generalize (decide (n=p)&&decide (o=q))=aD at x y;cases aD
  case true=>
   go_wp2_with fail
   refine(x _).mono ?_;rintro g t ⟨rfl,al⟩;have aE:=Z ((((ag.refl wr).alloc _).alloc _).trans al);clear al z X Y aa ab ac A ad ae ai aj ak;go_wp2;go_roundw
   case rel=>exact⟨d+1,by omega,by go_num,i.out.trans aE.out,Z (by rw[y.out];rfl)⟩
   simp[intOf];omega
  go_wp2_with fail
  refine(x _).mono ?_;rintro g t ⟨rfl,al⟩;have aE:=Z ((((ag.refl wr).alloc _).alloc _).trans al);clear al z X Y aa ab ac A ad ae ai aj ak;go_wp2;go_ret;exact⟨cj (by rw[y.out];rfl),i.trans aE⟩
 go_wp2;go_ret;exact⟨cj (by rw[w.out,List.drop_of_length_le (by rw[u.out];omega),List.drop_of_length_le (by rw[v.out];have:=E.out;omega)];rfl),i⟩
end Go.Proofs.YteamkimbmdgdbaaGreatDoor
