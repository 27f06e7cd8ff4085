import Derived.Test.YteamkimbmdgdbaaGreatDoorK01
set_option linter.unusedSimpArgs false
set_option linter.unusedVariables false
set_option maxHeartbeats 16000000
set_option maxRecDepth 100000
namespace Go.Proofs.YteamkimbmdgdbaaGreatDoor
open Go.Proofs.Tryz
open Go.RowKit
section
variable {α:Type} {enc:α->List Value} {m:Nat}
theorem ng (c:∀b,(enc b).length=m) (a:List α):(a.flatMap enc).length=a.length*m:=by
 induction a with
 |nil=>simp
 |cons b a d=>rw[List.flatMap_cons,List.length_append,d,c,List.length_cons,Nat.add_mul];omega
theorem mf (d:∀e,(enc e).length=m):∀(c:List α) (a:Nat) (f:a<c.length) (b:Nat),b<m->(c.flatMap enc)[a*m+b]?=(enc c[a])[b]?
 |e::c,0,_,b,hj=>by
  rw[List.flatMap_cons,List.getElem?_append_left (by rw[d];omega)];simp
 |e::c,a+1,f,b,hj=>by
  have e:a<c.length:=by simpa using f
  have f:(a+1)*m+b=m+(a*m+b):=oR
  rw[List.flatMap_cons,f,List.getElem?_append_right (by rw[d];omega),d,Nat.add_sub_cancel_left,mf d c a e b hj];rfl
theorem BL (g:∀c,(enc c).length=m) (b:List α) (a:Nat) (i:aA) (j:(b.flatMap enc)[a]?=some i):∃c,∃d:c<b.length,∃e,e<m/\a=c*m+e/\(enc b[c])[e]?=some i:=by
 have f:a<(b.flatMap enc).length:=(List.getElem?_eq_some_iff.1 j).1;rw[ng g]at f;have k:0<m:=by
  rcases Nat.eq_zero_or_pos m with h|h
  ·subst h;simp at f
  exact h
 have d:a/m<b.length:=Nat.div_lt_of_lt_mul (by rw[Nat.mul_comm];exact f);have c:a%m<m:=Nat.mod_lt _ k;have e:a=a/m*m+a%m:=by rw[Nat.mul_comm];exact(Nat.div_add_mod a m).symm
 refine⟨a/m,d,a%m,c,e,?_⟩;rw[<-mf g b _ d _ c,<-e];exact j
theorem qh {e:ah} {h:Hd} {b:List α} (f:∀j,(enc j).length=m) (c:aE e m h enc b):cA e e.heap.size m h.a h.n (b.flatMap enc):=by
 refine⟨by rw[ng f,c.1],λe=>?_⟩;have j:0<b.length:=by rw[c.1];exact e
 obtain⟨e,j,g,k,_⟩:=c.2.2 0 j;refine⟨⟨e,j,none⟩,g,k,λl i o=>?_⟩;obtain⟨p,q,r,u,rfl,s⟩:=BL f b l i o;obtain⟨b,c,d,_,t⟩:=c.2.2 p q;rw[g]at d;injection d with d
 injection d with e1 e2
 subst e1 e2;rw[<-t r i s];unfold Addr.add;split<;>simp_all [Nat.add_assoc]
theorem cJ {w:ah} {base:Nat} {e:aX} {h:Hd} {xs:List α} (g:∀x,(enc x).length=m) (j:xs.length=h.n) (k:h.n<=9223372036854775807) (d:w.ownsRow base e m h.val h.n (xs.flatMap enc)):aE w m h enc xs:=by
 refine⟨j,k,λb l=>?_⟩;obtain⟨f,j,i,k,o⟩:=d.form af;have p:h.a=some ⟨f,0,none⟩:=by
  have:Value.slice h.a h.n h.c=.slice (some ⟨f,0,none⟩) h.n j:=i;injection this
 refine⟨f,0,p,o,λf j j=>?_⟩;have k:f<m:=by rw[<-g xs[b]];exact(List.getElem?_eq_some_iff.1 j).1
 rw[i]at d;have i:b*m+f<h.n*m:=by
  have:(b+1)*m<=h.n*m:=Nat.mul_le_mul_right m af;rw[Nat.add_mul]at this;omega
 rw[Nat.zero_add,d.cellAt _ i,mf g xs b l f k];exact j
end
theorem oS {a:ah} {b:Nat} {c:aX} {m n:Nat} {v:aA} {d:aP} (o:a.ownsRow b c m v n d):∃a b,v=.slice a n b:=by
 rcases o.2 with⟨rfl,rfl⟩|⟨e,f,_,rfl,_⟩
 ·exact⟨_,_,rfl⟩
 exact⟨_,_,rfl⟩
def jr (a:UInt8):Bool:=decide (97<=(a|||32))&&decide ((a|||32)<=122)
def dJ (a:UInt8):Bool:=decide (48<=a)&&decide (a<=57)
def fC (a:UInt8):Bool:=jr a||(dJ a||decide (a=95))
def cm (a:UInt8->Bool):List UInt8->Nat
 |[]=>0
 |c::l=>if a c then cm a l+1 else 0
def cV:Bool->List UInt8->Nat
 |_,[]=>0
 |true,c::l=>if c=10 then cV false l+1 else cV true l+1
 |false,c::l=>if c=32\/c=9\/c=10 then cV false l+1 else if c=35 then cV true l+1 else 0
def gU (a:bR):Nat:=a.foldl (λa b=>a*10+(b.toNat-48)) 0
inductive Rd where
 |none
 |tok (k:Int) (t:bR) (n:Int) (len:Nat)
 |bad (e:Int)
 deriving DecidableEq
def kc (a:bR):Rd:=
 if jr (a.headD 0)then(if 24<cm fC a then .bad 3 else .tok 1 (a.take (cm fC a)) 0 (cm fC a))else .none
def kd (a:bR):Rd:=
 if cm dJ a=0 then .none else if 10<cm dJ a\/cm dJ a<cm fC a then .bad 6
 else .tok 2 (a.take (cm dJ a)) (gU (a.take (cm dJ a))) (cm dJ a)
def du:List UInt8->List UInt8->Nat->Rd
 |[],_,_=>.bad 7
 |c::l,out,n=>
  if c=34 then(if 200<out.length then .bad 3 else .tok 3 out 0 (n+2))
  else if c=10 then .bad 5
  else if c=92 then
   match l with
   |[]=>.bad 7
   |d::l'=>if d=34 then du l' (out++[34]) (n+2)else if d=92 then du l' (out++[92]) (n+2)else if d=110 then du l' (out++[10]) (n+2)else .bad 5
  else du l (out++[c]) (n+1)
def js (a:bR):Rd:=if a.headD 0=34 then du a.tail [] 0 else .none
def nj:List UInt8:=[59,58,44,46,40,41,123,125,61,60,43,45,47,64]
def hL (a:bR):Rd:=
 if a.take 2=[33,61]\/a.take 2=[60,61]then .tok 4 (a.take 2) 0 2
 else if nj.contains (a.headD 0)then .tok 4 (a.take 1) 0 1 else .none
def oY (a:bR):Rd:=
 match kc a with
 |.none=>
  match kd a with
  |.none=>
   match js a with
   |.none=>match hL a with|.none=>.bad 5|r=>r
   |r=>r
  |r=>r
 |r=>r
def hO:Nat->List UInt8->Nat->List aq->List aq×Int×Int
 |0,_,_,ts=>(ts,0,0)
 |_+1,[],_,ts=>(ts,0,0)
 |f+1,a::l,at_,ts=>
  match oY (a::l)with
  |.none=>([],5,at_)
  |.bad e=>([],e,at_)
  |.tok k t n len=>
   if ts.length=5000 then([],3,at_)
   else hO f (((a::l).drop len).drop (cV false ((a::l).drop len))) (at_+len+cV false ((a::l).drop len)) (ts++[⟨k,ee t,n,at_⟩])
def dD (l:bR):List aq×Int×Int:=
 if 20000<l.length then([],3,-1)else hO (l.length+1) (l.drop (cV false l)) (cV false l) []
theorem ke {a b:Bool} (h:a=b):Ending.returned (.bool a)=.returned (.bool b):=by rw[h]
theorem iC {a:IntKind} {b c:Int} (h:b=c):Ending.returned (.int a b)=.returned (.int a c):=by rw[h]
def mi (c:Nat) (d:UInt8->Bool):Prop:=∀(a:UInt8) (b:ah),Calls prog c #[.int .u8 (a.toNat:Int)] b λc e=>c=.returned (.bool (d a))/\b=e
theorem B2 (a:UInt8):bits .or .u8 (a.toNat:Int) 32=((a|||32).toNat:Int):=by
 have h:∀b:Fin 256,bits .or .u8 ((UInt8.ofNat b.val).toNat:Int) 32=((UInt8.ofNat b.val|||32).toNat:Int):=by decide+kernel
 have:=h ⟨a.toNat,a.toNat_lt⟩;simpa using this
theorem vI:mi 156 dJ:=by
 intro a b;have b:decide ((48:UInt8)<=a)=decide ((48:Int)<=(a.toNat:Int)):=by simp[UInt8.le_iff_toNat_le];omega
 have c:decide (a<=57)=decide ((a.toNat:Int)<=57):=by simp[UInt8.le_iff_toNat_le];omega
 have HE:Hid (dJ a=(decide ((48:Int)<=(a.toNat:Int))&&decide ((a.toNat:Int)<=57))):=Z (by unfold dJ;rw[b,c]);clear b c;go_enter func156,ntmps156
 exact r9
theorem vJ:mi 153 jr:=by
 intro b e;have d:=B2 b;generalize c:b|||32=a at d
 have d:decide ((97:UInt8)<=a)=decide ((97:Int)<=(a.toNat:Int)):=by simp[UInt8.le_iff_toNat_le];omega
 have e:decide (a<=122)=decide ((a.toNat:Int)<=122):=by simp[UInt8.le_iff_toNat_le];omega
 have HE:Hid (jr b=(decide ((97:Int)<=(a.toNat:Int))&&decide ((a.toNat:Int)<=122))):=Z (by unfold jr;rw[c,d,e]);clear d e c;go_enter func153,ntmps153
 exact r9
theorem vK:mi 155 fC:=by
 intro a i;have c:=Z (vJ a);have d:=Z (vI a);have e:decide (a=95)=((a.toNat:Int)==95):=by
  rw[Bool.eq_iff_iff];simp[<-UInt8.toNat_inj];omega
 have b:Hid (fC a=(jr a||(dJ a||((a.toNat:Int)==95)))):=Z (by unfold fC;rw[e]);clear e;generalize jr a=f at c b;generalize dJ a=g at d b;generalize fC a=j at b⊢;cases f<;>cases g
 all_goals
  go_enter func155,ntmps155
  go_wp2_with (first|(go_at_call 153;refine(c.out _).mono ?_;rintro a a ⟨rfl,rfl⟩)|(go_at_call 156;refine(d.out _).mono ?_;rintro a a ⟨rfl,rfl⟩))
  go_ret;exact⟨ke (by rw[b.out];simp),rfl⟩
theorem B3:mi 160 (λa=>!decide (a=10)):=by
 intro a b;have c:(!decide (a=10))=((a.toNat:Int) !=10):=by
  rw[Bool.eq_iff_iff];simp[<-UInt8.toNat_inj];omega
 have d:=Z c;show Calls prog _ _ b λe f=>e=.returned (.bool (!decide (a=10)))/\b=f;clear c;generalize (!decide (a=10))=g at d⊢;go_enter func160,ntmps160
 go_wp2;go_ret;exact⟨ke d.out.symm,rfl⟩
structure vL (w:ah) (B:Nat) (s:ax) (a:Nat):Prop where
 text:ae w (ac B 0) s
 off:ae w (ac B 1) a
theorem kf (c:Nat) (e:Int) (a:Nat) (b:ah) (d:ae b (ac c 1) a):
 Calls prog 86 #[ak c,e] b λc d=>c=.panicked [{v:=.iface 178 (.agg #[e,a]),recovered:=false}]/\b=d:=by
 go_enter func86,ntmps86
 go_wp2;exact⟨rfl,rfl,rfl⟩
theorem Cn (a:Nat) (c:ax) (d:ah) (e:a<d.heap.size) (j:ae d (ac a 0) c) (k:List RT):
 gD 79 #[ak a] d (λb=>.agg b.cells.toArray) (λb:RT=>decide (b.name=c)) k:=by
 intro b _ f g;have d:=(g.cell e).trans j;have d:=aV e g.size;have d:a≠f.heap.size:=af
 obtain⟨i,⟨l,m,n⟩,r,⟨o,p,q⟩,s⟩:=b;clear j e g;show Calls prog 79 #[.agg #[i,O l m n,O o p q],ak a] f λa b=>a=.returned (.bool (decide (i=c)))/\ag f b;have a:=jV i c;go_enter func79,ntmps79
 go_wp2;go_ret;exact⟨cj aj,(ag.refl _).alloc _⟩
theorem sd (h:Hd) (b:List RT) (a:ax) (w:ah) (i:bI w h b):
 Calls prog 41 #[.agg #[h.val],a] w λd f=>d=.returned (J (cE (b.map RT.tb) a))/\ag w f:=by
 have j:∀e w,(callFunc 79 e).run prog w=.ok (.enter 79 e) w:=enters_of func79 am rfl;have g:=Z (λ(c:ah) (k:ag w c) (e:Nat) (l:e<c.heap.size) (m:ae c (ac e 0) a)=>
  AO 79 #[ak e] j h RT.cells (λn=>⟨_,_,_,rfl⟩) (λn:RT=>decide (n.name=a)) b c (i.same k).1 (Cn e a c l m b))
 have k:Hid (cE (b.map RT.tb) a=co (λc:RT=>decide (c.name=a)) b):=qc RT.tb _ b;obtain⟨p,b⟩:=av (co (λc:RT=>decide (c.name=a)) b);rw[<-b]at g k;clear b i j;obtain⟨l,m,n⟩:=h;have q:Hid (∀(b:ah),ag w b->∀c,c<b.heap.size->ae b (ac c 0) a->Calls prog 78 #[O l m n,.func (.func 79) #[] #[ak c]] b λd f=>d=.returned p/\ag b f):=g;clear g;show Calls prog 41 #[.agg #[O l m n],a] w _;go_enter func41,ntmps41
 go_wp2_with (go_at_call 78;refine(q.out _ ?_ _ ?_ ?_).mono ?_;exact((ag.refl w).alloc _).alloc _;simp;simp;rintro d a ⟨rfl,c⟩;have o:=Z c;have a:=c.cells;have a:=c.size;clear c)
 go_ret;exact⟨eg k.symm,(((ag.refl w).alloc _).alloc _).trans o⟩
theorem Co (a:Nat) (c:ax) (d:ah) (e:a<d.heap.size) (j:ae d (ac a 0) c) (k:List RA):
 gD 103 #[ak a] d (λb=>.agg b.cells.toArray) (λb:RA=>decide (b.at_.name=c)) k:=by
 intro b _ f g;have d:=(g.cell e).trans j;have d:=aV e g.size;have d:a≠f.heap.size:=af
 obtain⟨⟨i,l,s,⟨m,n,o⟩⟩,⟨p,q,r⟩⟩:=b;clear j e g;show Calls prog 103 #[.agg #[i,l,O p q r,m,n,o],ak a] f λa b=>a=.returned (.bool (decide (i=c)))/\ag f b;have a:=jV i c;go_enter func103,ntmps103
 go_wp2;go_ret;exact⟨cj aj,(ag.refl _).alloc _⟩
theorem Cp (b:Nat) (c:ax) (e:ah) (g:b<e.heap.size) (k:ae e (ac b 0) c) (l:List RA) (m:∀a∈l,b5 e a.h a.at_.was):
 gD 104 #[ak b] e (λa=>.agg a.cells.toArray) (λa:RA=>a.at_.was.any λi=>decide (i=c)) l:=by
 intro a n d f;have e:=(f.cell g).trans k;have e:=aV g f.size;have e:b≠d.heap.size:=af
 have j:=Z (λe (j:ag d e)=>rV a.h a.at_.was c e ((m a n).same (f.trans j)));dsimp only;generalize (a.at_.was.any λi=>decide (i=c))=o at j⊢;obtain⟨⟨t,u,z,⟨v,w,x⟩⟩,⟨p,q,r⟩⟩:=a;clear k g f n m;have y:Hid (∀a,ag d a->Calls prog 105 #[O p q r,c] a λc e=>c=.returned (.bool o)/\a=e):=j;clear j;show Calls prog 104 #[.agg #[t,u,O p q r,v,w,x],ak b] d λs a=>s=.returned (.bool o)/\ag d a;go_enter func104,ntmps104
 go_wp2_with (go_at_call 105;refine(y.out _ ?_).mono ?_;exact(ag.refl _).alloc _;rintro s a ⟨rfl,rfl⟩)
 go_ret;exact⟨rfl,(ag.refl _).alloc _⟩
theorem qq (a:RT) (b:ax) (w:ah) (c:fq w a):
 Calls prog 55 #[a.val,b] w λd f=>d=.returned (J (bu a.tb.attrs b))/\ag w f:=by
 have q:∀g w,(callFunc 103 g).run prog w=.ok (.enter 103 g) w:=enters_of func103 am rfl;have r:∀g w,(callFunc 104 g).run prog w=.ok (.enter 104 g) w:=enters_of func104 am rfl;have j:=Z (λ(e:ah) (i:ag w e) (g:Nat) (k:g<e.heap.size) (l:ae e (ac g 0) b)=>
  rQ 103 #[ak g] q a.ha RA.cells (λa=>⟨_,_,_,_,_,_,rfl⟩) (λm:RA=>decide (m.at_.name=b)) a.ra e (c.1.same i).1 (Co g b e k l a.ra))
 have k:=Z (λ(e:ah) (i:ag w e) (g:Nat) (l:g<e.heap.size) (m:ae e (ac g 0) b)=>
  rQ 104 #[ak g] r a.ha RA.cells (λa=>⟨_,_,_,_,_,_,rfl⟩) (λn:RA=>n.at_.was.any λn=>decide (n=b)) a.ra e (c.1.same i).1 (Cp g b e l m a.ra (λe g=>((c.1.same i).2 e g).1)))
 have s:co (λc:At=>decide (c.name=b)) (a.ra.map RA.at_)=co (λe:RA=>decide (e.at_.name=b)) a.ra:=qc RA.at_ _ a.ra;have t:co (λc:At=>c.was.any λe=>decide (e=b)) (a.ra.map RA.at_)=co (λe:RA=>e.at_.was.any λe=>decide (e=b)) a.ra:=qc RA.at_ _ a.ra;have x:=lW (λe:RA=>decide (e.at_.name=b)) a.ra;have e:Hid (bu a.tb.attrs b=if 0<=co (λe:RA=>decide (e.at_.name=b)) a.ra then co (λe:RA=>decide (e.at_.name=b)) a.ra else co (λe:RA=>e.at_.was.any λe=>decide (e=b)) a.ra):=by
  show bu (a.ra.map RA.at_) b=_;unfold bu;rw[s,t]
 generalize co (λg:RA=>decide (g.at_.name=b)) a.ra=u at j e;generalize co (λg:RA=>g.at_.was.any λg=>decide (g=b)) a.ra=y at k e;generalize bu a.tb.attrs b=I at e⊢;clear s t x c q r;obtain⟨z,⟨l,m,n⟩,K,⟨A,B,C⟩,L⟩:=a;have D:Hid (∀(a:ah),ag w a->∀c,c<a.heap.size->ae a (ac c 0) b->Calls prog 102 #[O l m n,.func (.func 103) #[] #[ak c]] a λd f=>d=.returned u/\ag a f):=j;have E:Hid (∀(a:ah),ag w a->∀c,c<a.heap.size->ae a (ac c 0) b->Calls prog 102 #[O l m n,.func (.func 104) #[] #[ak c]] a λd f=>d=.returned y/\ag a f):=k;clear j k;show Calls prog 55 #[.agg #[z,O l m n,O A B C],b] w _;go_enter func55,ntmps55
 go_wp2_with fail
 refine(D _ ?_ _ ?_ ?_).mono ?_
 ·exact((ag.refl w).alloc _).alloc _
 ·simp
 ·simp
 rintro d a ⟨rfl,i⟩;have o:=Z ((((ag.refl w).alloc _).alloc _).trans i);have F:=i.cells;have G:=i.size;clear i;by_cases p:0<=u
 ·rw[if_pos p]at e
  go_wp2;go_ret;exact⟨eg e.symm,o⟩
 rw[if_neg p]at e;have a:=p;go_wp2_with fail
 refine(E _ o _ ?_ ?_).mono ?_
 ·simp at G;omega
 ·rw[F _ _ aj];simp
 rintro d a ⟨rfl,v⟩;have H:=Z (o.trans v);clear v;go_wp2;go_ret;exact⟨eg e.symm,H⟩
theorem qN (a:ah) (b:aX) (c:Nat):(a.alloc (.cells #[] b)).ownsRow a.heap.size b c (O (some ⟨a.heap.size,0,none⟩) 0 0) 0 []:=
 ⟨by simp,.inr ⟨a.heap.size,0,#[],rfl,Nat.le_refl _,heap_alloc_new a _,Nat.le_refl _,Nat.zero_le _,by simp,by simp⟩⟩
theorem Tryz.EG:(prog.info? 81).map (λa=>(a.zero,a.size,a.bytes))=some (some (.agg #[ByteArray.empty,ab,ab]),3,64):=am
theorem EH {e:Type} (h:Hd) (b:e->List Value) (i:∀c,(b c).length=3) (j:∀c,∀l∈b c,l.oneCell'=true) (xs:List e) (w:ah) (d:aE w 3 h b xs) (s:h.n<=1000000000):
 Calls prog 52 #[h.val] w λl e=>l=.returned ab/\xs=[]/\ag w e\/∃a g,l=.returned (O (some ⟨g,0,none⟩) xs.length a)/\ag w e/\e.ownsRow w.heap.size 81 3 (O (some ⟨g,0,none⟩) xs.length a) xs.length (xs.flatMap b):=by
 obtain⟨t,u,v,x,y⟩:=info_parts Tryz.EG;have f:=qh i d;have m:=d.1;have o:∀e∈xs.flatMap b,e.oneCell'=true:=by
  intro e l;obtain⟨c,_,l⟩:=List.mem_flatMap.1 l;exact j c e l
 have p:xs=[]↔xs.length=0:=by cases xs<;>simp
 obtain⟨q,r,a⟩:=h;simp only at f m s;subst m;have HR:=Z f;have z:=Z o;have ly:=Z p;clear d i j f o p;show Calls prog 52 #[O q xs.length a] w _;have c:=λw c r a d e=>Lib.run_eql_slice_nil w _ _ c r a d e underlying27;cases q with
 |none=>
  have h0:xs.length=0:=by
   exact qO
  have A:=Z (ly.2 h0);clear h0;go_enter func52,ntmps52
  go_wp2;go_ret;exact .inl ⟨rfl,A,ag.refl _⟩
 |some A=>
  go_enter func52,ntmps52
  go_wp2_with (at_builtin;refine eL _ rfl (.tmp 5) (.tmp 6) 27 rfl w.heap.size 81 t _ 3 64 underlying27 u v x y rfl au (O (some ⟨w.heap.size,0,none⟩) 0 0) 0 [] rfl (qN w _ _) w.heap.size (some A) xs.length a (xs.flatMap b) rfl (HR.out.alloc (Nat.le_refl _) _) z.out cc af aj ?_;intro a w1 a b c;have OWN:=Z a;have G:=Z b;have d:=Z c;clear a b c)
  exact qP
theorem Tryz.sI:(prog.info? 111).map (λa=>(a.zero,a.size,a.bytes))=some (some (.agg #[ByteArray.empty,J 0,ab,J 0,J 0,ByteArray.empty]),6,80):=am
theorem wV {e:Type} (h:Hd) (b:e->List Value) (i:∀c,(b c).length=6) (j:∀c,∀l∈b c,l.oneCell'=true) (xs:List e) (w:ah) (d:aE w 6 h b xs) (s:h.n<=1000000000):
 Calls prog 53 #[h.val] w λl e=>l=.returned ab/\xs=[]/\ag w e\/∃a g,l=.returned (O (some ⟨g,0,none⟩) xs.length a)/\ag w e/\e.ownsRow w.heap.size 111 6 (O (some ⟨g,0,none⟩) xs.length a) xs.length (xs.flatMap b):=by
 obtain⟨t,u,v,x,y⟩:=info_parts Tryz.sI;have f:=qh i d;have m:=d.1;have o:∀e∈xs.flatMap b,e.oneCell'=true:=by
  intro e l;obtain⟨c,_,l⟩:=List.mem_flatMap.1 l;exact j c e l
 have p:xs=[]↔xs.length=0:=by cases xs<;>simp
 obtain⟨q,r,a⟩:=h;simp only at f m s;subst m;have HR:=Z f;have z:=Z o;have ly:=Z p;clear d i j f o p;show Calls prog 53 #[O q xs.length a] w _;have c:=λw c r a d e=>Lib.run_eql_slice_nil w _ _ c r a d e underlying79;cases q with
 |none=>
  have h0:xs.length=0:=by
   exact qO
  have A:=Z (ly.2 h0);clear h0;go_enter func53,ntmps53
  go_wp2;go_ret;exact .inl ⟨rfl,A,ag.refl _⟩
 |some A=>
  go_enter func53,ntmps53
  go_wp2_with (at_builtin;refine eL _ rfl (.tmp 5) (.tmp 6) 79 rfl w.heap.size 111 t _ 6 80 underlying79 u v x y rfl au (O (some ⟨w.heap.size,0,none⟩) 0 0) 0 [] rfl (qN w _ _) w.heap.size (some A) xs.length a (xs.flatMap b) rfl (HR.out.alloc (Nat.le_refl _) _) z.out cc af aj ?_;intro a w1 a b c;have OWN:=Z a;have G:=Z b;have d:=Z c;clear a b c)
  exact qP
theorem Tryz.EI:(prog.info? 3).map (λa=>(a.zero,a.size,a.bytes))=some (some (.int .i64 0),1,8):=am
theorem EJ {e:Type} (h:Hd) (b:e->List Value) (i:∀c,(b c).length=1) (j:∀c,∀l∈b c,l.oneCell'=true) (xs:List e) (w:ah) (d:aE w 1 h b xs) (s:h.n<=1000000000):
 Calls prog 54 #[h.val] w λl e=>l=.returned ab/\xs=[]/\ag w e\/∃a g,l=.returned (O (some ⟨g,0,none⟩) xs.length a)/\ag w e/\e.ownsRow w.heap.size 3 1 (O (some ⟨g,0,none⟩) xs.length a) xs.length (xs.flatMap b):=by
 obtain⟨t,u,v,x,y⟩:=info_parts Tryz.EI;have f:=qh i d;have m:=d.1;have o:∀e∈xs.flatMap b,e.oneCell'=true:=by
  intro e l;obtain⟨c,_,l⟩:=List.mem_flatMap.1 l;exact j c e l
 have p:xs=[]↔xs.length=0:=by cases xs<;>simp
 obtain⟨q,r,a⟩:=h;simp only at f m s;subst m;have HR:=Z f;have z:=Z o;have ly:=Z p;clear d i j f o p;show Calls prog 54 #[O q xs.length a] w _;have c:=λw c r a d e=>Lib.run_eql_slice_nil w _ _ c r a d e underlying60;cases q with
 |none=>
  have h0:xs.length=0:=by
   exact qO
  have A:=Z (ly.2 h0);clear h0;go_enter func54,ntmps54
  go_wp2;go_ret;exact .inl ⟨rfl,A,ag.refl _⟩
 |some A=>
  go_enter func54,ntmps54
  go_wp2_with (at_builtin;refine eL _ rfl (.tmp 5) (.tmp 6) 60 rfl w.heap.size 3 t _ 1 8 underlying60 u v x y rfl au (O (some ⟨w.heap.size,0,none⟩) 0 0) 0 [] rfl (qN w _ _) w.heap.size (some A) xs.length a (xs.flatMap b) rfl (HR.out.alloc (Nat.le_refl _) _) z.out cc af aj ?_;intro a w1 a b c;have OWN:=Z a;have G:=Z b;have d:=Z c;clear a b c)
  exact qP
theorem Tryz.wW:(prog.info? 9).map (λa=>(a.zero,a.size,a.bytes))=some (some (.string ByteArray.empty),1,16):=am
theorem wX {e:Type} (h:Hd) (b:e->List Value) (i:∀c,(b c).length=1) (j:∀c,∀l∈b c,l.oneCell'=true) (xs:List e) (w:ah) (d:aE w 1 h b xs) (s:h.n<=1000000000):
 Calls prog 257 #[h.val] w λl e=>l=.returned ab/\xs=[]/\ag w e\/∃a g,l=.returned (O (some ⟨g,0,none⟩) xs.length a)/\ag w e/\e.ownsRow w.heap.size 9 1 (O (some ⟨g,0,none⟩) xs.length a) xs.length (xs.flatMap b):=by
 obtain⟨t,u,v,x,y⟩:=info_parts Tryz.wW;have f:=qh i d;have m:=d.1;have o:∀e∈xs.flatMap b,e.oneCell'=true:=by
  intro e l;obtain⟨c,_,l⟩:=List.mem_flatMap.1 l;exact j c e l
 have p:xs=[]↔xs.length=0:=by cases xs<;>simp
 obtain⟨q,r,a⟩:=h;simp only at f m s;subst m;have HR:=Z f;have z:=Z o;have ly:=Z p;clear d i j f o p;show Calls prog 257 #[O q xs.length a] w _;have c:=λw c r a d e=>Lib.run_eql_slice_nil w _ _ c r a d e underlying83;cases q with
 |none=>
  have h0:xs.length=0:=by
   exact qO
  have A:=Z (ly.2 h0);clear h0;go_enter func257,ntmps257
  go_wp2;go_ret;exact .inl ⟨rfl,A,ag.refl _⟩
 |some A=>
  go_enter func257,ntmps257
  go_wp2_with (at_builtin;refine eL _ rfl (.tmp 5) (.tmp 6) 83 rfl w.heap.size 9 t _ 1 16 underlying83 u v x y rfl au (O (some ⟨w.heap.size,0,none⟩) 0 0) 0 [] rfl (qN w _ _) w.heap.size (some A) xs.length a (xs.flatMap b) rfl (HR.out.alloc (Nat.le_refl _) _) z.out cc af aj ?_;intro a w1 a b c;have OWN:=Z a;have G:=Z b;have d:=Z c;clear a b c)
  exact qP
structure bN (W0 w:ah) (g c:Nat) (ts:List RT) (i:Nat) (t:RT):Prop where
 s:ag W0 w
 row:w.ownsRow W0.heap.size 81 3 (O (some ⟨g,0,none⟩) ts.length c) ts.length (ts.flatMap RT.cells)
 ti:ts[i]?=some t
 an:t.ha.n=t.ra.length
 ar:w.ownsRow W0.heap.size 111 6 t.ha.val t.ra.length (t.ra.flatMap RA.cells)
 kn:t.hk.n=t.key.length
 kr:w.ownsRow W0.heap.size 3 1 t.hk.val t.key.length (t.key.flatMap bU)
theorem RT.eV (a:RT):a.cells.length=3:=rfl
theorem RA.eV (a:RA):a.cells.length=6:=rfl
theorem f7 {w:ah} {base:Nat} {e:aX} {m n c:Nat} {A:aU} {xs:aP} (d:w.ownsRow base e m (O A n c) n xs) (h:0<n):
 ∃a b,A=some ⟨a,0,none⟩/\base<=a/\aa w a e b/\b.size=c*m/\n<=c/\c<=maxLen/\b.toList.take (n*m)=xs:=by
 rcases d.2 with⟨_,p⟩|⟨a,q,b,f,g,i,j,k,l,o⟩
 ·omega
 injection f with e1 e2 e3
 subst e1 e3;exact⟨a,b,rfl,g,i,l,j,k,o⟩
theorem wY {g:ah} {i:Nat} {j:aX} {c a b d:Nat} {e:aQ} {f:aP} (k:i<=d) (l:aa g d j e) (m:e.size=b*c) (n:a<=b) (o:b<=maxLen) (p:e.toList.take (a*c)=f) (q:f.length=a*c):
 g.ownsRow i j c (O (some ⟨d,0,none⟩) a b) a f:=⟨q,.inr ⟨d,b,e,rfl,k,l,n,o,m,p⟩⟩
theorem EK {i:Type} {e:i->List Value} {a:Nat} (j:∀k,(e k).length=a) (d:List i) (c:Nat) (f:i) (i:c<d.length) (g:aP) (q:g.take (d.length*a)=d.flatMap e) (i:aP) (k:i.length=g.length)
 (r:∀k,k<a->i[c*a+k]?=(e f)[k]?) (s:∀b,(b<c*a\/c*a+a<=b)->i[b]?=g[b]?):i.take (d.length*a)=(d.set c f).flatMap e:=by
 apply List.ext_getElem?;intro b;rw[List.getElem?_take];have t:((d.set c f).flatMap e).length=d.length*a:=by rw[ng j,List.length_set]
 split
 ·rename_i l
  have u:0<a:=by
   rcases Nat.eq_zero_or_pos a with h|h
   ·subst h;simp at l
   exact h
  have o:b/a<d.length:=Nat.div_lt_of_lt_mul (by rw[Nat.mul_comm];exact l);have m:b%a<a:=Nat.mod_lt _ u;have n:b=b/a*a+b%a:=by rw[Nat.mul_comm];exact(Nat.div_add_mod b a).symm
  have i:b/a<(d.set c f).length:=by rw[List.length_set];exact o
  have v:(d.flatMap e)[b]?=g[b]?:=by rw[<-q,List.getElem?_take,if_pos l]
  have e:=mf j (d.set c f) (b/a) i (b%a) m;rw[<-n]at e;rw[e];by_cases p:b/a=c
  ·subst p
   have:=r (b%a) m;rw[<-n]at this;rw[this];simp
  have:b<c*a\/c*a+a<=b:=by
   rcases Nat.lt_or_gt_of_ne p with h|h
   ·left
    have:(b/a+1)*a<=c*a:=Nat.mul_le_mul_right a h;rw[Nat.add_mul]at this;omega
   right
   have:(c+1)*a<=b/a*a:=Nat.mul_le_mul_right a h;rw[Nat.add_mul]at this;omega
  rw[s b this,<-v];have a:=mf j d (b/a) o (b%a) m;rw[<-n]at a;rw[a,List.getElem_set_ne af]
 rename_i a
 rw[List.getElem?_eq_none (by rw[t];omega)]
def hU (a:aP) (b:Nat) (c:aP):List Value:=a.take b++c++a.drop (b+c.length)
theorem sJ (a:aP) (b:Nat) (c:aP) (h:b+c.length<=a.length):(hU a b c).length=a.length:=by
 simp[hU];omega
theorem qQ {d:Nat} {f:aX}:∀(g:aP) (a:Nat) (b:aP) (e:ah),aa e d f b.toArray->a+g.length<=b.length->aa (e.setCells d a g) d f (hU b a g).toArray
 |[],a,b,e,h,_=>by simpa[hU,World.setCells]using h
 |c::r,a,b,e,h,hl=>by
  simp only[List.length_cons]at hl;have d:aa (e.setCell (ac d a) c) d f (b.set a c).toArray:=by
   have:=h.aR a c;rwa[List.setIfInBounds_toArray]at this
  have d:=qQ r (a+1) (b.set a c) _ d (by rw[List.length_set];omega);have e:hU (b.set a c) (a+1) r=hU b a (c::r):=by
   unfold hU;rw[List.take_set,List.drop_set_of_lt af,List.take_add_one,List.getElem?_eq_getElem af];have f:(b.take a).length=a:=aF
   rw[show((b.take a++(some b[a]).toList).set a c)=b.take a++[c] by
    rw[List.set_append_right _ _ af,f,Nat.sub_self];rfl]
   rw[List.length_cons,show a+1+r.length=a+(r.length+1) by omega];simp
  rw[e]at d;exact d
theorem wZ (b:Nat):∀(e:aP) (c:Nat) (d:ah) (a:Nat),a≠b->(d.setCells b c e).heap[a]?=d.heap[a]?
 |[],_,_,_,_=>rfl
 |v::r,c,d,a,h=>(wZ b r (c+1) _ a h).trans (Below.heap_setCell d ⟨b,c,none⟩ v a h)
theorem w0 (c:Nat):∀(d:aP) (a:Nat) (b:ah),(b.setCells c a d).heap.size=b.heap.size
 |[],_,_=>rfl
 |v::r,a,b=>(w0 c r (a+1) _).trans (by simp[World.setCell])
theorem w4 (c:Nat):∀(d:aP) (b:Nat) (a:ah),(a.setCells c b d).os=a.os/\(a.setCells c b d).tape=a.tape/\(a.setCells c b d).output=a.output
 |[],_,_=>⟨rfl,rfl,rfl⟩
 |_::r,b,_=>w4 c r (b+1) _
theorem w8 (b:Nat):∀(c:aP) (d:Nat) (a:ah),a.grownBy (a.setCells b d c) (some b):=by
 intro c d a;obtain⟨e,f,g⟩:=w4 b c d a;exact⟨e,f,g,by rw[w0];exact Nat.le_refl _,λe _ f=>wZ b c d a e (λa=>f (by rw[a]))⟩
section
variable {P:Program}
theorem EL (a:ah) (g c j:aX) (f:aA) (b:aP) (k:P.underlying g=some (.slice c)) (l:∀a,(zeroValue c).run P a=.ok f a) (m:f.cells=b.toArray) (i:∀c∈b,c.oneCell'=true) (c d n:Nat)
 (o:∀e,e<b.length->(a.cell? (ac c (d+e))).isSome=true) (p:∀e,e<b.length->a.frozen? (ac c (d+e))=false):
 (Builtin.clear_ #[g] j #[O (some ⟨c,d,none⟩) 1 n]).run P a=.ok (.tuple #[]) (a.setCells c d b):=by
 have f:(Builtin.zeroCells f.cells 1).toList=b:=by
  rw[m];simp[Builtin.zeroCells];apply List.ext_getElem
  ·simp
  intro e i e;simp[Nat.mod_eq_of_lt e,e]
 have a:=run_storeCells_cells (P:=P) c d b 0 a (by simpa using o) (by simpa using p) i;simp only[Nat.add_zero]at a;simp[Builtin.clear_,run_underlying k,l,f,a]
end
theorem nE {g:Type} {enc:g->List Value} {m:Nat} (f:∀c,(enc c).length=m) {o:ah} {p i c j:Nat} {q:aX} {b:List g} (v:o.ownsRow p q m (O (some ⟨i,0,none⟩) c j) c (b.flatMap enc)) (w:b.length=c)
 (a:Nat) (r:a<c) (d:Nat) (G:d<m) (k:aA) (y:g) (x:enc y=(enc (b[a]'af)).set d k):
 (o.setCell (ac i (a*m+d)) k).ownsRow p q m (O (some ⟨i,0,none⟩) c j) c ((b.set a y).flatMap enc):=by
 subst w;obtain⟨c,l,n,z,A,s,B,C,t⟩:=f7 v af;injection n with n
 injection n with e1
 subst e1;have c:=A.aR (a*m+d) k;have D:a*m+d<l.size:=by
  rw[s];have:(a+1)*m<=j*m:=Nat.mul_le_mul_right m af;rw[Nat.add_mul]at this;omega
 refine wY z c (by rw[Array.size_setIfInBounds];exact s) B C ?_ (by rw[ng f,List.length_set]);refine EK f b a y r l.toList t _ aj ?_ ?_
 ·intro e u
  rw[x];have c:=mf f b a r e u;have E:l.toList[a*m+e]?=(enc b[a])[e]?:=by
   rw[<-c,<-t,List.getElem?_take,if_pos];have:(a+1)*m<=b.length*m:=Nat.mul_le_mul_right m af;rw[Nat.add_mul]at this;omega
  by_cases F:e=d
  ·subst F
   have:e<(enc b[a]).length:=by rw[f];exact u
   simp[D,this]
  rw[List.getElem?_set_ne af,<-E,Array.toList_setIfInBounds,List.getElem?_set_ne af]
 intro a a;rw[Array.toList_setIfInBounds,List.getElem?_set_ne af]
theorem kJ {c:Type} {enc:c->List Value} {m:Nat} (g:∀d,(enc d).length=m) {d:ah} {i f n j:Nat} {e:aX} {xs:List c} (k:d.ownsRow i e m (O (some ⟨f,0,none⟩) n j) n (xs.flatMap enc)) (l:xs.length=n)
 (a:Nat) (o:a<n) (b:Nat) (p:b<m):d.cell? (ac f (a*m+b))=(enc (xs[a]'af))[b]?:=by
 subst l;have:(a+1)*m<=xs.length*m:=Nat.mul_le_mul_right m af;rw[Nat.add_mul]at this;rw[k.cellAt _ af,mf g xs a o b p]
theorem pi {d:ah} {f b g c:Nat} {e:aX} {m:Nat} {A:aU} {i:aP} (j:d.ownsRow f e m (O A b g) b i) (n:A≠some ⟨c,0,none⟩) (k:Nat) (l:aA):(d.setCell (ac c k) l).ownsRow f e m (O A b g) b i:=by
 refine ownsRow_setCell_other j (a:=⟨c,k,none⟩) ?_ l;rcases j.2 with⟨o,_⟩|⟨q,r,s,p,_⟩
 ·injection o with e1;subst e1;simp[Value.ownBlock]
 injection p with e1
 subst e1;intro h;apply n;simp[Value.ownBlock]at h;rw[h]
theorem EM {i:ah} {m e c f a b:Nat} {k:aX} {d:aP} (n:i.ownsRow m k a (O (some ⟨e,0,none⟩) c f) c d) (v:b<c) (j:aP) (v:j.length=a):
 ((i.setCells e (b*a) (d.drop ((b+1)*a))).setCells e ((c-1)*a) j).ownsRow m k a (O (some ⟨e,0,none⟩) (c-1) f) (c-1) (d.take (b*a)++d.drop ((b+1)*a)):=by
 obtain⟨m,g,l,p,q,r,s,t,u⟩:=f7 n af;injection l with l
 injection l with e1
 subst e1;have l:=n.1;have l:(b+1)*a<=c*a:=Nat.mul_le_mul_right a af;have l:c*a<=f*a:=Nat.mul_le_mul_right a s;have l:(b+1)*a=b*a+a:=oR
 have l:(c-1)*a+a=c*a:=by
  obtain⟨o,rfl⟩:∃o,c=o+1:=⟨c-1,by omega⟩;rw[Nat.add_mul];simp
 have l:g.toList.length=f*a:=by simp[r]
 have e:aa i e k g.toList.toArray:=by simpa using q
 have i:=qQ (d.drop ((b+1)*a)) (b*a) g.toList i e (by rw[List.length_drop];omega);have e:(hU g.toList (b*a) (d.drop ((b+1)*a))).length=f*a:=by rw[sJ _ _ _ (by rw[List.length_drop];omega),l]
 have f:=qQ j ((c-1)*a) _ _ i (by rw[e];omega);refine wY p f ?_ af t ?_ ?_
 ·rw[List.size_toArray,sJ _ _ _ (by rw[e];omega),e]
 ·have g:d.take (b*a)=g.toList.take (b*a):=by rw[<-u,List.take_take,Nat.min_eq_left af]
  have f:(d.take (b*a)).length=b*a:=by rw[List.length_take];omega
  have b:(d.drop ((b+1)*a)).length=(c-1)*a-b*a:=by rw[List.length_drop];omega
  show(hU _ _ j).take ((c-1)*a)=_;unfold hU;rw[List.append_assoc,List.take_append_of_le_length (by rw[List.length_take];have:=e;unfold hU at this;omega),List.take_take,Nat.min_self,<-g,List.append_assoc,<-List.append_assoc];rw[List.take_append_of_le_length (by rw[List.length_append,f,b];omega),List.take_of_length_le (by rw[List.length_append,f,b];omega)]
 rw[List.length_append,List.length_take,List.length_drop];omega
section
variable {W0 w w':ah} {g c i:Nat} {ts:List RT} {t:RT}
theorem xa {ts:List RT} {i:Nat} {t t':RT} (h:ts[i]?=some t) (a:t'.cells=t.cells):(ts.set i t').flatMap RT.cells=ts.flatMap RT.cells:=by
 induction ts generalizing i with
 |nil=>simp
 |cons b ts c=>
  cases i with
  |zero=>
   have d:b=t:=by simpa using h
   subst d;simp[a]
  |succ i=>
   have:=c (i:=i) (by simpa using h);simp[this]
theorem bN.lt (S:bN W0 w g c ts i t):i<ts.length:=(List.getElem?_eq_some_iff.1 S.ti).1
theorem bN.get (S:bN W0 w g c ts i t):ts[i]'S.lt=t:=(List.getElem?_eq_some_iff.1 S.ti).2
theorem bN.pj (a:bN W0 w g c ts i t):W0.heap.size<=g/\g<w.heap.size:=by
 obtain⟨a,f,b,d,e⟩:=a.row.form (Nat.lt_of_le_of_lt (Nat.zero_le _) a.lt);injection b with e1
 injection e1 with e1
 injection e1 with e1
 subst e1;exact⟨d,e⟩
theorem bN.drew (S:bN W0 w g c ts i t):bN W0 w.drew g c ts i t:=⟨S.s.drew,S.row.drew,S.ti,S.an,S.ar.drew,S.kn,S.kr.drew⟩
theorem bN.alloc (S:bN W0 w g c ts i t) (o:Obj):bN W0 (w.alloc o) g c ts i t:=⟨S.s.alloc o,S.row.alloc o,S.ti,S.an,S.ar.alloc o,S.kn,S.kr.alloc o⟩
theorem gZ {w:ah} {f g:Nat} {b e2:aX} {i j k c:Nat} {d:aA} {A:Addr} {l:Nat} {m n:aP} (o:w.ownsRow f b i d k m) (p:w.ownsRow g e2 j (O (some A) c l) c n) (q:b≠e2):d.ownBlock≠some A.block:=by
 rcases p.2 with⟨a,_⟩|⟨s,t,u,a,_,r,_⟩
 ·cases a
 injection a with e
 injection e with e
 subst e;exact lU o r q
theorem bN.nF (b:bN W0 w g c ts i t) {d m:Nat} (q:t.ha.a=some ⟨d,0,none⟩) (r:t.ha.c=m) (a:Nat) (u:a<t.ra.length) (f:Nat) (v:f<6) (e:aA) (y:RA) (x:y.cells=t.ra[a].cells.set f e):
 bN W0 (w.setCell (ac d (a*6+f)) e) g c (ts.set i {t with ra:=t.ra.set a y}) i {t with ra:=t.ra.set a y}:=by
 have o:t.ha.val=.slice (some ⟨d,0,none⟩) t.ra.length m:=by
  unfold Hd.val;rw[q,r,b.an]
 have j:=b.ar;rw[o]at j;have z:g≠d:=λk=>gZ b.row j au (by simp[Value.ownBlock,k]);have A:=gZ b.kr j au;have l:W0.heap.size<=d:=by
  obtain⟨m,q,B,l,r⟩:=j.form af;injection B with e1
  injection e1 with e1
  injection e1 with e1
  subst e1;exact l
 refine⟨b.s.setCell (p:=(ac d (a*6+f))) l e,?_,by simp[b.lt],?_,?_,b.kn,?_⟩
 ·rw[List.length_set,xa b.ti (t':={t with ra:=t.ra.set a y}) rfl]
  exact pi b.row (λk=>z (by injection k with k;injection k)) _ e
 ·show t.ha.n=(t.ra.set a y).length
  rw[List.length_set,b.an]
 ·show(w.setCell _ e).ownsRow _ _ 6 t.ha.val (t.ra.set a y).length ((t.ra.set a y).flatMap RA.cells)
  rw[List.length_set,o];exact nE RA.eV j rfl a u f v e y x
 exact ownsRow_setCell_other b.kr (a:=⟨d,a*6+f,none⟩) (by intro h;exact A h) e
theorem bN.hH (b:bN W0 w g c ts i t) {w1:ah} {A:aU} {ca:Nat} {ra:List RA} (d:w.grownBy w1 t.ha.val.ownBlock) (j:w1.ownsRow W0.heap.size 111 6 (O A ra.length ca) ra.length (ra.flatMap RA.cells)):
 bN W0 (w1.setCell (ac g (i*3+1)) (O A ra.length ca)) g c (ts.set i {t with ra:=ra,ha:=⟨A,ra.length,ca⟩}) i {t with ra:=ra,ha:=⟨A,ra.length,ca⟩}:=by
 have l:=gZ b.ar b.row au;have m:t.hk.val.ownBlock=none\/t.hk.val.ownBlock≠t.ha.val.ownBlock:=by
  rcases b.ar.2 with⟨e,_⟩|⟨n,o,q,e,_,k,_⟩
  ·rcases f:t.hk.val.ownBlock with _|r
   ·exact .inl rfl
   right;rw[e];simp[Value.ownBlock]
  right
  rw[e];exact lU b.kr k au
 have e:=b.row.kept d (.inr (λe=>l e.symm));have k:=b.kr.kept d m;have l:=b.pj;have d:ag W0 w1:=Below.grown b.s d b.s.size (λd f=>(b.ar.lt d f).1);refine⟨d.setCell (p:=(ac g (i*3+1))) l.1 _,?_,by simp[b.lt],rfl,?_,b.kn,?_⟩
 ·rw[List.length_set]
  refine nE RT.eV e rfl i b.lt 1 af _ _ ?_;rw[b.get];rfl
 ·refine pi j ?_ _ _
  intro n;subst n;exact gZ e j au rfl
 refine ownsRow_setCell_other k (a:=⟨g,i*3+1,none⟩) ?_ _;exact gZ (e2:=81) (A:=⟨g,0,none⟩) k e au
theorem bN.EN (b:bN W0 w g c ts i t) {gk ck:Nat} (k:t.hk.a=some ⟨gk,0,none⟩) (l:t.hk.c=ck) (a:Nat) (o:a<t.key.length) (v:Int):
 bN W0 (w.setCell (ac gk a) v) g c (ts.set i {t with key:=t.key.set a v}) i {t with key:=t.key.set a v}:=by
 have j:t.hk.val=.slice (some ⟨gk,0,none⟩) t.key.length ck:=by
  unfold Hd.val;rw[k,l,b.kn]
 have d:=b.kr;rw[j]at d;have q:g≠gk:=λe=>gZ b.row d au (by simp[Value.ownBlock,e]);have r:=gZ b.ar d au;have f:W0.heap.size<=gk:=by
  obtain⟨k,l,u,f,x⟩:=d.form af;injection u with e1
  injection e1 with e1
  injection e1 with e1
  subst e1;exact f
 refine⟨b.s.setCell (p:=(ac gk a)) f _,?_,by simp[b.lt],b.an,?_,?_,?_⟩
 ·rw[List.length_set,xa b.ti (t':={t with key:=t.key.set a v}) rfl]
  exact pi b.row (λe=>q (by injection e with e;injection e)) _ _
 ·exact ownsRow_setCell_other b.ar (a:=⟨gk,a,none⟩) (by intro h;exact r h) _
 ·show t.hk.n=(t.key.set a v).length
  rw[List.length_set,b.kn]
 show(w.setCell _ _).ownsRow _ _ 1 t.hk.val (t.key.set a v).length ((t.key.set a v).flatMap bU);rw[List.length_set,j];have:=nE (enc:=bU) (m:=1) (λ_=>rfl) d rfl a o 0 Nat.one_pos v v (by rfl);simpa using this
theorem bN.tabs (S:bN W0 w g c ts i t) (f:ts.length<=9223372036854775807) (j:t.ra.length<=9223372036854775807) (k:t.key.length<=9223372036854775807)
 (l:∀b∈t.ra,b5 w b.h b.at_.was/\aJ b.at_.name/\aJ b.at_.dflt.s) (m:aJ t.name) (n:∀a (d:a<ts.length),a≠i->fq w ts[a]):bI w ⟨some ⟨g,0,none⟩,ts.length,c⟩ ts:=by
 refine⟨cJ (h:=⟨some ⟨g,0,none⟩,ts.length,c⟩) RT.eV rfl f S.row,?_⟩;intro b o;obtain⟨a,d,rfl⟩:=List.mem_iff_getElem.1 o;by_cases e:a=i
 ·subst e
  rw[S.get];refine⟨⟨cJ RA.eV S.an.symm (by rw[S.an];exact j) (by rw[S.an];exact S.ar),l⟩,?_,m⟩;exact cJ (enc:=bU) (λ_=>rfl) S.kn.symm (by rw[S.kn];exact k) (by rw[S.kn];exact S.kr)
 exact n a d e
end
def kK (w:ah) (b:List RA):Prop:=∀a∈b,b5 w a.h a.at_.was/\aJ a.at_.name/\aJ a.at_.dflt.s
def mx (W0 w:ah) (g c:Nat) (ts:List RT) (i:Nat) (b:Tb):Prop:=
 ∃a:RT,bN W0 w g c (ts.set i a) i a/\a.tb=b/\kK w a.ra/\aJ a.name/\a.ra.length<=1000000/\a.key.length<=1000000
def dg (w w':ah):Prop:=∀a t b,aa w a t b->t≠81->t≠111->t≠3->aa w' a t b
theorem dg.refl (w:ah):dg w w:=λ_ _ _ h _ _ _=>h
theorem dg.trans {a b c:ah} (h:dg a b) (k:dg b c):dg a c:=λi t b g d e f=>k i t b (h i t b g d e f) d e f
theorem dg.same {a b:ah} (s:ag a b):dg a b:=λ_ _ _ b _ _ _=>(s.block _ b.lt).trans b
theorem dg.drew {a b:ah} (h:dg a b):dg a b.drew:=h
theorem dg.alloc {a b:ah} (h:dg a b) (o:Obj):dg a (b.alloc o):=λi t b c d e f=>(h i t b c d e f).alloc o
theorem dg.set {a c:ah} (h:dg a c) {g:Nat} {b:aX} {m:aQ} (n:aa c g b m) (o:b=81\/b=111\/b=3) (j:Nat) (v:aA):dg a (c.setCell (ac g j) v):=λi t c m e f k=>by
 have l:=h i t c m e f k;refine l.far (p:=(ac g j)) (λd=>?_) v;have q:t≠b:=by rintro rfl;exact o.elim e (λd=>d.elim f k)
 exact aa.uH l n q d
theorem dg.grown {a d c:ah} (h:dg a d) {j m n:Nat} {b:aX} {v:aA} {xs:aP} (o:d.ownsRow j b m v n xs) (k:b=81\/b=111\/b=3) (j:d.grownBy c v.ownBlock):dg a c:=λi t d l e f g=>by
 have d:=h i t d l e f g;refine d.grown j (λj=>?_);refine lU o d ?_ j.symm;rintro rfl;rcases k with b|b|b
 ·exact e b
 ·exact f b
 exact g b
section
variable {W0 w w':ah} {g c i:Nat} {ts:List RT} {t:RT}
theorem kK.same {rs:List RA} (h:kK W0 rs) (s:ag W0 w):kK w rs:=λa b=>⟨(h a b).1.same s,(h a b).2⟩
theorem kK.set {rs:List RA} (h:kK w rs) (a:Nat) (y:RA) (c:b5 w y.h y.at_.was/\aJ y.at_.name/\aJ y.at_.dflt.s):kK w (rs.set a y):=by
 intro d e;rcases List.mem_or_eq_of_mem_set e with b|b
 ·exact h d b
 rw[b];exact c
theorem xb {c:Type} (b:List c) (a:Nat) (e:a<b.length) (d:c->c):b.set a (d b[a])=b.modify a d:=by
 apply List.ext_getElem?;intro b;rw[List.getElem?_modify,List.getElem?_set];by_cases h:a=b
 ·subst h;simp[e]
 simp[h]
theorem sK (b:List RA) (a:Nat) (e:a<b.length) (c:RA) (d:At->At) (f:c.at_=d b[a].at_):(b.set a c).map RA.at_=(b.map RA.at_).modify a d:=by
 rw[List.map_set,f,<-xb _ a (by simpa using e)];simp
theorem bN.EO (o:bN W0 w g c ts i t) {b p:Nat} (d:t.ha.a=some ⟨b,0,none⟩) (e:t.ha.c=p) (a:Nat) (f:a<t.ra.length) (dT dk dn:Int) (ds:ax):
 bN W0 ((((w.setCell (ac b (a*6+1)) dT).setCell (ac b (a*6+3)) dk).setCell (ac b (a*6+4)) dn).setCell (ac b (a*6+5)) ds) g c
  (ts.set i {t with ra:=t.ra.set a ⟨⟨t.ra[a].at_.name,dT,t.ra[a].at_.was,⟨dk,dn,ds⟩⟩,t.ra[a].h⟩}) i {t with ra:=t.ra.set a ⟨⟨t.ra[a].at_.name,dT,t.ra[a].at_.was,⟨dk,dn,ds⟩⟩,t.ra[a].h⟩}:=by
 obtain⟨k,m⟩:∃k,k=t.ra[a]:=⟨_,rfl⟩;rw[<-m];obtain⟨⟨j,r,was,⟨q,n,l⟩⟩,h⟩:=k;have b:=o.nF d e a f 1 af dT ⟨⟨j,dT,was,⟨q,n,l⟩⟩,h⟩ (by rw[<-m];rfl);have b:=b.nF d e a (by simpa using f) 3 af dk ⟨⟨j,dT,was,⟨dk,n,l⟩⟩,h⟩ (by simp;rfl);have b:=b.nF d e a (by simpa using f) 4 af dn ⟨⟨j,dT,was,⟨dk,dn,l⟩⟩,h⟩ (by simp;rfl);have b:=b.nF d e a (by simpa using f) 5 af ds ⟨⟨j,dT,was,⟨dk,dn,ds⟩⟩,h⟩ (by simp;rfl);simpa[List.set_set]using b
theorem bN.EP (p:bN W0 w g c ts i t) {b q:Nat} (e:t.ha.a=some ⟨b,0,none⟩) (f:t.ha.c=q) (a:Nat) (j:a<t.ra.length) (hw:Hd) (was:bk) (nn:ax):
 bN W0 ((w.setCell (ac b (a*6+2)) hw.val).setCell (ac b (a*6)) nn) g c
  (ts.set i {t with ra:=t.ra.set a ⟨⟨nn,t.ra[a].at_.kind,was,t.ra[a].at_.dflt⟩,hw⟩}) i {t with ra:=t.ra.set a ⟨⟨nn,t.ra[a].at_.kind,was,t.ra[a].at_.dflt⟩,hw⟩}:=by
 obtain⟨d,k⟩:∃d,d=t.ra[a]:=⟨_,rfl⟩;rw[<-k];obtain⟨⟨r,l,s,⟨m,n,o⟩⟩,h⟩:=d;have b:=p.nF e f a j 2 af hw.val ⟨⟨r,l,was,⟨m,n,o⟩⟩,hw⟩ (by rw[<-k];rfl);have b:=b.nF e f a (by simpa using j) 0 af nn ⟨⟨nn,l,was,⟨m,n,o⟩⟩,hw⟩ (by simp;rfl);simpa[List.set_set]using b
end
theorem q3 (b:ah) (a:Addr) (v:aA):(b.setCell a v).heap.size=b.heap.size:=by simp[World.setCell]
theorem q4 (c:ah) (b d e o:Nat) (f:aA) (h:b≠e):(c.setCell (ac e o) f).cell? (ac b d)=c.cell? (ac b d):=
 World.cell?_of_block (a:=⟨b,d,none⟩) (Below.heap_setCell c ⟨e,o,none⟩ f b h)
theorem q5 (d a:ah) (b:aQ) (e:aX) (c:Nat) (h:a.heap.size=d.heap.size):(a.alloc (.cells b e)).cell? (ao d c)=b[c]?:=by
 rw[<-h];exact(aa.new a e b).cell c
theorem q6 (a:ah) (o:Obj) (b c:Nat) (h:b<a.heap.size):(a.alloc o).cell? (ac b c)=a.cell? (ac b c):=World.cell?_alloc_lt a o _ h
theorem Gn (f n b c i o:Nat) (p j k l:Int) (q r s m:ax) (a:ah) (d:f≠b) (d:b<a.heap.size) (d:f<a.heap.size) (d:c<i) (d:i<=9223372036854775807)
 (d:ae a (ac f (n+1)) (O (some ⟨b,0,none⟩) i o))
 (t:∃d,ae a (ac b (c*6+1)) d) (u:∃d,ae a (ac b (c*6+3)) d) (v:∃d,ae a (ac b (c*6+4)) d) (w:∃d,ae a (ac b (c*6+5)) d) (g:∀d,a.frozen? (ac b d)=false):
 Calls prog 260 #[.pointer (some ⟨f,n,none⟩),.agg #[p,q,r,s,j,k,l,m],c] a λd e=>d=.returned (.tuple #[])/\
  e=(((((a.setCell (ac b (c*6+1)) j).setCell (ac b (c*6+3)) k).setCell (ac b (c*6+4)) l).setCell (ac b (c*6+5)) m).alloc (.cells #[p,q,r,s,j,k,l,m] 99)).drew:=by
 obtain⟨x,t⟩:=t;obtain⟨y,u⟩:=u;obtain⟨z,v⟩:=v;obtain⟨A,w⟩:=w;have d:=g (c*6+1);have d:=g (c*6+3);have d:=g (c*6+4);have c:=g (c*6+5);have c:f≠a.heap.size:=af
 have c:b≠a.heap.size:=af
 clear g;go_enter func260,ntmps260
 go_wp2;go_region_held3 (λe=>ae e (ac f (n+1)) (O (some ⟨b,0,none⟩) i o)/\ae e (ao a 4) j/\ae e (ao a 5) k/\ae e (ao a 6) l/\ae e (ao a 7) m) (first|(simp[*];done)|(simp[*,q3,jd,q4,q5,q6];done)|go_keep) (fail)
 all_goals
  go_wp2;go_end0
  exact⟨rfl,rfl⟩
theorem Gr (w:ah):b5 w ⟨none,0,0⟩ []:=⟨⟨rfl,by show(0:Nat)<=_;omega,λa a=>by simp at a⟩,λa a=>by simp at a⟩
theorem xU {g:Type} {e:g->List Value} {a:Nat} (f:∀c,(e c).length=a):∀(d:List g) (b:Nat),b<d.length->(d.flatMap e).take (b*a)++(d.flatMap e).drop ((b+1)*a)=(d.eraseIdx b).flatMap e
 |c::d,0,_=>by
  have:(e c).length=a:=f c;simp[<-this]
 |c::d,b+1,h=>by
  have d:=xU f d b (by simpa using h);have e:(b+1)*a=a+b*a:=by rw[Nat.add_mul];omega
  have g:(b+1+1)*a=a+(b+1)*a:=by rw[Nat.add_mul (b+1)];omega
  rw[e]at d;rw[List.flatMap_cons,g,List.take_append,List.drop_append,f c,e,Nat.add_sub_cancel_left];rw[show a+(a+b*a)-a=a+b*a by omega,List.drop_of_length_le (by rw[f c];omega),List.take_of_length_le (by rw[f c];omega),List.eraseIdx_cons_succ,List.flatMap_cons,List.nil_append,List.append_assoc,d]
theorem xV {d e:Type} (c:d->e):∀(a:List d) (b:Nat),(a.eraseIdx b).map c=(a.map c).eraseIdx b
 |[],_=>rfl
 |_::_,0=>rfl
 |x::a,b+1=>by simp[xV c a b]
section
variable {W0 w w':ah} {g c i:Nat} {ts:List RT} {t:RT}
theorem Gs (t:RT) (cg:Cg) (a:Nat) (b:a<t.ra.length) (c:cg.kind=4) (d:bu t.tb.attrs cg.attr=a):
 (RT.tb {t with ra:=t.ra.set a ⟨⟨t.ra[a].at_.name,cg.dT,t.ra[a].at_.was,cg.dflt⟩,t.ra[a].h⟩})=dH t.tb cg:=by
 unfold dH hH oq;rw[d,c];simp only[RT.tb];rw[sK t.ra a b _ (λb=>⟨b.name,cg.dT,b.was,cg.dflt⟩) rfl];rfl
theorem Gt (t:RT) (cg:Cg) (a:Nat) (b:a<t.ra.length) (c:cg.kind=3) (d:bu t.tb.attrs cg.attr=a) (hw:Hd):
 (RT.tb {t with ra:=t.ra.set a ⟨⟨cg.name,t.ra[a].at_.kind,t.ra[a].at_.was++[t.ra[a].at_.name],t.ra[a].at_.dflt⟩,hw⟩})=dH t.tb cg:=by
 unfold dH hH oq;rw[d,c];simp only[RT.tb];rw[sK t.ra a b _ (λb=>⟨cg.name,b.kind,b.was++[b.name],b.dflt⟩) rfl];rfl
theorem Gu (t:RT) (cg:Cg) (a:cg.kind=1) (h:Hd):
 (RT.tb {t with ra:=t.ra++[⟨⟨cg.name,cg.dT,[],cg.dflt⟩,⟨none,0,0⟩⟩],ha:=h})=dH t.tb cg:=by
 unfold dH hH oq;rw[a];simp[RT.tb]
theorem Gv (t:RT) (b:Cg) (a:Nat) (c:b.kind=2) (d:bu t.tb.attrs b.attr=a) (h:Hd):
 (RT.tb {t with ra:=t.ra.eraseIdx a,ha:=h,key:=t.key.map (λk=>if(a:Int)<k then k-1 else k)})=dH t.tb b:=by
 unfold dH hH oq;rw[d,c];simp[RT.tb];exact xV _ _ _
end
theorem xZ {a:Nat->Bool} {b:Nat} (h:∀c,c<b->a c=true):(List.range b).all a=true:=by
 rw[List.all_eq_true];intro a b;exact h a (List.mem_range.1 b)
theorem q8 {b:Nat->Bool} {c:Nat} (a:Nat) (d:a<c) (h:b a=false):(List.range c).all b=false:=by
 rw[List.all_eq_false];exact⟨a,List.mem_range.2 d,by simp[h]⟩
theorem s8 {c:Nat->Bool} {b:Nat} (h:∀a,a<b->c a=true) (d:c b=true):∀a,a<b+1->c a=true:=by
 intro a c;by_cases e:a=b
 ·subst e;exact d
 exact h a af
end Go.Proofs.YteamkimbmdgdbaaGreatDoor
