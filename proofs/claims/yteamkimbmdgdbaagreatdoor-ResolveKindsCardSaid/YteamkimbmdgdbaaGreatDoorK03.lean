import Derived.Test.YteamkimbmdgdbaaGreatDoorK01
set_option linter.unusedSimpArgs false
set_option linter.unusedVariables false
set_option maxHeartbeats 16000000
set_option maxRecDepth 100000
namespace Go.Proofs.YteamkimbmdgdbaaGreatDoor
open Go.RowKit
section
variable {α:Type} {enc:α->List Value} {m:Nat}
theorem mA (c:∀b,(enc b).length=m) (a:List α):(a.flatMap enc).length=a.length*m:=by
 induction a with
 |nil=>simp
 |cons b a d=>rw[List.flatMap_cons,List.length_append,d,c,List.length_cons,Nat.add_mul];omega
theorem lH (d:∀e,(enc e).length=m):∀(c:List α) (a:Nat) (f:a<c.length) (b:Nat),b<m->(c.flatMap enc)[a*m+b]?=(enc c[a])[b]?
 |e::c,0,_,b,hj=>by
  rw[List.flatMap_cons,List.getElem?_append_left (by rw[d];omega)];simp
 |e::c,a+1,f,b,hj=>by
  have e:a<c.length:=by simpa using f
  have f:(a+1)*m+b=m+(a*m+b):=nK
  rw[List.flatMap_cons,f,List.getElem?_append_right (by rw[d];omega),d,Nat.add_sub_cancel_left,lH d c a e b hj];rfl
theorem yI (g:∀c,(enc c).length=m) (b:List α) (a:Nat) (i:ay) (j:(b.flatMap enc)[a]?=some i):∃c,∃d:c<b.length,∃e,e<m/\a=c*m+e/\(enc b[c])[e]?=some i:=by
 have f:a<(b.flatMap enc).length:=(List.getElem?_eq_some_iff.1 j).1;rw[mA g]at f;have k:0<m:=by
  rcases Nat.eq_zero_or_pos m with h|h
  ·subst h;simp at f
  exact h
 have d:a/m<b.length:=Nat.div_lt_of_lt_mul (by rw[Nat.mul_comm];exact f);have c:a%m<m:=Nat.mod_lt _ k;have e:a=a/m*m+a%m:=by rw[Nat.mul_comm];exact(Nat.div_add_mod a m).symm
 refine⟨a/m,d,a%m,c,e,?_⟩;rw[<-lH g b _ d _ c,<-e];exact j
theorem pj {w:af} {h:Hd} {xs:List α} (d:∀g,(enc g).length=m) (b:aF w m h enc xs):cu w w.heap.size m h.a h.n (xs.flatMap enc):=by
 refine⟨by rw[mA d,b.1],λg=>?_⟩;have i:0<xs.length:=by rw[b.1];exact g
 obtain⟨g,i,e,j,_⟩:=b.2.2 0 i;refine⟨⟨g,i,none⟩,e,j,λk f l=>?_⟩;obtain⟨o,p,q,t,rfl,r⟩:=yI d xs k f l;obtain⟨b,d,c,_,s⟩:=b.2.2 o p;rw[e]at c;injection c with c
 injection c with e1 e2
 subst e1 e2;rw[<-s q f r];unfold Addr.add;split<;>simp_all [Nat.add_assoc]
theorem cF {w:af} {base:Nat} {e:bb} {h:Hd} {xs:List α} (g:∀x,(enc x).length=m) (j:xs.length=h.n) (k:h.n<=9223372036854775807) (d:w.ownsRow base e m h.val h.n (xs.flatMap enc)):aF w m h enc xs:=by
 refine⟨j,k,λb l=>?_⟩;obtain⟨f,j,i,k,o⟩:=d.form ae;have p:h.a=some ⟨f,0,none⟩:=by
  have:Value.slice h.a h.n h.c=.slice (some ⟨f,0,none⟩) h.n j:=i;injection this
 refine⟨f,0,p,o,λf j j=>?_⟩;have k:f<m:=by rw[<-g xs[b]];exact(List.getElem?_eq_some_iff.1 j).1
 rw[i]at d;have i:b*m+f<h.n*m:=by
  have:(b+1)*m<=h.n*m:=Nat.mul_le_mul_right m ae;rw[Nat.add_mul]at this;omega
 rw[Nat.zero_add,d.cellAt _ i,lH g xs b l f k];exact j
end
theorem nL {a:af} {b:Nat} {c:bb} {m n:Nat} {v:ay} {d:bg} (o:a.ownsRow b c m v n d):∃a b,v=.slice a n b:=by
 rcases o.2 with⟨rfl,rfl⟩|⟨e,f,_,rfl,_⟩
 ·exact⟨_,_,rfl⟩
 exact⟨_,_,rfl⟩
def ja (a:UInt8):Bool:=decide (97<=(a|||32))&&decide ((a|||32)<=122)
def dy (a:UInt8):Bool:=decide (48<=a)&&decide (a<=57)
def eX (a:UInt8):Bool:=ja a||(dy a||decide (a=95))
def ci (a:UInt8->Bool):List UInt8->Nat
 |[]=>0
 |c::l=>if a c then ci a l+1 else 0
def cQ:Bool->List UInt8->Nat
 |_,[]=>0
 |true,c::l=>if c=10 then cQ false l+1 else cQ true l+1
 |false,c::l=>if c=32\/c=9\/c=10 then cQ false l+1 else if c=35 then cQ true l+1 else 0
def gJ (a:bL):Nat:=a.foldl (λa b=>a*10+(b.toNat-48)) 0
inductive Rd where
 |none
 |tok (k:Int) (t:bL) (n:Int) (len:Nat)
 |bad (e:Int)
 deriving DecidableEq
def jQ (a:bL):Rd:=
 if ja (a.headD 0)then(if 24<ci eX a then .bad 3 else .tok 1 (a.take (ci eX a)) 0 (ci eX a))else .none
def jR (a:bL):Rd:=
 if ci dy a=0 then .none else if 10<ci dy a\/ci dy a<ci eX a then .bad 6
 else .tok 2 (a.take (ci dy a)) (gJ (a.take (ci dy a))) (ci dy a)
def de:List UInt8->List UInt8->Nat->Rd
 |[],_,_=>.bad 7
 |c::l,out,n=>
  if c=34 then(if 200<out.length then .bad 3 else .tok 3 out 0 (n+2))
  else if c=10 then .bad 5
  else if c=92 then
   match l with
   |[]=>.bad 7
   |d::l'=>if d=34 then de l' (out++[34]) (n+2)else if d=92 then de l' (out++[92]) (n+2)else if d=110 then de l' (out++[10]) (n+2)else .bad 5
  else de l (out++[c]) (n+1)
def jb (a:bL):Rd:=if a.headD 0=34 then de a.tail [] 0 else .none
def mD:List UInt8:=[59,58,44,46,40,41,123,125,61,60,43,45,47,64]
def g5 (a:bL):Rd:=
 if a.take 2=[33,61]\/a.take 2=[60,61]then .tok 4 (a.take 2) 0 2
 else if mD.contains (a.headD 0)then .tok 4 (a.take 1) 0 1 else .none
def nR (a:bL):Rd:=
 match jQ a with
 |.none=>
  match jR a with
  |.none=>
   match jb a with
   |.none=>match g5 a with|.none=>.bad 5|r=>r
   |r=>r
  |r=>r
 |r=>r
def g6:Nat->List UInt8->Nat->List ao->List ao×Int×Int
 |0,_,_,ts=>(ts,0,0)
 |_+1,[],_,ts=>(ts,0,0)
 |f+1,a::l,at_,ts=>
  match nR (a::l)with
  |.none=>([],5,at_)
  |.bad e=>([],e,at_)
  |.tok k t n len=>
   if ts.length=5000 then([],3,at_)
   else g6 f (((a::l).drop len).drop (cQ false ((a::l).drop len))) (at_+len+cQ false ((a::l).drop len)) (ts++[⟨k,dY t,n,at_⟩])
def dq (l:bL):List ao×Int×Int:=
 if 20000<l.length then([],3,-1)else g6 (l.length+1) (l.drop (cQ false l)) (cQ false l) []
theorem jS {a b:Bool} (h:a=b):Ending.returned (.bool a)=.returned (.bool b):=by rw[h]
theorem mE {a:IntKind} {b c:Int} (h:b=c):Ending.returned (.int a b)=.returned (.int a c):=by rw[h]
def lK (c:Nat) (d:UInt8->Bool):Prop:=∀(a:UInt8) (b:af),Calls Tryz.prog c #[.int .u8 (a.toNat:Int)] b λc e=>c=.returned (.bool (d a))/\b=e
theorem yX (a:UInt8):bits .or .u8 (a.toNat:Int) 32=((a|||32).toNat:Int):=by
 have h:∀b:Fin 256,bits .or .u8 ((UInt8.ofNat b.val).toNat:Int) 32=((UInt8.ofNat b.val|||32).toNat:Int):=by decide+kernel
 have:=h ⟨a.toNat,a.toNat_lt⟩;simpa using this
theorem tu:lK 156 dy:=by
 intro a b;have b:decide ((48:UInt8)<=a)=decide ((48:Int)<=(a.toNat:Int)):=by simp[UInt8.le_iff_toNat_le];omega
 have c:decide (a<=57)=decide ((a.toNat:Int)<=57):=by simp[UInt8.le_iff_toNat_le];omega
 have HE:Hid (dy a=(decide ((48:Int)<=(a.toNat:Int))&&decide ((a.toNat:Int)<=57))):=Z (by unfold dy;rw[b,c]);clear b c;go_enter Tryz.func156,Tryz.ntmps156
 exact s0
theorem tv:lK 153 ja:=by
 intro b e;have d:=yX b;generalize c:b|||32=a at d
 have d:decide ((97:UInt8)<=a)=decide ((97:Int)<=(a.toNat:Int)):=by simp[UInt8.le_iff_toNat_le];omega
 have e:decide (a<=122)=decide ((a.toNat:Int)<=122):=by simp[UInt8.le_iff_toNat_le];omega
 have HE:Hid (ja b=(decide ((97:Int)<=(a.toNat:Int))&&decide ((a.toNat:Int)<=122))):=Z (by unfold ja;rw[c,d,e]);clear d e c;go_enter Tryz.func153,Tryz.ntmps153
 exact s0
theorem tw:lK 155 eX:=by
 intro a i;have c:=Z (tv a);have d:=Z (tu a);have e:decide (a=95)=((a.toNat:Int)==95):=by
  rw[Bool.eq_iff_iff];simp[<-UInt8.toNat_inj];omega
 have b:Hid (eX a=(ja a||(dy a||((a.toNat:Int)==95)))):=Z (by unfold eX;rw[e]);clear e;generalize ja a=f at c b;generalize dy a=g at d b;generalize eX a=j at b⊢;cases f<;>cases g
 all_goals
  go_enter Tryz.func155,Tryz.ntmps155
  go_wp2_with (first|(go_at_call 153;refine(c.out _).mono ?_;rintro a a ⟨rfl,rfl⟩)|(go_at_call 156;refine(d.out _).mono ?_;rintro a a ⟨rfl,rfl⟩))
  go_ret;exact⟨jS (by rw[b.out];simp),rfl⟩
theorem yY:lK 160 (λa=>!decide (a=10)):=by
 intro a b;have c:(!decide (a=10))=((a.toNat:Int) !=10):=by
  rw[Bool.eq_iff_iff];simp[<-UInt8.toNat_inj];omega
 have d:=Z c;show Calls Tryz.prog _ _ b λe f=>e=.returned (.bool (!decide (a=10)))/\b=f;clear c;generalize (!decide (a=10))=g at d⊢;go_enter Tryz.func160,Tryz.ntmps160
 go_wp2;go_ret;exact⟨jS d.out.symm,rfl⟩
structure tx (w:af) (B:Nat) (s:aw) (a:Nat):Prop where
 text:ac w (ab B 0) s
 off:ac w (ab B 1) a
theorem jT (c:Nat) (e:Int) (a:Nat) (b:af) (d:ac b (ab c 1) a):
 Calls Tryz.prog 86 #[aj c,e] b λc d=>c=.panicked [{v:=.iface 178 (.agg #[e,a]),recovered:=false}]/\b=d:=by
 go_enter Tryz.func86,Tryz.ntmps86
 go_wp2;exact⟨rfl,rfl,rfl⟩
theorem zi (a:Nat) (c:aw) (d:af) (e:a<d.heap.size) (j:ac d (ab a 0) c) (k:List RT):
 go 79 #[aj a] d (λb=>.agg b.cells.toArray) (λb:RT=>decide (b.name=c)) k:=by
 intro b _ f g;have d:=(g.cell e).trans j;have d:=aT e g.size;have d:a≠f.heap.size:=ae
 obtain⟨i,⟨l,m,n⟩,r,⟨o,p,q⟩,s⟩:=b;clear j e g;show Calls Tryz.prog 79 #[.agg #[i,U l m n,U o p q],aj a] f λa b=>a=.returned (.bool (decide (i=c)))/\ag f b;have a:=jD i c;go_enter Tryz.func79,Tryz.ntmps79
 go_wp2;go_ret;exact⟨ch ai,(ag.refl _).alloc _⟩
theorem q0 (h:Hd) (b:List RT) (a:aw) (w:af) (i:bI w h b):
 Calls Tryz.prog 41 #[.agg #[h.val],a] w λd f=>d=.returned (O (cS (b.map RT.tb) a))/\ag w f:=by
 have j:∀e w,(callFunc 79 e).run Tryz.prog w=.ok (.enter 79 e) w:=enters_of Tryz.func79 ak rfl;have g:=Z (λ(c:af) (k:ag w c) (e:Nat) (l:e<c.heap.size) (m:ac c (ab e 0) a)=>
  xD 79 #[aj e] j h RT.cells (λn=>⟨_,_,_,rfl⟩) (λn:RT=>decide (n.name=a)) b c (i.same k).1 (zi e a c l m b))
 have k:Hid (cS (b.map RT.tb) a=cn (λc:RT=>decide (c.name=a)) b):=pa RT.tb _ b;obtain⟨p,b⟩:=aq (cn (λc:RT=>decide (c.name=a)) b);rw[<-b]at g k;clear b i j;obtain⟨l,m,n⟩:=h;have q:Hid (∀(b:af),ag w b->∀c,c<b.heap.size->ac b (ab c 0) a->Calls Tryz.prog 78 #[U l m n,.func (.func 79) #[] #[aj c]] b λd f=>d=.returned p/\ag b f):=g;clear g;show Calls Tryz.prog 41 #[.agg #[U l m n],a] w _;go_enter Tryz.func41,Tryz.ntmps41
 go_wp2_with (go_at_call 78;refine(q.out _ ?_ _ ?_ ?_).mono ?_;exact((ag.refl w).alloc _).alloc _;simp;simp;rintro d a ⟨rfl,c⟩;have o:=Z c;have a:=c.cells;have a:=c.size;clear c)
 go_ret;exact⟨d0 k.symm,(((ag.refl w).alloc _).alloc _).trans o⟩
theorem zj (a:Nat) (c:aw) (d:af) (e:a<d.heap.size) (j:ac d (ab a 0) c) (k:List RA):
 go 103 #[aj a] d (λb=>.agg b.cells.toArray) (λb:RA=>decide (b.at_.name=c)) k:=by
 intro b _ f g;have d:=(g.cell e).trans j;have d:=aT e g.size;have d:a≠f.heap.size:=ae
 obtain⟨⟨i,l,s,⟨m,n,o⟩⟩,⟨p,q,r⟩⟩:=b;clear j e g;show Calls Tryz.prog 103 #[.agg #[i,l,U p q r,m,n,o],aj a] f λa b=>a=.returned (.bool (decide (i=c)))/\ag f b;have a:=jD i c;go_enter Tryz.func103,Tryz.ntmps103
 go_wp2;go_ret;exact⟨ch ai,(ag.refl _).alloc _⟩
theorem zk (b:Nat) (c:aw) (e:af) (g:b<e.heap.size) (k:ac e (ab b 0) c) (l:List RA) (m:∀a∈l,b4 e a.h a.at_.was):
 go 104 #[aj b] e (λa=>.agg a.cells.toArray) (λa:RA=>a.at_.was.any λi=>decide (i=c)) l:=by
 intro a n d f;have e:=(f.cell g).trans k;have e:=aT g f.size;have e:b≠d.heap.size:=ae
 have j:=Z (λe (j:ag d e)=>qI a.h a.at_.was c e ((m a n).same (f.trans j)));dsimp only;generalize (a.at_.was.any λi=>decide (i=c))=o at j⊢;obtain⟨⟨t,u,z,⟨v,w,x⟩⟩,⟨p,q,r⟩⟩:=a;clear k g f n m;have y:Hid (∀a,ag d a->Calls Tryz.prog 105 #[U p q r,c] a λc e=>c=.returned (.bool o)/\a=e):=j;clear j;show Calls Tryz.prog 104 #[.agg #[t,u,U p q r,v,w,x],aj b] d λs a=>s=.returned (.bool o)/\ag d a;go_enter Tryz.func104,Tryz.ntmps104
 go_wp2_with (go_at_call 105;refine(y.out _ ?_).mono ?_;exact(ag.refl _).alloc _;rintro s a ⟨rfl,rfl⟩)
 go_ret;exact⟨rfl,(ag.refl _).alloc _⟩
theorem pq (a:RT) (b:aw) (w:af) (c:fw w a):
 Calls Tryz.prog 55 #[a.val,b] w λd f=>d=.returned (O (bH a.tb.attrs b))/\ag w f:=by
 have q:∀g w,(callFunc 103 g).run Tryz.prog w=.ok (.enter 103 g) w:=enters_of Tryz.func103 ak rfl;have r:∀g w,(callFunc 104 g).run Tryz.prog w=.ok (.enter 104 g) w:=enters_of Tryz.func104 ak rfl;have j:=Z (λ(e:af) (i:ag w e) (g:Nat) (k:g<e.heap.size) (l:ac e (ab g 0) b)=>
  qC 103 #[aj g] q a.ha RA.cells (λa=>⟨_,_,_,_,_,_,rfl⟩) (λm:RA=>decide (m.at_.name=b)) a.ra e (c.1.same i).1 (zj g b e k l a.ra))
 have k:=Z (λ(e:af) (i:ag w e) (g:Nat) (l:g<e.heap.size) (m:ac e (ab g 0) b)=>
  qC 104 #[aj g] r a.ha RA.cells (λa=>⟨_,_,_,_,_,_,rfl⟩) (λn:RA=>n.at_.was.any λn=>decide (n=b)) a.ra e (c.1.same i).1 (zk g b e l m a.ra (λe g=>((c.1.same i).2 e g).1)))
 have s:cn (λc:At=>decide (c.name=b)) (a.ra.map RA.at_)=cn (λe:RA=>decide (e.at_.name=b)) a.ra:=pa RA.at_ _ a.ra;have t:cn (λc:At=>c.was.any λe=>decide (e=b)) (a.ra.map RA.at_)=cn (λe:RA=>e.at_.was.any λe=>decide (e=b)) a.ra:=pa RA.at_ _ a.ra;have x:=lr (λe:RA=>decide (e.at_.name=b)) a.ra;have e:Hid (bH a.tb.attrs b=if 0<=cn (λe:RA=>decide (e.at_.name=b)) a.ra then cn (λe:RA=>decide (e.at_.name=b)) a.ra else cn (λe:RA=>e.at_.was.any λe=>decide (e=b)) a.ra):=by
  show bH (a.ra.map RA.at_) b=_;unfold bH;rw[s,t]
 generalize cn (λg:RA=>decide (g.at_.name=b)) a.ra=u at j e;generalize cn (λg:RA=>g.at_.was.any λg=>decide (g=b)) a.ra=y at k e;generalize bH a.tb.attrs b=I at e⊢;clear s t x c q r;obtain⟨z,⟨l,m,n⟩,J,⟨A,B,C⟩,K⟩:=a;have D:Hid (∀(a:af),ag w a->∀c,c<a.heap.size->ac a (ab c 0) b->Calls Tryz.prog 102 #[U l m n,.func (.func 103) #[] #[aj c]] a λd f=>d=.returned u/\ag a f):=j;have E:Hid (∀(a:af),ag w a->∀c,c<a.heap.size->ac a (ab c 0) b->Calls Tryz.prog 102 #[U l m n,.func (.func 104) #[] #[aj c]] a λd f=>d=.returned y/\ag a f):=k;clear j k;show Calls Tryz.prog 55 #[.agg #[z,U l m n,U A B C],b] w _;go_enter Tryz.func55,Tryz.ntmps55
 go_wp2_with fail
 refine(D _ ?_ _ ?_ ?_).mono ?_
 ·exact((ag.refl w).alloc _).alloc _
 ·simp
 ·simp
 rintro d a ⟨rfl,i⟩;have o:=Z ((((ag.refl w).alloc _).alloc _).trans i);have F:=i.cells;have G:=i.size;clear i;by_cases p:0<=u
 ·rw[if_pos p]at e
  go_wp2;go_ret;exact⟨d0 e.symm,o⟩
 rw[if_neg p]at e;have a:=p;go_wp2_with fail
 refine(E _ o _ ?_ ?_).mono ?_
 ·simp at G;omega
 ·rw[F _ _ ai];simp
 rintro d a ⟨rfl,v⟩;have H:=Z (o.trans v);clear v;go_wp2;go_ret;exact⟨d0 e.symm,H⟩
theorem pO (a:af) (b:bb) (c:Nat):(a.alloc (.cells #[] b)).ownsRow a.heap.size b c (U (some ⟨a.heap.size,0,none⟩) 0 0) 0 []:=
 ⟨by simp,.inr ⟨a.heap.size,0,#[],rfl,Nat.le_refl _,heap_alloc_new a _,Nat.le_refl _,Nat.zero_le _,by simp,by simp⟩⟩
theorem Tryz.BO:(Tryz.prog.info? 81).map (λa=>(a.zero,a.size,a.bytes))=some (some (.agg #[ByteArray.empty,aa,aa]),3,64):=ak
theorem BP {e:Type} (h:Hd) (b:e->List Value) (i:∀c,(b c).length=3) (j:∀c,∀l∈b c,l.oneCell'=true) (xs:List e) (w:af) (d:aF w 3 h b xs) (s:h.n<=1000000000):
 Calls Tryz.prog 52 #[h.val] w λl e=>l=.returned aa/\xs=[]/\ag w e\/∃a g,l=.returned (U (some ⟨g,0,none⟩) xs.length a)/\ag w e/\e.ownsRow w.heap.size 81 3 (U (some ⟨g,0,none⟩) xs.length a) xs.length (xs.flatMap b):=by
 obtain⟨t,u,v,x,y⟩:=info_parts Tryz.BO;have f:=pj i d;have m:=d.1;have o:∀e∈xs.flatMap b,e.oneCell'=true:=by
  intro e l;obtain⟨c,_,l⟩:=List.mem_flatMap.1 l;exact j c e l
 have p:xs=[]↔xs.length=0:=by cases xs<;>simp
 obtain⟨q,r,a⟩:=h;simp only at f m s;subst m;have HR:=Z f;have z:=Z o;have kP:=Z p;clear d i j f o p;show Calls Tryz.prog 52 #[U q xs.length a] w _;have c:=λw c r a d e=>Lib.run_eql_slice_nil w _ _ c r a d e Tryz.underlying27;cases q with
 |none=>
  have h0:xs.length=0:=by
   exact rW
  have A:=Z (kP.2 h0);clear h0;go_enter Tryz.func52,Tryz.ntmps52
  go_wp2;go_ret;exact .inl ⟨rfl,A,ag.refl _⟩
 |some A=>
  go_enter Tryz.func52,Tryz.ntmps52
  go_wp2_with (at_builtin;refine d6 _ rfl (.tmp 5) (.tmp 6) 27 rfl w.heap.size 81 t _ 3 64 Tryz.underlying27 u v x y rfl au (U (some ⟨w.heap.size,0,none⟩) 0 0) 0 [] rfl (pO w _ _) w.heap.size (some A) xs.length a (xs.flatMap b) rfl (HR.out.alloc (Nat.le_refl _) _) z.out b1 ae ai ?_;intro a w1 a b c;have OWN:=Z a;have G:=Z b;have d:=Z c;clear a b c)
  exact mb
theorem Tryz.rv:(Tryz.prog.info? 111).map (λa=>(a.zero,a.size,a.bytes))=some (some (.agg #[ByteArray.empty,O 0,aa,O 0,O 0,ByteArray.empty]),6,80):=ak
theorem uG {e:Type} (h:Hd) (b:e->List Value) (i:∀c,(b c).length=6) (j:∀c,∀l∈b c,l.oneCell'=true) (xs:List e) (w:af) (d:aF w 6 h b xs) (s:h.n<=1000000000):
 Calls Tryz.prog 53 #[h.val] w λl e=>l=.returned aa/\xs=[]/\ag w e\/∃a g,l=.returned (U (some ⟨g,0,none⟩) xs.length a)/\ag w e/\e.ownsRow w.heap.size 111 6 (U (some ⟨g,0,none⟩) xs.length a) xs.length (xs.flatMap b):=by
 obtain⟨t,u,v,x,y⟩:=info_parts Tryz.rv;have f:=pj i d;have m:=d.1;have o:∀e∈xs.flatMap b,e.oneCell'=true:=by
  intro e l;obtain⟨c,_,l⟩:=List.mem_flatMap.1 l;exact j c e l
 have p:xs=[]↔xs.length=0:=by cases xs<;>simp
 obtain⟨q,r,a⟩:=h;simp only at f m s;subst m;have HR:=Z f;have z:=Z o;have kP:=Z p;clear d i j f o p;show Calls Tryz.prog 53 #[U q xs.length a] w _;have c:=λw c r a d e=>Lib.run_eql_slice_nil w _ _ c r a d e Tryz.underlying79;cases q with
 |none=>
  have h0:xs.length=0:=by
   exact rW
  have A:=Z (kP.2 h0);clear h0;go_enter Tryz.func53,Tryz.ntmps53
  go_wp2;go_ret;exact .inl ⟨rfl,A,ag.refl _⟩
 |some A=>
  go_enter Tryz.func53,Tryz.ntmps53
  go_wp2_with (at_builtin;refine d6 _ rfl (.tmp 5) (.tmp 6) 79 rfl w.heap.size 111 t _ 6 80 Tryz.underlying79 u v x y rfl au (U (some ⟨w.heap.size,0,none⟩) 0 0) 0 [] rfl (pO w _ _) w.heap.size (some A) xs.length a (xs.flatMap b) rfl (HR.out.alloc (Nat.le_refl _) _) z.out b1 ae ai ?_;intro a w1 a b c;have OWN:=Z a;have G:=Z b;have d:=Z c;clear a b c)
  exact mb
theorem Tryz.BQ:(Tryz.prog.info? 3).map (λa=>(a.zero,a.size,a.bytes))=some (some (.int .i64 0),1,8):=ak
theorem BR {e:Type} (h:Hd) (b:e->List Value) (i:∀c,(b c).length=1) (j:∀c,∀l∈b c,l.oneCell'=true) (xs:List e) (w:af) (d:aF w 1 h b xs) (s:h.n<=1000000000):
 Calls Tryz.prog 54 #[h.val] w λl e=>l=.returned aa/\xs=[]/\ag w e\/∃a g,l=.returned (U (some ⟨g,0,none⟩) xs.length a)/\ag w e/\e.ownsRow w.heap.size 3 1 (U (some ⟨g,0,none⟩) xs.length a) xs.length (xs.flatMap b):=by
 obtain⟨t,u,v,x,y⟩:=info_parts Tryz.BQ;have f:=pj i d;have m:=d.1;have o:∀e∈xs.flatMap b,e.oneCell'=true:=by
  intro e l;obtain⟨c,_,l⟩:=List.mem_flatMap.1 l;exact j c e l
 have p:xs=[]↔xs.length=0:=by cases xs<;>simp
 obtain⟨q,r,a⟩:=h;simp only at f m s;subst m;have HR:=Z f;have z:=Z o;have kP:=Z p;clear d i j f o p;show Calls Tryz.prog 54 #[U q xs.length a] w _;have c:=λw c r a d e=>Lib.run_eql_slice_nil w _ _ c r a d e Tryz.underlying60;cases q with
 |none=>
  have h0:xs.length=0:=by
   exact rW
  have A:=Z (kP.2 h0);clear h0;go_enter Tryz.func54,Tryz.ntmps54
  go_wp2;go_ret;exact .inl ⟨rfl,A,ag.refl _⟩
 |some A=>
  go_enter Tryz.func54,Tryz.ntmps54
  go_wp2_with (at_builtin;refine d6 _ rfl (.tmp 5) (.tmp 6) 60 rfl w.heap.size 3 t _ 1 8 Tryz.underlying60 u v x y rfl au (U (some ⟨w.heap.size,0,none⟩) 0 0) 0 [] rfl (pO w _ _) w.heap.size (some A) xs.length a (xs.flatMap b) rfl (HR.out.alloc (Nat.le_refl _) _) z.out b1 ae ai ?_;intro a w1 a b c;have OWN:=Z a;have G:=Z b;have d:=Z c;clear a b c)
  exact mb
theorem Tryz.uH:(Tryz.prog.info? 9).map (λa=>(a.zero,a.size,a.bytes))=some (some (.string ByteArray.empty),1,16):=ak
theorem uI {e:Type} (h:Hd) (b:e->List Value) (i:∀c,(b c).length=1) (j:∀c,∀l∈b c,l.oneCell'=true) (xs:List e) (w:af) (d:aF w 1 h b xs) (s:h.n<=1000000000):
 Calls Tryz.prog 257 #[h.val] w λl e=>l=.returned aa/\xs=[]/\ag w e\/∃a g,l=.returned (U (some ⟨g,0,none⟩) xs.length a)/\ag w e/\e.ownsRow w.heap.size 9 1 (U (some ⟨g,0,none⟩) xs.length a) xs.length (xs.flatMap b):=by
 obtain⟨t,u,v,x,y⟩:=info_parts Tryz.uH;have f:=pj i d;have m:=d.1;have o:∀e∈xs.flatMap b,e.oneCell'=true:=by
  intro e l;obtain⟨c,_,l⟩:=List.mem_flatMap.1 l;exact j c e l
 have p:xs=[]↔xs.length=0:=by cases xs<;>simp
 obtain⟨q,r,a⟩:=h;simp only at f m s;subst m;have HR:=Z f;have z:=Z o;have kP:=Z p;clear d i j f o p;show Calls Tryz.prog 257 #[U q xs.length a] w _;have c:=λw c r a d e=>Lib.run_eql_slice_nil w _ _ c r a d e Tryz.underlying83;cases q with
 |none=>
  have h0:xs.length=0:=by
   exact rW
  have A:=Z (kP.2 h0);clear h0;go_enter Tryz.func257,Tryz.ntmps257
  go_wp2;go_ret;exact .inl ⟨rfl,A,ag.refl _⟩
 |some A=>
  go_enter Tryz.func257,Tryz.ntmps257
  go_wp2_with (at_builtin;refine d6 _ rfl (.tmp 5) (.tmp 6) 83 rfl w.heap.size 9 t _ 1 16 Tryz.underlying83 u v x y rfl au (U (some ⟨w.heap.size,0,none⟩) 0 0) 0 [] rfl (pO w _ _) w.heap.size (some A) xs.length a (xs.flatMap b) rfl (HR.out.alloc (Nat.le_refl _) _) z.out b1 ae ai ?_;intro a w1 a b c;have OWN:=Z a;have G:=Z b;have d:=Z c;clear a b c)
  exact mb
structure bU (W0 w:af) (g c:Nat) (ts:List RT) (i:Nat) (t:RT):Prop where
 s:ag W0 w
 row:w.ownsRow W0.heap.size 81 3 (U (some ⟨g,0,none⟩) ts.length c) ts.length (ts.flatMap RT.cells)
 ti:ts[i]?=some t
 an:t.ha.n=t.ra.length
 ar:w.ownsRow W0.heap.size 111 6 t.ha.val t.ra.length (t.ra.flatMap RA.cells)
 kn:t.hk.n=t.key.length
 kr:w.ownsRow W0.heap.size 3 1 t.hk.val t.key.length (t.key.flatMap cj)
theorem RT.eE (a:RT):a.cells.length=3:=rfl
theorem RA.eE (a:RA):a.cells.length=6:=rfl
theorem fE {w:af} {base:Nat} {e:bb} {m n c:Nat} {A:aX} {xs:bg} (d:w.ownsRow base e m (U A n c) n xs) (h:0<n):
 ∃a b,A=some ⟨a,0,none⟩/\base<=a/\J w a e b/\b.size=c*m/\n<=c/\c<=maxLen/\b.toList.take (n*m)=xs:=by
 rcases d.2 with⟨_,p⟩|⟨a,q,b,f,g,i,j,k,l,o⟩
 ·omega
 injection f with e1 e2 e3
 subst e1 e3;exact⟨a,b,rfl,g,i,l,j,k,o⟩
theorem uJ {g:af} {i:Nat} {j:bb} {c a b d:Nat} {e:aO} {f:bg} (k:i<=d) (l:J g d j e) (m:e.size=b*c) (n:a<=b) (o:b<=maxLen) (p:e.toList.take (a*c)=f) (q:f.length=a*c):
 g.ownsRow i j c (U (some ⟨d,0,none⟩) a b) a f:=⟨q,.inr ⟨d,b,e,rfl,k,l,n,o,m,p⟩⟩
theorem BS {i:Type} {e:i->List Value} {a:Nat} (j:∀k,(e k).length=a) (d:List i) (c:Nat) (f:i) (i:c<d.length) (g:bg) (q:g.take (d.length*a)=d.flatMap e) (i:bg) (k:i.length=g.length)
 (r:∀k,k<a->i[c*a+k]?=(e f)[k]?) (s:∀b,(b<c*a\/c*a+a<=b)->i[b]?=g[b]?):i.take (d.length*a)=(d.set c f).flatMap e:=by
 apply List.ext_getElem?;intro b;rw[List.getElem?_take];have t:((d.set c f).flatMap e).length=d.length*a:=by rw[mA j,List.length_set]
 split
 ·rename_i l
  have u:0<a:=by
   rcases Nat.eq_zero_or_pos a with h|h
   ·subst h;simp at l
   exact h
  have o:b/a<d.length:=Nat.div_lt_of_lt_mul (by rw[Nat.mul_comm];exact l);have m:b%a<a:=Nat.mod_lt _ u;have n:b=b/a*a+b%a:=by rw[Nat.mul_comm];exact(Nat.div_add_mod b a).symm
  have i:b/a<(d.set c f).length:=by rw[List.length_set];exact o
  have v:(d.flatMap e)[b]?=g[b]?:=by rw[<-q,List.getElem?_take,if_pos l]
  have e:=lH j (d.set c f) (b/a) i (b%a) m;rw[<-n]at e;rw[e];by_cases p:b/a=c
  ·subst p
   have:=r (b%a) m;rw[<-n]at this;rw[this];simp
  have:b<c*a\/c*a+a<=b:=by
   rcases Nat.lt_or_gt_of_ne p with h|h
   ·left
    have:(b/a+1)*a<=c*a:=Nat.mul_le_mul_right a h;rw[Nat.add_mul]at this;omega
   right
   have:(c+1)*a<=b/a*a:=Nat.mul_le_mul_right a h;rw[Nat.add_mul]at this;omega
  rw[s b this,<-v];have a:=lH j d (b/a) o (b%a) m;rw[<-n]at a;rw[a,List.getElem_set_ne ae]
 rename_i a
 rw[List.getElem?_eq_none (by rw[t];omega)]
def g8 (a:bg) (b:Nat) (c:bg):List Value:=a.take b++c++a.drop (b+c.length)
theorem rx (a:bg) (b:Nat) (c:bg) (h:b+c.length<=a.length):(g8 a b c).length=a.length:=by
 simp[g8];omega
theorem pR {d:Nat} {f:bb}:∀(g:bg) (a:Nat) (b:bg) (e:af),J e d f b.toArray->a+g.length<=b.length->J (e.setCells d a g) d f (g8 b a g).toArray
 |[],a,b,e,h,_=>by simpa[g8,World.setCells]using h
 |c::r,a,b,e,h,hl=>by
  simp only[List.length_cons]at hl;have d:J (e.setCell (ab d a) c) d f (b.set a c).toArray:=by
   have:=h.aP a c;rwa[List.setIfInBounds_toArray]at this
  have d:=pR r (a+1) (b.set a c) _ d (by rw[List.length_set];omega);have e:g8 (b.set a c) (a+1) r=g8 b a (c::r):=by
   unfold g8;rw[List.take_set,List.drop_set_of_lt ae,List.take_add_one,List.getElem?_eq_getElem ae];have f:(b.take a).length=a:=aC
   rw[show((b.take a++(some b[a]).toList).set a c)=b.take a++[c] by
    rw[List.set_append_right _ _ ae,f,Nat.sub_self];rfl]
   rw[List.length_cons,show a+1+r.length=a+(r.length+1) by omega];simp
  rw[e]at d;exact d
theorem uK (b:Nat):∀(e:bg) (c:Nat) (d:af) (a:Nat),a≠b->(d.setCells b c e).heap[a]?=d.heap[a]?
 |[],_,_,_,_=>rfl
 |v::r,c,d,a,h=>(uK b r (c+1) _ a h).trans (Below.heap_setCell d ⟨b,c,none⟩ v a h)
theorem uL (c:Nat):∀(d:bg) (a:Nat) (b:af),(b.setCells c a d).heap.size=b.heap.size
 |[],_,_=>rfl
 |v::r,a,b=>(uL c r (a+1) _).trans (by simp[World.setCell])
theorem uM (c:Nat):∀(d:bg) (b:Nat) (a:af),(a.setCells c b d).os=a.os/\(a.setCells c b d).tape=a.tape/\(a.setCells c b d).output=a.output
 |[],_,_=>⟨rfl,rfl,rfl⟩
 |_::r,b,_=>uM c r (b+1) _
theorem uN (b:Nat):∀(c:bg) (d:Nat) (a:af),a.grownBy (a.setCells b d c) (some b):=by
 intro c d a;obtain⟨e,f,g⟩:=uM b c d a;exact⟨e,f,g,by rw[uL];exact Nat.le_refl _,λe _ f=>uK b c d a e (λa=>f (by rw[a]))⟩
section
variable {P:Program}
theorem BT (a:af) (g c j:bb) (f:ay) (b:bg) (k:P.underlying g=some (.slice c)) (l:∀a,(zeroValue c).run P a=.ok f a) (m:f.cells=b.toArray) (i:∀c∈b,c.oneCell'=true) (c d n:Nat)
 (o:∀e,e<b.length->(a.cell? (ab c (d+e))).isSome=true) (p:∀e,e<b.length->a.frozen? (ab c (d+e))=false):
 (Builtin.clear_ #[g] j #[U (some ⟨c,d,none⟩) 1 n]).run P a=.ok (.tuple #[]) (a.setCells c d b):=by
 have f:(Builtin.zeroCells f.cells 1).toList=b:=by
  rw[m];simp[Builtin.zeroCells];apply List.ext_getElem
  ·simp
  intro e i e;simp[Nat.mod_eq_of_lt e,e]
 have a:=run_storeCells_cells (P:=P) c d b 0 a (by simpa using o) (by simpa using p) i;simp only[Nat.add_zero]at a;simp[Builtin.clear_,run_underlying k,l,f,a]
end
theorem mP {g:Type} {enc:g->List Value} {m:Nat} (f:∀c,(enc c).length=m) {o:af} {p i c j:Nat} {q:bb} {b:List g} (v:o.ownsRow p q m (U (some ⟨i,0,none⟩) c j) c (b.flatMap enc)) (w:b.length=c)
 (a:Nat) (r:a<c) (d:Nat) (G:d<m) (k:ay) (y:g) (x:enc y=(enc (b[a]'ae)).set d k):
 (o.setCell (ab i (a*m+d)) k).ownsRow p q m (U (some ⟨i,0,none⟩) c j) c ((b.set a y).flatMap enc):=by
 subst w;obtain⟨c,l,n,z,A,s,B,C,t⟩:=fE v ae;injection n with n
 injection n with e1
 subst e1;have c:=A.aP (a*m+d) k;have D:a*m+d<l.size:=by
  rw[s];have:(a+1)*m<=j*m:=Nat.mul_le_mul_right m ae;rw[Nat.add_mul]at this;omega
 refine uJ z c (by rw[Array.size_setIfInBounds];exact s) B C ?_ (by rw[mA f,List.length_set]);refine BS f b a y r l.toList t _ ai ?_ ?_
 ·intro e u
  rw[x];have c:=lH f b a r e u;have E:l.toList[a*m+e]?=(enc b[a])[e]?:=by
   rw[<-c,<-t,List.getElem?_take,if_pos];have:(a+1)*m<=b.length*m:=Nat.mul_le_mul_right m ae;rw[Nat.add_mul]at this;omega
  by_cases F:e=d
  ·subst F
   have:e<(enc b[a]).length:=by rw[f];exact u
   simp[D,this]
  rw[List.getElem?_set_ne ae,<-E,Array.toList_setIfInBounds,List.getElem?_set_ne ae]
 intro a a;rw[Array.toList_setIfInBounds,List.getElem?_set_ne ae]
theorem ke {c:Type} {enc:c->List Value} {m:Nat} (f:∀d,(enc d).length=m) {w:af} {g d n i:Nat} {e:bb} {xs:List c} (j:w.ownsRow g e m (U (some ⟨d,0,none⟩) n i) n (xs.flatMap enc)) (k:xs.length=n)
 (a:Nat) (l:a<n) (b:Nat) (o:b<m):w.cell? (ab d (a*m+b))=(enc (xs[a]'ae))[b]?:=by
 subst k;have:(a+1)*m<=xs.length*m:=Nat.mul_le_mul_right m ae;rw[Nat.add_mul]at this;rw[j.cellAt _ ae,lH f xs a l b o]
theorem oz {d:af} {f b g c:Nat} {e:bb} {m:Nat} {A:aX} {i:bg} (j:d.ownsRow f e m (U A b g) b i) (n:A≠some ⟨c,0,none⟩) (k:Nat) (l:ay):(d.setCell (ab c k) l).ownsRow f e m (U A b g) b i:=by
 refine ownsRow_setCell_other j (a:=⟨c,k,none⟩) ?_ l;rcases j.2 with⟨o,_⟩|⟨q,r,s,p,_⟩
 ·injection o with e1;subst e1;simp[Value.ownBlock]
 injection p with e1
 subst e1;intro h;apply n;simp[Value.ownBlock]at h;rw[h]
theorem BU {i:af} {m e c f a b:Nat} {k:bb} {d:bg} (n:i.ownsRow m k a (U (some ⟨e,0,none⟩) c f) c d) (v:b<c) (j:bg) (v:j.length=a):
 ((i.setCells e (b*a) (d.drop ((b+1)*a))).setCells e ((c-1)*a) j).ownsRow m k a (U (some ⟨e,0,none⟩) (c-1) f) (c-1) (d.take (b*a)++d.drop ((b+1)*a)):=by
 obtain⟨m,g,l,p,q,r,s,t,u⟩:=fE n ae;injection l with l
 injection l with e1
 subst e1;have l:=n.1;have l:(b+1)*a<=c*a:=Nat.mul_le_mul_right a ae;have l:c*a<=f*a:=Nat.mul_le_mul_right a s;have l:(b+1)*a=b*a+a:=nK
 have l:(c-1)*a+a=c*a:=by
  obtain⟨o,rfl⟩:∃o,c=o+1:=⟨c-1,by omega⟩;rw[Nat.add_mul];simp
 have l:g.toList.length=f*a:=by simp[r]
 have e:J i e k g.toList.toArray:=by simpa using q
 have i:=pR (d.drop ((b+1)*a)) (b*a) g.toList i e (by rw[List.length_drop];omega);have e:(g8 g.toList (b*a) (d.drop ((b+1)*a))).length=f*a:=by rw[rx _ _ _ (by rw[List.length_drop];omega),l]
 have f:=pR j ((c-1)*a) _ _ i (by rw[e];omega);refine uJ p f ?_ ae t ?_ ?_
 ·rw[List.size_toArray,rx _ _ _ (by rw[e];omega),e]
 ·have g:d.take (b*a)=g.toList.take (b*a):=by rw[<-u,List.take_take,Nat.min_eq_left ae]
  have f:(d.take (b*a)).length=b*a:=by rw[List.length_take];omega
  have b:(d.drop ((b+1)*a)).length=(c-1)*a-b*a:=by rw[List.length_drop];omega
  show(g8 _ _ j).take ((c-1)*a)=_;unfold g8;rw[List.append_assoc,List.take_append_of_le_length (by rw[List.length_take];have:=e;unfold g8 at this;omega),List.take_take,Nat.min_self,<-g,List.append_assoc,<-List.append_assoc];rw[List.take_append_of_le_length (by rw[List.length_append,f,b];omega),List.take_of_length_le (by rw[List.length_append,f,b];omega)]
 rw[List.length_append,List.length_take,List.length_drop];omega
section
variable {W0 w w':af} {g c i:Nat} {ts:List RT} {t:RT}
theorem uO {ts:List RT} {i:Nat} {t t':RT} (h:ts[i]?=some t) (a:t'.cells=t.cells):(ts.set i t').flatMap RT.cells=ts.flatMap RT.cells:=by
 induction ts generalizing i with
 |nil=>simp
 |cons b ts c=>
  cases i with
  |zero=>
   have d:b=t:=by simpa using h
   subst d;simp[a]
  |succ i=>
   have:=c (i:=i) (by simpa using h);simp[this]
theorem bU.lt (S:bU W0 w g c ts i t):i<ts.length:=(List.getElem?_eq_some_iff.1 S.ti).1
theorem bU.get (S:bU W0 w g c ts i t):ts[i]'S.lt=t:=(List.getElem?_eq_some_iff.1 S.ti).2
theorem bU.oA (a:bU W0 w g c ts i t):W0.heap.size<=g/\g<w.heap.size:=by
 obtain⟨a,f,b,d,e⟩:=a.row.form (Nat.lt_of_le_of_lt (Nat.zero_le _) a.lt);injection b with e1
 injection e1 with e1
 injection e1 with e1
 subst e1;exact⟨d,e⟩
theorem bU.drew (S:bU W0 w g c ts i t):bU W0 w.drew g c ts i t:=⟨S.s.drew,S.row.drew,S.ti,S.an,S.ar.drew,S.kn,S.kr.drew⟩
theorem bU.alloc (S:bU W0 w g c ts i t) (o:Obj):bU W0 (w.alloc o) g c ts i t:=⟨S.s.alloc o,S.row.alloc o,S.ti,S.an,S.ar.alloc o,S.kn,S.kr.alloc o⟩
theorem gM {w:af} {f g:Nat} {b e2:bb} {i j k c:Nat} {d:ay} {A:Addr} {l:Nat} {m n:bg} (o:w.ownsRow f b i d k m) (p:w.ownsRow g e2 j (U (some A) c l) c n) (q:b≠e2):d.ownBlock≠some A.block:=by
 rcases p.2 with⟨a,_⟩|⟨s,t,u,a,_,r,_⟩
 ·cases a
 injection a with e
 injection e with e
 subst e;exact lm o r q
theorem bU.mQ (b:bU W0 w g c ts i t) {d m:Nat} (q:t.ha.a=some ⟨d,0,none⟩) (r:t.ha.c=m) (a:Nat) (u:a<t.ra.length) (f:Nat) (v:f<6) (e:ay) (y:RA) (x:y.cells=t.ra[a].cells.set f e):
 bU W0 (w.setCell (ab d (a*6+f)) e) g c (ts.set i {t with ra:=t.ra.set a y}) i {t with ra:=t.ra.set a y}:=by
 have o:t.ha.val=.slice (some ⟨d,0,none⟩) t.ra.length m:=by
  unfold Hd.val;rw[q,r,b.an]
 have j:=b.ar;rw[o]at j;have z:g≠d:=λk=>gM b.row j au (by simp[Value.ownBlock,k]);have A:=gM b.kr j au;have l:W0.heap.size<=d:=by
  obtain⟨m,q,B,l,r⟩:=j.form ae;injection B with e1
  injection e1 with e1
  injection e1 with e1
  subst e1;exact l
 refine⟨b.s.setCell (p:=(ab d (a*6+f))) l e,?_,by simp[b.lt],?_,?_,b.kn,?_⟩
 ·rw[List.length_set,uO b.ti (t':={t with ra:=t.ra.set a y}) rfl]
  exact oz b.row (λk=>z (by injection k with k;injection k)) _ e
 ·show t.ha.n=(t.ra.set a y).length
  rw[List.length_set,b.an]
 ·show(w.setCell _ e).ownsRow _ _ 6 t.ha.val (t.ra.set a y).length ((t.ra.set a y).flatMap RA.cells)
  rw[List.length_set,o];exact mP RA.eE j rfl a u f v e y x
 exact ownsRow_setCell_other b.kr (a:=⟨d,a*6+f,none⟩) (by intro h;exact A h) e
theorem bU.g2 (b:bU W0 w g c ts i t) {w1:af} {A:aX} {ca:Nat} {ra:List RA} (d:w.grownBy w1 t.ha.val.ownBlock) (j:w1.ownsRow W0.heap.size 111 6 (U A ra.length ca) ra.length (ra.flatMap RA.cells)):
 bU W0 (w1.setCell (ab g (i*3+1)) (U A ra.length ca)) g c (ts.set i {t with ra:=ra,ha:=⟨A,ra.length,ca⟩}) i {t with ra:=ra,ha:=⟨A,ra.length,ca⟩}:=by
 have l:=gM b.ar b.row au;have m:t.hk.val.ownBlock=none\/t.hk.val.ownBlock≠t.ha.val.ownBlock:=by
  rcases b.ar.2 with⟨e,_⟩|⟨n,o,q,e,_,k,_⟩
  ·rcases f:t.hk.val.ownBlock with _|r
   ·exact .inl rfl
   right;rw[e];simp[Value.ownBlock]
  right
  rw[e];exact lm b.kr k au
 have e:=b.row.kept d (.inr (λe=>l e.symm));have k:=b.kr.kept d m;have l:=b.oA;have d:ag W0 w1:=Below.grown b.s d b.s.size (λd f=>(b.ar.lt d f).1);refine⟨d.setCell (p:=(ab g (i*3+1))) l.1 _,?_,by simp[b.lt],rfl,?_,b.kn,?_⟩
 ·rw[List.length_set]
  refine mP RT.eE e rfl i b.lt 1 ae _ _ ?_;rw[b.get];rfl
 ·refine oz j ?_ _ _
  intro n;subst n;exact gM e j au rfl
 refine ownsRow_setCell_other k (a:=⟨g,i*3+1,none⟩) ?_ _;exact gM (e2:=81) (A:=⟨g,0,none⟩) k e au
theorem bU.BV (b:bU W0 w g c ts i t) {gk ck:Nat} (k:t.hk.a=some ⟨gk,0,none⟩) (l:t.hk.c=ck) (a:Nat) (o:a<t.key.length) (v:Int):
 bU W0 (w.setCell (ab gk a) v) g c (ts.set i {t with key:=t.key.set a v}) i {t with key:=t.key.set a v}:=by
 have j:t.hk.val=.slice (some ⟨gk,0,none⟩) t.key.length ck:=by
  unfold Hd.val;rw[k,l,b.kn]
 have d:=b.kr;rw[j]at d;have q:g≠gk:=λe=>gM b.row d au (by simp[Value.ownBlock,e]);have r:=gM b.ar d au;have f:W0.heap.size<=gk:=by
  obtain⟨k,l,u,f,x⟩:=d.form ae;injection u with e1
  injection e1 with e1
  injection e1 with e1
  subst e1;exact f
 refine⟨b.s.setCell (p:=(ab gk a)) f _,?_,by simp[b.lt],b.an,?_,?_,?_⟩
 ·rw[List.length_set,uO b.ti (t':={t with key:=t.key.set a v}) rfl]
  exact oz b.row (λe=>q (by injection e with e;injection e)) _ _
 ·exact ownsRow_setCell_other b.ar (a:=⟨gk,a,none⟩) (by intro h;exact r h) _
 ·show t.hk.n=(t.key.set a v).length
  rw[List.length_set,b.kn]
 show(w.setCell _ _).ownsRow _ _ 1 t.hk.val (t.key.set a v).length ((t.key.set a v).flatMap cj);rw[List.length_set,j];have:=mP (enc:=cj) (m:=1) (λ_=>rfl) d rfl a o 0 Nat.one_pos v v (by rfl);simpa using this
theorem bU.tabs (S:bU W0 w g c ts i t) (f:ts.length<=9223372036854775807) (j:t.ra.length<=9223372036854775807) (k:t.key.length<=9223372036854775807)
 (l:∀b∈t.ra,b4 w b.h b.at_.was/\aG b.at_.name/\aG b.at_.dflt.s) (m:aG t.name) (n:∀a (d:a<ts.length),a≠i->fw w ts[a]):bI w ⟨some ⟨g,0,none⟩,ts.length,c⟩ ts:=by
 refine⟨cF (h:=⟨some ⟨g,0,none⟩,ts.length,c⟩) RT.eE rfl f S.row,?_⟩;intro b o;obtain⟨a,d,rfl⟩:=List.mem_iff_getElem.1 o;by_cases e:a=i
 ·subst e
  rw[S.get];refine⟨⟨cF RA.eE S.an.symm (by rw[S.an];exact j) (by rw[S.an];exact S.ar),l⟩,?_,m⟩;exact cF (enc:=cj) (λ_=>rfl) S.kn.symm (by rw[S.kn];exact k) (by rw[S.kn];exact S.kr)
 exact n a d e
end
def kf (w:af) (b:List RA):Prop:=∀a∈b,b4 w a.h a.at_.was/\aG a.at_.name/\aG a.at_.dflt.s
def lW (W0 w:af) (g c:Nat) (ts:List RT) (i:Nat) (b:Tb):Prop:=
 ∃a:RT,bU W0 w g c (ts.set i a) i a/\a.tb=b/\kf w a.ra/\aG a.name/\a.ra.length<=1000000/\a.key.length<=1000000
def cV (w w':af):Prop:=∀a t b,J w a t b->t≠81->t≠111->t≠3->J w' a t b
theorem cV.refl (w:af):cV w w:=λ_ _ _ h _ _ _=>h
theorem cV.trans {a b c:af} (h:cV a b) (k:cV b c):cV a c:=λi t b g d e f=>k i t b (h i t b g d e f) d e f
theorem cV.same {a b:af} (s:ag a b):cV a b:=λ_ _ _ b _ _ _=>(s.block _ b.lt).trans b
theorem cV.drew {a b:af} (h:cV a b):cV a b.drew:=h
theorem cV.alloc {a b:af} (h:cV a b) (o:Obj):cV a (b.alloc o):=λi t b c d e f=>(h i t b c d e f).alloc o
theorem cV.set {a c:af} (h:cV a c) {g:Nat} {b:bb} {m:aO} (n:J c g b m) (o:b=81\/b=111\/b=3) (j:Nat) (v:ay):cV a (c.setCell (ab g j) v):=λi t c m e f k=>by
 have l:=h i t c m e f k;refine l.far (p:=(ab g j)) (λd=>?_) v;have q:t≠b:=by rintro rfl;exact o.elim e (λd=>d.elim f k)
 exact J.sz l n q d
theorem cV.grown {a d c:af} (h:cV a d) {j m n:Nat} {b:bb} {v:ay} {xs:bg} (o:d.ownsRow j b m v n xs) (k:b=81\/b=111\/b=3) (j:d.grownBy c v.ownBlock):cV a c:=λi t d l e f g=>by
 have d:=h i t d l e f g;refine d.grown j (λj=>?_);refine lm o d ?_ j.symm;rintro rfl;rcases k with b|b|b
 ·exact e b
 ·exact f b
 exact g b
section
variable {W0 w w':af} {g c i:Nat} {ts:List RT} {t:RT}
theorem kf.same {rs:List RA} (h:kf W0 rs) (s:ag W0 w):kf w rs:=λa b=>⟨(h a b).1.same s,(h a b).2⟩
theorem kf.set {rs:List RA} (h:kf w rs) (a:Nat) (y:RA) (c:b4 w y.h y.at_.was/\aG y.at_.name/\aG y.at_.dflt.s):kf w (rs.set a y):=by
 intro d e;rcases List.mem_or_eq_of_mem_set e with b|b
 ·exact h d b
 rw[b];exact c
theorem uP {c:Type} (b:List c) (a:Nat) (e:a<b.length) (d:c->c):b.set a (d b[a])=b.modify a d:=by
 apply List.ext_getElem?;intro b;rw[List.getElem?_modify,List.getElem?_set];by_cases h:a=b
 ·subst h;simp[e]
 simp[h]
theorem ry (b:List RA) (a:Nat) (e:a<b.length) (c:RA) (d:At->At) (f:c.at_=d b[a].at_):(b.set a c).map RA.at_=(b.map RA.at_).modify a d:=by
 rw[List.map_set,f,<-uP _ a (by simpa using e)];simp
theorem bU.BW (o:bU W0 w g c ts i t) {b p:Nat} (d:t.ha.a=some ⟨b,0,none⟩) (e:t.ha.c=p) (a:Nat) (f:a<t.ra.length) (dE dk dn:Int) (ds:aw):
 bU W0 ((((w.setCell (ab b (a*6+1)) dE).setCell (ab b (a*6+3)) dk).setCell (ab b (a*6+4)) dn).setCell (ab b (a*6+5)) ds) g c
  (ts.set i {t with ra:=t.ra.set a ⟨⟨t.ra[a].at_.name,dE,t.ra[a].at_.was,⟨dk,dn,ds⟩⟩,t.ra[a].h⟩}) i {t with ra:=t.ra.set a ⟨⟨t.ra[a].at_.name,dE,t.ra[a].at_.was,⟨dk,dn,ds⟩⟩,t.ra[a].h⟩}:=by
 obtain⟨k,m⟩:∃k,k=t.ra[a]:=⟨_,rfl⟩;rw[<-m];obtain⟨⟨j,r,was,⟨q,n,l⟩⟩,h⟩:=k;have b:=o.mQ d e a f 1 ae dE ⟨⟨j,dE,was,⟨q,n,l⟩⟩,h⟩ (by rw[<-m];rfl);have b:=b.mQ d e a (by simpa using f) 3 ae dk ⟨⟨j,dE,was,⟨dk,n,l⟩⟩,h⟩ (by simp;rfl);have b:=b.mQ d e a (by simpa using f) 4 ae dn ⟨⟨j,dE,was,⟨dk,dn,l⟩⟩,h⟩ (by simp;rfl);have b:=b.mQ d e a (by simpa using f) 5 ae ds ⟨⟨j,dE,was,⟨dk,dn,ds⟩⟩,h⟩ (by simp;rfl);simpa[List.set_set]using b
theorem bU.BY (p:bU W0 w g c ts i t) {b q:Nat} (e:t.ha.a=some ⟨b,0,none⟩) (f:t.ha.c=q) (a:Nat) (j:a<t.ra.length) (hw:Hd) (was:bm) (nn:aw):
 bU W0 ((w.setCell (ab b (a*6+2)) hw.val).setCell (ab b (a*6)) nn) g c
  (ts.set i {t with ra:=t.ra.set a ⟨⟨nn,t.ra[a].at_.kind,was,t.ra[a].at_.dflt⟩,hw⟩}) i {t with ra:=t.ra.set a ⟨⟨nn,t.ra[a].at_.kind,was,t.ra[a].at_.dflt⟩,hw⟩}:=by
 obtain⟨d,k⟩:∃d,d=t.ra[a]:=⟨_,rfl⟩;rw[<-k];obtain⟨⟨r,l,s,⟨m,n,o⟩⟩,h⟩:=d;have b:=p.mQ e f a j 2 ae hw.val ⟨⟨r,l,was,⟨m,n,o⟩⟩,hw⟩ (by rw[<-k];rfl);have b:=b.mQ e f a (by simpa using j) 0 ae nn ⟨⟨nn,l,was,⟨m,n,o⟩⟩,hw⟩ (by simp;rfl);simpa[List.set_set]using b
end
theorem p3 (b:af) (a:Addr) (v:ay):(b.setCell a v).heap.size=b.heap.size:=by simp[World.setCell]
theorem p4 (c:af) (b d e o:Nat) (f:ay) (h:b≠e):(c.setCell (ab e o) f).cell? (ab b d)=c.cell? (ab b d):=
 World.cell?_of_block (a:=⟨b,d,none⟩) (Below.heap_setCell c ⟨e,o,none⟩ f b h)
theorem p5 (d a:af) (b:aO) (e:bb) (c:Nat) (h:a.heap.size=d.heap.size):(a.alloc (.cells b e)).cell? (am d c)=b[c]?:=by
 rw[<-h];exact(J.new a e b).cell c
theorem p6 (a:af) (o:Obj) (b c:Nat) (h:b<a.heap.size):(a.alloc o).cell? (ab b c)=a.cell? (ab b c):=World.cell?_alloc_lt a o _ h
theorem Dm (f n b c i o:Nat) (p j k l:Int) (q r s m:aw) (a:af) (d:f≠b) (d:b<a.heap.size) (d:f<a.heap.size) (d:c<i) (d:i<=9223372036854775807)
 (d:ac a (ab f (n+1)) (U (some ⟨b,0,none⟩) i o))
 (t:∃d,ac a (ab b (c*6+1)) d) (u:∃d,ac a (ab b (c*6+3)) d) (v:∃d,ac a (ab b (c*6+4)) d) (w:∃d,ac a (ab b (c*6+5)) d) (g:∀d,a.frozen? (ab b d)=false):
 Calls Tryz.prog 260 #[.pointer (some ⟨f,n,none⟩),.agg #[p,q,r,s,j,k,l,m],c] a λd e=>d=.returned (.tuple #[])/\
  e=(((((a.setCell (ab b (c*6+1)) j).setCell (ab b (c*6+3)) k).setCell (ab b (c*6+4)) l).setCell (ab b (c*6+5)) m).alloc (.cells #[p,q,r,s,j,k,l,m] 99)).drew:=by
 obtain⟨x,t⟩:=t;obtain⟨y,u⟩:=u;obtain⟨z,v⟩:=v;obtain⟨A,w⟩:=w;have d:=g (c*6+1);have d:=g (c*6+3);have d:=g (c*6+4);have c:=g (c*6+5);have c:f≠a.heap.size:=ae
 have c:b≠a.heap.size:=ae
 clear g;go_enter Tryz.func260,Tryz.ntmps260
 go_wp2;go_region_held3 (λe=>ac e (ab f (n+1)) (U (some ⟨b,0,none⟩) i o)/\ac e (am a 4) j/\ac e (am a 5) k/\ac e (am a 6) l/\ac e (am a 7) m) (first|(simp[*];done)|(simp[*,p3,iS,p4,p5,p6];done)|go_keep) (fail)
 all_goals
  go_wp2;go_end0
  exact⟨rfl,rfl⟩
theorem Dp (w:af):b4 w ⟨none,0,0⟩ []:=⟨⟨rfl,by show(0:Nat)<=_;omega,λa a=>by simp at a⟩,λa a=>by simp at a⟩
theorem vC {g:Type} {e:g->List Value} {a:Nat} (f:∀c,(e c).length=a):∀(d:List g) (b:Nat),b<d.length->(d.flatMap e).take (b*a)++(d.flatMap e).drop ((b+1)*a)=(d.eraseIdx b).flatMap e
 |c::d,0,_=>by
  have:(e c).length=a:=f c;simp[<-this]
 |c::d,b+1,h=>by
  have d:=vC f d b (by simpa using h);have e:(b+1)*a=a+b*a:=by rw[Nat.add_mul];omega
  have g:(b+1+1)*a=a+(b+1)*a:=by rw[Nat.add_mul (b+1)];omega
  rw[e]at d;rw[List.flatMap_cons,g,List.take_append,List.drop_append,f c,e,Nat.add_sub_cancel_left];rw[show a+(a+b*a)-a=a+b*a by omega,List.drop_of_length_le (by rw[f c];omega),List.take_of_length_le (by rw[f c];omega),List.eraseIdx_cons_succ,List.flatMap_cons,List.nil_append,List.append_assoc,d]
theorem vD {d e:Type} (c:d->e):∀(a:List d) (b:Nat),(a.eraseIdx b).map c=(a.map c).eraseIdx b
 |[],_=>rfl
 |_::_,0=>rfl
 |x::a,b+1=>by simp[vD c a b]
section
variable {W0 w w':af} {g c i:Nat} {ts:List RT} {t:RT}
theorem Dq (t:RT) (cg:Cg) (a:Nat) (b:a<t.ra.length) (c:cg.kind=4) (d:bH t.tb.attrs cg.attr=a):
 (RT.tb {t with ra:=t.ra.set a ⟨⟨t.ra[a].at_.name,cg.dE,t.ra[a].at_.was,cg.dflt⟩,t.ra[a].h⟩})=dt t.tb cg:=by
 unfold dt g2 ni;rw[d,c];simp only[RT.tb];rw[ry t.ra a b _ (λb=>⟨b.name,cg.dE,b.was,cg.dflt⟩) rfl];rfl
theorem Dr (t:RT) (cg:Cg) (a:Nat) (b:a<t.ra.length) (c:cg.kind=3) (d:bH t.tb.attrs cg.attr=a) (hw:Hd):
 (RT.tb {t with ra:=t.ra.set a ⟨⟨cg.name,t.ra[a].at_.kind,t.ra[a].at_.was++[t.ra[a].at_.name],t.ra[a].at_.dflt⟩,hw⟩})=dt t.tb cg:=by
 unfold dt g2 ni;rw[d,c];simp only[RT.tb];rw[ry t.ra a b _ (λb=>⟨cg.name,b.kind,b.was++[b.name],b.dflt⟩) rfl];rfl
theorem Ds (t:RT) (cg:Cg) (a:cg.kind=1) (h:Hd):
 (RT.tb {t with ra:=t.ra++[⟨⟨cg.name,cg.dE,[],cg.dflt⟩,⟨none,0,0⟩⟩],ha:=h})=dt t.tb cg:=by
 unfold dt g2 ni;rw[a];simp[RT.tb]
theorem Dt (t:RT) (b:Cg) (a:Nat) (c:b.kind=2) (d:bH t.tb.attrs b.attr=a) (h:Hd):
 (RT.tb {t with ra:=t.ra.eraseIdx a,ha:=h,key:=t.key.map (λk=>if(a:Int)<k then k-1 else k)})=dt t.tb b:=by
 unfold dt g2 ni;rw[d,c];simp[RT.tb];exact vD _ _ _
end
theorem vH {a:Nat->Bool} {b:Nat} (h:∀c,c<b->a c=true):(List.range b).all a=true:=by
 rw[List.all_eq_true];intro a b;exact h a (List.mem_range.1 b)
theorem p8 {b:Nat->Bool} {c:Nat} (a:Nat) (d:a<c) (h:b a=false):(List.range c).all b=false:=by
 rw[List.all_eq_false];exact⟨a,List.mem_range.2 d,by simp[h]⟩
theorem rU {c:Nat->Bool} {b:Nat} (h:∀a,a<b->c a=true) (d:c b=true):∀a,a<b+1->c a=true:=by
 intro a c;by_cases e:a=b
 ·subst e;exact d
 exact h a ae
end Go.Proofs.YteamkimbmdgdbaaGreatDoor
