import Derived.Test.YteamkimbmdgdbaaGreatDoorK21
import Derived.Test.YteamkimbmdgdbaaGreatDoorK25
set_option linter.unusedSimpArgs false
set_option linter.unusedVariables false
set_option maxHeartbeats 16000000
set_option maxRecDepth 100000
namespace Go.Proofs.YteamkimbmdgdbaaGreatDoor
open Go.RowKit
theorem Tryz.EM:(Tryz.prog.info? 188).map (λi=>(i.zero,i.size,i.bytes))=some (some (.agg #[O 0,ah,O 0,O 0]),4,40):=ak
theorem hL {w:af} {a:bb} {b:aO} (c:Nat) (d:c=w.heap.size):J (w.alloc (.cells b a)) c a b:=by subst d;exact J.new w a b
theorem EN (b:aw) (a:af):dD a (((((a.alloc (.cells #[aa] 121)).alloc (.cells #[O 0] 76)).alloc (.cells #[O 0] 3)).alloc (.cells #[b,O 0] 182)).alloc (.cells #[.func (.func 81) #[aj (a.heap.size+1+1+1)] #[],.func (.func 82) #[aj (a.heap.size+1+1+1)] #[],.func (.func 83) #[aj (a.heap.size+1+1+1)] #[],.func (.func 84) #[aj (a.heap.size+1+1+1)] #[]] 186)) b 0 none 0 0 []:=
 ⟨((((((Kp.refl [] a).alloc _).alloc _).alloc _).alloc _).alloc _),((((hL _ rfl).alloc _).alloc _).alloc _).alloc _,(((hL _ ai).alloc _).alloc _).alloc _,((hL _ ai).alloc _).alloc _,(show J _ _ _ _ from(hL _ ai).alloc _),hL _ ai,⟨rfl,.inl ⟨rfl,rfl⟩⟩,rfl,by omega,(λ_ h=>by cases h),by omega⟩
theorem EO (a:aw) (b:af) (d:20000<a.size) (e:aG a):Calls Tryz.prog 44 #[a] b λf g=>iP b (dq (ba a)) f g:=by
 have e:(a.size:Int)<=9223372036854775807:=by unfold aG at e;omega
 have e:(20000:Int)<a.size:=ae
 have c:Hid (dq (ba a)=([],3,-1)):=Z (by unfold dq;rw[eJ,if_pos d]);generalize dq (ba a)=j at c⊢;go_enter_defers Tryz.func44,Tryz.ntmps44
 go_wp2;go_step3
 go_wp2;rw[Exit.noGoto_ret];have i:=c.out;subst i;refine⟨.tuple #[aa,O 3,O (-1)],?_,⟨none,0,0⟩,rfl,⟨aF.none_ _ _ _,(λ_ _ h=>by cases h),Nat.le_refl _,(λ_ h=>by cases h),by simp⟩,(((ag.refl b).alloc _).alloc _).alloc _⟩;simp[results,Tryz.results44,go_sem]
theorem EP (d:aw) (w:af) (C:d.size<=20000):Calls Tryz.prog 44 #[d] w λe q=>iP w (dq (ba d)) e q:=by
 have ar:∀(ar:Fn) (first cap:aO) (w:af),(Instr.makeFunc ar first cap).run Tryz.prog w=.ok (.func ar first cap) w:=λ_ _ _ _=>rfl;obtain⟨aH,aI,aJ,aK,aL⟩:=info_parts Tryz.EM;have K:Hid (dq (ba d)=g6 (d.size+1) ((ba d).drop (cQ false (ba d))) (cQ false (ba d)) []):=Z (by unfold dq;rw[eJ,if_neg (by omega)]);have Q:=m4 (ba d) false;rw[eJ]at Q;generalize dq (ba d)=R at K⊢;have ar:¬(20000:Int)<d.size:=by omega
 have S:=Z (EN d w);have av:=Z (tz (w.heap.size+1+1+1) d 0 _ C ae S.out.bS);go_enter_defers Tryz.func44,Tryz.ntmps44
 go_wp2_with fail
 go_step3
 go_wp2_with fail
 refine av.out.mono ?_;rintro e ar ⟨rfl,hb,v⟩;rw[List.drop_zero,Nat.zero_add]at hb;have x:=Z (S.out.move v hb Q);clear hb v S av;go_wp2_with fail
 go_step3
 go_wp2_with fail
 go_loopg [] (d.size+1) (λk wr=>∃(a:Nat) (g:List ao) (A:aX) (n c:Nat),Hid (dD w wr d a A n c g)/\d.size-a<k/\Hid (R=g6 k ((ba d).drop a) a g))
 case atStart=>exact⟨_,[],none,0,0,x,by omega,K⟩
 obtain⟨a,l,A,n,c,I,v,s⟩:=hrel;clear x K Q;obtain⟨f,rfl⟩:∃f,gk=f+1:=⟨gk-1,by omega⟩;have K:d.size-a<f+1:=v;have aM:=Z K;clear v K;have z:ac wr (ab (w.heap.size+1+1+1) 1) a:=J.cell I.out.bS 1;have K:=I.out.oV;have K:=I.out.few;by_cases F:a<d.size
 case neg=>
  have g:¬(a:Int)<d.size:=ae
  have kv:=Z (show R=(l,0,0) by rw[s.out,List.drop_of_length_le po];rfl);clear s;have N:ac wr (am w 0) (U A n c):=J.cell I.out.bT 0;have g:ac wr (ab (w.heap.size+1) 0) (O 0):=J.cell I.out.bE 0;have g:ac wr (ab (w.heap.size+1+1) 0) (O 0):=J.cell I.out.bA 0;have j:=λg=>J.frozen I.out.bT g;have j:=λg=>J.frozen I.out.bE g;have g:=λg=>J.frozen I.out.bA g;go_wp2;try rw[Exit.noGoto_ret]
  have hre:=kv.out;subst hre;refine leaves_cons (f:=80) (args:=#[aj w.heap.size,aj (w.heap.size+1),aj (w.heap.size+1+1)]) ai ki ?_;exact EJ I.out.fin _ rfl rfl rfl
 have K:(a:Int)<d.size:=ae
 obtain⟨j,K⟩:∃j,j=(ba d).drop a:=⟨_,rfl⟩;have T:=Z (show j.length=d.size-a by rw[K,fU]);have ax:=Z (show R=ku f j a l (jx 0 j) by rw[s.out,K,kI d a F];exact wi f _ _ a l);have G:=Z K;clear s K;have aN:ac wr (ab (w.heap.size+1+1+1+1) 0) (.func (.func 81) #[aj (w.heap.size+1+1+1)] #[]):=J.cell I.out.bK 0;have aQ:ac wr (ab (w.heap.size+1+1+1+1) 1) (.func (.func 82) #[aj (w.heap.size+1+1+1)] #[]):=J.cell I.out.bK 1;have aR:ac wr (ab (w.heap.size+1+1+1+1) 2) (.func (.func 83) #[aj (w.heap.size+1+1+1)] #[]):=J.cell I.out.bK 2;have aS:ac wr (ab (w.heap.size+1+1+1+1) 3) (.func (.func 84) #[aj (w.heap.size+1+1+1)] #[]):=J.cell I.out.bK 3;go_upto_region 8 with(fail)
 go_wp2_with fail
 clear aN aQ aR aS;go_loopg [39] 5 (λk o u=>∃g:Nat,o=.int .i64 g/\g<=4/\4-g<k/\Hid (dD w u d a A n c l)/\Hid (R=ku f j a l (jx g j)))
 case atStart=>exact⟨0,rfl,by omega,by omega,I,ax⟩
 obtain⟨g,rfl,a7,ay,I,s⟩:=hrel;obtain⟨V,rfl⟩:∃V,gk=V+1:=⟨gk-1,by omega⟩;have aU:=Z ay;clear ax ay;by_cases aV:g<4
 case neg=>
  obtain rfl:g=4:=ae
  have z:ac wr (ab (w.heap.size+1+1+1) 1) a:=J.cell I.out.bS 1;have kv:=Z (show R=([],5,(a:Int))from s.out);clear s;go_wp2_with (go_at_call 86;refine(jT (w.heap.size+1+1+1) 5 a _ z).mono ?_;rintro e o ⟨rfl,rfl⟩)
  try rw[Exit.noGoto_panic]
  have hre:=kv.out;subst hre;refine leaves_cons (f:=80) (args:=#[aj w.heap.size,aj (w.heap.size+1),aj (w.heap.size+1+1)]) ai ki ?_;exact qq I.out (5) (a) _ rfl rfl rfl
 have K:(g:Int)<4:=ae
 have E1:=Z (show R=ku f j a l ((mg g j).or (jx (g+1) j)) by rw[s.out,wg g aV]);have HF:=Z (EG g j (by rw[T.out];omega) (by intro h;have:=T.out;rw[h]at this;simp at this;omega));obtain⟨r,K⟩:∃r,r=mg g j:=⟨_,rfl⟩;rw[<-K]at E1 HF;have HR:=Z K;clear s K;go_upto_region 10 with(fail)
 go_cut [8,39]from 39 to 73 (λo s u=>s=.int .i64 g/\u=wr/\Hid ((g=0/\o=.func (.func 81) #[aj (w.heap.size+1+1+1)] #[])\/(g=1/\o=.func (.func 82) #[aj (w.heap.size+1+1+1)] #[])\/(g=2/\o=.func (.func 83) #[aj (w.heap.size+1+1+1)] #[])\/(g=3/\o=.func (.func 84) #[aj (w.heap.size+1+1+1)] #[])))
 case first=>
  have o:g=0\/g=1\/g=2\/g=3:=ae
  rcases o with rfl|rfl|rfl|rfl
  ·have s:∀o,(Instr.index 184 (.agg #[.func (.func 81) #[aj (w.heap.size+1+1+1)] #[],.func (.func 82) #[aj (w.heap.size+1+1+1)] #[],.func (.func 83) #[aj (w.heap.size+1+1+1)] #[],.func (.func 84) #[aj (w.heap.size+1+1+1)] #[]]) (O ((0:Nat):Int))).run Tryz.prog o=.ok (.func (.func 81) #[aj (w.heap.size+1+1+1)] #[]) o:=λ_=>by kernel_rfl
   have o:∀o,(Instr.index 184 (.agg #[.func (.func 81) #[aj (w.heap.size+1+1+1)] #[],.func (.func 82) #[aj (w.heap.size+1+1+1)] #[],.func (.func 83) #[aj (w.heap.size+1+1+1)] #[],.func (.func 84) #[aj (w.heap.size+1+1+1)] #[]]) (O 0)).run Tryz.prog o=.ok (.func (.func 81) #[aj (w.heap.size+1+1+1)] #[]) o:=λ_=>by kernel_rfl
   go_wp2_with fail
   go_meet;exact⟨rfl,rfl,Z ai⟩
  ·have s:∀o,(Instr.index 184 (.agg #[.func (.func 81) #[aj (w.heap.size+1+1+1)] #[],.func (.func 82) #[aj (w.heap.size+1+1+1)] #[],.func (.func 83) #[aj (w.heap.size+1+1+1)] #[],.func (.func 84) #[aj (w.heap.size+1+1+1)] #[]]) (O ((1:Nat):Int))).run Tryz.prog o=.ok (.func (.func 82) #[aj (w.heap.size+1+1+1)] #[]) o:=λ_=>by kernel_rfl
   have o:∀o,(Instr.index 184 (.agg #[.func (.func 81) #[aj (w.heap.size+1+1+1)] #[],.func (.func 82) #[aj (w.heap.size+1+1+1)] #[],.func (.func 83) #[aj (w.heap.size+1+1+1)] #[],.func (.func 84) #[aj (w.heap.size+1+1+1)] #[]]) (O 1)).run Tryz.prog o=.ok (.func (.func 82) #[aj (w.heap.size+1+1+1)] #[]) o:=λ_=>by kernel_rfl
   go_wp2_with fail
   go_meet;exact⟨rfl,rfl,Z ai⟩
  ·have s:∀o,(Instr.index 184 (.agg #[.func (.func 81) #[aj (w.heap.size+1+1+1)] #[],.func (.func 82) #[aj (w.heap.size+1+1+1)] #[],.func (.func 83) #[aj (w.heap.size+1+1+1)] #[],.func (.func 84) #[aj (w.heap.size+1+1+1)] #[]]) (O ((2:Nat):Int))).run Tryz.prog o=.ok (.func (.func 83) #[aj (w.heap.size+1+1+1)] #[]) o:=λ_=>by kernel_rfl
   have o:∀o,(Instr.index 184 (.agg #[.func (.func 81) #[aj (w.heap.size+1+1+1)] #[],.func (.func 82) #[aj (w.heap.size+1+1+1)] #[],.func (.func 83) #[aj (w.heap.size+1+1+1)] #[],.func (.func 84) #[aj (w.heap.size+1+1+1)] #[]]) (O 2)).run Tryz.prog o=.ok (.func (.func 83) #[aj (w.heap.size+1+1+1)] #[]) o:=λ_=>by kernel_rfl
   go_wp2_with fail
   go_meet;exact⟨rfl,rfl,Z ai⟩
  have s:∀o,(Instr.index 184 (.agg #[.func (.func 81) #[aj (w.heap.size+1+1+1)] #[],.func (.func 82) #[aj (w.heap.size+1+1+1)] #[],.func (.func 83) #[aj (w.heap.size+1+1+1)] #[],.func (.func 84) #[aj (w.heap.size+1+1+1)] #[]]) (O ((3:Nat):Int))).run Tryz.prog o=.ok (.func (.func 84) #[aj (w.heap.size+1+1+1)] #[]) o:=λ_=>by kernel_rfl
  have o:∀o,(Instr.index 184 (.agg #[.func (.func 81) #[aj (w.heap.size+1+1+1)] #[],.func (.func 82) #[aj (w.heap.size+1+1+1)] #[],.func (.func 83) #[aj (w.heap.size+1+1+1)] #[],.func (.func 84) #[aj (w.heap.size+1+1+1)] #[]]) (O 3)).run Tryz.prog o=.ok (.func (.func 84) #[aj (w.heap.size+1+1+1)] #[]) o:=λ_=>by kernel_rfl
  go_wp2_with fail
  go_meet;exact⟨rfl,rfl,Z ai⟩
 case rest=>
 obtain⟨rfl,az,aW⟩:=hcut;have aY:=az.symm;subst aY;clear az;go_upto_region 11 with(fail)
 go_cut [9,10,39]from 39 to 73 (λu y B s=>∃(o:Nat) (k:Int) (t:bL) (m:Int) (len:Nat),B=.int .i64 g/\u=.pointer (some ⟨o,0,none⟩)/\y=.int .i64 len/\w.heap.size+5<=o/\(∀b,(Value.slice A n c).ownBlock=some b->b<o)/\Hid (dD w s d a A n c l)/\Hid (J s o 188 #[k,.string (dY t),m,O 0])/\Hid ((len=0/\R=ku f j a l (jx (g+1) j))\/(r8 j t m len/\R=ku f j a l (.tok k t m len))))
 case first=>
  rcases aW.out with⟨rfl,rfl⟩|⟨rfl,rfl⟩|⟨rfl,rfl⟩|⟨rfl,rfl⟩
  ·have HC:Hid (Calls Tryz.prog 81 #[aj (w.heap.size+1+1+1)] wr λe q=>kK a wr r e q):=Z (by rw[HR.out,G.out];exact y4 (w.heap.size+1+1+1) d a wr C F I.out.bS)
   exact ve
  ·have HC:Hid (Calls Tryz.prog 82 #[aj (w.heap.size+1+1+1)] wr λe q=>kK a wr r e q):=Z (by rw[HR.out,G.out];exact zg (w.heap.size+1+1+1) d a wr C F I.out.bS)
   exact ve
  ·have HC:Hid (Calls Tryz.prog 83 #[aj (w.heap.size+1+1+1)] wr λe q=>kK a wr r e q):=Z (by rw[HR.out,G.out];exact CV (w.heap.size+1+1+1) d a wr C F I.out.bS)
   exact ve
  have HC:Hid (Calls Tryz.prog 84 #[aj (w.heap.size+1+1+1)] wr λe q=>kK a wr r e q):=Z (by rw[HR.out,G.out];exact zh (w.heap.size+1+1+1) d a wr C F I.out.bS);clear HR;cases r with
  |none=>
   go_wp2_with fail
   refine HC.out.mono ?_;rintro e w2 ⟨s2,hm⟩;obtain⟨k,t,m,rfl⟩:∃k t m,e=.returned (.tuple #[.agg #[.int .i64 k,.string (dY t),.int .i64 m,O 0],O 0]):=hm;have I2:=Z (I.out.same s2);have hz2:w.heap.size+5<=w2.heap.size:=bR I.out.bK.lt s2.size;have ho2:∀b,(Value.slice A n c).ownBlock=some b->b<w2.heap.size:=λb hb=>aT (I.out.qr b hb) s2.size;clear s2 HC;go_wp2_with fail
   go_meet;exact⟨_,k,t,m,0,rfl,rfl,rfl,hz2,ho2,Z (I2.out.same ((ag.refl _).alloc _)),Z (J.new _ _ _),Z (.inl ⟨rfl,E1.out⟩)⟩
  |tok k t m len=>
   go_wp2_with fail
   refine HC.out.mono ?_;rintro e w2 ⟨s2,hm⟩;obtain rfl:e=.returned (.tuple #[.agg #[k,.string (dY t),m,O 0],len]):=hm;have I2:=Z (I.out.same s2);have hz2:w.heap.size+5<=w2.heap.size:=bR I.out.bK.lt s2.size;have ho2:∀b,(Value.slice A n c).ownBlock=some b->b<w2.heap.size:=λb hb=>aT (I.out.qr b hb) s2.size;clear s2 HC;go_wp2_with fail
   go_meet;exact⟨_,k,t,m,len,rfl,rfl,rfl,hz2,ho2,Z (I2.out.same ((ag.refl _).alloc _)),Z (J.new _ _ _),Z (.inr ⟨HF.out k t m len rfl,E1.out⟩)⟩
  |bad er=>
   go_wp2_with fail
   refine HC.out.mono ?_;rintro e w2 ⟨s2,rfl⟩;have I2:=Z (I.out.same s2);have kv:=Z (show R=([],er,(a:Int))from E1.out);clear s2 HC E1 HF;go_wp2_with fail
   try rw[Exit.noGoto_panic]
   have hre:=kv.out;subst hre;refine leaves_cons (f:=80) (args:=#[aj w.heap.size,aj (w.heap.size+1),aj (w.heap.size+1+1)]) ai ki ?_;exact qq I2.out (er) (a) _ rfl rfl rfl
 obtain⟨u,k,t,m,len,rfl,rfl,rfl,aZ,a0,I,B,L⟩:=hcut;clear E1 HF HR;obtain⟨w2,rfl⟩:∃w2:World,w2=wc:=⟨_,rfl⟩;have q:IntKind.i64.wrap ((g:Int)+1)=(g:Int)+1:=IntWalk.i64_in _ ae;by_cases W:len=0
 case pos=>
  have q:((len:Int)==0)=true:=by simp[W]
  have o:=Z (show R=ku f j a l (jx (g+1) j) by
   rcases L.out with⟨_,h⟩|⟨h,_⟩
   ·exact h
   have:=h.l1;omega)
  clear L W;go_wp2_with fail
  go_roundg V
  case measure=>omega
  exact⟨g+1,by go_num,by omega,by have:=aU.out;omega,I,o⟩
 have g:((len:Int)==0)=false:=aC
 have y:=Z (show r8 j t m len/\R=ku f j a l (.tok k t m len) by
  rcases L.out with⟨h,_⟩|h
  ·exact absurd h W
  exact h)
 clear L;have z:ac w2 (ab (w.heap.size+1+1+1) 1) a:=J.cell I.out.bS 1;have X:ac w2 (am w 0) (U A n c):=J.cell I.out.bT 0;have g:=I.out.len;by_cases a1:n=5000
 case pos=>
  have g:((n:Int)==5000)=true:=by simp[a1]
  have kv:=Z (show R=([],3,(a:Int)) by rw[y.out.2];exact if_pos ae);clear y;go_wp2_with (go_at_call 86;refine(jT (w.heap.size+1+1+1) 3 a _ z).mono ?_;rintro e g ⟨rfl,rfl⟩)
  try rw[Exit.noGoto_panic]
  have hre:=kv.out;subst hre;refine leaves_cons (f:=80) (args:=#[aj w.heap.size,aj (w.heap.size+1),aj (w.heap.size+1+1)]) ai ki ?_;exact qq I.out (3) (a) _ rfl rfl rfl
 have g:((n:Int)==5000)=false:=aC
 have Y:ac w2 (ab u 0) k:=J.cell B.out 0;have aa:ac w2 (ab u 1) (.string (dY t)):=J.cell B.out 1;have ad:ac w2 (ab u 2) m:=J.cell B.out 2;have ah:ac w2 (ab u 3) (O 0):=J.cell B.out 3;have a2:=λH=>J.frozen B.out H;have x:=Z (I.out.EK (i:=3) aZ a0 a);have D:=Z (J.aP B.out 3 a);go_upto_region 16 with(fail)
 generalize w2.setCell (ab u 3) a=o at x D⊢;clear Y aa ad ah a2 z X I B;have Y:ac o (ab u 0) k:=J.cell D.out 0;have aa:ac o (ab u 1) (.string (dY t)):=J.cell D.out 1;have ad:ac o (ab u 2) m:=J.cell D.out 2;have ah:ac o (ab u 3) a:=J.cell D.out 3;have X:ac o (am w 0) (U A n c):=J.cell x.out.bT 0;have I2:=Z (x.out.same ((ag.refl o).alloc (.cells #[k,.string (dY t),m,a] 188)));have aA:=Z (cC o #[k,.string (dY t),m,a] 188 4 rfl);have g:w.heap.size+5<=o.heap.size:=x.out.bK.lt;go_upto_region 17 with(at_builtin;refine d6 _ rfl (.tmp 59) (.tmp 61) 121 rfl (w.heap.size+5) 188 aH _ 4 40 Tryz.underlying121 aI aJ aK aL rfl au (U A n c) n (l.flatMap ao.cells) rfl I2.out.own (o.heap.size+1) (some ⟨o.heap.size,0,none⟩) 1 1 (#[k,.string (dY t),m,a]:Array Value).toList rfl aA.out bl b1 ae aC ?_;intro g al E M ak;obtain⟨an,N,rfl,aB⟩:=bo E;have ap:=Z E;have aq:=Z M;have P:=Z (J.grown I2.out.bT M (λe=>by have:=I2.out.EL _ e.symm;omega));have aD:ac al (am w 0) (U A n c):=J.cell P.out 0;have aF:=(λH=>J.frozen P.out H);clear E M ak)
 have E:=Z (dD.push I2.out ⟨k,dY t,m,(a:Int)⟩ ⟨by unfold aG;have:=y.out.1.t1;rw[<-eJ,mi];omega,y.out.1.n0,y.out.1.n1,by show(0:Int)<=a;omega,by show(a:Int)<=20000;omega⟩ ae aq.out ap.out);clear Y aa ad ah X x D I2 aA ap aq P aD aF aB;generalize al.setCell (am w 0) (U an (n+1) N)=ak at E⊢;have z:ac ak (ab (w.heap.size+1+1+1) 1) a:=J.cell E.out.bS 1;have a3:=λH=>J.frozen E.out.bS H;have g:=y.out.1.l2;rw[T.out]at g;have g:IntKind.i64.wrap ((a:Int)+len)=(a:Int)+len:=IntWalk.i64_in _ ae;have g:((a:Int)+len)=((a+len:Nat):Int):=by omega
 have M:=Z (E.out.move (a':=a+len) (Kp.aE (p:=(ab (w.heap.size+1+1+1) 1)) ai (Kp.refl _ ak) (O ((a:Int)+len))) (by have:=J.aP E.out.bS 1 (O ((a:Int)+len));rw[g]at this⊢;exact this) ae);clear g;go_upto_region 18 with(fail)
 generalize ak.setCell (ab (w.heap.size+1+1+1) 1) (O ((a:Int)+len))=a4 at M⊢;clear z a3 E;go_wp2_with fail
 refine(tz (w.heap.size+1+1+1) d (a+len) a4 C ae M.out.bS).mono ?_;rintro e g ⟨rfl,hb,v⟩;have g:=m4 ((ba d).drop (a+len)) false;rw[fU]at g;have a5:=Z (M.out.move v hb ae);have a6:=Z (show R=g6 f ((ba d).drop (a+len+cQ false ((ba d).drop (a+len)))) (a+len+cQ false ((ba d).drop (a+len))) (l++[⟨k,dY t,m,(a:Int)⟩]) by
  rw[y.out.2];refine(if_neg ae).trans ?_;rw[G.out,show((ba d).drop a).drop len=(ba d).drop (a+len)from List.drop_drop,List.drop_drop])
 have d:=y.out.1.l1;clear hb v M;go_wp2_with fail
 go_roundg f
 case measure=>omega
 exact⟨_,_,an,n+1,N,a5,by have:=aM.out;omega,a6⟩
theorem wj (a:aw) (w:af) (b:aG a):Calls Tryz.prog 44 #[a] w λc d=>iP w (dq (ba a)) c d:=by
 by_cases h:20000<a.size
 ·exact EO a w h b
 exact EP a w ae
theorem Tryz.wl:(Tryz.prog.info? 95).map (λi=>(i.zero,i.size,i.bytes))=some (some (.agg #[O 0,ah,O 0,ah,ah,aa,aa,O 0,O 0,O 0,aa,ah,ah,aa,aa,aa,O 0,ah,aa,aa,aa,ah,ah,O 0,O 0]),25,408):=ak
theorem la (z:Int) (ts:List ao) (n:Nat) (h:ts.length<=n):(gF z ts).Le n:=
 (dx z ts n h).bind λ_ _ h=>(b5 z _ _ n h).bind λ_ _ h=>(dx z _ n h).bind λ_ _ h=>.ok h
theorem wm (z:Int) (a:aI) (ts:List ao) (n:Nat) (h:ts.length<=n):(hW z a ts).Le n:=
 (b5 z _ _ n h).bind λ_ _ h=>(dx z _ n h).bind λ_ _ h=>(b5 z _ _ n h).bind λ_ _ h=>(qP z _ n h).bind λ_ _ h=>(b5 z _ _ n h).bind λ_ _ h=>.ok h
theorem sa (z:Int):∀(a:Nat) (b:List cL) (ts:List ao) (n:Nat),ts.length<=n->(hV z a b ts).Le n
 |0,_,_,_,h=>.ok h
 |a+1,b,ts,n,h=>.ite (.ok h) ((yC z ts n h).bind λb b h=>sa z a _ b n h)
theorem EQ (z:Int) (a:aI) (ts:List ao) (n:Nat) (h:ts.length<=n):(en z a ts).Le n:=by
 unfold en;refine .ite ?_ (.ite ?_ (.ite ?_ (.ite ?_ (.ite ?_ (.ite ?_ (.ite ?_ (.ite ?_ (.ite ?_ ?_))))))))
 ·exact(b5 z _ _ n h).bind λ_ _ h=>(lG _ _ (qQ z) _ n h).bind λ_ _ h=>(b5 z _ _ n h).bind λ_ _ h=>(qP z _ n h).bind λ_ _ h=>.ok h
 ·exact(b5 z _ _ n h).bind λ_ _ h=>(eU z _ n h).bind λ_ _ h=>.ok h
 ·exact(b5 z _ _ n h).bind λ_ _ h=>(la z _ n h).bind λ_ _ h=>(b5 z _ _ n h).bind λ_ _ h=>(h8 z _ _ n h).bind λ_ _ h=>
   .ite ((eU z _ n h).bind λ_ _ h=>.ok h) (.ite ((eU z _ n h).bind λ_ _ h=>(eU z _ n h).bind λ_ _ h=>.ok h) (.ok h))
 ·exact(b5 z _ _ n h).bind λ_ _ h=>(dx z _ n h).bind λ_ _ h=>(b5 z _ _ n h).bind λ_ _ h=>(eU z _ n h).bind λ_ _ h=>(b5 z _ _ n h).bind λ_ _ h=>(sa z _ _ _ n h).bind λ_ _ h=>.ok h
 ·exact(la z _ n h).bind λ_ _ h=>(b5 z _ _ n h).bind λ_ _ h=>(h8 z _ _ n h).bind λ_ _ h=>.ok h
 ·exact wm z a ts n h
 ·exact(wm z a ts n h).bind λ_ _ h=>(b5 z _ _ n h).bind λ_ _ h=>(dx z _ n h).bind λ_ _ h=>.ite ((lG _ _ (qR z) _ n (h7 h)).bind λ_ _ h=>.ok h) (.ok h)
 ·exact(la z _ n h).bind λ_ _ h=>(b5 z _ _ n h).bind λ_ _ h=>(la z _ n h).bind λ_ _ h=>.ok h
 ·exact(lG _ _ (qS z) _ n h).bind λ_ _ h=>(pi z _ n h).bind λ_ _ h=>.ok h
 exact(b5 z _ _ n h).bind λ_ _ h=>(yH z _ _ n h).bind λ_ _ h=>.ok h
theorem ER (z:Int) (a:ao) (l:List ao):(iV z (a::l)).Le l.length:=by
 unfold iV;refine PO.Le.bind (n:=l.length) ?_ λa a h=>PO.Le.bind (.ite (.ok h) (dx z a _ h)) λb a h=>(EQ z _ a _ h).bind λb a h=>(b5 z _ a _ h).bind λ_ a h=>.ok h;unfold dK;split
 ·exact .ok (Nat.le_refl _)
 exact nJ _ _ _ _
structure iQ (w:af) (base:Nat) (A:aX) (n c:Nat) (rs:List RI):Prop where
 own:w.ownsRow base 95 25 (U A n c) n (rs.flatMap RI.cells)
 len:rs.length=n
 sub:∀r∈rs,df w (λb=>Bw base w.heap.size b/\∀g,A=some ⟨g,0,none⟩->b≠g) r
theorem iQ.none_ (w:af) (base:Nat):iQ w base none 0 0 []:=⟨⟨rfl,.inl ⟨rfl,rfl⟩⟩,rfl,λ_ h=>by cases h⟩
theorem iQ.keep {w d:af} {base:Nat} {A:aX} {n c:Nat} {rs:List RI} (b:iQ w base A n c rs) {l:List Nat} (k:Kp l w d) (e:∀a∈l,a<base):iQ d base A n c rs:=
 ⟨bC b.own k e,b.len,λd f=>((b.sub d f).keep k (λa b h=>by have:=e a b;have:=h.1.1;omega)).mono (λa h=>⟨⟨h.1.1,aT h.1.2 k.size⟩,h.2⟩)⟩
theorem iQ.push {w W f:af} {base P:Nat} {A i:aX} {n c c':Nat} {rs:List RI} {r:RI} (a:iQ w base A n c rs) (k:Kp [P] w W) (q:P<base) (q:base<=w.heap.size)
 (l:df W (Bw w.heap.size W.heap.size) r) (j:f.ownsRow base 95 25 (U i (n+1) c') (n+1) (rs.flatMap RI.cells++r.cells)) (d:W.grownBy f (Value.slice A n c).ownBlock)
 (hat:(Value.slice i (n+1) c').ownBlock=(Value.slice A n c).ownBlock\/(Value.slice i (n+1) c').ownBlock=some W.heap.size):iQ f base i (n+1) c' (rs++[r]):=by
 rcases j.2 with⟨h,_⟩|⟨g,s,u,e,v,y,z,B,C,D⟩
 ·cases h
 injection e with e1 e2 e3
 subst e1 e3;have hform:∀b,(Value.slice A n c).ownBlock=some b->A=some ⟨b,0,none⟩/\base<=b/\b<w.heap.size:=by
  intro b hb';rcases a.own.2 with⟨e,_⟩|⟨g',E,m,e,o,p,_⟩
  ·rw[e]at hb';cases hb'
  rw[e]at hb';injection hb' with hb'
  injection e with e1
  subst e1;have:g'=b:=hb';subst this;exact⟨rfl,o,J.lt (t:=95) (cs:=m) p⟩
 have m:Kp ((Value.slice A n c).ownBlock.toList) W f:=⟨d.os,d.tape,d.output,d.size,λb hb' hne=>d.block b hb' (λhe=>hne (by rw[<-he];simp))⟩;have o:g<W.heap.size->(Value.slice A n c).ownBlock=some g:=by
  exact vq
 have hold:∀(e i:Nat->Prop) (x:RI),df W e x->(∀b,e b->b<W.heap.size/\(Value.slice A n c).ownBlock≠some b)->(∀b,e b->i b)->df f i x:=by
  intro e i x e hS p;exact(e.keep m (λb hb' h=>(hS b h).2 (by
   cases gs:(Value.slice A n c).ownBlock with
   |none=>rw[gs]at hb';simp at hb'
   |some E=>rw[gs]at hb';simp at hb';rw[hb']))).mono p
 have q9:=k.size;have d:=d.size;have hne:∀b,b<W.heap.size->(Value.slice A n c).ownBlock≠some b->b≠g:=λb d e he=>e (he▸o (he▸d));refine⟨?_,by rw[List.length_append,a.len];rfl,λx p=>?_⟩
 ·rw[List.flatMap_append]
  simpa using j
 rcases cY p with h|h
 ·exact nO
 rw[aA h];refine hold (Bw w.heap.size W.heap.size) _ r l (λb hS=>⟨hS.2,λhe=>by have:=(hform b he).2.2;have:=hS.1;omega⟩) (λb hS=>⟨⟨by have:=hS.1;omega,by have:=hS.2;omega⟩,λg' hg'=>?_⟩);injection hg' with hg'
 injection hg' with hg'
 subst hg';exact hne b hS.2 (λhe=>by have:=(hform b he).2.2;have:=hS.1;omega)
theorem ax.one {W:af} {P:Nat} {z:Int} {e:List ao} (h:ax W P z e) {a:Nat} {j:bb} {v:ay} (k:J W a j #[v]) (l:a≠P) (u:ay):ax (W.setCell (ab a 0) u) P z e:=by
 obtain⟨m,n,b⟩:=h;have c:Kp [a] W (W.setCell (ab a 0) u):=Kp.aE (p:=(ab a 0)) ai (Kp.refl _ W) _;refine⟨m,c.blk n (by simp;exact λd=>l d.symm),⟨⟨b.lies.1,b.lies.2.1,λi e=>?_⟩,b.far,b.cap,b.fine,b.few⟩⟩;obtain⟨d,off,b,f,g⟩:=b.lies.2.2 i e;refine⟨d,off,b,aT f c.size,λo q r=>?_⟩;have s:d≠a:=by
  intro t;subst t;have h1:=g 1 _ rfl;have h2:=J.cell k (off+i*4+1);rw[show(off+i*4+1)=off+(i*4+1) by omega]at h2;rw[<-Nat.add_assoc]at h2;exact Ik
 exact(c.cell (p:=⟨d,_,none⟩) f (by simpa using s)).trans (g o q r)
theorem sb {P:Program} {b:Func} {g i:aO} {j:Ending->World->Prop} (h:results b g=results b i):∀(a:List Deferred) (e:FrameMode) (w:af),Leaves P b g j a e w->Leaves P b i j a e w
 |[],.returning,w,hl=>by obtain⟨f,k,l⟩:=hl;exact⟨f,by rw[<-h];exact k,l⟩
 |[],.panicking _,w,hl=>hl
 |[],.run,_,hl=>hl
 |d::a,e,w,hl=>by
  obtain⟨k,l,m,n,o,p,q,r⟩:=hl;refine⟨k,l,m,n,o,p,q,r.mono ?_⟩;intro s b b f;cases s with
  |returned t=>exact sb h a _ _ f
  |panicked c=>exact sb h a _ _ f
  |outgrown=>exact f
theorem sc {b:aO} {c a:Nat} {e d:ay} (h:c≠a):(b.setIfInBounds c e).getD a d=b.getD a d:=by
 simp only[Array.getD_eq_getD_getElem?,Array.getElem?_setIfInBounds_ne h]
theorem ES (a:aO) (b:Nat) (c:ay) (d:b≠2) (e:b≠3) (f:b≠4):results Tryz.f26 (a.setIfInBounds b c)=results Tryz.f26 a:=by
 unfold results;rw[Tryz.results26];have d:(a.setIfInBounds b c).getD 2 undef=a.getD 2 undef:=sc d;have e:(a.setIfInBounds b c).getD 3 undef=a.getD 3 undef:=sc e;have a:(a.setIfInBounds b c).getD 4 undef=a.getD 4 undef:=sc f;simp only[List.mapM_toArray,List.mapM_cons,List.mapM_nil,d,e,a]
theorem qt {b:Ending->World->Prop} (i:Nat) (v:ay) (d:i≠2) (e:i≠3) (f:i≠4) (c:List PanicEntry) (a:Act) (w:af) (h:bodyPostD Tryz.prog Tryz.f26 b (.panic c) (a.put (some i) v) w):bodyPostD Tryz.prog Tryz.f26 b (.panic c) a w:=
 sb (ES a.tmps i v d e f) _ _ _ h
theorem eg.wo {W:af} {P:Nat} {h:Hd} {d:List ao} (a:eg W P h d) {b:Nat} {e:bb} {v:ay} (k:J W b e #[v]) (e:ay):eg (W.setCell (ab b 0) e) P h d:=by
 have f:Kp [b] W (W.setCell (ab b 0) e):=Kp.aE (p:=(ab b 0)) ai (Kp.refl _ W) _;refine⟨⟨a.lies.1,a.lies.2.1,λi d=>?_⟩,a.far,a.cap,a.fine,a.few⟩;obtain⟨c,off,a,g,j⟩:=a.lies.2.2 i d;refine⟨c,off,a,aT g f.size,λl m n=>?_⟩;have o:c≠b:=by
  intro q;subst q;have h1:=j 1 _ rfl;have h2:=J.cell k (off+i*4+1);exact Ik
 exact(f.cell (p:=⟨c,_,none⟩) g (by simpa using o)).trans (j l m n)
theorem eg.up {W:af} {P b:Nat} {h:Hd} {c:List ao} (a:eg W P h c) (d:P<=b):eg W b h c:=⟨a.lies,λb c e f=>aT (a.far b c e f) d,a.cap,a.fine,a.few⟩
theorem oW:∀(b e:bL) (n:Nat) (a:Int),de b e n=.bad a->a≠0
 |[],_,_,_,h=>by rw[CQ]at h;injection h with h;omega
 |c::b,e,n,a,h=>by
  rw[de.eq_def]at h;simp only at h;split at h
  ·split at h
   ·injection h with h;omega
   cases h
  split at h
  ·injection h with h;omega
  split at h
  ·split at h
   ·injection h with h;omega
   rename_i e d
   split at h
   ·exact oW d _ _ a h
   split at h
   ·exact oW d _ _ a h
   split at h
   ·exact oW d _ _ a h
   injection h with h;omega
  exact oW b _ _ a h
theorem ET (b:Nat) (c:bL) (a:Int) (h:mg b c=.bad a):a≠0:=by
 unfold mg at h;split at h
 ·unfold jQ at h;split at h
  ·split at h
   ·injection h with h;omega
   cases h
  cases h
 split at h
 ·unfold jR at h;split at h
  ·cases h
  split at h
  ·injection h with h;omega
  cases h
 split at h
 ·unfold jb at h;split at h
  ·exact oW _ _ _ a h
  cases h
 unfold g5 at h;split at h
 ·cases h
 split at h<;>cases h
theorem ws:∀(d a:Nat),a+d=4->∀(b:bL) (c:Int),jx a b=.bad c->c≠0
 |0,a,hj,b,c,h=>by
  obtain rfl:a=4:=ae
  have:jx 4 b=.bad 5:=rfl;rw[this]at h;injection h with h;omega
 |d+1,a,hj,b,c,h=>by
  rw[wg a ae]at h;unfold Rd.or at h;split at h
  ·exact ws d (a+1) ae b c h
  exact ET a b c h
theorem wt:∀(a:Nat) (b:bL) (d:Nat) (ts:List ao),(g6 a b d ts).2.1=0->(g6 a b d ts).2.2=0
 |0,_,_,_,_=>rfl
 |_+1,[],_,_,_=>rfl
 |a+1,c::b,d,ts,h=>by
  rw[wi]at h⊢;unfold ku at h⊢;split at h
  ·simp at h
  ·rename_i d e
   exact absurd h (ws 4 0 rfl (c::b) d e)
  split at h
  ·simp at h
  rename_i b
  rw[if_neg b];exact wt a _ _ _ h
theorem wu (l:bL) (h:(dq l).2.1=0):(dq l).2.2=0:=by
 unfold dq at h⊢;split at h
 ·simp at h
 rename_i a
 rw[if_neg a];exact wt _ _ _ _ h
def gi (l:bL):PO (List aI):=if(dq l).2.1=0 then qK l.length (dq l).1 else .bad (dq l).2.1 (dq l).2.2
theorem qu (z:Int) (f:Nat) (l:List aI) (a:ao) (ts:List ao):iW z (f+1) l (a::ts)=if l.length=200 then .bad 3 a.at_ else(iV z (a::ts)).bind λa b=>iW z f (l++[a]) b:=rfl
structure gW (w W:af) (P:Nat) (z:Int) (ts:List ao) (A:aX) (n c:Nat) (rs:List RI):Prop where
 k:Kp [] w W
 bO:J W w.heap.size 24 #[U A n c]
 bE:J W (w.heap.size+1) 76 #[O 0]
 bA:J W (w.heap.size+1+1) 3 #[O 0]
 pb:ax W P z ts
 pl:w.heap.size+3<=P
 it:iQ W (P+1) A n c rs
 few:n<=200
def iR (w:af) (d:PO (List aI)) (c:Ending) (b:af):Prop:=
 ag w b/\match d with
 |.ok xs _=>∃(h:Hd) (rs:List RI),c=.returned (.tuple #[.agg #[h.val],O 0,O 0])/\rs.map RI.it=xs/\aF b 25 h RI.cells rs/\(∀d∈rs,df b (Bw w.heap.size b.heap.size) d)/\(∀d e,h.a=some ⟨d,e,none⟩->Bw w.heap.size b.heap.size d)
 |.bad er a=>c=.returned (.tuple #[.agg #[aa],er,a])
section
variable {w W W':af} {P:Nat} {z:Int} {ts:List ao} {A:aX} {n c:Nat} {rs:List RI}
theorem gW.keep (a:gW w W P z ts A n c rs) {b:List ao} (k:Kp [P] W W') (d:ax W' P z b):gW w W' P z b A n c rs:=
 have b:=a.pl
 ⟨k.old a.k (λb b e=>by simp at b;omega),k.blk a.bO aC,k.blk a.bE aC,k.blk a.bA aC,d,a.pl,a.it.keep k ai,a.few⟩
theorem gW.fin (a:gW w W P z ts A n c rs):gW w (((W.setCell (am w 0) (U A n c)).setCell (ab (w.heap.size+1) 0) (O 0)).setCell (ab (w.heap.size+1+1) 0) (O 0)) P z ts A n c rs:=by
 have b:=a.pl;have b:Kp [w.heap.size,w.heap.size+1,w.heap.size+1+1] W (((W.setCell (am w 0) (U A n c)).setCell (ab (w.heap.size+1) 0) (O 0)).setCell (ab (w.heap.size+1+1) 0) (O 0)):=
  Kp.aE (p:=(ab (w.heap.size+1+1) 0)) ai (Kp.aE (p:=(ab (w.heap.size+1) 0)) ai (Kp.aE (p:=(am w 0)) ai (Kp.refl _ W) _) _) _
 exact⟨b.old a.k (λd d e=>by simp at d;omega),
  J.far (J.far (a.bO.aP 0 (U A n c)) (p:=(ab (w.heap.size+1) 0)) aD _) (p:=(ab (w.heap.size+1+1) 0)) aD _,
  J.far ((J.far a.bE (p:=(am w 0)) aD _).aP 0 (O 0)) (p:=(ab (w.heap.size+1+1) 0)) aD _,
  (J.far (J.far a.bA (p:=(am w 0)) aD _) (p:=(ab (w.heap.size+1) 0)) aD _).aP 0 (O 0),
  ax.one (ax.one (ax.one a.pb a.bO ae (U A n c)) (J.far a.bE (p:=(am w 0)) aD _) ae (O 0)) (J.far (J.far a.bA (p:=(am w 0)) aD _) (p:=(ab (w.heap.size+1) 0)) aD _) ae (O 0),a.pl,a.it.keep b aU,a.few⟩
theorem gW.push {j e:af} {s:List ao} {A2:aX} {f:Nat} {r:RI} (g:gW w W P z ts A n c rs) (y:n<200) (k:Kp [P] W j) (t:ax j P z s) (S:ag j W') (m:df j (Bw W.heap.size j.heap.size) r)
 (u:e.ownsRow (P+1) 95 25 (U A2 (n+1) f) (n+1) (rs.flatMap RI.cells++r.cells)) (b:W'.grownBy e (Value.slice A n c).ownBlock)
 (v:(Value.slice A2 (n+1) f).ownBlock=(Value.slice A n c).ownBlock\/(Value.slice A2 (n+1) f).ownBlock=some W'.heap.size):
 gW w (e.setCell (am w 0) (U A2 (n+1) f)) P z s A2 (n+1) f (rs++[r]):=by
 have j:=g.pl;have j:=g.pb.lt;have o:∀a,(Value.slice A n c).ownBlock=some a->P+1<=a:=by
  intro a d;rcases g.it.own.2 with⟨i,_⟩|⟨q,x,B,i,b,C,D⟩
  ·injection i with e1;subst e1;cases d
  rw[i]at d;injection d with d;subst d;exact b
 have q:∀a,a<P+1->some a≠(Value.slice A n c).ownBlock:=λa i m=>by have:=o a m.symm;omega
 have d:=(g.keep k t);have j:Kp [P] W W':=k.trans (Kp.of_same S);have x:=iQ.push g.it j ae ae ((m.keep (Kp.of_same (l:=[]) S) (λ_ h=>by cases h)).mono (λa h=>⟨h.1,aT h.2 S.size⟩)) u b v;have j:=(d.bO.below S d.bO.lt).grown b (q _ ae);have e:Kp [w.heap.size] e (e.setCell (am w 0) (U A2 (n+1) f)):=Kp.aE (p:=(am w 0)) ai (Kp.refl _ e) _;exact⟨(e.old (l':=[]) ((d.k.trans (Kp.of_same S)).grown b (λa i=>.inr (by have:=o a i;omega))) (λa i f=>by simp at i;omega)),j.aP 0 _,e.blk ((d.bE.below S d.bE.lt).grown b (q _ ae)) ai,e.blk ((d.bA.below S d.bA.lt).grown b (q _ ae)) aU,
  ax.one ((t.same S).grown b (λa i=>by have:=o a i;omega)) j ae _,g.pl,x.keep e aU,by omega⟩
theorem wv {d e f:ay} (g:Kp [] w W) (i:J W w.heap.size 24 #[d]) (j:J W (w.heap.size+1) 76 #[e]) (k:J W (w.heap.size+1+1) 3 #[f]) (er at_:Int) (a:aO) (l:a.getD 2 undef=.pointer (some ⟨w.heap.size,0,none⟩)) (m:a.getD 3 undef=.pointer (some ⟨w.heap.size+1,0,none⟩)) (n:a.getD 4 undef=.pointer (some ⟨w.heap.size+1+1,0,none⟩)):
 CallsD Tryz.prog 45 #[aj w.heap.size,aj (w.heap.size+1),aj (w.heap.size+1+1)] (.panicking [{v:=gI er at_,recovered:=false}]) W (λ
  |.returned _,b,w'=>Leaves Tryz.prog Tryz.f26 a (iR w (.bad er at_)) [] (settle b) w'
  |.panicked chain,b,w'=>Leaves Tryz.prog Tryz.f26 a (iR w (.bad er at_)) [] (raised b chain) w'
  |.outgrown,_,w'=>iR w (.bad er at_) .outgrown w'):=by
 have o:a[2]?.getD undef=.pointer (some ⟨w.heap.size,0,none⟩):=by simpa using l
 have p:a[3]?.getD undef=.pointer (some ⟨w.heap.size+1,0,none⟩):=by simpa using m
 have q:a[4]?.getD undef=.pointer (some ⟨w.heap.size+1+1,0,none⟩):=by simpa using n
 refine(EB w.heap.size (w.heap.size+1) (w.heap.size+1+1) _ _ _ er at_ [] W i j k ae ae ae).mono ?_;rintro d b c ⟨rfl,rfl,r,s,t,u⟩;have x:ac c (am w 0) aa:=J.cell r 0;have y:ac c (ab (w.heap.size+1) 0) er:=J.cell s 0;have z:ac c (ab (w.heap.size+1+1) 0) at_:=J.cell t 0;show Leaves Tryz.prog Tryz.f26 a (iR w (.bad er at_)) [] .returning c;refine⟨.tuple #[.agg #[aa],er,at_],?_,(u.old g (l':=[]) (λa a c=>by simp at a;omega)).same,rfl⟩;simp[results,Tryz.results26,go_sem,o,p,q,x,y,z]
theorem EU (a:gW w W P z ts A n c rs) (e:List ao) (b:aO) (o:b.getD 2 undef=.pointer (some ⟨w.heap.size,0,none⟩)) (p:b.getD 3 undef=.pointer (some ⟨w.heap.size+1,0,none⟩)) (q:b.getD 4 undef=.pointer (some ⟨w.heap.size+1+1,0,none⟩)):
 CallsD Tryz.prog 45 #[aj w.heap.size,aj (w.heap.size+1),aj (w.heap.size+1+1)] .returning W (λ
  |.returned _,d,w'=>Leaves Tryz.prog Tryz.f26 b (iR w (.ok (rs.map RI.it) e)) [] (settle d) w'
  |.panicked chain,d,w'=>Leaves Tryz.prog Tryz.f26 b (iR w (.ok (rs.map RI.it) e)) [] (raised d chain) w'
  |.outgrown,_,w'=>iR w (.ok (rs.map RI.it) e) .outgrown w'):=by
 have r:b[2]?.getD undef=.pointer (some ⟨w.heap.size,0,none⟩):=by simpa using o
 have s:b[3]?.getD undef=.pointer (some ⟨w.heap.size+1,0,none⟩):=by simpa using p
 have u:b[4]?.getD undef=.pointer (some ⟨w.heap.size+1+1,0,none⟩):=by simpa using q
 refine(EC w.heap.size (w.heap.size+1) (w.heap.size+1+1) W).mono ?_;rintro o d f ⟨rfl,rfl,rfl⟩;have v:ac f (am w 0) (U A n c):=J.cell a.bO 0;have x:ac f (ab (w.heap.size+1) 0) (O 0):=J.cell a.bE 0;have y:ac f (ab (w.heap.size+1+1) 0) (O 0):=J.cell a.bA 0;have o:=a.pl;have o:=a.few;show Leaves Tryz.prog Tryz.f26 b (iR w (.ok (rs.map RI.it) e)) [] .returning f;refine⟨.tuple #[.agg #[U A n c],O 0,O 0],?_,a.k.same,⟨A,n,c⟩,rs,rfl,rfl,cF (h:=⟨A,n,c⟩) RI.len a.it.len (by show n<=_;omega) a.it.own,λb e=>(a.it.sub b e).mono (λb h=>⟨by have:=h.1.1;omega,h.1.2⟩),?_⟩
 ·simp[results,Tryz.results26,go_sem,r,s,u,v,x,y]
 intro i j l;rcases a.it.own.2 with⟨g,D⟩|⟨E,F,B,g,G,C,_⟩
 ·injection g with e1
  have m:A=some ⟨i,j,none⟩:=l;rw[e1]at m;cases m
 injection g with e1
 have a:A=some ⟨i,j,none⟩:=l;rw[a]at e1;injection e1 with e1
 injection e1 with e1
 subst e1;exact⟨by omega,J.lt (t:=95) (cs:=B) C⟩
end
def PO.Has {a:Type} (c:PO a) (d:Nat) (P:a->Prop):Prop:=∀a b,c=.ok a b->b.length<=d/\P a
theorem PO.Has.bind {b d:Type} {c:PO b} {f:b->List ao->PO d} {n:Nat} {P:b->Prop} {b:d->Prop} (h:c.Has n P) (e:∀a ts,P a->ts.length<=n->(f a ts).Has n b):(c.bind f).Has n b:=by
 cases c with
 |bad g a=>intro b ts h;cases h
 |ok a ts=>exact e a ts (h a ts rfl).2 (h a ts rfl).1
theorem PO.Le.has {c e:Type} {d:PO c} {f:c->List ao->PO e} {c:Nat} {g:e->Prop} (h:d.Le c) (i:∀a b,b.length<=c->(f a b).Has c g):(d.bind f).Has c g:=by
 cases d with
 |bad j a=>intro c b h;cases h
 |ok a b=>exact i a b (h a b rfl)
theorem PO.Has.ok {α:Type} {a:α} {ts:List ao} {n:Nat} {P:α->Prop} (h:ts.length<=n) (c:P a):(PO.ok a ts).Has n P:=by
 intro d d b;injection b with e1 b
 subst b e1;exact⟨h,c⟩
theorem PO.Has.bad {α:Type} {a b:Int} {c:Nat} {d:α->Prop}:(PO.bad a b:PO α).Has c d:=by intro a a h;cases h
theorem PO.Has.ite {a:Type} {b:Prop} [Decidable b] {c d:PO a} {n:Nat} {P:a->Prop} (h:c.Has n P) (a:d.Has n P):(if b then c else d).Has n P:=by split<;>assumption
theorem EV {a:Type} (c:Int) (b:List ao) (d:Int) (e:Nat) (P:a->Prop):(e8 c b d:PO a).Has e P:=by cases b<;>exact .bad
theorem EW {g:Type} (l:aw) (f:List ao->PO g) (m:∀b a,b.length<=a->(f b).Le a):∀(d:Nat) (c:List g) (b:List ao) (a:Nat),b.length<=a->(da l f d c b).Has a (λg=>g.length<=c.length+a):=by
 intro d;induction d with
 |zero=>intro c b a h;exact .ok h ae
 |succ d n=>
  intro c b a h;unfold da;split
  ·rename_i o
   cases b with
   |nil=>simp[bu,el]at o
   |cons p i=>
    simp at h;intro q r e;cases ho':f (List.tail (p::i))with
    |bad j k=>rw[ho']at e;cases e
    |ok j k=>
     rw[ho']at e;have b:=m i (a-1) ae j k ho';have a:=n (c++[j]) k (a-1) b q r e;have a:=a.2;simp at a;exact⟨by omega,by omega⟩
  exact .ok h ae
theorem ww {a:Type} (c:aw) (b:List ao->PO a) (d:∀a e,a.length<=e->(b a).Le e) (a:List ao) (h:a.length<=5000):(dA c b a).Has 5000 (λa=>a.length<=5001):=
 (d _ _ h).has λa a h=>λa e f=>by
  have:=EW c b d _ _ _ _ h a e f;simp at this;exact⟨this.1,by omega⟩
theorem sd (a:Int) (b:List ao) (h:b.length<=5000):(hT a b).Has 5000 (λb=>b.length<=5001):=ww _ _ (dx a) _ h
theorem wy (b:Int) (c:aw) (a:List ao) (h:a.length<=5000):(lx b c a).Has 5000 (λc=>c.length<=5001):=.ite (.ok h ai) (sd b a h)
theorem EX (a:Int) (c:Nat) (b:List ao) (h:b.length<=5000):(em a c b).Has 5000 (λc=>c.names.length<=5001):=
 .ite ((pi a b _ h).has λ_ _ h=>.ok h (by simp[dc.zero])) (.ite ((b5 a _ _ _ h).has λ_ _ h=>(wy a _ _ h).bind λ_ _ b h=>.ok h b) (.ite
  ((b5 a _ _ _ h).has λ_ _ h=>(dx a _ _ h).has λ_ _ h=>(b5 a _ _ _ h).has λ_ _ h=>(dx a _ _ h).has λ_ _ h=>.ok h (by simp[dc.zero])) (.ite
  (
   (
   b5 a _ _ _ h).has λ_ _ h=>(wy a _ _ h).bind λ_ _ b h=>(b5 a _ _ _ h).has λ_ _ h=>(h8 a _ _ _ h).has λ_ _ h=>
   (PO.Le.ite (.ok h) (dx a _ _ h)).has λ_ _ h=>(b5 a _ _ _ h).has λ_ _ h=>(dx a _ _ h).has λ_ _ h=>.ok h b) (.ok h (by simp[dc.zero])))))
theorem EY (c:Int):∀(d:Nat) (b:List ao),b.length<=5000->(eb c d b).Has 5000 Ex.dh:=by
 intro d;induction d with
 |zero=>intro b h;exact EV _ _ _ _ _
 |succ d e=>
  intro b h;unfold eb;cases hU b 0 fP with
  |none=>exact(dx c b _ h).has λ_ _ h=>.ok h ⟨by simp,by simp,by trivial⟩
  |some g=>
   exact(e _ (s9 2 h)).bind λd b b h=>(PO.Has.ite (P:=λf=>f.length<=5001/\Ex.kZ f) ((b5 c _ _ _ h).has λ_ _ h=>(e _ h).bind λe _ f h=>PO.Has.ok (a:=[d,e]) h ⟨by simp,(show d.dh/\e.dh/\True from⟨b,f,trivial⟩)⟩) (PO.Has.ok (a:=[d]) h ⟨by simp,(show d.dh/\True from⟨b,trivial⟩)⟩)).bind λb _ b h=>
    (EX c g _ h).bind λd _ d h=>(b5 c _ _ _ h).has λ_ _ h=>.ok h ⟨d,b.1,b.2⟩
structure aI.dh (x:aI):Prop where
 n:x.names.length<=5001
 f:x.fixed.length<=5001
 e:x.expr.dh
theorem wz (a:Int) (b:aI) (c:List ao) (d:b.dh) (h:c.length<=5000):(hW a b c).Has 5000 aI.dh:=
 (b5 a _ _ _ h).has λ_ _ h=>(dx a _ _ h).has λ_ _ h=>(b5 a _ _ _ h).has λ_ _ h=>(sd a _ h).bind λ_ _ b h=>(b5 a _ _ _ h).has λ_ _ h=>.ok h ⟨b,d.f,d.e⟩
theorem EZ (a:Int) (d:aI) (i:List ao) (b:d.dh) (h:i.length<=5000):(en a d i).Has 5000 aI.dh:=by
 have c:∀{g:aI} {c:List ao},c.length<=5000->g.names=d.names->g.fixed=d.fixed->g.expr=d.expr->(PO.ok g c).Has 5000 aI.dh:=λh c j k=>.ok h ⟨c▸b.n,j▸b.f,k▸b.e⟩;unfold en;refine .ite ?_ (.ite ?_ (.ite ?_ (.ite ?_ (.ite ?_ (.ite ?_ (.ite ?_ (.ite ?_ (.ite ?_ ?_))))))))
 ·exact(b5 a _ _ _ h).has λ_ _ h=>(lG _ _ (qQ a) _ _ h).has λ_ _ h=>(b5 a _ _ _ h).has λ_ _ h=>(sd a _ h).bind λ_ _ j h=>.ok h ⟨j,b.f,b.e⟩
 ·exact(b5 a _ _ _ h).has λ_ _ h=>(eU a _ _ h).has λ_ _ h=>c h rfl rfl rfl
 ·exact(b5 a _ _ _ h).has λ_ _ h=>(la a _ _ h).has λ_ _ h=>(b5 a _ _ _ h).has λ_ _ h=>(h8 a _ _ _ h).has λ_ _ h=>.ite ((eU a _ _ h).has λ_ _ h=>c h rfl rfl rfl) (.ite ((eU a _ _ h).has λ_ _ h=>(eU a _ _ h).has λ_ _ h=>c h rfl rfl rfl) (c h rfl rfl rfl))
 ·exact(b5 a _ _ _ h).has λ_ _ h=>(dx a _ _ h).has λ_ _ h=>(b5 a _ _ _ h).has λ_ _ h=>(eU a _ _ h).has λ_ _ h=>(b5 a _ _ _ h).has λ_ _ h=>(sa a _ _ _ _ h).has λ_ _ h=>c h rfl rfl rfl
 ·exact(la a _ _ h).has λ_ _ h=>(b5 a _ _ _ h).has λ_ _ h=>(h8 a _ _ _ h).has λ_ _ h=>c h rfl rfl rfl
 ·exact wz a d i b h
 ·exact(wz a d i b h).bind λg _ d h=>(b5 a _ _ _ h).has λ_ _ h=>(dx a _ _ h).has λ_ _ h=>.ite ((ww _ _ (qR a) _ (h7 h)).bind λ_ _ g h=>.ok h ⟨d.n,g,d.e⟩) (.ok h ⟨d.n,d.f,d.e⟩)
 ·exact(la a _ _ h).has λ_ _ h=>(b5 a _ _ _ h).has λ_ _ h=>(la a _ _ h).has λ_ _ h=>c h rfl rfl rfl
 ·exact(lG _ _ (qS a) _ _ h).has λ_ _ h=>(pi a _ _ h).has λ_ _ h=>c h rfl rfl rfl
 exact(b5 a _ _ _ h).has λ_ _ h=>(EY a _ _ h).bind λa _ a h=>.ok h ⟨b.n,b.f,a⟩
theorem E2 (a:Int) (b:List ao) (h:b.length<=5000):(iV a b).Has 5000 aI.dh:=
 (h8 a _ _ _ h).has λ_ _ h=>(PO.Le.ite (.ok h) (dx a _ _ h)).has λ_ _ h=>(EZ a _ _ ⟨by simp[aI.zero],by simp[aI.zero],by show Ex.zero.dh;exact⟨by simp,by simp,by trivial⟩⟩ h).bind λ_ _ b h=>(b5 a _ _ _ h).has λ_ _ h=>.ok h b
theorem E3 (f:Int):∀(d:Nat) (a:List aI) (b:List ao),(∀e∈a,e.dh)->a.length<=200->b.length<=5000->(iW f d a b).Has 5000 (λg=>(∀e∈g,e.dh)/\g.length<=200):=by
 intro d;induction d with
 |zero=>intro a b c g h;exact .ok h ⟨c,g⟩
 |succ d j=>
  intro a b i k h;cases b with
  |nil=>exact .ok h ⟨i,k⟩
  |cons n o=>
   rw[qu];split
   ·exact .bad
   ·exact(E2 f _ h).bind λe _ l h=>j _ _ (λm c=>by
     rcases cY c with c|c
     ·exact i m c
     rw[aA c];exact l) aC h
theorem wA:∀(b:Nat) (e:bL) (d:Nat) (a:List ao),a.length<=5000->(g6 b e d a).1.length<=5000
 |0,e,d,a,h=>h
 |b+1,[],d,a,h=>h
 |b+1,c::e,d,a,h=>by
  rw[EH];split
  ·simp
  ·simp
  split
  ·simp
  exact wA b _ _ _ aC
theorem E8 (a:bL):(dq a).1.length<=5000:=by
 unfold dq;split
 ·simp
 exact wA _ _ _ _ ai
theorem E9 {l:bL} {xs:List aI} {a:List ao} (h:gi l=.ok xs a):(∀b∈xs,b.dh)/\xs.length<=200:=by
 unfold gi at h;split at h
 ·exact(E3 _ _ _ _ ai ai (E8 l) xs a h).2
 cases h
end Go.Proofs.YteamkimbmdgdbaaGreatDoor
