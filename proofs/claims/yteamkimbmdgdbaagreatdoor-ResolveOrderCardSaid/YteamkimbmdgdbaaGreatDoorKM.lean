import Derived.WalkKit
import Derived.OrdersHeld
import Derived.Deep.RegionHeld3
import Derived.Shelf.Strings.Builder1
import Derived.Shelf.Small.Bits
import Derived.Shelf.Small.Strs
import Derived.Shelf.Small.Wraps
import Derived.Shelf.Strings.BuilderF
import Derived.Shelf.Strings.BuilderK
import Derived.Shelf.Strconv.Atoi
import Derived.Shelf.Strconv.Itoa0
import Derived.Shelf.Strconv.Itoa1
import Derived.Shelf.LaysM
import Derived.Shelf.Strconv.Itoa2
import Derived.Shelf.Strconv.Itoa3
import Derived.Shelf.Strconv.AtoiErrFast
import Derived.Shelf.Strconv.ParseIntEmpty
import Derived.Shelf.Strconv.AtoiFail
import Derived.Shelf.Strconv.Clone
import Derived.Shelf.Strconv.SyntaxError
import Derived.Shelf.LaysC
import Derived.Shelf.Strconv.ToError
import Derived.Shelf.Strconv.AtoiErr
import Derived.Shelf.Strconv.ErrVar
import Derived.Shelf.Strconv.Lower
import Derived.Shelf.Strconv.ParseUint10
import Derived.Shelf.Strconv.ParseUint10Empty
import Derived.Shelf.Strconv.ParseUint10Any
import Derived.Shelf.Strconv.ParseInt10
import Derived.Shelf.Strconv.AtoiLong
import Derived.Shelf.Strconv.AtoiInnerAll
import Derived.Shelf.Strconv.RangeError
import Derived.Shelf.Strconv.ToErrorRange
import Derived.Shelf.Strconv.AtoiAll
import Derived.Shelf.Strconv.ErrVarAll
import Derived.Shelf.Strconv.ParseUintEmpty
import Derived.Shelf.Strconv.ParseUint10b64
import Derived.Shelf.Strconv.ParseUint10b32
import Derived.Shelf.Strconv.ParseUint10b16
import Derived.Shelf.Strconv.ParseUint10b8
import Derived.Shelf.Strconv.ParseUint10At
import Derived.Shelf.Strings.Search1
import Derived.Shelf.Strings.Search2
import Derived.Shelf.Strings.Search3
import Derived.Shelf.Strings.Count
import Derived.Shelf.Strings.Shaped
import Derived.Shelf.Sort.Plain
import Derived.Shelf.Strings.Prefix
import Derived.Shelf.Slices.Turned
import Derived.Ground.Names2Prog
import Derived.Shelf.Slices.Clone
import Derived.Shelf.Slices.CompactS
import Derived.Shelf.Slices.Cells
import Derived.Shelf.Slices.In.SortNone
import Derived.Ground.SlgnProg
import Derived.Shelf.SlicesE.Clone
import Derived.Below
import Derived.Laws.OwnMore
import Derived.Deep.AppendLies
import Derived.Deep.Draws
import Derived.Laws.Rows
import Derived.Maps.AppendAt
import Derived.RegionTactic
import Derived.OwnWalk
import Derived.Lib.Hide
import Derived.Lib.QuietBelow
import Derived.Deep.DeepCutAuto
import Derived.Deep.QuietTactic
import Derived.BigQuiet
import Derived.Outline
import Derived.LaidMore
import Derived.Stop.Joined
import Derived.Stop.LaidErr
import Derived.ChangeSame
import Derived.ProofKit
import Derived.OpenShut
import Derived.ChangeOld
import Derived.ChangeAt
import Derived.Lib.LaidTab
import Derived.WalkLawsBesides
import Derived.WalkSpells
import Derived.Shelf.Abstract
import Derived.Lib.SliceRun
import Derived.Deep.RegionLaw
import Derived.MapKept
import Derived.Deep.LoopGhost
import Derived.BigRegion
import Derived.Lib.Strings
import Derived.Lib.AtoiAll
import Derived.Lib.ConvBytes
import Derived.Lib.Bytealg
import Derived.Shelf.SlIterI.Sorted
import Derived.Sort.Grow
import Derived.Lib.SlicesCompact
import Derived.Laws.EntriesVeiled
import Derived.Lib.AtoiErrMem
import Derived.Deep.WholeRow
import Derived.Laws.BytesArg
import Derived.Laws.IdiomStrings
import Derived.Defers
import Derived.Recover
import Derived.Laws.Pointers
import Derived.Lib.ItoaLen
import Derived.Deep.Onto
import Derived.Deep.RegionWith
import Derived.Deep.Slices
import Derived.Deep.Fields
import Derived.SevenTiedAt
set_option linter.unusedSimpArgs false
set_option linter.unusedVariables false
set_option maxHeartbeats 16000000
set_option maxRecDepth 100000
namespace Go.Proofs
open Go.RowKit
theorem Z {p:Prop} (h:p):Hid p:=Lib.hid h
instance:Coe Int Value:=⟨.int .i64⟩
instance:Coe Nat Value:=⟨λa=>.int .i64 a⟩
instance:Coe ByteArray Value:=⟨.string⟩
instance:Coe Bool Value:=⟨.bool⟩
structure Ab (n:Int)
def J (n:Int):Ab n:=⟨⟩
instance {a:Int}:CoeOut (Ab a) Value:=⟨λ_=>.int .i64 a⟩
structure Ac
def ai:Ac:=⟨⟩
instance:Coe Ac Value:=⟨λ_=>.string ⟨#[]⟩⟩
structure Ad
def ab:Ad:=⟨⟩
instance:Coe Ad Value:=⟨λ_=>.slice none 0 0⟩
structure Ae (n:Nat)
def ak (n:Nat):Ae n:=⟨⟩
instance {a:Nat}:CoeOut (Ae a) Value:=⟨λ_=>.pointer (some ⟨a,0,none⟩)⟩
structure Ag (a:Option Addr) (n c:Nat)
def O (a:Option Addr) (n b:Nat):Ag a n b:=⟨⟩
instance {a:Option Addr} {b c:Nat}:CoeOut (Ag a b c) Value:=⟨λ_=>.slice a b c⟩
structure Ah (n i:Nat)
def ac (n i:Nat):Ah n i:=⟨⟩
instance {a b:Nat}:CoeOut (Ah a b) Addr:=⟨λ_=>⟨a,b,none⟩⟩
structure Ai (w:World) (i:Nat)
def ao (w:World) (i:Nat):Ai w i:=⟨⟩
instance {a:World} {b:Nat}:CoeOut (Ai a b) Addr:=⟨λ_=>⟨a.heap.size,b,none⟩⟩
structure um (w:World) (a:Addr) (v:Value)
def ae (w:World) (a:Addr) (v:Value):um w a v:=⟨⟩
instance {a:World} {b:Addr} {c:Value}:CoeSort (um a b c) Prop:=⟨λ_=>a.cell? b=some c⟩
instance {a:World} {b:Addr} {c:Value}:CoeOut (um a b c) Prop:=⟨λ_=>a.cell? b=some c⟩
theorem aC {c:Type _} {a b:c} (h:a∈[b]):a=b:=List.mem_singleton.1 h
theorem aV {n m b:Nat} (a:n<m) (c:m<=b):n<b:=Nat.lt_of_lt_of_le a c
theorem bb {a b:Nat} (h:a<b):a≠b:=Nat.ne_of_lt h
theorem bJ {n m b:Nat} (a:n<=m) (c:m<=b):n<=b:=Nat.le_trans a c
theorem cP {b:Type _} {a:b} {c t:List b} (h:a∈c++t):a∈c\/a∈t:=List.mem_append.1 h
theorem kk {b:Type _} {a:b} {c d:List b} (h:a∈c\/a∈d):a∈c++d:=List.mem_append.2 h
theorem de {b:Type _} {a c:b} {l:List b} (h:a∈c::l):a=c\/a∈l:=List.mem_cons.1 h
structure Aj
def ah:Aj:=⟨⟩
instance:CoeSort Aj Type:=⟨λ_=>World⟩
structure Ak
def ax:Ak:=⟨⟩
instance:CoeSort Ak Type:=⟨λ_=>ByteArray⟩
structure Am
def aQ:Am:=⟨⟩
instance:CoeSort Am Type:=⟨λ_=>Array Value⟩
structure An
def aU:An:=⟨⟩
instance:CoeSort An Type:=⟨λ_=>Option Addr⟩
structure Ao
def bk:Ao:=⟨⟩
instance:CoeSort Ao Type:=⟨λ_=>List ByteArray⟩
structure Ap
def aP:Ap:=⟨⟩
instance:CoeSort Ap Type:=⟨λ_=>List Value⟩
structure Aq
def aA:Aq:=⟨⟩
instance:CoeSort Aq Type:=⟨λ_=>Value⟩
structure Ar
def bR:Ar:=⟨⟩
instance:CoeSort Ar Type:=⟨λ_=>List UInt8⟩
structure As
def aX:As:=⟨⟩
instance:CoeSort As Type:=⟨λ_=>TypeId⟩
theorem dv {a b:Prop} (c:b) (d:b->a:=by
 intro kq
 refine tk 0 hS ?_
 refine tk 1 hS ?_
 refine tk 2 hS ?_
 refine tk 3 hS ?_
 refine tk 4 hS ?_
 refine tk 5 hS ?_
 refine tk 6 hS ?_
 refine tk 7 hS ?_
 refine tk 8 hS ?_
 exact kq):a:=d c
theorem aw {P a:Prop} (b:a) (f:a->P:=by
 intro kq
 try simp only[Act.put,oh,ol,om]
 exact kq):P:=f b
theorem dX {P a:Prop} (b:a) (c:a->P:=by
 intro kq
 refine tk 0 hS ?_
 refine tk 1 hS ?_
 refine tk 2 hS ?_
 refine tk 3 hS ?_
 exact kq):P:=c b
theorem bZ {P a:Prop} (b:a) (f:a->P:=by
 intro kq
 refine vk _ _ _ _ (by kernel_rfl) ?_
 exact kq):P:=f b
theorem bM {P a:Prop} (b:a) (f:a->P:=by
 intro kq
 refine wpAny_done (by kernel_rfl) ?_ _
 exact kq):P:=f b
theorem eA {a b:Prop} (c:b) (d:b->a:=by
 intro kq
 refine tk 9 hS ?_
 refine tk 10 hS ?_
 exact kq):a:=d c
theorem gV {a b:Prop} (c:b) (d:b->a:=by
 intro kq
 refine tk 4 hS ?_
 refine tk 5 hS ?_
 refine tk 6 hS ?_
 exact kq):a:=d c
theorem hT {a b:Prop} (c:b) (d:b->a:=by
 intro kq
 refine tk 0 hS ?_
 refine tk 1 hS ?_
 refine tk 2 hS ?_
 exact kq):a:=d c
theorem o9 {a b:Prop} (c:b) (d:b->a:=by
 intro kq
 refine tq 9 ?_
 refine tq 10 ?_
 refine tq 11 ?_
 exact kq):a:=d c
theorem sG {P a:Prop} (b:a) (c:a->P:=by
 intro kq
 refine sk 6 hS ?_
 refine sk 7 hS ?_
 refine sk 8 hS ?_
 refine sk 9 hS ?_
 refine tk 10 hS ?_
 exact kq):P:=c b
theorem mn {a b:Prop} (c:b) (d:b->a:=by
 intro kq
 refine tk 0 hS ?_
 refine tk 1 hS ?_
 exact kq):a:=d c
theorem mo {P a:Prop} (b:a) (c:a->P:=by
 intro kq
 refine tk 4 hS ?_
 refine tk 5 hS ?_
 exact kq):P:=c b
theorem nD {a:Prop} (h:a:=by
 have E6:=Z (show R=RO.ap true 10 at_ RS by rw[E5.out];simp[*])
 clear E5
 go_wp2_with fail
 refine bV nC E6 pe λE7=>?_
 go_wp2_with (first|(refine wpList_store_row rfl 73 (.tmp 6) (.tmp 76) rfl (w.heap.size+3) #[xv,xc,xk,xn,xs,op,yv,yc,yk,yn,ys,ad] rfl rfl 73 #[J 0,J 0,J 0,J 0,ai,J 0,J 0,J 0,J 0,J 0,ai,J 0] wL.out (by kernel_rfl) rfl (by simp[Value.oneCell']) ?_)|fail)
 obtain⟨ih,Au,ii,GN⟩:=mu wL #[xv,xc,xk,xn,xs,op,yv,yc,yk,yn,ys,ad]
 rw[Au]
 clear Au
 have Kq:=Z (nC.grown GN (λg hg=>.inr (by injection hg with hg;omega)))
 have Kr:ae ih (ac (w.heap.size+3) 0) xv:=aa.cell ii 0
 have Ks:ae ih (ac (w.heap.size+3) 1) xc:=aa.cell ii 1
 have Kt:ae ih (ac (w.heap.size+3) 2) xk:=aa.cell ii 2
 have Ku:ae ih (ac (w.heap.size+3) 3) xn:=aa.cell ii 3
 have Kv:ae ih (ac (w.heap.size+3) 4) xs:=aa.cell ii 4
 have Kw:ae ih (ac (w.heap.size+3) 5) op:=aa.cell ii 5
 have Kx:ae ih (ac (w.heap.size+3) 6) yv:=aa.cell ii 6
 have Ky:ae ih (ac (w.heap.size+3) 7) yc:=aa.cell ii 7
 have Kz:ae ih (ac (w.heap.size+3) 8) yk:=aa.cell ii 8
 have KA:ae ih (ac (w.heap.size+3) 9) yn:=aa.cell ii 9
 have KB:ae ih (ac (w.heap.size+3) 10) ys:=aa.cell ii 10
 have KC:ae ih (ac (w.heap.size+3) 11) ad:=aa.cell ii 11
 refine bodyPost_ret (v:=.agg #[xv,xc,xk,xn,xs,op,yv,yc,yk,yn,ys,ad]) ?_ rfl ?_
 ·simp[results,Tryz.results198,go_sem,Kr,Ks,Kt,Ku,Kv,Kw,Kx,Ky,Kz,KA,KB,KC]
 rw[E7.out,Ey.out]
 exact⟨Kq,_,rfl,rfl⟩):a:=h
theorem xx {a:Prop} (h:a:=by
 go_wp2_with fail
 refine bV em.out jJ.out fi λqV=>?_
 clear jJ
 clear fi
 go_upto_region 19 with(fail)
 go_upto_region 20 with(first|(refine wpList_store_row rfl 59 (.tmp 12) (.tmp 143) rfl dY.heap.size #[(fc:Int),J 5,J 0,dh,dx,d4,d5] rfl rfl 59 #[J 0,J 0,J 0,J 0,J 0,J 0,J 0] (aa.new dY 59 #[J 0,J 0,J 0,J 0,J 0,J 0,J 0]) (by kernel_rfl) rfl (by simp[Value.oneCell']) ?_;rw[World.setRow_alloc_new])|fail)
 obtain⟨mZ,pZ,BN,SN,-⟩:=nb dY 59 #[(fc:Int),J 5,J 0,dh,dx,d4,d5]
 rw[pZ]
 clear pZ
 have un:=qk em SN
 have uo:=qb SN mC
 have p0:=qb SN mD
 have Av:=qb SN ci
 have uq:=qk mE SN
 have ur:=qk mF SN
 have jc:=BN
 clear BN SN
 clear mG mH mI mJ mK mL
 have KD:=aZ Av
 have ut:=aZ jc
 have fz:=λi=>aa.frozen jc i
 go_upto_region 22 with(fail)
 have BN:=Z (uS jc fV)
 have KN:=Z (Kp.aI (p:=(ao dY 2)) (l:=[dY.heap.size]) (by simp) (Kp.refl [dY.heap.size] mZ) fV)
 obtain⟨jS,Aw⟩:∃jS,jS=mZ.setCell (ao dY 2) fV:=⟨_,rfl⟩
 rw[<-Aw]at BN KN⊢
 clear Aw
 have Ax:=KN
 have uu:=Z (KN.old uq (λb hb hlt=>absurd hlt (by rw[aC hb];omega)))
 have Ax:=Z (KN.old ur (λb hb hlt=>absurd hlt (by rw[aC hb];omega)))
 have uv:=Z (KN.old un (λb hb hlt=>absurd hlt (by rw[aC hb];omega)))
 have uw:=qo KN uo
 have m0:=qo KN p0
 have m1:=BN
 clear BN KN
 clear fz ut KD
 have KE:=ay m1
 have KF:=aS m1
 have KG:=aZ m1
 have KH:=bi m1
 have KI:=bl m1
 have KJ:=bF m1
 have KK:=b3 m1
 have KM:=bi m0
 have Lk:=aa.lt m0
 have Ay:=Z (aK Ax.same qU)
 have O2:=Z (aK ((ag.refl jS).alloc (.cells #[(fc:Int),J 5,fV,dh,dx,d4,d5] 59)) Ay)
 have ga:=Z (cO jS #[(fc:Int),J 5,fV,dh,dx,d4,d5] 59 7 rfl)
 have hrow:=b2 Ay
 go_upto_region 23 with(first|(at_builtin;refine eL _ rfl (.tmp 149) (.tmp 151) 53 rfl (w2.heap.size+1) 59 i0 _ 7 56 Tryz.underlying53 hi0 nL nM nN rfl (by decide) (O Af i cf) i (l.flatMap Wg.cells) rfl O2.out (jS.heap.size+1) (some ⟨jS.heap.size,0,none⟩) 1 1 (#[(fc:Int),J 5,fV,dh,dx,d4,d5]:Array Value).toList rfl ga.out (by simp[Value.oneCell']) (by simp only[maxLen];omega) (by omega) (by simp;omega) ?_;intro v1 ob hown1 hg1 ux;obtain⟨rK,rL,rfl,fE⟩:=bv hown1;have KO:=Z hown1;have G:=Z hg1;clear hown1 hg1 ux fE;have p1:=Z (aa.grown (m0.out.alloc (.cells #[(fc:Int),J 5,fV,dh,dx,d4,d5] 59)) G.out (λe=>by have:=(hrow _ e.symm).1;omega));have KP:ae ob (ao w2 3) (O Af i cf):=aa.cell p1.out 3;have KQ:=λi=>aa.frozen p1.out i)|fail)
 have uy:=Z (aa.grown (uw.alloc _) G (λe=>by have:=(hrow _ e.symm).1;omega))
 have uz:=Z ((uv.alloc _).grown G (λg hg=>.inr (by have:=hrow g hg;omega)))
 have uA:=Z ((uu.alloc _).grown G (λg hg=>.inr (by have:=hrow g hg;omega)))
 clear O2 ga G hrow KP KQ
 have BN:=Z (p9 p1 (O rK (i+1) rL))
 have KN:=Z (Kp.aI (p:=(ao w2 3)) (l:=[w2.heap.size]) (by simp) (Kp.refl [w2.heap.size] ob) (O rK (i+1) rL))
 obtain⟨Az,AA⟩:∃Az,Az=ob.setCell (ao w2 3) (O rK (i+1) rL):=⟨_,rfl⟩
 rw[<-AA]at BN KN⊢
 clear AA
 have KR:=Z (KN.old uA (λb hb hlt=>absurd hlt (by rw[aC hb];omega)))
 have KS:=Z (KN.old uz (λb hb hlt=>absurd hlt (by rw[aC hb];omega)))
 have KT:=qo KN uy
 have KU:=KN
 have KV:=BN
 clear BN KN
 clear KE KF KG KH KI KJ KK KM
 go_wp2_with fail
 go_roundg (tl.length-i)
 case measure=>have:=gi.out;omega
 refine⟨i+1,l++[⟨(fc:Int),5,fV,dh,dx,d4,d5⟩],rK,rL,by go_num,by omega,by have:=gi.out;omega,by rw[List.length_append,sS.out];rfl,Z ?_,KV,KT,KS,KR,qV⟩
 rw[List.flatMap_append]
 exact bG KO.out KU.out (by simp)):a:=h
theorem tG {d:Prop} (h:d:=by
 clear HR
 cases r with
 |none=>
  go_wp2_with fail
  refine HC.out.mono ?_
  rintro e w2 ⟨s2,hm⟩
  obtain⟨k,t,m,rfl⟩:∃k t m,e=.returned (.tuple #[.agg #[.int .i64 k,.string (ee t),.int .i64 m,J 0],J 0]):=hm
  have I2:=Z (I.out.same s2)
  have hz2:w.heap.size+5<=w2.heap.size:=bJ I.out.bK.lt s2.size
  have ho2:∀b,(Value.slice A n c).ownBlock=some b->b<w2.heap.size:=λb hb=>aV (I.out.rz b hb) s2.size
  clear s2 HC
  go_wp2_with fail
  go_meet
  exact⟨_,k,t,m,0,rfl,rfl,rfl,hz2,ho2,Z (I2.out.same ((ag.refl _).alloc _)),Z (aa.new _ _ _),Z (.inl ⟨rfl,E1.out⟩)⟩
 |tok k t m len=>
  go_wp2_with fail
  refine HC.out.mono ?_
  rintro e w2 ⟨s2,hm⟩
  obtain rfl:e=.returned (.tuple #[.agg #[k,.string (ee t),m,J 0],len]):=hm
  have I2:=Z (I.out.same s2)
  have hz2:w.heap.size+5<=w2.heap.size:=bJ I.out.bK.lt s2.size
  have ho2:∀b,(Value.slice A n c).ownBlock=some b->b<w2.heap.size:=λb hb=>aV (I.out.rz b hb) s2.size
  clear s2 HC
  go_wp2_with fail
  go_meet
  exact⟨_,k,t,m,len,rfl,rfl,rfl,hz2,ho2,Z (I2.out.same ((ag.refl _).alloc _)),Z (aa.new _ _ _),Z (.inr ⟨HF.out k t m len rfl,E1.out⟩)⟩
 |bad er=>
  go_wp2_with fail
  refine HC.out.mono ?_
  rintro e w2 ⟨s2,rfl⟩
  have I2:=Z (I.out.same s2)
  have kX:=Z (show R=([],er,(a:Int))from E1.out)
  clear s2 HC E1 HF
  go_wp2_with fail
  try rw[Exit.noGoto_panic]
  have hre:=kX.out
  subst hre
  refine leaves_cons (f:=80) (args:=#[ak w.heap.size,ak (w.heap.size+1),ak (w.heap.size+1+1)]) (by simp) (by simp[go_sem]) ?_
  exact ry I2.out (er) (a) _ rfl rfl rfl):d:=h
theorem xy {a:Prop} (h:a:=by
 clear fi
 go_upto_region 19 with(fail)
 go_upto_region 20 with(first|(refine wpList_store_row rfl 59 (.tmp 12) (.tmp 143) rfl dY.heap.size #[(fc:Int),dG,J 0,dh,dx,d4,d5] rfl rfl 59 #[J 0,J 0,J 0,J 0,J 0,J 0,J 0] (aa.new dY 59 #[J 0,J 0,J 0,J 0,J 0,J 0,J 0]) (by kernel_rfl) rfl (by simp[Value.oneCell']) ?_;rw[World.setRow_alloc_new])|fail)
 obtain⟨mZ,pZ,BN,SN,-⟩:=nb dY 59 #[(fc:Int),dG,J 0,dh,dx,d4,d5]
 rw[pZ]
 clear pZ
 have un:=qk em SN
 have uo:=qb SN mC
 have p0:=qb SN mD
 have Av:=qb SN ci
 have uq:=qk mE SN
 have ur:=qk mF SN
 have jc:=BN
 clear BN SN
 clear mG mH mI mJ mK mL
 go_upto_region 22 with(fail)
 have KW:=ay jc
 have KY:=aS jc
 have ut:=aZ jc
 have KZ:=bi jc
 have K0:=bl jc
 have K4:=bF jc
 have K8:=b3 jc
 have K9:=bi p0
 have Ll:=aa.lt p0
 have AB:=Z (aK ur.same qU)
 have O2:=Z (aK ((ag.refl mZ).alloc (.cells #[(fc:Int),dG,J 0,dh,dx,d4,d5] 59)) AB)
 have ga:=Z (cO mZ #[(fc:Int),dG,J 0,dh,dx,d4,d5] 59 7 rfl)
 have hrow:=b2 AB
 go_upto_region 23 with(first|(at_builtin;refine eL _ rfl (.tmp 149) (.tmp 151) 53 rfl (w2.heap.size+1) 59 i0 _ 7 56 Tryz.underlying53 hi0 nL nM nN rfl (by decide) (O Af i cf) i (l.flatMap Wg.cells) rfl O2.out (mZ.heap.size+1) (some ⟨mZ.heap.size,0,none⟩) 1 1 (#[(fc:Int),dG,J 0,dh,dx,d4,d5]:Array Value).toList rfl ga.out (by simp[Value.oneCell']) (by simp only[maxLen];omega) (by omega) (by simp;omega) ?_;intro v1 jS hown1 hg1 ux;obtain⟨rM,rN,rfl,fE⟩:=bv hown1;have La:=Z hown1;have G:=Z hg1;clear hown1 hg1 ux fE;have m0:=Z (aa.grown (p0.out.alloc (.cells #[(fc:Int),dG,J 0,dh,dx,d4,d5] 59)) G.out (λe=>by have:=(hrow _ e.symm).1;omega));have Lb:ae jS (ao w2 3) (O Af i cf):=aa.cell m0.out 3;have Lc:=λi=>aa.frozen m0.out i)|fail)
 have uw:=Z (aa.grown (uo.alloc _) G (λe=>by have:=(hrow _ e.symm).1;omega))
 have uv:=Z ((un.alloc _).grown G (λg hg=>.inr (by have:=hrow g hg;omega)))
 have uu:=Z ((uq.alloc _).grown G (λg hg=>.inr (by have:=hrow g hg;omega)))
 clear O2 ga G hrow Lb Lc
 have BN:=Z (p9 m0 (O rM (i+1) rN))
 have KN:=Z (Kp.aI (p:=(ao w2 3)) (l:=[w2.heap.size]) (by simp) (Kp.refl [w2.heap.size] jS) (O rM (i+1) rN))
 obtain⟨ob,AC⟩:∃ob,ob=jS.setCell (ao w2 3) (O rM (i+1) rN):=⟨_,rfl⟩
 rw[<-AC]at BN KN⊢
 clear AC
 have uA:=Z (KN.old uu (λb hb hlt=>absurd hlt (by rw[aC hb];omega)))
 have uz:=Z (KN.old uv (λb hb hlt=>absurd hlt (by rw[aC hb];omega)))
 have uy:=qo KN uw
 have Ld:=KN
 have p1:=BN
 clear BN KN
 clear KW KY ut KZ K0 K4 K8 K9
 go_wp2_with fail
 go_roundg (tl.length-i)
 case measure=>have:=gi.out;omega
 refine⟨i+1,l++[⟨(fc:Int),dG,0,dh,dx,d4,d5⟩],rM,rN,by go_num,by omega,by have:=gi.out;omega,by rw[List.length_append,sS.out];rfl,Z ?_,p1,uy,uz,uA,qV⟩
 rw[List.flatMap_append]
 exact bG La.out Ld.out (by simp)):a:=h
theorem nT {a:Prop} (h:a:=by
 have g1:=Z (show R=RO.ap false 2 at_ RS by rw[gv.out];simp[*])
 clear gv
 go_wp2_with fail
 refine(kN.out lI).mono ?_
 rintro e dY ⟨rfl,bQ⟩
 have em:=el iU bQ
 have gw:=cN bQ kO
 have mC:=cN bQ nO
 have mD:=cN bQ nP
 have ci:=cN bQ iV
 have kP:=Z (nQ.same bQ)
 have mE:=el nR bQ
 have mF:=el nS bQ
 have z23:=em.size
 clear bQ
 have mG:=aS ci
 have mH:=aZ ci
 have mI:=bi ci
 have mJ:=bl ci
 have mK:=bF ci
 have mL:=b3 ci
 have pv:=aa.lt ci
 have fi:=b4 gw
 go_wp2_with fail
 exact b1 em.out g1.out fi):a:=h
theorem xr {a:Prop} (h:a:=by
 have AD:=aZ iS
 have sP:=aa.lt iS
 have uB:=ay f8
 have uC:=aS f8
 have uD:=aZ f8
 have uE:=bi f8
 have mA:=bl f8
 have pu:=bF f8
 have xt:=aa.lt f8
 go_upto_region 13 with(fail)
 refine oX 9 AD uB uC uD uE mA pu λhS=>?_
 refine dX ?_
 refine gV ?_
 have hS2:(λw':World=>ae w' (ac X 2) (O A n c)/\ae w' (ao w2 0) nm/\ae w' (ao w2 1) pt/\ae w' (ao w2 2) pc/\ae w' (ao w2 3) bh/\ae w' (ao w2 4) (J 0)/\ae w' (ao w2 5) (J 0)) (w3.drew.alloc (.cells #[nm,pt,pc,bh,J 0,J 0] 50)):=⟨bj AD,bj uB,bj uC,bj uD,bj uE,bj mA,bj pu⟩
 refine aM 7 (λK hK=>?_)
 go_simp
 refine hK _ _ (λ_=>hS2) ?_
 refine aw ?_
 have O9:=Z (aK ((ag.refl w3.drew).alloc (.cells #[nm,pt,pc,bh,J 0,J 0] 50)) (aK ((ag.refl w3).drew) O3))
 have ga:=Z (cO w3.drew #[nm,pt,pc,bh,J 0,J 0] 50 6 rfl)
 have lH:=Z (iS.drew.alloc (.cells #[nm,pt,pc,bh,J 0,J 0] 50))
 refine aM 8 (λK hK=>?_)
 refine di (w3.drew.alloc _) (.tmp 73) (.tmp 75) 31 rfl base 50 i0 _ 6 56 Tryz.underlying31 hi0 nL nM nN rfl (by decide) (O A n c) n (os.flatMap Bk.cells) rfl O9 (w3.heap.size+1) (some ⟨w3.heap.size,0,none⟩) 1 1 ((_:aQ).toList) rfl ga (by simp[Value.oneCell']) (by simp only[maxLen];omega) (by omega) (by simp[eo];omega) ?_
 intro v9 w9 hown hg hat
 obtain⟨A2,c2,rfl,fE⟩:=bv hown
 have hrow:=b2 HOW
 have pq:some X≠(.slice A n c:aA).ownBlock:=λe=>by have:=hrow X e.symm;omega
 have BX:=Z (lH.grown hg pq)
 have e9:=aZ BX
 have f9:=λi=>aa.frozen BX i
 have OWN:=Z hown
 have GR:=Z (fO (((Kp.refl [] w3).drew).alloc _) hg)
 have HAT:=Z (show(Value.slice A2 (n+1) c2).ownBlock=(.slice A n c:aA).ownBlock\/∃g,(Value.slice A2 (n+1) c2).ownBlock=some g/\w3.heap.size<=g from hat.imp id (λh=>⟨_,h,by simp[eo]⟩))
 clear hown hat fE O9 ga lH
 refine hK _ _ (λ_=>⟨e9,bD GR uB,bD GR.out uC,bD GR.out uD,bD GR.out uE,bD GR.out mA,bD GR.out pu⟩) ?_
 refine aw ?_
 refine bZ ?_
 refine o9 ?_
 refine dt 12 (λK hK=>?_)
 go_simp
 refine hK _ _ ?_
 refine aw ?_
 refine bM ?_
 go_wp2_with fail
 refine bodyPost_ret (results_none rfl _ _ _) rfl ?_
 rw[EF.out]
 exact⟨rfl,fP.jx K3.same BX OWN GR sO rfl HAT⟩):a:=h
theorem pD {a:Prop} (h:a:=by
 go_enter Tryz.func101,Tryz.ntmps101
 go_wp2_with (go_at_call 178;refine(yf _).mono ?_;rintro e w1 ⟨he,s1⟩;unfold g5 bz at he;subst he;have S1:=Z s1;have K1:=s1.cells;have F1:=s1.frees;have Z1:=s1.size;clear s1)
 go_region
 all_goals
  go_wp2
  refine bodyPost_ret (v:=.tuple #[g5,.bool false]) ?_ rfl ⟨?_,?_⟩
  ·simp[results,Tryz.results101,go_sem,g5,bz,K1,F1]
  ·rw[HD.out]
  simp at Z1
  repeat with_reducible first|refine ag.setCell ?_ (by dsimp only;omega) _|refine ag.drew ?_
  exact(((((ag.refl w).alloc _).alloc _).alloc _).alloc _).trans S1.out):a:=h
theorem kw {a:Prop} (h:a:=by
 intro a5 sz v5 w5 hkd E5 hv k5 K5 Q5 z5
 obtain⟨rfl,r,rfl,hb,hi⟩:=hv
 go_wp2_with fail
 go_meet
 exact⟨r,sz,hkd,Z ⟨k5.blk sy (by simp;omega),hb,hi.mono (λb h=>⟨by unfold Bw at h;omega,h.2⟩),K5.out,Q5.out,E5.out⟩⟩):a:=h
theorem rb {a:Prop} (h:a:=by
 go_enter Tryz.func101,Tryz.ntmps101
 go_wp2_with (go_at_call 179;refine(yg _).mono ?_;rintro e w1 ⟨he,s1⟩;unfold g6 bz at he;subst he;have S1:=Z s1;have K1:=s1.cells;have F1:=s1.frees;have Z1:=s1.size;clear s1)
 go_region
 all_goals
  go_wp2
  refine bodyPost_ret (v:=.tuple #[g6,.bool false]) ?_ rfl ⟨?_,?_⟩
  ·simp[results,Tryz.results101,go_sem,g6,bz,K1,F1]
  ·rw[HD.out]
  simp at Z1
  repeat with_reducible first|refine ag.setCell ?_ (by dsimp only;omega) _|refine ag.drew ?_
  exact(((((ag.refl w).alloc _).alloc _).alloc _).alloc _).trans S1.out):a:=h
theorem f0 {a:Prop} (h:a:=by
 rcases ho with h|⟨g',h,hb⟩
 ·rw[h]at hg;cases hg
 rw[h]at hg;injection hg with hg;omega):a:=h
theorem qP {a:Prop} (h:a:=by
 go_ret
 have own:=OWN.out
 rw[List.nil_append,Nat.zero_add]at own
 have sm:ag w w1:=Below.grown ((ag.refl w).alloc _) G (by simp) (λk hk=>by simp[Value.ownBlock]at hk;omega)
 rcases Nat.eq_zero_or_pos xs.length with h0|h0
 ·rcases own.2 with⟨hv,_⟩|⟨g,cap,_,hv,_⟩
  ·exact .inl ⟨by rw[hv];rfl,ly.out.2 h0,sm⟩
  subst hv;exact .inr ⟨cap,g,rfl,sm,own⟩
 obtain⟨g,cap,hv,_⟩:=own.form h0
 subst hv
 exact .inr ⟨cap,g,rfl,sm,own⟩):a:=h
theorem uP {a:Prop} (h:a:=by
 obtain⟨b,off,hA,blt,hc⟩:=(HL.out.same S.out).2.2 k hlt
 have hA':A=some ⟨b,off,none⟩:=hA
 obtain⟨va,vb,vc,he⟩:=H3.out xs[k]
 have hcall:Calls Tryz.prog g (#[Value.agg (enc xs[k]).toArray]++caps) wr λe W'=>e=.returned (.bool (p xs[k]))/\ag wr W':=HT.out xs[k] (List.getElem_mem hlt) wr S.out
 rw[he]at hc hcall
 have c0:=hc 0 _ rfl
 have c1:=hc 1 _ rfl
 have c2:=hc 2 _ rfl
 simp only[Nat.add_zero]at c0
 have HC:=Z hcall
 clear hcall hc he hA
 subst hA'
 cases hq:p xs[k]with
 |true=>
  rw[hq]at HC
  have HQ:=Z hq
  clear hq
  go_wp2_with fail
  refine HC.out.mono ?_
  rintro e w' ⟨rfl,s1⟩
  have S1:=Z s1
  clear s1 c0 c1 c2
  go_wp2
  go_ret
  exact⟨eg (p4 k hlt HQ.out (λj hj=>N.out j (by omega) hj)).symm,S.out.trans S1.out⟩
 |false=>
  rw[hq]at HC
  have HQ:=Z hq
  clear hq
  go_wp2_with fail
  refine HC.out.mono ?_
  rintro e w' ⟨rfl,s1⟩
  have S1:=Z s1
  clear s1 c0 c1 c2
  go_wp2
  go_roundw
  case rel=>exact⟨k+1,by omega,by go_num,S.out.trans S1.out,p7 hlt HQ.out N.out⟩
  simp[intOf];omega):a:=h
theorem pn {a:Prop} (h:a:=by
 have E1:=Z (show R=RO.ap false 1 at_ _ by rw[E0.out,decide_eq_false hN])
 clear E0 hN
 refine dP 12 eW eX λhS=>?_
 refine dv ?_
 refine eA ?_
 refine aM 11 (λK hK=>?_)
 go_simp
 exact b1 K3.drew E1 dw):a:=h
theorem xw {a:Prop} (h:a:=by
 have g1:=Z (show R=RO.ap false 2 at_ RS by rw[gv.out];simp[*])
 clear gv
 go_wp2_with fail
 refine(kN.out lI).mono ?_
 rintro e dY ⟨rfl,bQ⟩
 have em:=el iU bQ
 have gw:=cN bQ kO
 have mC:=cN bQ nO
 have mD:=cN bQ nP
 have ci:=cN bQ iV
 have kP:=Z (nQ.same bQ)
 have mE:=el nR bQ
 have mF:=el nS bQ
 have z23:=em.size
 clear bQ
 have mG:=aS ci
 have mH:=aZ ci
 have mI:=bi ci
 have mJ:=bl ci
 have mK:=bF ci
 have mL:=b3 ci
 have pv:=aa.lt ci
 have fi:=b4 gw
 go_wp2_with fail
 refine(lJ.out dY).mono ?_
 rintro e w' ⟨rfl,rfl⟩
 go_wp2_with fail
 refine(mB.out dY).mono ?_
 rintro e w' ⟨rfl,rfl⟩
 go_wp2_with fail
 exact b1 em.out g1.out fi):a:=h
theorem xu {a:Prop} (h:a:=by
 have g1:=Z (show R=RO.ap false 2 at_ RS by rw[gv.out];simp[*])
 clear gv
 go_wp2_with fail
 refine(kN.out lI).mono ?_
 rintro e dY ⟨rfl,bQ⟩
 have em:=el iU bQ
 have gw:=cN bQ kO
 have mC:=cN bQ nO
 have mD:=cN bQ nP
 have ci:=cN bQ iV
 have kP:=Z (nQ.same bQ)
 have mE:=el nR bQ
 have mF:=el nS bQ
 have z23:=em.size
 clear bQ
 have mG:=aS ci
 have mH:=aZ ci
 have mI:=bi ci
 have mJ:=bl ci
 have mK:=bF ci
 have mL:=b3 ci
 have pv:=aa.lt ci
 have fi:=b4 gw
 go_wp2_with fail
 refine(lJ.out dY).mono ?_
 rintro e w' ⟨rfl,rfl⟩
 go_wp2_with fail
 exact b1 em.out g1.out fi):a:=h
theorem mQ {a:Prop} (h:a:=by
 show _/\_/\_
 (first|(simp[*];done)|(simp[*,q3,jd,q4,s6,q5,q6];done)|go_keep)):a:=h
theorem mc {a:Prop} (h:a:=by
 go_wp2_with fail
 refine HC.mono ?_
 rintro e w1 ⟨K1,rfl⟩
 go_wp2
 refine⟨rfl,?_⟩
 rw[HE.out]
 exact⟨K1,rfl⟩):a:=h
theorem oU {a:Prop} (h:a:=by
 go_wp2_with fail
 refine fB.mono ?_
 rintro e w3 ⟨k3,rfl⟩
 have K3:=Z (K2.trans k3)
 clear k3
 go_wp2
 refine⟨rfl,?_⟩
 rw[HR3.out]
 exact⟨K3,rfl⟩):a:=h
theorem sb {a:Prop} (h:a:=by
 go_wp2_with fail
 go_quiet (fail)
 go_wp2_with fail
 go_quiet (fail)
 go_wp2
 go_roundg (s.size-(at_+1))
 case measure=>have:=HK.out;omega
 exact⟨at_+1,by omega,rfl,Z (aa.aR (aa.drewN hB.out _) 1 _),Z ((K.out.drewN _).setCell (.inl (by simp)) _),Z (by rw[<-E.out,HC.out,HS.out];omega)⟩):a:=h
theorem xl {a:Prop} (h:a:=by
 refine dP 5 nI nJ λhS=>?_
 refine hT ?_
 refine aM 3 (λK hK=>?_)
 go_simp
 refine(lG w6.drew ((ag.refl w6).drew)).mono ?_
 rintro e w7 ⟨rfl,s1⟩
 have SN:=Z (((ag.refl w6).drew).trans s1)
 clear s1
 have K7:=qk K6 SN
 have jG:=qb SN gK
 have jH:=qb SN lD
 have qT:=qb SN lE
 have jI:=qb SN lF
 have z7:=K7.size
 clear SN
 try go_simp
 have my:=ay jH
 have xm:=aa.lt jH
 have mz:=ay jI
 have xo:=aa.lt jI
 refine hK _ _ (λ_=>⟨my,mz⟩) ?_
 refine aw ?_
 refine aM 4 (λK hK=>?_)
 go_simp
 exact b1 K7 E4 ((lC w7 K7))):a:=h
theorem wd {a:Prop} (h:a:=by
 go_simp
 refine hK _ _ ?_
 refine aw ?_
 refine dt 12 (λK hK=>?_)
 go_simp
 refine hK _ _ ?_
 refine aw ?_
 refine bM ?_
 have e1:=gt.out
 have e2:=gs.out
 rw[qE.out]at e1 e2
 simp only[bX,Nat.zero_mul,Nat.one_mul,Nat.zero_add,Nat.reduceAdd,Nat.reduceMul]at e1 e2
 have iH:=Z e1
 have HE2:=Z e2
 clear e1 e2 gt gs
 go_wp2_with fail
 go_meet
 exact⟨_,2,_,[y1,jv],nt,Z ⟨iH,HE2,lr⟩⟩):a:=h
theorem wb {a:Prop} (h:a:=by
 go_simp
 refine hK _ _ ?_
 refine aw ?_
 refine dt 12 (λK hK=>?_)
 go_simp
 refine hK _ _ ?_
 refine aw ?_
 refine bM ?_
 have e1:=gt.out
 have e2:=gs.out
 rw[qD.out]at e1 e2
 simp only[bX,Nat.zero_mul,Nat.one_mul,Nat.zero_add,Nat.reduceAdd,Nat.reduceMul]at e1 e2
 have iH:=Z e1
 have HE2:=Z e2
 clear e1 e2 gt gs
 go_wp2_with fail
 go_meet
 exact⟨_,_,Y6,nr,Z ⟨iH,HE2,E6⟩⟩):a:=h
theorem rS {a:Prop} (h:a:=by
 go_wp2
 go_roundw
 case rel=>exact⟨k+1,by omega,by go_num,S.out.trans S1.out,p7 hlt HQ.out N.out⟩
 simp[intOf];omega):a:=h
theorem pf {a:Prop} (h:a:=by
 have E6:=Z (show R=RO.ap false 10 at_ RS by rw[E5.out];simp[*])
 clear E5
 go_wp2_with fail
 exact b1 nC E6 pe):a:=h
theorem rR {a:Prop} (h:a:=by
 go_wp2
 go_ret
 exact⟨eg (p4 k hlt HQ.out (λj hj=>N.out j (by omega) hj)).symm,S.out.trans S1.out⟩):a:=h
theorem v8 {c:Prop} (h:c:=by
 refine hold (λb=>Bw base w.heap.size b/\∀g,A=some ⟨g,0,none⟩->b≠g) _ x ((a.sub x h).keep k (λb hb' hS=>by rw[aC hb']at hS;have:=hS.1.1;omega)) (λb hS=>⟨aV hS.1.2 sr,λhe=>hS.2 b (hform b he).1 rfl⟩) (λb hS=>⟨⟨hS.1.1,by have:=hS.1.2;omega⟩,λg' hg'=>?_⟩)
 injection hg' with hg'
 injection hg' with hg'
 subst hg'
 exact hne b (aV hS.1.2 sr) (λhe=>hS.2 b (hform b he).1 rfl)):c:=h
theorem yl {a:Prop} (h:a:=by
 have hsz:wq.heap.size=w1.heap.size:=by rw[hwq];simp[World.setCell]
 refine⟨?_,?_,?_,?_,?_,?_⟩
 ·rw[hwq,rd _ _ _ _ _ _ _ (by dsimp only;omega),bb1.cell];rfl
 ·intro j v hv
  rw[hwq,rd _ _ _ _ _ _ _ (by dsimp only;omega),bb2.cell]
  simpa using hv
 ·intro j v hv
  rw[hwq,hb2.cell]
  simpa using hv
 ·intro j
  rw[hwq];exact hb2.frozen j
 ·rw[hsz];exact Z1
 rw[hwq];exact hb2):a:=h
theorem xi {a:Prop} (h:a:=by
 have tN:(((1:Nat):Int)==(kids.length:Int))=false:=by simp;omega
 have qS:((1:Int)==(kids.length:Int))=false:=by simp;omega
 have E1:=Z (show R=RO.ap false 1 at_ _ by rw[E0.out,decide_eq_false hN])
 clear E0 hN
 refine dP 12 eW eX λhS=>?_
 refine dv ?_
 refine eA ?_
 refine aM 11 (λK hK=>?_)
 go_simp
 exact b1 K3.out.drew (show R=RO.ap false _ at_ _ from E1.out) dw):a:=h
theorem qR {a:Prop} (h:a:=by
 rw[this]
 simp only[Option.some.injEq]
 by_cases hk:ks.length=1
 ·simp[hk]
 have h2:¬1=ks.length:=λe=>hk e.symm
 simp[hk,h2]):a:=h
theorem oV {a:Prop} (h:a:=by
 intro x hx
 rcases cP hx with h|h
 ·exact HF x h
 rw[aC h];exact fy.out):a:=h
theorem qO {a:Prop} (h:a:=by
 rcases Nat.eq_zero_or_pos xs.length with h|h
 ·exact h
 obtain⟨_,h,_⟩:=HR.out.2 h
 cases h):a:=h
theorem sM {a:Prop} (h:a:=by
 rw[this]
 simp only[Option.some.injEq]
 by_cases hk:ks.length=2
 ·simp[hk]
 have h2:¬2=ks.length:=λe=>hk e.symm
 simp[hk,h2]):a:=h
theorem vV {a:Prop} (h:a:=by
 have e1:decide (0<=q)=true:=by simp[hq]
 rw[e1]at HE
 go_wp2_with fail
 refine fN (w:=w) (l:=[]) (Kp.of_same S1) HE.out d8 (λ_ h=>by cases h) ?_
 intro HR _
 go_wp2
 go_ret
 rw[HR.out]
 exact⟨Kp.of_same S1,_,rfl,rfl⟩):a:=h
theorem vS {a:Prop} (h:a:=by
 refine bodyPost_ret (v:=.tuple #[iE 4 ((ba D).take 2) 0 0,J 2]) ?_ rfl ?_
 ·simp[results,Tryz.results84,go_sem, *]
  rw[HX.out 2 hl2]
  rfl
 rw[nl.out]
 refine⟨?_,rfl⟩
 repeat (refine ag.setCell ?_ (Nat.le_refl _) _)
 exact S2):a:=h
theorem tc {a:Prop} (h:a:=by
 go_wp2_with (go_at_call 72;refine(HN.out _).mono ?_;rintro e w' ⟨rfl,rfl⟩)
 go_ret
 exact⟨rfl,(ag.refl _).alloc _⟩):a:=h
theorem xT {P:Prop} (h:P:=by
 have hs:i.size=cs.length:=by simpa[hq]using hi
 have hagg:(isAgg ty).run P w=.ok true w:=by
  unfold isAgg
  rw[Sem.run_bind,run_underlying hu w]
  cases d<;>simp_all
 simp[loadVar,Sem.run_bind,hagg,sizeOf,typeInfo,hq,hs,hl]):P:=h
theorem qf {c:Prop} (h:c:=by
 cases r with
 |bad e a=>intro b ts h;cases h
 |ok a ts=>exact hf a ts (h a ts rfl)):c:=h
theorem sQ {a:Prop} (h:a:=by
 clear E5
 go_wp2_with fail
 refine(HW w3).mono ?_
 rintro e w' ⟨rfl,rfl⟩
 go_wp2_with fail
 exact b1 K3 E6 dw):a:=h
theorem sB {a:Prop} (h:a:=by
 intro b Lf hS
 have h1:=hS.1
 rcases de Lf with rfl|h
 ·omega
 have:=(hr b (jB h)).2
 omega):a:=h
theorem r9 {a:Prop} (h:a:=by
 go_wp2
 all_goals (go_ret;exact⟨ke (by rw[HE.out];first|(simp[*];done)|(simp;omega)),rfl⟩)):a:=h
theorem wF {a:Prop} (h:a:=by
 rw[show(w.alloc (.cells #[J 0,ai,J 0,ai,ai,ab,ab,J 0,J 0,J 0,ab,ai,ai,ab,ab,ab,J 0,ai,ab,ab,ab,ai,ai,J 0,J 0] 95)).heap.size=w.heap.size+1 by simp]at h
 exact h):a:=h
theorem tm {a:Prop} (h:a:=by
 intro p q k hk hfi _ hc
 exact He p q k (by rw[hl];exact hk) hfi h1 (by rw[e3 k hk];exact hc)):a:=h
theorem za {a:Prop} (h:a:=by
 clear hp
 go_wp2_with fail
 go_roundg (rs.length-i)
 case measure=>have:=gi.out;omega
 exact⟨i+1,fA,fn,fc,by go_num,rfl,by omega,by have:=gi.out;omega,LN⟩):a:=h
theorem wl {a:Prop} (h:a:=by
 clear HE
 go_enter Tryz.func191,Tryz.ntmps191
 go_wp2_with fail
 go_region
 all_goals
  go_wp2
  go_ret
  exact⟨cj HR.symm,by first|exact S1.out.drew|exact S1.out⟩):a:=h
theorem v7 {a:Prop} (h:a:=by
 intro hlt'
 have hge:(Value.slice (some ⟨g,0,none⟩) (n+1) c').ownBlock=some g:=rfl
 rcases hat with h|h
 ·exact h.symm.trans hge
 rw[hge]at h;injection h with h;omega):a:=h
theorem uU {a:Prop} (h:a:=by
 have HQ:=Z hq
 clear hq
 go_wp2
 go_ret
 exact⟨eg (p4 k hlt (by rw[<-HY.out];exact decide_eq_true HQ.out) (λj hj=>N j (by omega) hj)).symm,rfl⟩):a:=h
theorem vm {a:Prop} (h:a:=by
 go_wp2
 go_roundw
 case rel=>exact⟨k+1,by omega,by go_num,S.out.trans ((ag.refl _).alloc _),Z (by rw[HP.out,HH.out,Bool.true_and])⟩
 simp[intOf];omega):a:=h
theorem td {a:Prop} (h:a:=by
 rw[<-HO.out]
 exact⟨0,0,by rw[iX.out];rfl,λh=>by rw[iX.out]at h;cases h⟩):a:=h
theorem yV {a:Prop} (h:a:=by
 intro b hb
 rcases I.own.2 with⟨hv,_⟩|⟨g,cap,cur,hv,hg,hh,hr⟩
 ·injection hv with e1;subst e1;cases hb
 rw[hv]at hb;injection hb with hb;subst hb;exact hg):a:=h
theorem vn {a:Prop} (h:a:=by
 by_cases h:k<l.length
 ·rw[List.drop_eq_getElem_cons h,List.getElem?_eq_getElem h]
  rfl
 rw[List.drop_of_length_le (by omega),List.getElem?_eq_none (by omega)]
 rfl):a:=h
theorem xF {b:Prop} (h:b:=by
 clear E
 go_wp2_with (go_at_call 86;refine(kf B 7 a _ c1).mono ?_;rintro e w3 ⟨rfl,rfl⟩)
 refine⟨rfl,?_⟩
 rw[E'.out]
 exact⟨K.same,rfl⟩):b:=h
theorem xI {a:Prop} (h:a:=by
 intro b hb
 rw[aC hb]
 have h1:=q0.hM
 refine⟨by omega,by omega,λhm=>?_⟩
 rcases hB' _ hm with h2|h2
 ·have:=hBw _ h2
  omega
 omega):a:=h
theorem sj {a:Prop} (h:a:=by
 simp[results,Tryz.results243,go_sem,x0,x1,x2,x3,x4,x5,x6,x7,x8,x9,x10,sg,sh,si]):a:=h
theorem s5 {a:Prop} (h:a:=by
 have:=S.cell 1 (by omega)
 rw[this]
 show some t.ha.val=_
 rw[kR];rfl):a:=h
theorem zj {a:Prop} (h:a:=by
 rw[HW.out,rE.out]
 exact⟨e1,_,_,rfl,⟨hh,ts,x,rfl,IY,e4.low (Nat.le_of_lt hle3)⟩,(IZ.kp hle3 e2).low (Nat.le_of_lt hle3)⟩):a:=h
theorem xd {a:Prop} (h:a:=by
 intro v hv
 simp only[RA.cells,List.mem_cons,List.not_mem_nil,or_false]at hv
 rcases hv with rfl|rfl|rfl|rfl|rfl|rfl<;>rfl):a:=h
theorem xj {b:Prop} (h:b:=by
 intro er a wx HX KX
 go_wp2
 refine⟨rfl,?_⟩
 rw[HX.out]
 exact⟨(K6.trans (KX.mono (λ_ h=>by cases h))),rfl⟩):b:=h
theorem xg {a:Prop} (h:a:=by
 exact⟨b,off,ha,aV hb k.size,λj v hv=>(k.cell (p:=(ac b (off+i*m+j))) hb (by simpa using hne)).trans (hc j v hv)⟩):a:=h
theorem yZ {a:Prop} (h:a:=by
 have h3:(#[v]:Array Value)[off+i*4+1]?=none:=by simp
 rw[h3]at h2
 have h4:=h1.symm.trans h2
 cases h4):a:=h
theorem zA {a:Prop} (h:a:=by
 refine Su.eq (by rw[t6,t6,ht]) ?_ ?_ ?_ ?_ ?_ ?_<;>simp only[zr,zt,zu,zv,zw,zx,q]):a:=h
theorem xC {a:Prop} (h:a:=by
 rcases hb with hb|hb
 ·exact⟨(h.lt b hb).1,aV (h.lt b hb).2 z⟩
 exact⟨bJ hbb hb.1,hb.2⟩):a:=h
theorem af {P:Prop} (h:P:=by omega):P:=h
theorem aj {P:Prop} (h:P:=by simp):P:=h
theorem am {P:Prop} (h:P:=by kernel_rfl):P:=h
theorem au {P:Prop} (h:P:=by decide):P:=h
theorem aF {P:Prop} (h:P:=by simp;omega):P:=h
theorem aG {a:Prop} (h:a:=by dsimp only;omega):a:=h
theorem bd {a:Prop} (h:a:=by simp<;>omega):a:=h
theorem bw {P:Prop} (h:P:=by simp[Value.oneCell']):P:=h
theorem cc {P:Prop} (h:P:=by simp only[maxLen];omega):P:=h
theorem cK {a:Prop} (h:a:=by simp[eo];omega):a:=h
theorem dl {P:Prop} (h:P:=by show wr.heap.size<_;omega):P:=h
theorem gx {a:Prop} (h:a:=by simp[cd.rows]):a:=h
theorem kL {a:Prop} (h:a:=by first|rfl|(show Pl.mk _ _ _ _ _ _ _ _=_;simp;done)):a:=h
theorem kQ {a:Prop} (h:a:=by simp[go_sem]):a:=h
theorem nU {a:Prop} (h:a:=by simp[Act.eval]):a:=h
theorem nY {a:Prop} (h:a:=by simp[eo]<;>omega):a:=h
theorem o7 {a:Prop} (h:a:=by first|omega|(simp;omega)):a:=h
theorem qn {a:Prop} (h:a:=by rw[eZ];omega):a:=h
theorem oR {a:Prop} (h:a:=by rw[Nat.add_mul];omega):a:=h
theorem omg {p q:Prop} (a:Hid q) (h:q->p:=by intro _;omega):p:=h a.out
end Go.Proofs
