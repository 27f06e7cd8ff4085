import Derived.WalkKit
import Derived.OrdersHeld
import Derived.Deep.RegionHeld3
import Derived.Shelf.Strings.Builder1
import Derived.Shelf.Small.Bits
import Derived.Shelf.Small.Strs
import Derived.Shelf.Small.Wraps
import Derived.Shelf.Strings.BuilderF
import Derived.Shelf.Strings.BuilderK
import Derived.Shelf.Strconv.Atoi
import Derived.Shelf.Strconv.Itoa0
import Derived.Shelf.Strconv.Itoa1
import Derived.Shelf.LaysM
import Derived.Shelf.Strconv.Itoa2
import Derived.Shelf.Strconv.Itoa3
import Derived.Shelf.Strconv.AtoiErrFast
import Derived.Shelf.Strconv.ParseIntEmpty
import Derived.Shelf.Strconv.AtoiFail
import Derived.Shelf.Strconv.Clone
import Derived.Shelf.Strconv.SyntaxError
import Derived.Shelf.LaysC
import Derived.Shelf.Strconv.ToError
import Derived.Shelf.Strconv.AtoiErr
import Derived.Shelf.Strconv.ErrVar
import Derived.Shelf.Strconv.Lower
import Derived.Shelf.Strconv.ParseUint10
import Derived.Shelf.Strconv.ParseUint10Empty
import Derived.Shelf.Strconv.ParseUint10Any
import Derived.Shelf.Strconv.ParseInt10
import Derived.Shelf.Strconv.AtoiLong
import Derived.Shelf.Strconv.AtoiInnerAll
import Derived.Shelf.Strconv.RangeError
import Derived.Shelf.Strconv.ToErrorRange
import Derived.Shelf.Strconv.AtoiAll
import Derived.Shelf.Strconv.ErrVarAll
import Derived.Shelf.Strconv.ParseUintEmpty
import Derived.Shelf.Strconv.ParseUint10b64
import Derived.Shelf.Strconv.ParseUint10b32
import Derived.Shelf.Strconv.ParseUint10b16
import Derived.Shelf.Strconv.ParseUint10b8
import Derived.Shelf.Strconv.ParseUint10At
import Derived.Shelf.Strings.Search1
import Derived.Shelf.Strings.Search2
import Derived.Shelf.Strings.Search3
import Derived.Shelf.Strings.Count
import Derived.Shelf.Strings.Shaped
import Derived.Shelf.Sort.Plain
import Derived.Shelf.Strings.Prefix
import Derived.Shelf.Slices.Turned
import Derived.Ground.Names2Prog
import Derived.Shelf.Slices.Clone
import Derived.Shelf.Slices.CompactS
import Derived.Shelf.Slices.Cells
import Derived.Shelf.Slices.In.SortNone
import Derived.Ground.SlgnProg
import Derived.Shelf.SlicesE.Clone
import Derived.Below
import Derived.Laws.OwnMore
import Derived.Deep.AppendLies
import Derived.Deep.Draws
import Derived.Laws.Rows
import Derived.Maps.AppendAt
import Derived.RegionTactic
import Derived.OwnWalk
import Derived.Lib.Hide
import Derived.Lib.QuietBelow
import Derived.Deep.DeepCutAuto
import Derived.Deep.QuietTactic
import Derived.BigQuiet
import Derived.Outline
import Derived.LaidMore
import Derived.Stop.Joined
import Derived.Stop.LaidErr
import Derived.ChangeSame
import Derived.ProofKit
import Derived.OpenShut
import Derived.ChangeOld
import Derived.ChangeAt
import Derived.Lib.LaidTab
import Derived.WalkLawsBesides
import Derived.WalkSpells
import Derived.Shelf.Abstract
import Derived.Lib.SliceRun
import Derived.Deep.RegionLaw
import Derived.MapKept
import Derived.Deep.LoopGhost
import Derived.BigRegion
import Derived.Lib.Strings
import Derived.Lib.AtoiAll
import Derived.Lib.ConvBytes
import Derived.Lib.Bytealg
import Derived.Shelf.SlIterI.Sorted
import Derived.Sort.Grow
import Derived.Lib.SlicesCompact
import Derived.Lib.AtoiErrMem
import Derived.Laws.EntriesVeiled
import Derived.Lib.ItoaLen
import Derived.Deep.WholeRow
import Derived.Laws.BytesArg
import Derived.Laws.IdiomStrings
import Derived.Defers
import Derived.Recover
import Derived.Laws.Pointers
import Derived.Deep.Onto
import Derived.Deep.RegionWith
import Derived.Deep.Slices
import Derived.Deep.Fields
import Derived.SevenTiedAt
set_option linter.unusedSimpArgs false
set_option linter.unusedVariables false
set_option linter.unusedSimpArgs false
set_option linter.unusedVariables false
set_option maxHeartbeats 16000000
set_option maxRecDepth 100000
namespace Go.Proofs
open Go.RowKit
theorem Z {p:Prop} (h:p):Hid p:=Lib.hid h
instance:Coe Int Value:=⟨.int .i64⟩
instance:Coe Nat Value:=⟨λa=>.int .i64 a⟩
instance:Coe ByteArray Value:=⟨.string⟩
instance:Coe Bool Value:=⟨.bool⟩
structure Ao (n:Int)
def J (n:Int):Ao n:=⟨⟩
instance {a:Int}:CoeOut (Ao a) Value:=⟨λ_=>.int .i64 a⟩
structure Ap
def ai:Ap:=⟨⟩
instance:Coe Ap Value:=⟨λ_=>.string ⟨#[]⟩⟩
structure Aq
def ab:Aq:=⟨⟩
instance:Coe Aq Value:=⟨λ_=>.slice none 0 0⟩
structure zak where
def zaa:zak:=⟨⟩
instance:Coe zak (Array Value):=⟨λ_=>#[J 0,ai,J 0,ai,ai,ab,ab,J 0,J 0,J 0,ab,ai,ai,ab,ab,ab,J 0,ai,ab,ab,ab,ai,ai,J 0,J 0]⟩
structure zal where
def zab:zal:=⟨⟩
instance:Coe zal (Array Value):=⟨λ_=>#[ab,ab,ab,ab,ab,ab,ab]⟩
structure Ar (n:Nat)
def ak (n:Nat):Ar n:=⟨⟩
instance {a:Nat}:CoeOut (Ar a) Value:=⟨λ_=>.pointer (some ⟨a,0,none⟩)⟩
structure As (a:Option Addr) (n c:Nat)
def O (a:Option Addr) (n b:Nat):As a n b:=⟨⟩
instance {a:Option Addr} {b c:Nat}:CoeOut (As a b c) Value:=⟨λ_=>.slice a b c⟩
structure Au (n i:Nat)
def ac (n i:Nat):Au n i:=⟨⟩
instance {a b:Nat}:CoeOut (Au a b) Addr:=⟨λ_=>⟨a,b,none⟩⟩
structure Av (w:World) (i:Nat)
def aq (w:World) (i:Nat):Av w i:=⟨⟩
instance {a:World} {b:Nat}:CoeOut (Av a b) Addr:=⟨λ_=>⟨a.heap.size,b,none⟩⟩
structure uu (w:World) (a:Addr) (v:Value)
def ae (w:World) (a:Addr) (v:Value):uu w a v:=⟨⟩
instance {a:World} {b:Addr} {c:Value}:CoeSort (uu a b c) Prop:=⟨λ_=>a.cell? b=some c⟩
instance {a:World} {b:Addr} {c:Value}:CoeOut (uu a b c) Prop:=⟨λ_=>a.cell? b=some c⟩
theorem aB {c:Type _} {a b:c} (h:a∈[b]):a=b:=List.mem_singleton.1 h
theorem aR {n m b:Nat} (a:n<m) (c:m<=b):n<b:=Nat.lt_of_lt_of_le a c
theorem aZ {a b:Nat} (h:a<b):a≠b:=Nat.ne_of_lt h
theorem bL {n m b:Nat} (a:n<=m) (c:m<=b):n<=b:=Nat.le_trans a c
theorem cP {b:Type _} {a:b} {c t:List b} (h:a∈c++t):a∈c\/a∈t:=List.mem_append.1 h
theorem ie {b:Type _} {a:b} {c d:List b} (h:a∈c\/a∈d):a∈c++d:=List.mem_append.2 h
theorem dh {b:Type _} {a c:b} {l:List b} (h:a∈c::l):a=c\/a∈l:=List.mem_cons.1 h
structure Aw
def ah:Aw:=⟨⟩
instance:CoeSort Aw Type:=⟨λ_=>World⟩
structure Ax
def av:Ax:=⟨⟩
instance:CoeSort Ax Type:=⟨λ_=>ByteArray⟩
structure Ay
def aQ:Ay:=⟨⟩
instance:CoeSort Ay Type:=⟨λ_=>Array Value⟩
structure Az
def aT:Az:=⟨⟩
instance:CoeSort Az Type:=⟨λ_=>Option Addr⟩
structure AA
def bk:AA:=⟨⟩
instance:CoeSort AA Type:=⟨λ_=>List ByteArray⟩
structure AB
def bg:AB:=⟨⟩
instance:CoeSort AB Type:=⟨λ_=>List Value⟩
structure AC
def aA:AC:=⟨⟩
instance:CoeSort AC Type:=⟨λ_=>Value⟩
structure AD
def bw:AD:=⟨⟩
instance:CoeSort AD Type:=⟨λ_=>List UInt8⟩
structure AE
def aX:AE:=⟨⟩
instance:CoeSort AE Type:=⟨λ_=>TypeId⟩
theorem dq {a b:Prop} (c:b) (d:b->a:=by
 intro kq
 refine tk 0 hS ?_
 refine tk 1 hS ?_
 refine tk 2 hS ?_
 refine tk 3 hS ?_
 refine tk 4 hS ?_
 refine tk 5 hS ?_
 refine tk 6 hS ?_
 refine tk 7 hS ?_
 refine tk 8 hS ?_
 exact kq):a:=d c
theorem aw {P a:Prop} (b:a) (f:a->P:=by
 intro kq
 try simp only[Act.put,p6,p7,p8]
 exact kq):P:=f b
theorem b1 {P a:Prop} (b:a) (f:a->P:=by
 intro kq
 refine vp _ _ _ _ (by kernel_rfl) ?_
 exact kq):P:=f b
theorem cR {P a:Prop} (b:a) (c:a->P:=by
 intro kq
 refine tk 0 hS ?_
 refine tk 1 hS ?_
 refine tk 2 hS ?_
 exact kq):P:=c b
theorem bQ {P a:Prop} (b:a) (f:a->P:=by
 intro kq
 refine wpAny_done (by kernel_rfl) ?_ _
 exact kq):P:=f b
theorem eo {a b:Prop} (c:b) (d:b->a:=by
 intro kq
 refine tk 9 hS ?_
 refine tk 10 hS ?_
 exact kq):a:=d c
theorem jH {a b:Prop} (c:b) (d:b->a:=by
 intro kq
 refine tk 3 hS ?_
 refine tk 4 hS ?_
 refine tk 5 hS ?_
 refine tk 6 hS ?_
 exact kq):a:=d c
theorem gl {P a:Prop} (b:a) (c:a->P:=by
 intro kq
 refine tk 3 hS ?_
 refine tk 4 hS ?_
 exact kq):P:=c b
theorem ph {a b:Prop} (c:b) (d:b->a:=by
 intro kq
 refine tq 9 ?_
 refine tq 10 ?_
 refine tq 11 ?_
 exact kq):a:=d c
theorem sR {P a:Prop} (b:a) (c:a->P:=by
 intro kq
 refine sk 6 hS ?_
 refine sk 7 hS ?_
 refine sk 8 hS ?_
 refine sk 9 hS ?_
 refine tk 10 hS ?_
 exact kq):P:=c b
theorem mx {a b:Prop} (c:b) (d:b->a:=by
 intro kq
 refine tk 0 hS ?_
 refine tk 1 hS ?_
 exact kq):a:=d c
theorem sO {a b:Prop} (c:b) (d:b->a:=by
 intro kq
 refine tk 11 hS ?_
 refine tk 12 hS ?_
 refine tk 13 hS ?_
 refine tk 14 hS ?_
 exact kq):a:=d c
theorem sS {P a:Prop} (b:a) (c:a->P:=by
 intro kq
 refine tk 5 hS ?_
 refine tk 6 hS ?_
 refine tk 7 hS ?_
 refine tk 8 hS ?_
 exact kq):P:=c b
theorem nJ {a:Prop} (h:a:=by
 have E6:=Z (show R=RO.ap true 10 at_ RS by rw[E5.out];simp[*])
 clear E5
 go_wp2_with fail
 refine bX nI E6 pk λE7=>?_
 go_wp2_with (first|(refine wpList_store_row rfl 73 (.tmp 6) (.tmp 76) rfl (w.heap.size+3) #[xv,xc,xk,xn,xs,op,yv,yc,yk,yn,ys,ad] rfl rfl 73 #[J 0,J 0,J 0,J 0,ai,J 0,J 0,J 0,J 0,J 0,ai,J 0] wS.out (by kernel_rfl) rfl (by simp[Value.oneCell']) ?_)|fail)
 obtain⟨iu,AF,iw,GN⟩:=mA wS #[xv,xc,xk,xn,xs,op,yv,yc,yk,yn,ys,ad]
 rw[AF]
 clear AF
 have Kl:=Z (nI.grown GN (λg hg=>.inr (by injection hg with hg;omega)))
 have Km:ae iu (ac (w.heap.size+3) 0) xv:=aa.cell iw 0
 have Kn:ae iu (ac (w.heap.size+3) 1) xc:=aa.cell iw 1
 have Ko:ae iu (ac (w.heap.size+3) 2) xk:=aa.cell iw 2
 have Kq:ae iu (ac (w.heap.size+3) 3) xn:=aa.cell iw 3
 have Kr:ae iu (ac (w.heap.size+3) 4) xs:=aa.cell iw 4
 have Ks:ae iu (ac (w.heap.size+3) 5) op:=aa.cell iw 5
 have Kt:ae iu (ac (w.heap.size+3) 6) yv:=aa.cell iw 6
 have Ku:ae iu (ac (w.heap.size+3) 7) yc:=aa.cell iw 7
 have Kv:ae iu (ac (w.heap.size+3) 8) yk:=aa.cell iw 8
 have Kw:ae iu (ac (w.heap.size+3) 9) yn:=aa.cell iw 9
 have Kx:ae iu (ac (w.heap.size+3) 10) ys:=aa.cell iw 10
 have Ky:ae iu (ac (w.heap.size+3) 11) ad:=aa.cell iw 11
 refine bodyPost_ret (v:=.agg #[xv,xc,xk,xn,xs,op,yv,yc,yk,yn,ys,ad]) ?_ rfl ?_
 ·simp[results,Tryz.results198,go_sem,Km,Kn,Ko,Kq,Kr,Ks,Kt,Ku,Kv,Kw,Kx,Ky]
 rw[E7.out,EI.out]
 exact⟨Kl,_,rfl,rfl⟩):a:=h
theorem xD {a:Prop} (h:a:=by
 go_wp2_with fail
 refine bX ep.out jQ.out fj λq3=>?_
 clear jQ
 clear fj
 go_upto_region 19 with(fail)
 go_upto_region 20 with(first|(refine wpList_store_row rfl 59 (.tmp 12) (.tmp 143) rfl d0.heap.size #[(fc:Int),J 5,J 0,da,dx,d4,d5] rfl rfl 59 #[J 0,J 0,J 0,J 0,J 0,J 0,J 0] (aa.new d0 59 #[J 0,J 0,J 0,J 0,J 0,J 0,J 0]) (by kernel_rfl) rfl (by simp[Value.oneCell']) ?_;rw[World.setRow_alloc_new])|fail)
 obtain⟨ng,p3,BN,SN,-⟩:=nb d0 59 #[(fc:Int),J 5,J 0,da,dx,d4,d5]
 rw[p3]
 clear p3
 have uv:=qk ep SN
 have uw:=qb SN mI
 have p4:=qb SN mJ
 have AG:=qb SN cm
 have ux:=qk mK SN
 have uy:=qk mL SN
 have jl:=BN
 clear BN SN
 clear mM mN mO mP mQ mR
 have Kz:=bc AG
 have uz:=bc jl
 have fz:=λi=>aa.frozen jl i
 go_upto_region 22 with(fail)
 have BN:=Z (r5 jl fR)
 have KN:=Z (Kp.aH (p:=(aq d0 2)) (l:=[d0.heap.size]) (by simp) (Kp.refl [d0.heap.size] ng) fR)
 obtain⟨jX,AH⟩:∃jX,jX=ng.setCell (aq d0 2) fR:=⟨_,rfl⟩
 rw[<-AH]at BN KN⊢
 clear AH
 have AI:=KN
 have uA:=Z (KN.old ux (λb hb hlt=>absurd hlt (by rw[aB hb];omega)))
 have AI:=Z (KN.old uy (λb hb hlt=>absurd hlt (by rw[aB hb];omega)))
 have uB:=Z (KN.old uv (λb hb hlt=>absurd hlt (by rw[aB hb];omega)))
 have uC:=qo KN uw
 have nh:=qo KN p4
 have ni:=BN
 clear BN KN
 clear fz uz Kz
 have KA:=ay ni
 have KB:=aS ni
 have KC:=bc ni
 have KD:=bj ni
 have KE:=bo ni
 have KF:=bI ni
 have KG:=cc ni
 have KH:=bj nh
 have Ld:=aa.lt nh
 have AJ:=Z (aK AI.same q2)
 have O2:=Z (aK ((ag.refl jX).alloc (.cells #[(fc:Int),J 5,fR,da,dx,d4,d5] 59)) AJ)
 have fZ:=Z (cJ jX #[(fc:Int),J 5,fR,da,dx,d4,d5] 59 7 rfl)
 have hrow:=b6 AJ
 go_upto_region 23 with(first|(at_builtin;refine ev _ rfl (.tmp 149) (.tmp 151) 53 rfl (w2.heap.size+1) 59 i0 _ 7 56 Tryz.underlying53 hi0 nR nS nT rfl (by decide) (O Af i cf) i (l.flatMap Wg.cells) rfl O2.out (jX.heap.size+1) (some ⟨jX.heap.size,0,none⟩) 1 1 (#[(fc:Int),J 5,fR,da,dx,d4,d5]:Array Value).toList rfl fZ.out (by simp[Value.oneCell']) (by simp only[maxLen];omega) (by omega) (by simp;omega) ?_;intro v1 ov hown1 hg1 uD;obtain⟨rW,rX,rfl,fD⟩:=bu hown1;have KI:=Z hown1;have G:=Z hg1;clear hown1 hg1 uD fD;have p5:=Z (aa.grown (nh.out.alloc (.cells #[(fc:Int),J 5,fR,da,dx,d4,d5] 59)) G.out (λe=>by have:=(hrow _ e.symm).1;omega));have KJ:ae ov (aq w2 3) (O Af i cf):=aa.cell p5.out 3;have KK:=λi=>aa.frozen p5.out i)|fail)
 have uE:=Z (aa.grown (uC.alloc _) G (λe=>by have:=(hrow _ e.symm).1;omega))
 have uF:=Z ((uB.alloc _).grown G (λg hg=>.inr (by have:=hrow g hg;omega)))
 have uG:=Z ((uA.alloc _).grown G (λg hg=>.inr (by have:=hrow g hg;omega)))
 clear O2 fZ G hrow KJ KK
 have BN:=Z (qh p5 (O rW (i+1) rX))
 have KN:=Z (Kp.aH (p:=(aq w2 3)) (l:=[w2.heap.size]) (by simp) (Kp.refl [w2.heap.size] ov) (O rW (i+1) rX))
 obtain⟨AK,AL⟩:∃AK,AK=ov.setCell (aq w2 3) (O rW (i+1) rX):=⟨_,rfl⟩
 rw[<-AL]at BN KN⊢
 clear AL
 have KL:=Z (KN.old uG (λb hb hlt=>absurd hlt (by rw[aB hb];omega)))
 have KM:=Z (KN.old uF (λb hb hlt=>absurd hlt (by rw[aB hb];omega)))
 have KO:=qo KN uE
 have KP:=KN
 have KQ:=BN
 clear BN KN
 clear KA KB KC KD KE KF KG KH
 go_wp2_with fail
 go_roundg (tl.length-i)
 case measure=>have:=ga.out;omega
 refine⟨i+1,l++[⟨(fc:Int),5,fR,da,dx,d4,d5⟩],rW,rX,by go_num,by omega,by have:=ga.out;omega,by rw[List.length_append,s7.out];rfl,Z ?_,KQ,KO,KM,KL,q3⟩
 rw[List.flatMap_append]
 exact bD KI.out KP.out (by simp)):a:=h
theorem t6 {d:Prop} (h:d:=by
 clear HR
 cases r with
 |none=>
  go_wp2_with fail
  refine HC.out.mono ?_
  rintro e w2 ⟨s2,hm⟩
  obtain⟨k,t,m,rfl⟩:∃k t m,e=.returned (.tuple #[.agg #[.int .i64 k,.string (d1 t),.int .i64 m,J 0],J 0]):=hm
  have I2:=Z (I.out.same s2)
  have hz2:w.heap.size+5<=w2.heap.size:=bL I.out.bK.lt s2.size
  have ho2:∀b,(Value.slice A n c).ownBlock=some b->b<w2.heap.size:=λb hb=>aR (I.out.rI b hb) s2.size
  clear s2 HC
  go_wp2_with fail
  go_meet
  exact⟨_,k,t,m,0,rfl,rfl,rfl,hz2,ho2,Z (I2.out.same ((ag.refl _).alloc _)),Z (aa.new _ _ _),Z (.inl ⟨rfl,E1.out⟩)⟩
 |tok k t m len=>
  go_wp2_with fail
  refine HC.out.mono ?_
  rintro e w2 ⟨s2,hm⟩
  obtain rfl:e=.returned (.tuple #[.agg #[k,.string (d1 t),m,J 0],len]):=hm
  have I2:=Z (I.out.same s2)
  have hz2:w.heap.size+5<=w2.heap.size:=bL I.out.bK.lt s2.size
  have ho2:∀b,(Value.slice A n c).ownBlock=some b->b<w2.heap.size:=λb hb=>aR (I.out.rI b hb) s2.size
  clear s2 HC
  go_wp2_with fail
  go_meet
  exact⟨_,k,t,m,len,rfl,rfl,rfl,hz2,ho2,Z (I2.out.same ((ag.refl _).alloc _)),Z (aa.new _ _ _),Z (.inr ⟨HF.out k t m len rfl,E1.out⟩)⟩
 |bad er=>
  go_wp2_with fail
  refine HC.out.mono ?_
  rintro e w2 ⟨s2,rfl⟩
  have I2:=Z (I.out.same s2)
  have kU:=Z (show R=([],er,(a:Int))from E1.out)
  clear s2 HC E1 HF
  go_wp2_with fail
  try rw[Exit.noGoto_panic]
  have hre:=kU.out
  subst hre
  refine leaves_cons (f:=80) (args:=#[ak w.heap.size,ak (w.heap.size+1),ak (w.heap.size+1+1)]) (by simp) (by simp[go_sem]) ?_
  exact rH I2.out (er) (a) _ rfl rfl rfl):d:=h
theorem xE {a:Prop} (h:a:=by
 clear fj
 go_upto_region 19 with(fail)
 go_upto_region 20 with(first|(refine wpList_store_row rfl 59 (.tmp 12) (.tmp 143) rfl d0.heap.size #[(fc:Int),dI,J 0,da,dx,d4,d5] rfl rfl 59 #[J 0,J 0,J 0,J 0,J 0,J 0,J 0] (aa.new d0 59 #[J 0,J 0,J 0,J 0,J 0,J 0,J 0]) (by kernel_rfl) rfl (by simp[Value.oneCell']) ?_;rw[World.setRow_alloc_new])|fail)
 obtain⟨ng,p3,BN,SN,-⟩:=nb d0 59 #[(fc:Int),dI,J 0,da,dx,d4,d5]
 rw[p3]
 clear p3
 have uv:=qk ep SN
 have uw:=qb SN mI
 have p4:=qb SN mJ
 have AG:=qb SN cm
 have ux:=qk mK SN
 have uy:=qk mL SN
 have jl:=BN
 clear BN SN
 clear mM mN mO mP mQ mR
 go_upto_region 22 with(fail)
 have KR:=ay jl
 have KS:=aS jl
 have uz:=bc jl
 have KT:=bj jl
 have KU:=bo jl
 have KV:=bI jl
 have KW:=cc jl
 have KY:=bj p4
 have Lf:=aa.lt p4
 have AM:=Z (aK uy.same q2)
 have O2:=Z (aK ((ag.refl ng).alloc (.cells #[(fc:Int),dI,J 0,da,dx,d4,d5] 59)) AM)
 have fZ:=Z (cJ ng #[(fc:Int),dI,J 0,da,dx,d4,d5] 59 7 rfl)
 have hrow:=b6 AM
 go_upto_region 23 with(first|(at_builtin;refine ev _ rfl (.tmp 149) (.tmp 151) 53 rfl (w2.heap.size+1) 59 i0 _ 7 56 Tryz.underlying53 hi0 nR nS nT rfl (by decide) (O Af i cf) i (l.flatMap Wg.cells) rfl O2.out (ng.heap.size+1) (some ⟨ng.heap.size,0,none⟩) 1 1 (#[(fc:Int),dI,J 0,da,dx,d4,d5]:Array Value).toList rfl fZ.out (by simp[Value.oneCell']) (by simp only[maxLen];omega) (by omega) (by simp;omega) ?_;intro v1 jX hown1 hg1 uD;obtain⟨rY,rZ,rfl,fD⟩:=bu hown1;have KZ:=Z hown1;have G:=Z hg1;clear hown1 hg1 uD fD;have nh:=Z (aa.grown (p4.out.alloc (.cells #[(fc:Int),dI,J 0,da,dx,d4,d5] 59)) G.out (λe=>by have:=(hrow _ e.symm).1;omega));have K0:ae jX (aq w2 3) (O Af i cf):=aa.cell nh.out 3;have K4:=λi=>aa.frozen nh.out i)|fail)
 have uC:=Z (aa.grown (uw.alloc _) G (λe=>by have:=(hrow _ e.symm).1;omega))
 have uB:=Z ((uv.alloc _).grown G (λg hg=>.inr (by have:=hrow g hg;omega)))
 have uA:=Z ((ux.alloc _).grown G (λg hg=>.inr (by have:=hrow g hg;omega)))
 clear O2 fZ G hrow K0 K4
 have BN:=Z (qh nh (O rY (i+1) rZ))
 have KN:=Z (Kp.aH (p:=(aq w2 3)) (l:=[w2.heap.size]) (by simp) (Kp.refl [w2.heap.size] jX) (O rY (i+1) rZ))
 obtain⟨ov,AN⟩:∃ov,ov=jX.setCell (aq w2 3) (O rY (i+1) rZ):=⟨_,rfl⟩
 rw[<-AN]at BN KN⊢
 clear AN
 have uG:=Z (KN.old uA (λb hb hlt=>absurd hlt (by rw[aB hb];omega)))
 have uF:=Z (KN.old uB (λb hb hlt=>absurd hlt (by rw[aB hb];omega)))
 have uE:=qo KN uC
 have K8:=KN
 have p5:=BN
 clear BN KN
 clear KR KS uz KT KU KV KW KY
 go_wp2_with fail
 go_roundg (tl.length-i)
 case measure=>have:=ga.out;omega
 refine⟨i+1,l++[⟨(fc:Int),dI,0,da,dx,d4,d5⟩],rY,rZ,by go_num,by omega,by have:=ga.out;omega,by rw[List.length_append,s7.out];rfl,Z ?_,p5,uE,uF,uG,q3⟩
 rw[List.flatMap_append]
 exact bD KZ.out K8.out (by simp)):a:=h
theorem nZ {a:Prop} (h:a:=by
 have g3:=Z (show R=RO.ap false 2 at_ RS by rw[gp.out];simp[*])
 clear gp
 go_wp2_with fail
 refine(kK.out lI).mono ?_
 rintro e d0 ⟨rfl,bU⟩
 have ep:=en i7 bU
 have gq:=cO bU kL
 have mI:=cO bU nU
 have mJ:=cO bU nV
 have cm:=cO bU i8
 have kM:=Z (nW.same bU)
 have mK:=en nX bU
 have mL:=en nY bU
 have z23:=ep.size
 clear bU
 have mM:=aS cm
 have mN:=bc cm
 have mO:=bj cm
 have mP:=bo cm
 have mQ:=bI cm
 have mR:=cc cm
 have pC:=aa.lt cm
 have fj:=b4 gq
 go_wp2_with fail
 exact b3 ep.out g3.out fj):a:=h
theorem xz {a:Prop} (h:a:=by
 have AO:=bc iY
 have s4:=aa.lt iY
 have uH:=ay fY
 have uI:=aS fY
 have uJ:=bc fY
 have uK:=bj fY
 have mG:=bo fY
 have pB:=bI fY
 have xA:=aa.lt fY
 go_upto_region 13 with(fail)
 refine o2 9 AO uH uI uJ uK mG pB λhS=>?_
 refine cR ?_
 refine jH ?_
 have hS2:(λw':World=>ae w' (ac X 2) (O A n c)/\ae w' (aq w2 0) nm/\ae w' (aq w2 1) pt/\ae w' (aq w2 2) pc/\ae w' (aq w2 3) bh/\ae w' (aq w2 4) (J 0)/\ae w' (aq w2 5) (J 0)) (w3.drew.alloc (.cells #[nm,pt,pc,bh,J 0,J 0] 50)):=⟨bi AO,bi uH,bi uI,bi uJ,bi uK,bi mG,bi pB⟩
 refine aM 7 (λK hK=>?_)
 go_simp
 refine hK _ _ (λ_=>hS2) ?_
 refine aw ?_
 have O9:=Z (aK ((ag.refl w3.drew).alloc (.cells #[nm,pt,pc,bh,J 0,J 0] 50)) (aK ((ag.refl w3).drew) O3))
 have fZ:=Z (cJ w3.drew #[nm,pt,pc,bh,J 0,J 0] 50 6 rfl)
 have lH:=Z (iY.drew.alloc (.cells #[nm,pt,pc,bh,J 0,J 0] 50))
 refine aM 8 (λK hK=>?_)
 refine de (w3.drew.alloc _) (.tmp 73) (.tmp 75) 31 rfl base 50 i0 _ 6 56 Tryz.underlying31 hi0 nR nS nT rfl (by decide) (O A n c) n (os.flatMap Bk.cells) rfl O9 (w3.heap.size+1) (some ⟨w3.heap.size,0,none⟩) 1 1 ((_:aQ).toList) rfl fZ (by simp[Value.oneCell']) (by simp only[maxLen];omega) (by omega) (by simp[eu];omega) ?_
 intro v9 w9 hown hg hat
 obtain⟨A2,c2,rfl,fD⟩:=bu hown
 have hrow:=b6 HOW
 have pA:some X≠(.slice A n c:aA).ownBlock:=λe=>by have:=hrow X e.symm;omega
 have BX:=Z (lH.grown hg pA)
 have e9:=bc BX
 have f9:=λi=>aa.frozen BX i
 have OWN:=Z hown
 have GR:=Z (fK (((Kp.refl [] w3).drew).alloc _) hg)
 have HAT:=Z (show(Value.slice A2 (n+1) c2).ownBlock=(.slice A n c:aA).ownBlock\/∃g,(Value.slice A2 (n+1) c2).ownBlock=some g/\w3.heap.size<=g from hat.imp id (λh=>⟨_,h,by simp[eu]⟩))
 clear hown hat fD O9 fZ lH
 refine hK _ _ (λ_=>⟨e9,bF GR uH,bF GR.out uI,bF GR.out uJ,bF GR.out uK,bF GR.out mG,bF GR.out pB⟩) ?_
 refine aw ?_
 refine b1 ?_
 refine ph ?_
 refine dF 12 (λK hK=>?_)
 go_simp
 refine hK _ _ ?_
 refine aw ?_
 refine bQ ?_
 go_wp2_with fail
 refine bodyPost_ret (results_none rfl _ _ _) rfl ?_
 rw[EF.out]
 exact⟨rfl,fL.jC K3.same BX OWN GR s3 rfl HAT⟩):a:=h
theorem pK {a:Prop} (h:a:=by
 go_enter Tryz.func101,Tryz.ntmps101
 go_wp2_with (go_at_call 178;refine(yl _).mono ?_;rintro e w1 ⟨he,s1⟩;unfold g7 bC at he;subst he;have S1:=Z s1;have K1:=s1.cells;have F1:=s1.frees;have Z1:=s1.size;clear s1)
 go_region
 all_goals
  go_wp2
  refine bodyPost_ret (v:=.tuple #[g7,.bool false]) ?_ rfl ⟨?_,?_⟩
  ·simp[results,Tryz.results101,go_sem,g7,bC,K1,F1]
  ·rw[HD.out]
  simp at Z1
  repeat with_reducible first|refine ag.setCell ?_ (by dsimp only;omega) _|refine ag.drew ?_
  exact(((((ag.refl w).alloc _).alloc _).alloc _).alloc _).trans S1.out):a:=h
theorem kj {a:Prop} (h:a:=by
 intro a5 sJ v5 w5 hkd E5 hv k5 K5 Q5 z5
 obtain⟨rfl,r,rfl,hb,hi⟩:=hv
 go_wp2_with fail
 go_meet
 exact⟨r,sJ,hkd,Z ⟨k5.blk sI (by simp;omega),hb,hi.mono (λb h=>⟨by unfold Bw at h;omega,h.2⟩),K5.out,Q5.out,E5.out⟩⟩):a:=h
theorem rj {a:Prop} (h:a:=by
 go_enter Tryz.func101,Tryz.ntmps101
 go_wp2_with (go_at_call 179;refine(ym _).mono ?_;rintro e w1 ⟨he,s1⟩;unfold g8 bC at he;subst he;have S1:=Z s1;have K1:=s1.cells;have F1:=s1.frees;have Z1:=s1.size;clear s1)
 go_region
 all_goals
  go_wp2
  refine bodyPost_ret (v:=.tuple #[g8,.bool false]) ?_ rfl ⟨?_,?_⟩
  ·simp[results,Tryz.results101,go_sem,g8,bC,K1,F1]
  ·rw[HD.out]
  simp at Z1
  repeat with_reducible first|refine ag.setCell ?_ (by dsimp only;omega) _|refine ag.drew ?_
  exact(((((ag.refl w).alloc _).alloc _).alloc _).alloc _).trans S1.out):a:=h
theorem fW {a:Prop} (h:a:=by
 rcases ho with h|⟨g',h,hb⟩
 ·rw[h]at hg;cases hg
 rw[h]at hg;injection hg with hg;omega):a:=h
theorem qY {a:Prop} (h:a:=by
 go_ret
 have own:=OWN.out
 rw[List.nil_append,Nat.zero_add]at own
 have sm:ag w w1:=Below.grown ((ag.refl w).alloc _) G (by simp) (λk hk=>by simp[Value.ownBlock]at hk;omega)
 rcases Nat.eq_zero_or_pos xs.length with h0|h0
 ·rcases own.2 with⟨hv,_⟩|⟨g,cap,_,hv,_⟩
  ·exact .inl ⟨by rw[hv];rfl,lz.out.2 h0,sm⟩
  subst hv;exact .inr ⟨cap,g,rfl,sm,own⟩
 obtain⟨g,cap,hv,_⟩:=own.form h0
 subst hv
 exact .inr ⟨cap,g,rfl,sm,own⟩):a:=h
theorem uU {a:Prop} (h:a:=by
 obtain⟨b,off,hA,blt,hc⟩:=(HL.out.same S.out).2.2 k hlt
 have hA':A=some ⟨b,off,none⟩:=hA
 obtain⟨va,vb,vc,he⟩:=H3.out xs[k]
 have hcall:Calls Tryz.prog g (#[Value.agg (enc xs[k]).toArray]++caps) wr λe W'=>e=.returned (.bool (p xs[k]))/\ag wr W':=HT.out xs[k] (List.getElem_mem hlt) wr S.out
 rw[he]at hc hcall
 have c0:=hc 0 _ rfl
 have c1:=hc 1 _ rfl
 have c2:=hc 2 _ rfl
 simp only[Nat.add_zero]at c0
 have HC:=Z hcall
 clear hcall hc he hA
 subst hA'
 cases hq:p xs[k]with
 |true=>
  rw[hq]at HC
  have HQ:=Z hq
  clear hq
  go_wp2_with fail
  refine HC.out.mono ?_
  rintro e w' ⟨rfl,s1⟩
  have S1:=Z s1
  clear s1 c0 c1 c2
  go_wp2
  go_ret
  exact⟨ej (qc k hlt HQ.out (λj hj=>N.out j (by omega) hj)).symm,S.out.trans S1.out⟩
 |false=>
  rw[hq]at HC
  have HQ:=Z hq
  clear hq
  go_wp2_with fail
  refine HC.out.mono ?_
  rintro e w' ⟨rfl,s1⟩
  have S1:=Z s1
  clear s1 c0 c1 c2
  go_wp2
  go_roundw
  case rel=>exact⟨k+1,by omega,by go_num,S.out.trans S1.out,qf hlt HQ.out N.out⟩
  simp[intOf];omega):a:=h
theorem px {a:Prop} (h:a:=by
 have E1:=Z (show R=RO.ap false 1 at_ _ by rw[E0.out,decide_eq_false hN])
 clear E0 hN
 refine dQ 12 eX eY λhS=>?_
 refine dq ?_
 refine eo ?_
 refine aM 11 (λK hK=>?_)
 go_simp
 exact b3 K3.drew E1 dw):a:=h
theorem xC {a:Prop} (h:a:=by
 have g3:=Z (show R=RO.ap false 2 at_ RS by rw[gp.out];simp[*])
 clear gp
 go_wp2_with fail
 refine(kK.out lI).mono ?_
 rintro e d0 ⟨rfl,bU⟩
 have ep:=en i7 bU
 have gq:=cO bU kL
 have mI:=cO bU nU
 have mJ:=cO bU nV
 have cm:=cO bU i8
 have kM:=Z (nW.same bU)
 have mK:=en nX bU
 have mL:=en nY bU
 have z23:=ep.size
 clear bU
 have mM:=aS cm
 have mN:=bc cm
 have mO:=bj cm
 have mP:=bo cm
 have mQ:=bI cm
 have mR:=cc cm
 have pC:=aa.lt cm
 have fj:=b4 gq
 go_wp2_with fail
 refine(lJ.out d0).mono ?_
 rintro e w' ⟨rfl,rfl⟩
 go_wp2_with fail
 refine(mH.out d0).mono ?_
 rintro e w' ⟨rfl,rfl⟩
 go_wp2_with fail
 exact b3 ep.out g3.out fj):a:=h
theorem xB {a:Prop} (h:a:=by
 have g3:=Z (show R=RO.ap false 2 at_ RS by rw[gp.out];simp[*])
 clear gp
 go_wp2_with fail
 refine(kK.out lI).mono ?_
 rintro e d0 ⟨rfl,bU⟩
 have ep:=en i7 bU
 have gq:=cO bU kL
 have mI:=cO bU nU
 have mJ:=cO bU nV
 have cm:=cO bU i8
 have kM:=Z (nW.same bU)
 have mK:=en nX bU
 have mL:=en nY bU
 have z23:=ep.size
 clear bU
 have mM:=aS cm
 have mN:=bc cm
 have mO:=bj cm
 have mP:=bo cm
 have mQ:=bI cm
 have mR:=cc cm
 have pC:=aa.lt cm
 have fj:=b4 gq
 go_wp2_with fail
 refine(lJ.out d0).mono ?_
 rintro e w' ⟨rfl,rfl⟩
 go_wp2_with fail
 exact b3 ep.out g3.out fj):a:=h
theorem mX {a:Prop} (h:a:=by
 show _/\_/\_
 (first|(simp[*];done)|(simp[*,rc,jm,rd,tp,re,rf];done)|go_keep)):a:=h
theorem mj {a:Prop} (h:a:=by
 go_wp2_with fail
 refine HC.mono ?_
 rintro e w1 ⟨K1,rfl⟩
 go_wp2
 refine⟨rfl,?_⟩
 rw[HE.out]
 exact⟨K1,rfl⟩):a:=h
theorem oZ {a:Prop} (h:a:=by
 go_wp2_with fail
 refine fy.mono ?_
 rintro e w3 ⟨k3,rfl⟩
 have K3:=Z (K2.trans k3)
 clear k3
 go_wp2
 refine⟨rfl,?_⟩
 rw[HR3.out]
 exact⟨K3,rfl⟩):a:=h
theorem sq {a:Prop} (h:a:=by
 go_wp2_with fail
 go_quiet (fail)
 go_wp2_with fail
 go_quiet (fail)
 go_wp2
 go_roundg (s.size-(at_+1))
 case measure=>have:=HK.out;omega
 exact⟨at_+1,by omega,rfl,Z (aa.aP (aa.drewN hB.out _) 1 _),Z ((K.out.drewN _).setCell (.inl (by simp)) _),Z (by rw[<-E.out,HC.out,HS.out];omega)⟩):a:=h
theorem xu {a:Prop} (h:a:=by
 refine dQ 5 nO nP λhS=>?_
 refine cR ?_
 refine aM 3 (λK hK=>?_)
 go_simp
 refine(lG w6.drew ((ag.refl w6).drew)).mono ?_
 rintro e w7 ⟨rfl,s1⟩
 have SN:=Z (((ag.refl w6).drew).trans s1)
 clear s1
 have K7:=qk K6 SN
 have jN:=qb SN gI
 have jO:=qb SN lD
 have q1:=qb SN lE
 have jP:=qb SN lF
 have z7:=K7.size
 clear SN
 try go_simp
 have mE:=ay jO
 have xw:=aa.lt jO
 have mF:=ay jP
 have xx:=aa.lt jP
 refine hK _ _ (λ_=>⟨mE,mF⟩) ?_
 refine aw ?_
 refine aM 4 (λK hK=>?_)
 go_simp
 exact b3 K7 E4 ((lC w7 K7))):a:=h
theorem wm {a:Prop} (h:a:=by
 go_simp
 refine hK _ _ ?_
 refine aw ?_
 refine dF 12 (λK hK=>?_)
 go_simp
 refine hK _ _ ?_
 refine aw ?_
 refine bQ ?_
 have e1:=gn.out
 have e2:=gm.out
 rw[qN.out]at e1 e2
 simp only[bZ,Nat.zero_mul,Nat.one_mul,Nat.zero_add,Nat.reduceAdd,Nat.reduceMul]at e1 e2
 have iO:=Z e1
 have HE2:=Z e2
 clear e1 e2 gn gm
 go_wp2_with fail
 go_meet
 exact⟨_,2,_,[y1,jA],nB,Z ⟨iO,HE2,lx⟩⟩):a:=h
theorem wl {a:Prop} (h:a:=by
 go_simp
 refine hK _ _ ?_
 refine aw ?_
 refine dF 12 (λK hK=>?_)
 go_simp
 refine hK _ _ ?_
 refine aw ?_
 refine bQ ?_
 have e1:=gn.out
 have e2:=gm.out
 rw[qM.out]at e1 e2
 simp only[bZ,Nat.zero_mul,Nat.one_mul,Nat.zero_add,Nat.reduceAdd,Nat.reduceMul]at e1 e2
 have iO:=Z e1
 have HE2:=Z e2
 clear e1 e2 gn gm
 go_wp2_with fail
 go_meet
 exact⟨_,_,Y6,nA,Z ⟨iO,HE2,E6⟩⟩):a:=h
theorem r4 {a:Prop} (h:a:=by
 go_wp2
 go_roundw
 case rel=>exact⟨k+1,by omega,by go_num,S.out.trans S1.out,qf hlt HQ.out N.out⟩
 simp[intOf];omega):a:=h
theorem pm {a:Prop} (h:a:=by
 have E6:=Z (show R=RO.ap false 10 at_ RS by rw[E5.out];simp[*])
 clear E5
 go_wp2_with fail
 exact b3 nI E6 pk):a:=h
theorem r3 {a:Prop} (h:a:=by
 go_wp2
 go_ret
 exact⟨ej (qc k hlt HQ.out (λj hj=>N.out j (by omega) hj)).symm,S.out.trans S1.out⟩):a:=h
theorem wh {c:Prop} (h:c:=by
 refine hold (λb=>Bw base w.heap.size b/\∀g,A=some ⟨g,0,none⟩->b≠g) _ x ((a.sub x h).keep k (λb hb' hS=>by rw[aB hb']at hS;have:=hS.1.1;omega)) (λb hS=>⟨aR hS.1.2 sE,λhe=>hS.2 b (hform b he).1 rfl⟩) (λb hS=>⟨⟨hS.1.1,by have:=hS.1.2;omega⟩,λg' hg'=>?_⟩)
 injection hg' with hg'
 injection hg' with hg'
 subst hg'
 exact hne b (aR hS.1.2 sE) (λhe=>hS.2 b (hform b he).1 rfl)):c:=h
theorem yr {a:Prop} (h:a:=by
 have hsz:wq.heap.size=w1.heap.size:=by rw[hwq];simp[World.setCell]
 refine⟨?_,?_,?_,?_,?_,?_⟩
 ·rw[hwq,rl _ _ _ _ _ _ _ (by dsimp only;omega),bb1.cell];rfl
 ·intro j v hv
  rw[hwq,rl _ _ _ _ _ _ _ (by dsimp only;omega),bb2.cell]
  simpa using hv
 ·intro j v hv
  rw[hwq,hb2.cell]
  simpa using hv
 ·intro j
  rw[hwq];exact hb2.frozen j
 ·rw[hsz];exact Z1
 rw[hwq];exact hb2):a:=h
theorem xr {a:Prop} (h:a:=by
 have tN:(((1:Nat):Int)==(kids.length:Int))=false:=by simp;omega
 have q0:((1:Int)==(kids.length:Int))=false:=by simp;omega
 have E1:=Z (show R=RO.ap false 1 at_ _ by rw[E0.out,decide_eq_false hN])
 clear E0 hN
 refine dQ 12 eX eY λhS=>?_
 refine dq ?_
 refine eo ?_
 refine aM 11 (λK hK=>?_)
 go_simp
 exact b3 K3.out.drew (show R=RO.ap false _ at_ _ from E1.out) dw):a:=h
theorem qZ {a:Prop} (h:a:=by
 rw[this]
 simp only[Option.some.injEq]
 by_cases hk:ks.length=1
 ·simp[hk]
 have h2:¬1=ks.length:=λe=>hk e.symm
 simp[hk,h2]):a:=h
theorem o0 {a:Prop} (h:a:=by
 intro x hx
 rcases cP hx with h|h
 ·exact HF x h
 rw[aB h];exact fx.out):a:=h
theorem qX {a:Prop} (h:a:=by
 rcases Nat.eq_zero_or_pos xs.length with h|h
 ·exact h
 obtain⟨_,h,_⟩:=HR.out.2 h
 cases h):a:=h
theorem sZ {a:Prop} (h:a:=by
 rw[this]
 simp only[Option.some.injEq]
 by_cases hk:ks.length=2
 ·simp[hk]
 have h2:¬2=ks.length:=λe=>hk e.symm
 simp[hk,h2]):a:=h
theorem v7 {a:Prop} (h:a:=by
 have e1:decide (0<=q)=true:=by simp[hq]
 rw[e1]at HE
 go_wp2_with fail
 refine fJ (w:=w) (l:=[]) (Kp.of_same S1) HE.out d8 (λ_ h=>by cases h) ?_
 intro HR _
 go_wp2
 go_ret
 rw[HR.out]
 exact⟨Kp.of_same S1,_,rfl,rfl⟩):a:=h
theorem vY {a:Prop} (h:a:=by
 refine bodyPost_ret (v:=.tuple #[iL 4 ((ba D).take 2) 0 0,J 2]) ?_ rfl ?_
 ·simp[results,Tryz.results84,go_sem, *]
  rw[HX.out 2 hl2]
  rfl
 rw[nx.out]
 refine⟨?_,rfl⟩
 repeat (refine ag.setCell ?_ (Nat.le_refl _) _)
 exact S2):a:=h
theorem tv {a:Prop} (h:a:=by
 go_wp2_with (go_at_call 72;refine(HN.out _).mono ?_;rintro e w' ⟨rfl,rfl⟩)
 go_ret
 exact⟨rfl,(ag.refl _).alloc _⟩):a:=h
theorem qr {c:Prop} (h:c:=by
 cases r with
 |bad e a=>intro b ts h;cases h
 |ok a ts=>exact hf a ts (h a ts rfl)):c:=h
theorem s5 {a:Prop} (h:a:=by
 clear E5
 go_wp2_with fail
 refine(HW w3).mono ?_
 rintro e w' ⟨rfl,rfl⟩
 go_wp2_with fail
 exact b3 K3 E6 dw):a:=h
theorem sL {a:Prop} (h:a:=by
 intro b K9 hS
 have h1:=hS.1
 rcases dh K9 with rfl|h
 ·omega
 have:=(hr b (jI h)).2
 omega):a:=h
theorem sn {a:Prop} (h:a:=by
 go_wp2
 all_goals (go_ret;exact⟨kd (by rw[HE.out];first|(simp[*];done)|(simp;omega)),rfl⟩)):a:=h
theorem wM {a:Prop} (h:a:=by
 rw[show(w.alloc (.cells zaa 95)).heap.size=w.heap.size+1 by simp]at h
 exact h):a:=h
theorem tF {a:Prop} (h:a:=by
 intro p q k hk hfi _ hc
 exact Hn p q k (by rw[hl];exact hk) hfi h1 (by rw[e3 k hk];exact hc)):a:=h
theorem zE {a:Prop} (h:a:=by
 clear hp
 go_wp2_with fail
 go_roundg (rs.length-i)
 case measure=>have:=ga.out;omega
 exact⟨i+1,fA,fn,fc,by go_num,rfl,by omega,by have:=ga.out;omega,LN⟩):a:=h
theorem wv {a:Prop} (h:a:=by
 clear HE
 go_enter Tryz.func191,Tryz.ntmps191
 go_wp2_with fail
 go_region
 all_goals
  go_wp2
  go_ret
  exact⟨cn HR.symm,by first|exact S1.out.drew|exact S1.out⟩):a:=h
theorem wg {a:Prop} (h:a:=by
 intro hlt'
 have hge:(Value.slice (some ⟨g,0,none⟩) (n+1) c').ownBlock=some g:=rfl
 rcases hat with h|h
 ·exact h.symm.trans hge
 rw[hge]at h;injection h with h;omega):a:=h
theorem uZ {a:Prop} (h:a:=by
 have HQ:=Z hq
 clear hq
 go_wp2
 go_ret
 exact⟨ej (qc k hlt (by rw[<-HY.out];exact decide_eq_true HQ.out) (λj hj=>N j (by omega) hj)).symm,rfl⟩):a:=h
theorem vr {a:Prop} (h:a:=by
 go_wp2
 go_roundw
 case rel=>exact⟨k+1,by omega,by go_num,S.out.trans ((ag.refl _).alloc _),Z (by rw[HP.out,HH.out,Bool.true_and])⟩
 simp[intOf];omega):a:=h
theorem tw {a:Prop} (h:a:=by
 rw[<-HO.out]
 exact⟨0,0,by rw[jb.out];rfl,λh=>by rw[jb.out]at h;cases h⟩):a:=h
theorem zn {a:Prop} (h:a:=by
 intro b hb
 rcases I.own.2 with⟨hv,_⟩|⟨g,cap,cur,hv,hg,hh,hr⟩
 ·injection hv with e1;subst e1;cases hb
 rw[hv]at hb;injection hb with hb;subst hb;exact hg):a:=h
theorem vt {a:Prop} (h:a:=by
 by_cases h:k<l.length
 ·rw[List.drop_eq_getElem_cons h,List.getElem?_eq_getElem h]
  rfl
 rw[List.drop_of_length_le (by omega),List.getElem?_eq_none (by omega)]
 rfl):a:=h
theorem xL {b:Prop} (h:b:=by
 clear E
 go_wp2_with (go_at_call 86;refine(ke B 7 a _ c1).mono ?_;rintro e w3 ⟨rfl,rfl⟩)
 refine⟨rfl,?_⟩
 rw[E'.out]
 exact⟨K.same,rfl⟩):b:=h
theorem xO {a:Prop} (h:a:=by
 intro b hb
 rw[aB hb]
 have h1:=q8.hM
 refine⟨by omega,by omega,λhm=>?_⟩
 rcases hB' _ hm with h2|h2
 ·have:=hBw _ h2
  omega
 omega):a:=h
theorem sB {a:Prop} (h:a:=by
 simp[results,Tryz.results243,go_sem,x0,x1,x2,x3,x4,x5,x6,x7,x8,x9,x10,sy,sz,sA]):a:=h
theorem tn {a:Prop} (h:a:=by
 have:=S.cell 1 (by omega)
 rw[this]
 show some t.ha.val=_
 rw[kO];rfl):a:=h
theorem zP {a:Prop} (h:a:=by
 rw[HW.out,rM.out]
 exact⟨e1,_,_,rfl,⟨hh,ts,x,rfl,Jh,e4.low (Nat.le_of_lt hle3)⟩,(Ji.kp hle3 e2).low (Nat.le_of_lt hle3)⟩):a:=h
theorem xj {a:Prop} (h:a:=by
 intro v hv
 simp only[RA.cells,List.mem_cons,List.not_mem_nil,or_false]at hv
 rcases hv with rfl|rfl|rfl|rfl|rfl|rfl<;>rfl):a:=h
theorem xt {b:Prop} (h:b:=by
 intro er a wx HX KX
 go_wp2
 refine⟨rfl,?_⟩
 rw[HX.out]
 exact⟨(K6.trans (KX.mono (λ_ h=>by cases h))),rfl⟩):b:=h
theorem xo {a:Prop} (h:a:=by
 exact⟨b,off,ha,aR hb k.size,λj v hv=>(k.cell (p:=(ac b (off+i*m+j))) hb (by simpa using hne)).trans (hc j v hv)⟩):a:=h
theorem zr {a:Prop} (h:a:=by
 have h3:(#[v]:Array Value)[off+i*4+1]?=none:=by simp
 rw[h3]at h2
 have h4:=h1.symm.trans h2
 cases h4):a:=h
theorem xI {a:Prop} (h:a:=by
 rcases hb with hb|hb
 ·exact⟨(h.lt b hb).1,aR (h.lt b hb).2 z⟩
 exact⟨bL hbb hb.1,hb.2⟩):a:=h
theorem yR {a:Prop} (h:a:=by
 obtain⟨_,_,h⟩:=RO.bM h
 obtain⟨_,_,h⟩:=RO.bM h
 injection h with h
 subst h
 rfl):a:=h
theorem af {P:Prop} (h:P:=by omega):P:=h
theorem aj {P:Prop} (h:P:=by simp):P:=h
theorem am {P:Prop} (h:P:=by kernel_rfl):P:=h
theorem ax {P:Prop} (h:P:=by decide):P:=h
theorem aG {a:Prop} (h:a:=by dsimp only;omega):a:=h
theorem aF {P:Prop} (h:P:=by simp;omega):P:=h
theorem bb {a:Prop} (h:a:=by simp<;>omega):a:=h
theorem bn {P:Prop} (h:P:=by simp[Value.oneCell']):P:=h
theorem b9 {P:Prop} (h:P:=by simp only[maxLen];omega):P:=h
theorem cK {a:Prop} (h:a:=by simp[eu];omega):a:=h
theorem dj {P:Prop} (h:P:=by show wr.heap.size<_;omega):P:=h
theorem gr {a:Prop} (h:a:=by simp[cd.rows]):a:=h
theorem jx {P:Prop} (h:P:=by decide+kernel):P:=h
theorem kI {a:Prop} (h:a:=by first|rfl|(show Pl.mk _ _ _ _ _ _ _ _=_;simp;done)):a:=h
theorem kN {a:Prop} (h:a:=by simp[go_sem]):a:=h
theorem n3 {a:Prop} (h:a:=by simp[Act.eval]):a:=h
theorem n6 {a:Prop} (h:a:=by simp[eu]<;>omega):a:=h
theorem pe {a:Prop} (h:a:=by first|omega|(simp;omega)):a:=h
theorem qz {a:Prop} (h:a:=by rw[dU];omega):a:=h
theorem oW {a:Prop} (h:a:=by rw[Nat.add_mul];omega):a:=h
theorem omg {p q:Prop} (a:Hid q) (h:q->p:=by intro _;omega):p:=h a.out
end Go.Proofs
