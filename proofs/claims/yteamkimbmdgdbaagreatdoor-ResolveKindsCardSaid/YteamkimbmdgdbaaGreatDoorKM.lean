import Derived.WalkKit
import Derived.OrdersHeld
import Derived.Deep.RegionHeld3
import Derived.Shelf.Strings.Builder1
import Derived.Shelf.Small.Bits
import Derived.Shelf.Small.Strs
import Derived.Shelf.Small.Wraps
import Derived.Shelf.Strings.BuilderF
import Derived.Shelf.Strings.BuilderK
import Derived.Shelf.Strconv.Atoi
import Derived.Shelf.Strconv.Itoa0
import Derived.Shelf.Strconv.Itoa1
import Derived.Shelf.LaysM
import Derived.Shelf.Strconv.Itoa2
import Derived.Shelf.Strconv.Itoa3
import Derived.Shelf.Strconv.AtoiErrFast
import Derived.Shelf.Strconv.ParseIntEmpty
import Derived.Shelf.Strconv.AtoiFail
import Derived.Shelf.Strconv.Clone
import Derived.Shelf.Strconv.SyntaxError
import Derived.Shelf.LaysC
import Derived.Shelf.Strconv.ToError
import Derived.Shelf.Strconv.AtoiErr
import Derived.Shelf.Strconv.ErrVar
import Derived.Shelf.Strconv.Lower
import Derived.Shelf.Strconv.ParseUint10
import Derived.Shelf.Strconv.ParseUint10Empty
import Derived.Shelf.Strconv.ParseUint10Any
import Derived.Shelf.Strconv.ParseInt10
import Derived.Shelf.Strconv.AtoiLong
import Derived.Shelf.Strconv.AtoiInnerAll
import Derived.Shelf.Strconv.RangeError
import Derived.Shelf.Strconv.ToErrorRange
import Derived.Shelf.Strconv.AtoiAll
import Derived.Shelf.Strconv.ErrVarAll
import Derived.Shelf.Strconv.ParseUintEmpty
import Derived.Shelf.Strconv.ParseUint10b64
import Derived.Shelf.Strconv.ParseUint10b32
import Derived.Shelf.Strconv.ParseUint10b16
import Derived.Shelf.Strconv.ParseUint10b8
import Derived.Shelf.Strconv.ParseUint10At
import Derived.Shelf.Strings.Search1
import Derived.Shelf.Strings.Search2
import Derived.Shelf.Strings.Search3
import Derived.Shelf.Strings.Count
import Derived.Shelf.Strings.Shaped
import Derived.Shelf.Sort.Plain
import Derived.Shelf.Strings.Prefix
import Derived.Shelf.Slices.Turned
import Derived.Ground.Names2Prog
import Derived.Shelf.Slices.Clone
import Derived.Shelf.Slices.CompactS
import Derived.Shelf.Slices.Cells
import Derived.Shelf.Slices.In.SortNone
import Derived.Ground.SlgnProg
import Derived.Shelf.SlicesE.Clone
import Derived.Below
import Derived.Laws.OwnMore
import Derived.Deep.AppendLies
import Derived.Deep.Draws
import Derived.Laws.Rows
import Derived.Maps.AppendAt
import Derived.RegionTactic
import Derived.OwnWalk
import Derived.Lib.Hide
import Derived.Lib.QuietBelow
import Derived.Deep.DeepCutAuto
import Derived.Deep.QuietTactic
import Derived.BigQuiet
import Derived.Outline
import Derived.LaidMore
import Derived.Stop.Joined
import Derived.Stop.LaidErr
import Derived.ChangeSame
import Derived.ProofKit
import Derived.OpenShut
import Derived.ChangeOld
import Derived.ChangeAt
import Derived.Lib.LaidTab
import Derived.WalkLawsBesides
import Derived.WalkSpells
import Derived.Shelf.Abstract
import Derived.Lib.SliceRun
import Derived.Deep.RegionLaw
import Derived.MapKept
import Derived.Deep.LoopGhost
import Derived.BigRegion
import Derived.Lib.Strings
import Derived.Lib.AtoiAll
import Derived.Lib.ConvBytes
import Derived.Lib.Bytealg
import Derived.Shelf.SlIterI.Sorted
import Derived.Sort.Grow
import Derived.Lib.SlicesCompact
import Derived.Laws.EntriesVeiled
import Derived.Lib.AtoiErrMem
import Derived.Deep.WholeRow
import Derived.Laws.BytesArg
import Derived.Laws.IdiomStrings
import Derived.Defers
import Derived.Recover
import Derived.Laws.Pointers
import Derived.Lib.ItoaLen
import Derived.Deep.Onto
import Derived.Deep.RegionWith
import Derived.SevenTiedAt
set_option linter.unusedSimpArgs false
set_option linter.unusedVariables false
set_option maxHeartbeats 16000000
set_option maxRecDepth 100000
namespace Go.Proofs
open Go.RowKit
theorem Z {p:Prop} (h:p):Hid p:=Lib.hid h
instance:Coe Int Value:=⟨.int .i64⟩
instance:Coe Nat Value:=⟨λa=>.int .i64 a⟩
instance:Coe ByteArray Value:=⟨.string⟩
instance:Coe Bool Value:=⟨.bool⟩
structure w0 (n:Int)
def O (n:Int):w0 n:=⟨⟩
instance {a:Int}:CoeOut (w0 a) Value:=⟨λ_=>.int .i64 a⟩
structure w4
def ah:w4:=⟨⟩
instance:Coe w4 Value:=⟨λ_=>.string ⟨#[]⟩⟩
structure w8
def aa:w8:=⟨⟩
instance:Coe w8 Value:=⟨λ_=>.slice none 0 0⟩
structure xa (n:Nat)
def aj (n:Nat):xa n:=⟨⟩
instance {a:Nat}:CoeOut (xa a) Value:=⟨λ_=>.pointer (some ⟨a,0,none⟩)⟩
structure xb (a:Option Addr) (n c:Nat)
def U (a:Option Addr) (n b:Nat):xb a n b:=⟨⟩
instance {a:Option Addr} {b c:Nat}:CoeOut (xb a b c) Value:=⟨λ_=>.slice a b c⟩
structure xd (n i:Nat)
def ab (n i:Nat):xd n i:=⟨⟩
instance {a b:Nat}:CoeOut (xd a b) Addr:=⟨λ_=>⟨a,b,none⟩⟩
structure xe (w:World) (i:Nat)
def am (w:World) (i:Nat):xe w i:=⟨⟩
instance {a:World} {b:Nat}:CoeOut (xe a b) Addr:=⟨λ_=>⟨a.heap.size,b,none⟩⟩
structure sq (w:World) (a:Addr) (v:Value)
def ac (w:World) (a:Addr) (v:Value):sq w a v:=⟨⟩
instance {a:World} {b:Addr} {c:Value}:CoeSort (sq a b c) Prop:=⟨λ_=>a.cell? b=some c⟩
instance {a:World} {b:Addr} {c:Value}:CoeOut (sq a b c) Prop:=⟨λ_=>a.cell? b=some c⟩
theorem aA {c:Type _} {a b:c} (h:a∈[b]):a=b:=List.mem_singleton.1 h
theorem aT {n m b:Nat} (a:n<m) (c:m<=b):n<b:=Nat.lt_of_lt_of_le a c
theorem aW {a b:Nat} (h:a<b):a≠b:=Nat.ne_of_lt h
theorem bR {n m b:Nat} (a:n<=m) (c:m<=b):n<=b:=Nat.le_trans a c
theorem cY {b:Type _} {a:b} {c t:List b} (h:a∈c++t):a∈c\/a∈t:=List.mem_append.1 h
theorem jX {b:Type _} {a:b} {c d:List b} (h:a∈c\/a∈d):a∈c++d:=List.mem_append.2 h
theorem dd {b:Type _} {a c:b} {l:List b} (h:a∈c::l):a=c\/a∈l:=List.mem_cons.1 h
structure xf
def af:xf:=⟨⟩
instance:CoeSort xf Type:=⟨λ_=>World⟩
structure xg
def aw:xg:=⟨⟩
instance:CoeSort xg Type:=⟨λ_=>ByteArray⟩
structure xh
def aO:xh:=⟨⟩
instance:CoeSort xh Type:=⟨λ_=>Array Value⟩
structure xi
def aX:xi:=⟨⟩
instance:CoeSort xi Type:=⟨λ_=>Option Addr⟩
structure xj
def bm:xj:=⟨⟩
instance:CoeSort xj Type:=⟨λ_=>List ByteArray⟩
structure xl
def bg:xl:=⟨⟩
instance:CoeSort xl Type:=⟨λ_=>List Value⟩
structure xm
def ay:xm:=⟨⟩
instance:CoeSort xm Type:=⟨λ_=>Value⟩
structure xo
def bL:xo:=⟨⟩
instance:CoeSort xo Type:=⟨λ_=>List UInt8⟩
structure xq
def bb:xq:=⟨⟩
instance:CoeSort xq Type:=⟨λ_=>TypeId⟩
theorem dg {a b:Prop} (c:b) (d:b->a:=by
 intro kq
 refine tk 0 hS ?_
 refine tk 1 hS ?_
 refine tk 2 hS ?_
 refine tk 3 hS ?_
 refine tk 4 hS ?_
 refine tk 5 hS ?_
 refine tk 6 hS ?_
 refine tk 7 hS ?_
 refine tk 8 hS ?_
 exact kq):a:=d c
theorem av {P a:Prop} (b:a) (f:a->P:=by
 intro kq
 try simp only[Act.put,o2,o3,o4]
 exact kq):P:=f b
theorem b2 {P a:Prop} (b:a) (f:a->P:=by
 intro kq
 refine sY _ _ _ _ (by kernel_rfl) ?_
 exact kq):P:=f b
theorem cJ {P a:Prop} (b:a) (c:a->P:=by
 intro kq
 refine tk 0 hS ?_
 refine tk 1 hS ?_
 refine tk 2 hS ?_
 exact kq):P:=c b
theorem bV {P a:Prop} (b:a) (f:a->P:=by
 intro kq
 refine wpAny_done (by kernel_rfl) ?_ _
 exact kq):P:=f b
theorem eh {a b:Prop} (c:b) (d:b->a:=by
 intro kq
 refine tk 9 hS ?_
 refine tk 10 hS ?_
 exact kq):a:=d c
theorem jl {a b:Prop} (c:b) (d:b->a:=by
 intro kq
 refine tk 3 hS ?_
 refine tk 4 hS ?_
 refine tk 5 hS ?_
 refine tk 6 hS ?_
 exact kq):a:=d c
theorem gt {P a:Prop} (b:a) (c:a->P:=by
 intro kq
 refine tk 3 hS ?_
 refine tk 4 hS ?_
 exact kq):P:=c b
theorem n6 {a b:Prop} (c:b) (d:b->a:=by
 intro kq
 refine tq 9 ?_
 refine tq 10 ?_
 refine tq 11 ?_
 exact kq):a:=d c
theorem rq {P a:Prop} (b:a) (c:a->P:=by
 intro kq
 refine sk 6 hS ?_
 refine sk 7 hS ?_
 refine sk 8 hS ?_
 refine sk 9 hS ?_
 refine tk 10 hS ?_
 exact kq):P:=c b
theorem lO {a b:Prop} (c:b) (d:b->a:=by
 intro kq
 refine tk 0 hS ?_
 refine tk 1 hS ?_
 exact kq):a:=d c
theorem rr {P a:Prop} (b:a) (c:a->P:=by
 intro kq
 refine tk 5 hS ?_
 refine tk 6 hS ?_
 refine tk 7 hS ?_
 refine tk 8 hS ?_
 exact kq):P:=c b
theorem r9 {a:Prop} (h:a:=by
 have E6:=Z (show R=RO.ap true 10 at_ RS by rw[E5.out];simp[*])
 clear E5
 go_wp2_with fail
 refine bJ fX E6 iy λE7=>?_
 go_wp2_with (first|(refine wpList_store_row rfl 73 (.tmp 6) (.tmp 76) rfl (w.heap.size+3) #[xv,xc,xk,xn,xs,op,yv,yc,yk,yn,ys,ad] rfl rfl 73 #[O 0,O 0,O 0,O 0,ah,O 0,O 0,O 0,O 0,O 0,ah,O 0] kN.out (by kernel_rfl) rfl (by simp[Value.oneCell']) ?_)|fail)
 obtain⟨b9,iz,cb,GN⟩:=jk kN #[xv,xc,xk,xn,xs,op,yv,yc,yk,yn,ys,ad]
 rw[iz]
 clear iz
 have lV:=Z (fX.grown GN (λg hg=>.inr (by injection hg with hg;omega)))
 have n9:ac b9 (ab (w.heap.size+3) 0) xv:=J.cell cb 0
 have ob:ac b9 (ab (w.heap.size+3) 1) xc:=J.cell cb 1
 have oc:ac b9 (ab (w.heap.size+3) 2) xk:=J.cell cb 2
 have od:ac b9 (ab (w.heap.size+3) 3) xn:=J.cell cb 3
 have oe:ac b9 (ab (w.heap.size+3) 4) xs:=J.cell cb 4
 have oh:ac b9 (ab (w.heap.size+3) 5) op:=J.cell cb 5
 have ol:ac b9 (ab (w.heap.size+3) 6) yv:=J.cell cb 6
 have om:ac b9 (ab (w.heap.size+3) 7) yc:=J.cell cb 7
 have oo:ac b9 (ab (w.heap.size+3) 8) yk:=J.cell cb 8
 have oq:ac b9 (ab (w.heap.size+3) 9) yn:=J.cell cb 9
 have ou:ac b9 (ab (w.heap.size+3) 10) ys:=J.cell cb 10
 have ov:ac b9 (ab (w.heap.size+3) 11) ad:=J.cell cb 11
 refine bodyPost_ret (v:=.agg #[xv,xc,xk,xn,xs,op,yv,yc,yk,yn,ys,ad]) ?_ rfl ?_
 ·simp[results,Tryz.results198,go_sem,n9,ob,oc,od,oe,oh,ol,om,oo,oq,ou,ov]
 rw[E7.out,pL.out]
 exact⟨lV,_,rfl,rfl⟩):a:=h
theorem rm {a:Prop} (h:a:=by
 go_wp2_with fail
 refine bJ co.out Gm.out cW λGz=>?_
 clear Gm
 clear cW
 go_upto_region 19 with(fail)
 go_upto_region 20 with(first|(refine wpList_store_row rfl 59 (.tmp 12) (.tmp 143) rfl cm.heap.size #[(fc:Int),O 5,O 0,Ge,Gf,Gh,Gi] rfl rfl 59 #[O 0,O 0,O 0,O 0,O 0,O 0,O 0] (J.new cm 59 #[O 0,O 0,O 0,O 0,O 0,O 0,O 0]) (by kernel_rfl) rfl (by simp[Value.oneCell']) ?_;rw[World.setRow_alloc_new])|fail)
 obtain⟨Gr,Gv,BN,SN,-⟩:=nb cm 59 #[(fc:Int),O 5,O 0,Ge,Gf,Gh,Gi]
 rw[Gv]
 clear Gv
 have GF:=qk co SN
 have GG:=qb SN f4
 have Gw:=qb SN f6
 have GY:=qb SN aV
 have GH:=qk f8 SN
 have GI:=qk ga SN
 have Gl:=BN
 clear BN SN
 clear gb gc gd ge gf gg
 have G6:=bh GY
 have GJ:=bh Gl
 have fz:=λi=>J.frozen Gl i
 go_upto_region 22 with(fail)
 have BN:=Z (qF Gl Gj)
 have KN:=Z (Kp.aE (p:=(am cm 2)) (l:=[cm.heap.size]) (by simp) (Kp.refl [cm.heap.size] Gr) Gj)
 obtain⟨Gn,GZ⟩:∃Gn,Gn=Gr.setCell (am cm 2) Gj:=⟨_,rfl⟩
 rw[<-GZ]at BN KN⊢
 clear GZ
 have G0:=KN
 have GK:=Z (KN.old GH (λb hb hlt=>absurd hlt (by rw[aA hb];omega)))
 have G0:=Z (KN.old GI (λb hb hlt=>absurd hlt (by rw[aA hb];omega)))
 have GL:=Z (KN.old GF (λb hb hlt=>absurd hlt (by rw[aA hb];omega)))
 have GM:=qo KN GG
 have Gs:=qo KN Gw
 have Gt:=BN
 clear BN KN
 clear fz GJ G6
 have G7:=az Gt
 have G8:=aY Gt
 have G9:=bh Gt
 have Ha:=bj Gt
 have Hb:=bn Gt
 have Hc:=bQ Gt
 have He:=cd Gt
 have Hf:=bj Gs
 have Hz:=J.lt Gs
 have G1:=Z (aH G0.same Gy)
 have O2:=Z (aH ((ag.refl Gn).alloc (.cells #[(fc:Int),O 5,Gj,Ge,Gf,Gh,Gi] 59)) G1)
 have kX:=Z (cC Gn #[(fc:Int),O 5,Gj,Ge,Gf,Gh,Gi] 59 7 rfl)
 have hrow:=b3 G1
 go_upto_region 23 with(first|(at_builtin;refine d6 _ rfl (.tmp 149) (.tmp 151) 53 rfl (w2.heap.size+1) 59 i0 _ 7 56 Tryz.underlying53 hi0 rD rE rF rfl (by decide) (U Af i cf) i (l.flatMap Wg.cells) rfl O2.out (Gn.heap.size+1) (some ⟨Gn.heap.size,0,none⟩) 1 1 (#[(fc:Int),O 5,Gj,Ge,Gf,Gh,Gi]:Array Value).toList rfl kX.out (by simp[Value.oneCell']) (by simp only[maxLen];omega) (by omega) (by simp;omega) ?_;intro v1 Gu hown1 hg1 GO;obtain⟨GA,GB,rfl,gs⟩:=bo hown1;have Hg:=Z hown1;have G:=Z hg1;clear hown1 hg1 GO gs;have Gx:=Z (J.grown (Gs.out.alloc (.cells #[(fc:Int),O 5,Gj,Ge,Gf,Gh,Gi] 59)) G.out (λe=>by have:=(hrow _ e.symm).1;omega));have Hh:ac Gu (am w2 3) (U Af i cf):=J.cell Gx.out 3;have Hi:=λi=>J.frozen Gx.out i)|fail)
 have GP:=Z (J.grown (GM.alloc _) G (λe=>by have:=(hrow _ e.symm).1;omega))
 have GQ:=Z ((GL.alloc _).grown G (λg hg=>.inr (by have:=hrow g hg;omega)))
 have GS:=Z ((GK.alloc _).grown G (λg hg=>.inr (by have:=hrow g hg;omega)))
 clear O2 kX G hrow Hh Hi
 have BN:=Z (mm Gx (U GA (i+1) GB))
 have KN:=Z (Kp.aE (p:=(am w2 3)) (l:=[w2.heap.size]) (by simp) (Kp.refl [w2.heap.size] Gu) (U GA (i+1) GB))
 obtain⟨G2,G3⟩:∃G2,G2=Gu.setCell (am w2 3) (U GA (i+1) GB):=⟨_,rfl⟩
 rw[<-G3]at BN KN⊢
 clear G3
 have Hj:=Z (KN.old GS (λb hb hlt=>absurd hlt (by rw[aA hb];omega)))
 have Hk:=Z (KN.old GQ (λb hb hlt=>absurd hlt (by rw[aA hb];omega)))
 have Hl:=qo KN GP
 have Hm:=KN
 have Hn:=BN
 clear BN KN
 clear G7 G8 G9 Ha Hb Hc He Hf
 go_wp2_with fail
 go_roundg (tl.length-i)
 case measure=>have:=Gk.out;omega
 refine⟨i+1,l++[⟨(fc:Int),5,Gj,Ge,Gf,Gh,Gi⟩],GA,GB,by go_num,by omega,by have:=Gk.out;omega,by rw[List.length_append,GE.out];rfl,Z ?_,Hn,Hl,Hk,Hj,Gz⟩
 rw[List.flatMap_append]
 exact bC Hg.out Hm.out (by simp)):a:=h
theorem ve {d:Prop} (h:d:=by
 clear HR
 cases r with
 |none=>
  go_wp2_with fail
  refine HC.out.mono ?_
  rintro e w2 ⟨s2,hm⟩
  obtain⟨k,t,m,rfl⟩:∃k t m,e=.returned (.tuple #[.agg #[.int .i64 k,.string (dY t),.int .i64 m,O 0],O 0]):=hm
  have I2:=Z (I.out.same s2)
  have hz2:w.heap.size+5<=w2.heap.size:=bR I.out.bK.lt s2.size
  have ho2:∀b,(Value.slice A n c).ownBlock=some b->b<w2.heap.size:=λb hb=>aT (I.out.qr b hb) s2.size
  clear s2 HC
  go_wp2_with fail
  go_meet
  exact⟨_,k,t,m,0,rfl,rfl,rfl,hz2,ho2,Z (I2.out.same ((ag.refl _).alloc _)),Z (J.new _ _ _),Z (.inl ⟨rfl,E1.out⟩)⟩
 |tok k t m len=>
  go_wp2_with fail
  refine HC.out.mono ?_
  rintro e w2 ⟨s2,hm⟩
  obtain rfl:e=.returned (.tuple #[.agg #[k,.string (dY t),m,O 0],len]):=hm
  have I2:=Z (I.out.same s2)
  have hz2:w.heap.size+5<=w2.heap.size:=bR I.out.bK.lt s2.size
  have ho2:∀b,(Value.slice A n c).ownBlock=some b->b<w2.heap.size:=λb hb=>aT (I.out.qr b hb) s2.size
  clear s2 HC
  go_wp2_with fail
  go_meet
  exact⟨_,k,t,m,len,rfl,rfl,rfl,hz2,ho2,Z (I2.out.same ((ag.refl _).alloc _)),Z (J.new _ _ _),Z (.inr ⟨HF.out k t m len rfl,E1.out⟩)⟩
 |bad er=>
  go_wp2_with fail
  refine HC.out.mono ?_
  rintro e w2 ⟨s2,rfl⟩
  have I2:=Z (I.out.same s2)
  have kv:=Z (show R=([],er,(a:Int))from E1.out)
  clear s2 HC E1 HF
  go_wp2_with fail
  try rw[Exit.noGoto_panic]
  have hre:=kv.out
  subst hre
  refine leaves_cons (f:=80) (args:=#[aj w.heap.size,aj (w.heap.size+1),aj (w.heap.size+1+1)]) (by simp) (by simp[go_sem]) ?_
  exact qq I2.out (er) (a) _ rfl rfl rfl):d:=h
theorem oP {a:Prop} (h:a:=by
 clear cW
 go_upto_region 19 with(fail)
 go_upto_region 20 with(first|(refine wpList_store_row rfl 59 (.tmp 12) (.tmp 143) rfl cm.heap.size #[(fc:Int),Gg,O 0,Ge,Gf,Gh,Gi] rfl rfl 59 #[O 0,O 0,O 0,O 0,O 0,O 0,O 0] (J.new cm 59 #[O 0,O 0,O 0,O 0,O 0,O 0,O 0]) (by kernel_rfl) rfl (by simp[Value.oneCell']) ?_;rw[World.setRow_alloc_new])|fail)
 obtain⟨Gr,Gv,BN,SN,-⟩:=nb cm 59 #[(fc:Int),Gg,O 0,Ge,Gf,Gh,Gi]
 rw[Gv]
 clear Gv
 have GF:=qk co SN
 have GG:=qb SN f4
 have Gw:=qb SN f6
 have GY:=qb SN aV
 have GH:=qk f8 SN
 have GI:=qk ga SN
 have Gl:=BN
 clear BN SN
 clear gb gc gd ge gf gg
 go_upto_region 22 with(fail)
 have Ho:=az Gl
 have Hp:=aY Gl
 have GJ:=bh Gl
 have Hq:=bj Gl
 have Hr:=bn Gl
 have Hs:=bQ Gl
 have Ht:=cd Gl
 have Hu:=bj Gw
 have HA:=J.lt Gw
 have G4:=Z (aH GI.same Gy)
 have O2:=Z (aH ((ag.refl Gr).alloc (.cells #[(fc:Int),Gg,O 0,Ge,Gf,Gh,Gi] 59)) G4)
 have kX:=Z (cC Gr #[(fc:Int),Gg,O 0,Ge,Gf,Gh,Gi] 59 7 rfl)
 have hrow:=b3 G4
 go_upto_region 23 with(first|(at_builtin;refine d6 _ rfl (.tmp 149) (.tmp 151) 53 rfl (w2.heap.size+1) 59 i0 _ 7 56 Tryz.underlying53 hi0 rD rE rF rfl (by decide) (U Af i cf) i (l.flatMap Wg.cells) rfl O2.out (Gr.heap.size+1) (some ⟨Gr.heap.size,0,none⟩) 1 1 (#[(fc:Int),Gg,O 0,Ge,Gf,Gh,Gi]:Array Value).toList rfl kX.out (by simp[Value.oneCell']) (by simp only[maxLen];omega) (by omega) (by simp;omega) ?_;intro v1 Gn hown1 hg1 GO;obtain⟨GC,GD,rfl,gs⟩:=bo hown1;have Hv:=Z hown1;have G:=Z hg1;clear hown1 hg1 GO gs;have Gs:=Z (J.grown (Gw.out.alloc (.cells #[(fc:Int),Gg,O 0,Ge,Gf,Gh,Gi] 59)) G.out (λe=>by have:=(hrow _ e.symm).1;omega));have Hw:ac Gn (am w2 3) (U Af i cf):=J.cell Gs.out 3;have Hx:=λi=>J.frozen Gs.out i)|fail)
 have GM:=Z (J.grown (GG.alloc _) G (λe=>by have:=(hrow _ e.symm).1;omega))
 have GL:=Z ((GF.alloc _).grown G (λg hg=>.inr (by have:=hrow g hg;omega)))
 have GK:=Z ((GH.alloc _).grown G (λg hg=>.inr (by have:=hrow g hg;omega)))
 clear O2 kX G hrow Hw Hx
 have BN:=Z (mm Gs (U GC (i+1) GD))
 have KN:=Z (Kp.aE (p:=(am w2 3)) (l:=[w2.heap.size]) (by simp) (Kp.refl [w2.heap.size] Gn) (U GC (i+1) GD))
 obtain⟨Gu,G5⟩:∃Gu,Gu=Gn.setCell (am w2 3) (U GC (i+1) GD):=⟨_,rfl⟩
 rw[<-G5]at BN KN⊢
 clear G5
 have GS:=Z (KN.old GK (λb hb hlt=>absurd hlt (by rw[aA hb];omega)))
 have GQ:=Z (KN.old GL (λb hb hlt=>absurd hlt (by rw[aA hb];omega)))
 have GP:=qo KN GM
 have Hy:=KN
 have Gx:=BN
 clear BN KN
 clear Ho Hp GJ Hq Hr Hs Ht Hu
 go_wp2_with fail
 go_roundg (tl.length-i)
 case measure=>have:=Gk.out;omega
 refine⟨i+1,l++[⟨(fc:Int),Gg,0,Ge,Gf,Gh,Gi⟩],GC,GD,by go_num,by omega,by have:=Gk.out;omega,by rw[List.length_append,GE.out];rfl,Z ?_,Gx,GP,GQ,GS,Gz⟩
 rw[List.flatMap_append]
 exact bC Hv.out Hy.out (by simp)):a:=h
theorem j0 {a:Prop} (h:a:=by
 have d3:=Z (show R=RO.ap false 2 at_ RS by rw[dN.out];simp[*])
 clear dN
 go_wp2_with fail
 refine(fZ.out gx).mono ?_
 rintro e cm ⟨rfl,aL⟩
 have co:=cz fG aL
 have dO:=bG aL f0
 have f4:=bG aL hz
 have f6:=bG aL hC
 have aV:=bG aL fH
 have f7:=Z (hD.same aL)
 have f8:=cz hE aL
 have ga:=cz hG aL
 have z23:=co.size
 clear aL
 have gb:=aY aV
 have gc:=bh aV
 have gd:=bj aV
 have ge:=bn aV
 have gf:=bQ aV
 have gg:=cd aV
 have iJ:=J.lt aV
 have cW:=bN dO
 go_wp2_with fail
 exact bv co.out d3.out cW):a:=h
theorem qa {a:Prop} (h:a:=by
 have xr:=bh iH
 have rG:=J.lt iH
 have sr:=az fF
 have st:=aY fF
 have sv:=bh fF
 have sw:=bj fF
 have l0:=bn fF
 have oH:=bQ fF
 have vf:=J.lt fF
 go_upto_region 13 with(fail)
 refine nQ 9 xr sr st sv sw l0 oH λhS=>?_
 refine cJ ?_
 refine jl ?_
 have hS2:(λw':World=>ac w' (ab X 2) (U A n c)/\ac w' (am w2 0) nm/\ac w' (am w2 1) pt/\ac w' (am w2 2) pc/\ac w' (am w2 3) bf/\ac w' (am w2 4) (O 0)/\ac w' (am w2 5) (O 0)) (w3.drew.alloc (.cells #[nm,pt,pc,bf,O 0,O 0] 50)):=⟨bi xr,bi sr,bi st,bi sv,bi sw,bi l0,bi oH⟩
 refine aK 7 (λK hK=>?_)
 go_simp
 refine hK _ _ (λ_=>hS2) ?_
 refine av ?_
 have O9:=Z (aH ((ag.refl w3.drew).alloc (.cells #[nm,pt,pc,bf,O 0,O 0] 50)) (aH ((ag.refl w3).drew) O3))
 have kX:=Z (cC w3.drew #[nm,pt,pc,bf,O 0,O 0] 50 6 rfl)
 have kY:=Z (iH.drew.alloc (.cells #[nm,pt,pc,bf,O 0,O 0] 50))
 refine aK 8 (λK hK=>?_)
 refine c7 (w3.drew.alloc _) (.tmp 73) (.tmp 75) 31 rfl base 50 i0 _ 6 56 Tryz.underlying31 hi0 rD rE rF rfl (by decide) (U A n c) n (os.flatMap Bk.cells) rfl O9 (w3.heap.size+1) (some ⟨w3.heap.size,0,none⟩) 1 1 ((_:aO).toList) rfl kX (by simp[Value.oneCell']) (by simp only[maxLen];omega) (by omega) (by simp[d5];omega) ?_
 intro v9 w9 hown hg hat
 obtain⟨A2,c2,rfl,gs⟩:=bo hown
 have hrow:=b3 HOW
 have oG:some X≠(.slice A n c:ay).ownBlock:=λe=>by have:=hrow X e.symm;omega
 have BX:=Z (kY.grown hg oG)
 have e9:=bh BX
 have f9:=λi=>J.frozen BX i
 have OWN:=Z hown
 have GR:=Z (fm (((Kp.refl [] w3).drew).alloc _) hg)
 have HAT:=Z (show(Value.slice A2 (n+1) c2).ownBlock=(.slice A n c:ay).ownBlock\/∃g,(Value.slice A2 (n+1) c2).ownBlock=some g/\w3.heap.size<=g from hat.imp id (λh=>⟨_,h,by simp[d5]⟩))
 clear hown hat gs O9 kX kY
 refine hK _ _ (λ_=>⟨e9,bw GR sr,bw GR.out st,bw GR.out sv,bw GR.out sw,bw GR.out l0,bw GR.out oH⟩) ?_
 refine av ?_
 refine b2 ?_
 refine n6 ?_
 refine dp 12 (λK hK=>?_)
 go_simp
 refine hK _ _ ?_
 refine av ?_
 refine bV ?_
 go_wp2_with fail
 refine bodyPost_ret (results_none rfl _ _ _) rfl ?_
 rw[EF.out]
 exact⟨rfl,fo.jg K3.same BX OWN GR rC rfl HAT⟩):a:=h
theorem fD {a:Prop} (h:a:=by
 go_enter Tryz.func101,Tryz.ntmps101
 go_wp2_with (go_at_call 178;refine(vN _).mono ?_;rintro e w1 ⟨he,s1⟩;unfold gR bt at he;subst he;have S1:=Z s1;have K1:=s1.cells;have F1:=s1.frees;have Z1:=s1.size;clear s1)
 go_region
 all_goals
  go_wp2
  refine bodyPost_ret (v:=.tuple #[gR,.bool false]) ?_ rfl ⟨?_,?_⟩
  ·simp[results,Tryz.results101,go_sem,gR,bt,K1,F1]
  ·rw[HD.out]
  simp at Z1
  repeat with_reducible first|refine ag.setCell ?_ (by dsimp only;omega) _|refine ag.drew ?_
  exact(((((ag.refl w).alloc _).alloc _).alloc _).alloc _).trans S1.out):a:=h
theorem pQ {a:Prop} (h:a:=by
 intro a5 rg v5 w5 hkd E5 hv k5 K5 Q5 z5
 obtain⟨rfl,r,rfl,hb,hi⟩:=hv
 go_wp2_with fail
 go_meet
 exact⟨r,rg,hkd,Z ⟨k5.blk rf (by simp;omega),hb,hi.mono (λb h=>⟨by unfold Bw at h;omega,h.2⟩),K5.out,Q5.out,E5.out⟩⟩):a:=h
theorem sH {a:Prop} (h:a:=by
 go_enter Tryz.func101,Tryz.ntmps101
 go_wp2_with (go_at_call 179;refine(vO _).mono ?_;rintro e w1 ⟨he,s1⟩;unfold gS bt at he;subst he;have S1:=Z s1;have K1:=s1.cells;have F1:=s1.frees;have Z1:=s1.size;clear s1)
 go_region
 all_goals
  go_wp2
  refine bodyPost_ret (v:=.tuple #[gS,.bool false]) ?_ rfl ⟨?_,?_⟩
  ·simp[results,Tryz.results101,go_sem,gS,bt,K1,F1]
  ·rw[HD.out]
  simp at Z1
  repeat with_reducible first|refine ag.setCell ?_ (by dsimp only;omega) _|refine ag.drew ?_
  exact(((((ag.refl w).alloc _).alloc _).alloc _).alloc _).trans S1.out):a:=h
theorem oD {a:Prop} (h:a:=by
 rcases ho with h|⟨g',h,hb⟩
 ·rw[h]at hg;cases hg
 rw[h]at hg;injection hg with hg;omega):a:=h
theorem mb {a:Prop} (h:a:=by
 go_ret
 have own:=OWN.out
 rw[List.nil_append,Nat.zero_add]at own
 have sm:ag w w1:=Below.grown ((ag.refl w).alloc _) G (by simp) (λk hk=>by simp[Value.ownBlock]at hk;omega)
 rcases Nat.eq_zero_or_pos xs.length with h0|h0
 ·rcases own.2 with⟨hv,_⟩|⟨g,cap,_,hv,_⟩
  ·exact .inl ⟨by rw[hv];rfl,kP.out.2 h0,sm⟩
  subst hv;exact .inr ⟨cap,g,rfl,sm,own⟩
 obtain⟨g,cap,hv,_⟩:=own.form h0
 subst hv
 exact .inr ⟨cap,g,rfl,sm,own⟩):a:=h
theorem vg {a:Prop} (h:a:=by
 obtain⟨b,off,hA,blt,hc⟩:=(HL.out.same S.out).2.2 k hlt
 have hA':A=some ⟨b,off,none⟩:=hA
 obtain⟨va,vb,vc,he⟩:=H3.out xs[k]
 have hcall:Calls Tryz.prog g (#[Value.agg (enc xs[k]).toArray]++caps) wr λe W'=>e=.returned (.bool (p xs[k]))/\ag wr W':=HT.out xs[k] (List.getElem_mem hlt) wr S.out
 rw[he]at hc hcall
 have c0:=hc 0 _ rfl
 have c1:=hc 1 _ rfl
 have c2:=hc 2 _ rfl
 simp only[Nat.add_zero]at c0
 have HC:=Z hcall
 clear hcall hc he hA
 subst hA'
 cases hq:p xs[k]with
 |true=>
  rw[hq]at HC
  have HQ:=Z hq
  clear hq
  go_wp2_with fail
  refine HC.out.mono ?_
  rintro e w' ⟨rfl,s1⟩
  have S1:=Z s1
  clear s1 c0 c1 c2
  go_wp2
  go_ret
  exact⟨d0 (nh k hlt HQ.out (λj hj=>N.out j (by omega) hj)).symm,S.out.trans S1.out⟩
 |false=>
  rw[hq]at HC
  have HQ:=Z hq
  clear hq
  go_wp2_with fail
  refine HC.out.mono ?_
  rintro e w' ⟨rfl,s1⟩
  have S1:=Z s1
  clear s1 c0 c1 c2
  go_wp2
  go_roundw
  case rel=>exact⟨k+1,by omega,by go_num,S.out.trans S1.out,o7 hlt HQ.out N.out⟩
  simp[intOf];omega):a:=h
theorem lF {a:Prop} (h:a:=by
 have E1:=Z (show R=RO.ap false 1 at_ _ by rw[E0.out,decide_eq_false hN])
 clear E0 hN
 refine dB 12 eF eG λhS=>?_
 refine dg ?_
 refine eh ?_
 refine aK 11 (λK hK=>?_)
 go_simp
 exact bv K3.drew E1 eH):a:=h
theorem nN {a:Prop} (h:a:=by
 have d3:=Z (show R=RO.ap false 2 at_ RS by rw[dN.out];simp[*])
 clear dN
 go_wp2_with fail
 refine(fZ.out gx).mono ?_
 rintro e cm ⟨rfl,aL⟩
 have co:=cz fG aL
 have dO:=bG aL f0
 have f4:=bG aL hz
 have f6:=bG aL hC
 have aV:=bG aL fH
 have f7:=Z (hD.same aL)
 have f8:=cz hE aL
 have ga:=cz hG aL
 have z23:=co.size
 clear aL
 have gb:=aY aV
 have gc:=bh aV
 have gd:=bj aV
 have ge:=bn aV
 have gf:=bQ aV
 have gg:=cd aV
 have iJ:=J.lt aV
 have cW:=bN dO
 go_wp2_with fail
 refine(Gp.out cm).mono ?_
 rintro e w' ⟨rfl,rfl⟩
 go_wp2_with fail
 refine(Gq.out cm).mono ?_
 rintro e w' ⟨rfl,rfl⟩
 go_wp2_with fail
 exact bv co.out d3.out cW):a:=h
theorem qY {a:Prop} (h:a:=by
 have d3:=Z (show R=RO.ap false 2 at_ RS by rw[dN.out];simp[*])
 clear dN
 go_wp2_with fail
 refine(fZ.out gx).mono ?_
 rintro e cm ⟨rfl,aL⟩
 have co:=cz fG aL
 have dO:=bG aL f0
 have f4:=bG aL hz
 have f6:=bG aL hC
 have aV:=bG aL fH
 have f7:=Z (hD.same aL)
 have f8:=cz hE aL
 have ga:=cz hG aL
 have z23:=co.size
 clear aL
 have gb:=aY aV
 have gc:=bh aV
 have gd:=bj aV
 have ge:=bn aV
 have gf:=bQ aV
 have gg:=cd aV
 have iJ:=J.lt aV
 have cW:=bN dO
 go_wp2_with fail
 refine(Gp.out cm).mono ?_
 rintro e w' ⟨rfl,rfl⟩
 go_wp2_with fail
 exact bv co.out d3.out cW):a:=h
theorem uX {a:Prop} (h:a:=by
 show _/\_/\_
 (first|(simp[*];done)|(simp[*,p3,iS,p4,rS,p5,p6];done)|go_keep)):a:=h
theorem tY {a:Prop} (h:a:=by
 go_wp2_with fail
 refine HC.mono ?_
 rintro e w1 ⟨K1,rfl⟩
 go_wp2
 refine⟨rfl,?_⟩
 rw[HE.out]
 exact⟨K1,rfl⟩):a:=h
theorem tX {a:Prop} (h:a:=by
 go_wp2_with fail
 refine eW.mono ?_
 rintro e w3 ⟨k3,rfl⟩
 have K3:=Z (K2.trans k3)
 clear k3
 go_wp2
 refine⟨rfl,?_⟩
 rw[HR3.out]
 exact⟨K3,rfl⟩):a:=h
theorem qE {a:Prop} (h:a:=by
 go_wp2_with fail
 go_quiet (fail)
 go_wp2_with fail
 go_quiet (fail)
 go_wp2
 go_roundg (s.size-(at_+1))
 case measure=>have:=HK.out;omega
 exact⟨at_+1,by omega,rfl,Z (J.aP (J.drewN hB.out _) 1 _),Z ((K.out.drewN _).setCell (.inl (by simp)) _),Z (by rw[<-E.out,HC.out,HS.out];omega)⟩):a:=h
theorem rn {a:Prop} (h:a:=by
 refine dB 5 mT mU λhS=>?_
 refine cJ ?_
 refine aK 3 (λK hK=>?_)
 go_simp
 refine(kW w6.drew ((ag.refl w6).drew)).mono ?_
 rintro e w7 ⟨rfl,s1⟩
 have SN:=Z (((ag.refl w6).drew).trans s1)
 clear s1
 have K7:=qk K6 SN
 have jr:=qb SN gw
 have js:=qb SN kT
 have pU:=qb SN kU
 have jt:=qb SN kV
 have z7:=K7.size
 clear SN
 try go_simp
 have lY:=az js
 have uY:=J.lt js
 have lZ:=az jt
 have uZ:=J.lt jt
 refine hK _ _ (λ_=>⟨lY,lZ⟩) ?_
 refine av ?_
 refine aK 4 (λK hK=>?_)
 go_simp
 exact bv K7 E4 ((kS w7 K7))):a:=h
theorem qD {a:Prop} (h:a:=by
 go_simp
 refine hK _ _ ?_
 refine av ?_
 refine dp 12 (λK hK=>?_)
 go_simp
 refine hK _ _ ?_
 refine av ?_
 refine bV ?_
 have e1:=fW.out
 have e2:=fV.out
 rw[pE.out]at e1 e2
 simp only[bX,Nat.zero_mul,Nat.one_mul,Nat.zero_add,Nat.reduceAdd,Nat.reduceMul]at e1 e2
 have ij:=Z e1
 have HE2:=Z e2
 clear e1 e2 fW fV
 go_wp2_with fail
 go_meet
 exact⟨_,2,_,[y1,je],mK,Z ⟨ij,HE2,kL⟩⟩):a:=h
theorem tV {a:Prop} (h:a:=by
 go_simp
 refine hK _ _ ?_
 refine av ?_
 refine dp 12 (λK hK=>?_)
 go_simp
 refine hK _ _ ?_
 refine av ?_
 refine bV ?_
 have e1:=fW.out
 have e2:=fV.out
 rw[pD.out]at e1 e2
 simp only[bX,Nat.zero_mul,Nat.one_mul,Nat.zero_add,Nat.reduceAdd,Nat.reduceMul]at e1 e2
 have ij:=Z e1
 have HE2:=Z e2
 clear e1 e2 fW fV
 go_wp2_with fail
 go_meet
 exact⟨_,_,Y6,mJ,Z ⟨ij,HE2,E6⟩⟩):a:=h
theorem uV {a:Prop} (h:a:=by
 go_wp2
 go_roundw
 case rel=>exact⟨k+1,by omega,by go_num,S.out.trans S1.out,o7 hlt HQ.out N.out⟩
 simp[intOf];omega):a:=h
theorem vS {a:Prop} (h:a:=by
 have E6:=Z (show R=RO.ap false 10 at_ RS by rw[E5.out];simp[*])
 clear E5
 go_wp2_with fail
 exact bv fX E6 iy):a:=h
theorem pS {a:Prop} (h:a:=by
 go_wp2
 go_ret
 exact⟨d0 (nh k hlt HQ.out (λj hj=>N.out j (by omega) hj)).symm,S.out.trans S1.out⟩):a:=h
theorem nO {c:Prop} (h:c:=by
 refine hold (λb=>Bw base w.heap.size b/\∀g,A=some ⟨g,0,none⟩->b≠g) _ x ((a.sub x h).keep k (λb hb' hS=>by rw[aA hb']at hS;have:=hS.1.1;omega)) (λb hS=>⟨aT hS.1.2 q9,λhe=>hS.2 b (hform b he).1 rfl⟩) (λb hS=>⟨⟨hS.1.1,by have:=hS.1.2;omega⟩,λg' hg'=>?_⟩)
 injection hg' with hg'
 injection hg' with hg'
 subst hg'
 exact hne b (aT hS.1.2 q9) (λhe=>hS.2 b (hform b he).1 rfl)):c:=h
theorem pP {a:Prop} (h:a:=by
 have hsz:wq.heap.size=w1.heap.size:=by rw[hwq];simp[World.setCell]
 refine⟨?_,?_,?_,?_,?_,?_⟩
 ·rw[hwq,qd _ _ _ _ _ _ _ (by dsimp only;omega),bb1.cell];rfl
 ·intro j v hv
  rw[hwq,qd _ _ _ _ _ _ _ (by dsimp only;omega),bb2.cell]
  simpa using hv
 ·intro j v hv
  rw[hwq,hb2.cell]
  simpa using hv
 ·intro j
  rw[hwq];exact hb2.frozen j
 ·rw[hsz];exact Z1
 rw[hwq];exact hb2):a:=h
theorem rA {a:Prop} (h:a:=by
 have tN:(((1:Nat):Int)==(kids.length:Int))=false:=by simp;omega
 have pT:((1:Int)==(kids.length:Int))=false:=by simp;omega
 have E1:=Z (show R=RO.ap false 1 at_ _ by rw[E0.out,decide_eq_false hN])
 clear E0 hN
 refine dB 12 eF eG λhS=>?_
 refine dg ?_
 refine eh ?_
 refine aK 11 (λK hK=>?_)
 go_simp
 exact bv K3.out.drew (show R=RO.ap false _ at_ _ from E1.out) eH):a:=h
theorem tL {a:Prop} (h:a:=by
 rw[this]
 simp only[Option.some.injEq]
 by_cases hk:ks.length=1
 ·simp[hk]
 have h2:¬1=ks.length:=λe=>hk e.symm
 simp[hk,h2]):a:=h
theorem tH {a:Prop} (h:a:=by
 intro x hx
 rcases cY hx with h|h
 ·exact HF x h
 rw[aA h];exact eV.out):a:=h
theorem rW {a:Prop} (h:a:=by
 rcases Nat.eq_zero_or_pos xs.length with h|h
 ·exact h
 obtain⟨_,h,_⟩:=HR.out.2 h
 cases h):a:=h
theorem ri {a:Prop} (h:a:=by
 rw[this]
 simp only[Option.some.injEq]
 by_cases hk:ks.length=2
 ·simp[hk]
 have h2:¬2=ks.length:=λe=>hk e.symm
 simp[hk,h2]):a:=h
theorem qW {a:Prop} (h:a:=by
 have e1:decide (0<=q)=true:=by simp[hq]
 rw[e1]at HE
 go_wp2_with fail
 refine fk (w:=w) (l:=[]) (Kp.of_same S1) HE.out d8 (λ_ h=>by cases h) ?_
 intro HR _
 go_wp2
 go_ret
 rw[HR.out]
 exact⟨Kp.of_same S1,_,rfl,rfl⟩):a:=h
theorem uq {a:Prop} (h:a:=by
 refine bodyPost_ret (v:=.tuple #[ih 4 ((ba D).take 2) 0 0,O 2]) ?_ rfl ?_
 ·simp[results,Tryz.results84,go_sem, *]
  rw[HX.out 2 hl2]
  rfl
 rw[mG.out]
 refine⟨?_,rfl⟩
 repeat (refine ag.setCell ?_ (Nat.le_refl _) _)
 exact S2):a:=h
theorem r3 {a:Prop} (h:a:=by
 go_wp2_with (go_at_call 72;refine(HN.out _).mono ?_;rintro e w' ⟨rfl,rfl⟩)
 go_ret
 exact⟨rfl,(ag.refl _).alloc _⟩):a:=h
theorem ub {a:Prop} (h:a:=by
 clear E5
 go_wp2_with fail
 refine(HW w3).mono ?_
 rintro e w' ⟨rfl,rfl⟩
 go_wp2_with fail
 exact bv K3 E6 eH):a:=h
theorem tT {a:Prop} (h:a:=by
 intro b Gc hS
 have h1:=hS.1
 rcases dd Gc with rfl|h
 ·omega
 have:=(hr b (jm h)).2
 omega):a:=h
theorem sL {a:Prop} (h:a:=by
 rintro e w5 ⟨rfl,s5⟩
 go_wp2
 go_ret
 exact⟨rfl,S2.out.trans (SW.out.trans (SX.out.trans s5))⟩):a:=h
theorem s0 {a:Prop} (h:a:=by
 go_wp2
 all_goals (go_ret;exact⟨jS (by rw[HE.out];first|(simp[*];done)|(simp;omega)),rfl⟩)):a:=h
theorem rX {a:Prop} (h:a:=by
 rw[show(w.alloc (.cells #[O 0,ah,O 0,ah,ah,aa,aa,O 0,O 0,O 0,aa,ah,ah,aa,aa,aa,O 0,ah,aa,aa,aa,ah,ah,O 0,O 0] 95)).heap.size=w.heap.size+1 by simp]at h
 exact h):a:=h
theorem wh {a:Prop} (h:a:=by
 intro p q k hk hfi _ hc
 exact D7 p q k (by rw[hl];exact hk) hfi h1 (by rw[e3 k hk];exact hc)):a:=h
theorem s3 {a:Prop} (h:a:=by
 clear hp
 go_wp2_with fail
 go_roundg (rs.length-i)
 case measure=>have:=Gk.out;omega
 exact⟨i+1,fA,fn,fc,by go_num,rfl,by omega,by have:=Gk.out;omega,LN⟩):a:=h
theorem vn {a:Prop} (h:a:=by
 clear HE
 go_enter Tryz.func191,Tryz.ntmps191
 go_wp2_with fail
 go_region
 all_goals
  go_wp2
  go_ret
  exact⟨ch HR.symm,by first|exact S1.out.drew|exact S1.out⟩):a:=h
theorem vq {a:Prop} (h:a:=by
 intro hlt'
 have hge:(Value.slice (some ⟨g,0,none⟩) (n+1) c').ownBlock=some g:=rfl
 rcases hat with h|h
 ·exact h.symm.trans hge
 rw[hge]at h;injection h with h;omega):a:=h
theorem q6 {a:Prop} (h:a:=by
 have HQ:=Z hq
 clear hq
 go_wp2
 go_ret
 exact⟨d0 (nh k hlt (by rw[<-HY.out];exact decide_eq_true HQ.out) (λj hj=>N j (by omega) hj)).symm,rfl⟩):a:=h
theorem rR {a:Prop} (h:a:=by
 go_wp2
 go_roundw
 case rel=>exact⟨k+1,by omega,by go_num,S.out.trans ((ag.refl _).alloc _),Z (by rw[HP.out,HH.out,Bool.true_and])⟩
 simp[intOf];omega):a:=h
theorem ux {a:Prop} (h:a:=by
 rw[<-HO.out]
 exact⟨0,0,by rw[iL.out];rfl,λh=>by rw[iL.out]at h;cases h⟩):a:=h
theorem uW {a:Prop} (h:a:=by
 intro b hb
 rcases I.own.2 with⟨hv,_⟩|⟨g,cap,cur,hv,hg,hh,hr⟩
 ·injection hv with e1;subst e1;cases hb
 rw[hv]at hb;injection hb with hb;subst hb;exact hg):a:=h
theorem wJ {a:Prop} (h:a:=by
 by_cases h:k<l.length
 ·rw[List.drop_eq_getElem_cons h,List.getElem?_eq_getElem h]
  rfl
 rw[List.drop_of_length_le (by omega),List.getElem?_eq_none (by omega)]
 rfl):a:=h
theorem uQ {b:Prop} (h:b:=by
 clear E
 go_wp2_with (go_at_call 86;refine(jT B 7 a _ c1).mono ?_;rintro e w3 ⟨rfl,rfl⟩)
 refine⟨rfl,?_⟩
 rw[E'.out]
 exact⟨K.same,rfl⟩):b:=h
theorem uT {a:Prop} (h:a:=by
 intro b hb
 rw[aA hb]
 have h1:=pZ.hM
 refine⟨by omega,by omega,λhm=>?_⟩
 rcases hB' _ hm with h2|h2
 ·have:=hBw _ h2
  omega
 omega):a:=h
theorem wn {a:Prop} (h:a:=by
 simp[results,Tryz.results243,go_sem,x0,x1,x2,x3,x4,x5,x6,x7,x8,x9,x10,q3,q4,q5]):a:=h
theorem vk {a:Prop} (h:a:=by
 obtain⟨A',c',e',ho⟩:=bo I9.out.own
 rcases ho with h'|⟨g',h',hb'⟩
 ·rw[h']at e;cases e
 rw[h']at e;injection e with e;omega):a:=h
theorem GT {a:Prop} (h:a:=by
 have:=S.cell 1 (by omega)
 rw[this]
 show some t.ha.val=_
 rw[kj];rfl):a:=h
theorem GV {a:Prop} (h:a:=by
 rw[HW.out,qx.out]
 exact⟨e1,_,_,rfl,⟨hh,ts,x,rfl,Fy,e4.low (Nat.le_of_lt hle3)⟩,(Fz.kp hle3 e2).low (Nat.le_of_lt hle3)⟩):a:=h
theorem GU {a:Prop} (h:a:=by
 intro v hv
 simp only[RA.cells,List.mem_cons,List.not_mem_nil,or_false]at hv
 rcases hv with rfl|rfl|rfl|rfl|rfl|rfl<;>rfl):a:=h
theorem GX {b:Prop} (h:b:=by
 intro er a wx HX KX
 go_wp2
 refine⟨rfl,?_⟩
 rw[HX.out]
 exact⟨(K6.trans (KX.mono (λ_ h=>by cases h))),rfl⟩):b:=h
theorem GW {a:Prop} (h:a:=by
 exact⟨b,off,ha,aT hb k.size,λj v hv=>(k.cell (p:=(ab b (off+i*m+j))) hb (by simpa using hne)).trans (hc j v hv)⟩):a:=h
theorem Ik {a:Prop} (h:a:=by
 have h3:(#[v]:Array Value)[off+i*4+1]?=none:=by simp
 rw[h3]at h2
 have h4:=h1.symm.trans h2
 cases h4):a:=h
theorem Id {a:Prop} (h:a:=by
 rcases hb with hb|hb
 ·exact⟨(h.lt b hb).1,aT (h.lt b hb).2 z⟩
 exact⟨bR hbb hb.1,hb.2⟩):a:=h
theorem Ij {a:Prop} (h:a:=by
 obtain⟨_,_,h⟩:=RO.ct h
 obtain⟨_,_,h⟩:=RO.ct h
 injection h with h
 subst h
 rfl):a:=h
theorem ae {P:Prop} (h:P:=by omega):P:=h
theorem ai {P:Prop} (h:P:=by simp):P:=h
theorem ak {P:Prop} (h:P:=by kernel_rfl):P:=h
theorem au {P:Prop} (h:P:=by decide):P:=h
theorem aC {P:Prop} (h:P:=by simp;omega):P:=h
theorem aD {a:Prop} (h:a:=by dsimp only;omega):a:=h
theorem aU {a:Prop} (h:a:=by simp<;>omega):a:=h
theorem bl {P:Prop} (h:P:=by simp[Value.oneCell']):P:=h
theorem b1 {P:Prop} (h:P:=by simp only[maxLen];omega):P:=h
theorem cB {a:Prop} (h:a:=by simp[d5];omega):a:=h
theorem c6 {P:Prop} (h:P:=by show wr.heap.size<_;omega):P:=h
theorem gh {a:Prop} (h:a:=by simp[cc.rows]):a:=h
theorem kg {a:Prop} (h:a:=by first|rfl|(show Pl.mk _ _ _ _ _ _ _ _=_;simp;done)):a:=h
theorem ki {a:Prop} (h:a:=by simp[go_sem]):a:=h
theorem mW {a:Prop} (h:a:=by simp[Act.eval]):a:=h
theorem m0 {a:Prop} (h:a:=by simp[d5]<;>omega):a:=h
theorem n3 {a:Prop} (h:a:=by first|omega|(simp;omega)):a:=h
theorem po {a:Prop} (h:a:=by rw[eJ];omega):a:=h
theorem nK {a:Prop} (h:a:=by rw[Nat.add_mul];omega):a:=h
end Go.Proofs
