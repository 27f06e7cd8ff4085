import Derived.Test.YtfifnemnihcijaaGreatDoorKHb
import Derived.Test.YtfifnemnihcijaaGreatDoorKGq
set_option linter.unusedSimpArgs false
set_option linter.unusedVariables false
set_option maxHeartbeats 16000000
set_option maxRecDepth 100000
namespace Go.Proofs.YtfifnemnihcijaaGreatDoor
open Go.RowKit
theorem lies_of_blk {α:Type} {enc:α → List Value} {m:Nat} (hm:∀ x,(enc x).length = m) {w:World} {b c:Nat} {t:TypeId} {cs:Array Value} {xs:List α} (hb:Blk w b t cs) (e:cs = (xs.flatMap enc).toArray) (hl:xs.length ≤ 9223372036854775807):Lies w m ⟨some ⟨b,0,none⟩,xs.length,c⟩ enc xs:=by
 subst e
 refine ⟨rfl,hl,fun k hk => ⟨b,0,rfl,hb.lt,fun j v hv => ?_⟩⟩
 have hj:j < m:=by rw [← hm xs[k]];exact (List.getElem?_eq_some_iff.1 hv).1
 rw [hb.cell,List.getElem?_toArray,Nat.zero_add,flat_get hm xs k hk j hj]
 exact hv
theorem okS_of {s:ByteArray} (h:s.size ≤ 100):okS s:=by unfold okS;omega
def rowE (a:ByteArray) (n:Int):Row:=[⟨1,0,a⟩,⟨2,n,⟨#[]⟩⟩]
def eT:ByteArray:=⟨#[116]⟩
def eA:ByteArray:=⟨#[97]⟩
def eN:ByteArray:=⟨#[110]⟩
def exT (z:Nat):RT:=⟨eT,⟨some ⟨z + 2,0,none⟩,2,2⟩,[⟨⟨eA,1,[],⟨0,0,⟨#[]⟩⟩⟩,⟨none,0,0⟩⟩,⟨⟨eN,2,[],⟨0,0,⟨#[]⟩⟩⟩,⟨none,0,0⟩⟩],⟨some ⟨z + 3,0,none⟩,1,1⟩,[0]⟩
def exTb:Tb:=⟨eT,[⟨eA,1,[],⟨0,0,⟨#[]⟩⟩⟩,⟨eN,2,[],⟨0,0,⟨#[]⟩⟩⟩],[0]⟩
def exC:Cg:=⟨4,eT,eN,⟨#[]⟩,3,⟨0,0,⟨#[]⟩⟩⟩
theorem alloc6 (w:World) (c0 c1 c2 c3 c4 c5:Array Value) (t0 t1 t2 t3 t4 t5:TypeId):Same w ((((((w.alloc (.cells c0 t0)).alloc (.cells c1 t1)).alloc (.cells c2 t2)).alloc (.cells c3 t3)).alloc (.cells c4 t4)).alloc (.cells c5 t5)) ∧ Blk ((((((w.alloc (.cells c0 t0)).alloc (.cells c1 t1)).alloc (.cells c2 t2)).alloc (.cells c3 t3)).alloc (.cells c4 t4)).alloc (.cells c5 t5)) (w.heap.size) t0 c0 ∧ Blk ((((((w.alloc (.cells c0 t0)).alloc (.cells c1 t1)).alloc (.cells c2 t2)).alloc (.cells c3 t3)).alloc (.cells c4 t4)).alloc (.cells c5 t5)) (w.heap.size + 1) t1 c1 ∧ Blk ((((((w.alloc (.cells c0 t0)).alloc (.cells c1 t1)).alloc (.cells c2 t2)).alloc (.cells c3 t3)).alloc (.cells c4 t4)).alloc (.cells c5 t5)) (w.heap.size + 1 + 1) t2 c2 ∧ Blk ((((((w.alloc (.cells c0 t0)).alloc (.cells c1 t1)).alloc (.cells c2 t2)).alloc (.cells c3 t3)).alloc (.cells c4 t4)).alloc (.cells c5 t5)) (w.heap.size + 1 + 1 + 1) t3 c3 ∧ Blk ((((((w.alloc (.cells c0 t0)).alloc (.cells c1 t1)).alloc (.cells c2 t2)).alloc (.cells c3 t3)).alloc (.cells c4 t4)).alloc (.cells c5 t5)) (w.heap.size + 1 + 1 + 1 + 1) t4 c4 ∧ Blk ((((((w.alloc (.cells c0 t0)).alloc (.cells c1 t1)).alloc (.cells c2 t2)).alloc (.cells c3 t3)).alloc (.cells c4 t4)).alloc (.cells c5 t5)) (w.heap.size + 1 + 1 + 1 + 1 + 1) t5 c5:=by
 obtain ⟨w0,hw0⟩:∃ w0,w0 = w.alloc (.cells c0 t0):=⟨_,rfl⟩
 have n0:w.heap.size = w.heap.size:=by rfl
 have b0:Blk w0 (w.heap.size) t0 c0:=by rw [hw0,← n0];exact Blk.new w _ _
 have s0:Same w w0:=by rw [hw0];exact (Same.refl _).alloc _
 obtain ⟨w1,hw1⟩:∃ w1,w1 = w0.alloc (.cells c1 t1):=⟨_,rfl⟩
 have n1:w0.heap.size = w.heap.size + 1:=by rw [hw0];simp [n0]
 have b1:Blk w1 (w.heap.size + 1) t1 c1:=by rw [hw1,← n1];exact Blk.new w0 _ _
 have s1:Same w0 w1:=by rw [hw1];exact (Same.refl _).alloc _
 obtain ⟨w2,hw2⟩:∃ w2,w2 = w1.alloc (.cells c2 t2):=⟨_,rfl⟩
 have n2:w1.heap.size = w.heap.size + 1 + 1:=by rw [hw1];simp [n1]
 have b2:Blk w2 (w.heap.size + 1 + 1) t2 c2:=by rw [hw2,← n2];exact Blk.new w1 _ _
 have s2:Same w1 w2:=by rw [hw2];exact (Same.refl _).alloc _
 obtain ⟨w3,hw3⟩:∃ w3,w3 = w2.alloc (.cells c3 t3):=⟨_,rfl⟩
 have n3:w2.heap.size = w.heap.size + 1 + 1 + 1:=by rw [hw2];simp [n2]
 have b3:Blk w3 (w.heap.size + 1 + 1 + 1) t3 c3:=by rw [hw3,← n3];exact Blk.new w2 _ _
 have s3:Same w2 w3:=by rw [hw3];exact (Same.refl _).alloc _
 obtain ⟨w4,hw4⟩:∃ w4,w4 = w3.alloc (.cells c4 t4):=⟨_,rfl⟩
 have n4:w3.heap.size = w.heap.size + 1 + 1 + 1 + 1:=by rw [hw3];simp [n3]
 have b4:Blk w4 (w.heap.size + 1 + 1 + 1 + 1) t4 c4:=by rw [hw4,← n4];exact Blk.new w3 _ _
 have s4:Same w3 w4:=by rw [hw4];exact (Same.refl _).alloc _
 obtain ⟨w5,hw5⟩:∃ w5,w5 = w4.alloc (.cells c5 t5):=⟨_,rfl⟩
 have n5:w4.heap.size = w.heap.size + 1 + 1 + 1 + 1 + 1:=by rw [hw4];simp [n4]
 have b5:Blk w5 (w.heap.size + 1 + 1 + 1 + 1 + 1) t5 c5:=by rw [hw5,← n5];exact Blk.new w4 _ _
 have s5:Same w4 w5:=by rw [hw5];exact (Same.refl _).alloc _
 rw [← hw0,← hw1,← hw2,← hw3,← hw4,← hw5]
 refine ⟨(((((s0.trans s1).trans s2).trans s3).trans s4).trans s5),b0.below ((((s1.trans s2).trans s3).trans s4).trans s5) b0.lt,b1.below (((s2.trans s3).trans s4).trans s5) b1.lt,b2.below ((s3.trans s4).trans s5) b2.lt,b3.below (s4.trans s5) b3.lt,b4.below s5 b4.lt,b5⟩
theorem example_ok (w:World):Calls Tryz.prog 55 #[] w fun e w' => ∃ (h:Hd) (t:RT),e = .returned (.tuple #[.agg #[h.val],exC.val]) ∧ TabsAt w' h [t] ∧ t.tb = exTb ∧ Same w w':=by
 go_enter Tryz.func55,Tryz.ntmps55
 go_wp2_with fail
 have hB:=alloc6 w #[.slice (some ⟨w.heap.size + 1 + 1 + 1 + 1 + 1,0,none⟩) 1 1] exC.arr #[.string eA,.int .i64 1,.slice none 0 0,.int .i64 0,.int .i64 0,.string ⟨#[]⟩,.string eN,.int .i64 2,.slice none 0 0,.int .i64 0,.int .i64 0,.string ⟨#[]⟩] #[.int .i64 0] #[.string eT,.slice (some ⟨w.heap.size + 1 + 1,0,none⟩) 2 2,.slice (some ⟨w.heap.size + 1 + 1 + 1,0,none⟩) 1 1] #[.string eT,.slice (some ⟨w.heap.size + 1 + 1,0,none⟩) 2 2,.slice (some ⟨w.heap.size + 1 + 1 + 1,0,none⟩) 1 1] 24 28 82 3 44 44
 simp only [exC,Cg.arr,eA,eN,eT] at hB
 obtain ⟨W,hW⟩:∃ W,W = (((((w.alloc (.cells #[.slice (some ⟨w.heap.size + 1 + 1 + 1 + 1 + 1,0,none⟩) 1 1] 24)).alloc (.cells #[.int .i64 4,.string ⟨#[116]⟩,.string ⟨#[110]⟩,.string ⟨#[]⟩,.int .i64 3,.int .i64 0,.int .i64 0,.string ⟨#[]⟩] 28)).alloc (.cells #[.string ⟨#[97]⟩,.int .i64 1,.slice none 0 0,.int .i64 0,.int .i64 0,.string ⟨#[]⟩,.string ⟨#[110]⟩,.int .i64 2,.slice none 0 0,.int .i64 0,.int .i64 0,.string ⟨#[]⟩] 82)).alloc (.cells #[.int .i64 0] 3)).alloc (.cells #[.string ⟨#[116]⟩,.slice (some ⟨w.heap.size + 1 + 1,0,none⟩) 2 2,.slice (some ⟨w.heap.size + 1 + 1 + 1,0,none⟩) 1 1] 44)).alloc (.cells #[.string ⟨#[116]⟩,.slice (some ⟨w.heap.size + 1 + 1,0,none⟩) 2 2,.slice (some ⟨w.heap.size + 1 + 1 + 1,0,none⟩) 1 1] 44):=⟨_,rfl⟩
 rw [← hW] at hB
 rw [← hW]
 clear hW
 obtain ⟨s,b0,b1,b2,b3,b4,b5⟩:=hB
 have T:TbAt W (exT w.heap.size):=by
  refine ⟨⟨lies_of_blk (xs:=(exT w.heap.size).ra) RA.clen b2 rfl (show (2:Nat) ≤ 9223372036854775807 by decide),?_⟩,lies_of_blk (enc:=intCell) (m:=1) (xs:=[(0:Int)]) (fun _ => rfl) b3 rfl (by decide),okS_of (show eT.size ≤ 100 by decide)⟩
  intro r hr
  simp only [exT,List.mem_cons,List.not_mem_nil,or_false] at hr
  rcases hr with rfl | rfl
  ·exact ⟨strs_none _,okS_of (show eA.size ≤ 100 by decide),okS_of (show (⟨#[]⟩:ByteArray).size ≤ 100 by decide)⟩
  ·exact ⟨strs_none _,okS_of (show eN.size ≤ 100 by decide),okS_of (show (⟨#[]⟩:ByteArray).size ≤ 100 by decide)⟩
 have L:TabsAt W ⟨some ⟨w.heap.size + 1 + 1 + 1 + 1 + 1,0,none⟩,1,1⟩ [exT w.heap.size]:=by
  refine ⟨lies_of_blk (xs:=[exT w.heap.size]) RT.clen b5 rfl (show (1:Nat) ≤ 9223372036854775807 by decide),?_⟩
  intro t ht
  rw [List.mem_singleton.1 ht]
  exact T
 have c0:=b0.cell 0
 have d0:=b1.cell 0
 have d1:=b1.cell 1
 have d2:=b1.cell 2
 have d3:=b1.cell 3
 have d4:=b1.cell 4
 have d5:=b1.cell 5
 have d6:=b1.cell 6
 have d7:=b1.cell 7
 simp only [List.getElem?_toArray,List.getElem?_cons_zero,List.getElem?_cons_succ] at c0 d0 d1 d2 d3 d4 d5 d6 d7
 refine bodyPost_ret (v:=.tuple #[.agg #[.slice (some ⟨w.heap.size + 1 + 1 + 1 + 1 + 1,0,none⟩) 1 1],exC.val]) ?_ rfl ⟨⟨some ⟨w.heap.size + 1 + 1 + 1 + 1 + 1,0,none⟩,1,1⟩,exT w.heap.size,rfl,L,rfl,s⟩
 simp [results,Tryz.results55,go_sem,c0,d0,d1,d2,d3,d4,d5,d6,d7,exC,Cg.val,eT,eN]
 rfl
theorem MgAt.raise {w:World} {p:MH} {m:Mg} (d:MgAt w p m) (lo':Nat) (h:p.lo ≤ lo'):MgAt w { p with lo:=lo' } m:=
 ⟨⟨d.st.ts,d.st.tsm,d.st.few,d.st.tsl,d.st.tn,d.st.tnm,d.st.fewn,d.st.okn,d.st.okd,d.st.laid,d.st.WB,d.st.gB⟩,d.same,d.blk,d.bs,d.bc,d.bm,d.oo,d.oh,d.oi,d.tr,d.od,d.dh,d.dr,d.rr,d.rd,d.ai,d.ad,d.fine,fun t ht r hr => (d.rl t ht r hr).mono fun k hk => Nat.lt_of_lt_of_le hk h,d.rh,d.hw⟩
def LiveM (W w:World) (g:Nat) (m:Mg):Prop:=∃ p:MH,MgAt w p m ∧ p.g = g ∧ (∀ k,p.own k → W.heap.size ≤ k) ∧ Same W w
section
variable {W w w':World} {g:Nat} {m m':Mg}
theorem LiveM.same (l:LiveM W w g m):Same W w:=by obtain ⟨_,_,_,_,s⟩:=l;exact s
theorem LiveM.fine (l:LiveM W w g m):m.Fine:=by obtain ⟨_,d,_⟩:=l;exact d.fine
theorem LiveM.next (l:LiveM W w g m) (s:Same w w'):LiveM W w' g m:=by
 obtain ⟨p,d,hg,ho,sw⟩:=l
 exact ⟨p,d.next s,hg,ho,sw.trans s⟩
theorem LiveM.turned {p:MH} (t:MTurn w w' p m') (hg:p.g = g) (ho:∀ k,p.own k → W.heap.size ≤ k) (s:Same W w):LiveM W w' g m':=by
 obtain ⟨p',d',hg',_,_,c,o⟩:=t
 exact ⟨p',d',hg'.trans hg,fun k hk => (o k hk).elim (ho k) (fun h => Nat.le_trans s.size h),s.chg c ho⟩
theorem LiveM.step (l:LiveM W w g m) (n:Int) (hb:m.rows.length ≤ 1000000) (hn1:-9223372036854775808 ≤ n) (hn2:n ≤ 9223372036854775807) :
  Calls Tryz.prog 25 #[.pointer (some ⟨g,0,none⟩),.int .i64 n] w fun e w' => e = .returned (.tuple #[.int .i64 (m.stepN n),.int .i64 (m.stepE n)]) ∧ LiveM W w' g (m.step n):=by
 obtain ⟨p,d,hg,ho,s⟩:=l
 subst hg
 exact (step_ok d n hb hn1 hn2).mono fun e w' ⟨he,t⟩ => ⟨he,LiveM.turned t rfl ho s⟩
theorem LiveM.put (l:LiveM W w g m) (t:Int) {hr:Hd} {row:Row} (r:RowAt w hr row) (hoff:∀ p:MH,MgAt w p m → p.g = g → In (fun k => ¬ p.own k) hr) (hb:∀ rows ∈ m.tabs,rows.length ≤ 1000000) :
  Calls Tryz.prog 27 #[.pointer (some ⟨g,0,none⟩),.int .i64 t,hr.val] w fun e w' => e = .returned (.int .i64 (m.putE t row)) ∧ LiveM W w' g (m.put t row):=by
 obtain ⟨p,d,hg,ho,s⟩:=l
 have hin:=hoff p d hg
 subst hg
 have d2:=d.raise (max p.lo w.heap.size) (Nat.le_max_left _ _)
 exact (put_ok d2 t ⟨r,hin⟩ (r.in_.mono fun k hk => Nat.lt_of_lt_of_le hk (Nat.le_max_right _ _)) hb).mono fun e w' ⟨he,t⟩ => ⟨he,LiveM.turned t rfl ho s⟩
theorem LiveM.finishE (l:LiveM W w g m) (h:m.finE ≠ 0) :
  Calls Tryz.prog 29 #[.pointer (some ⟨g,0,none⟩)] w fun e w' => e = .returned (.tuple #[.agg #[.slice none 0 0],.slice none 0 0,.int .i64 m.finE]) ∧ (Same w w' ∧ LiveM W w' g m):=by
 obtain ⟨p,d,hg,ho,s⟩:=l
 subst hg
 have fin:∀ E:Int,m.finE = E → Calls Tryz.prog 29 #[.pointer (some ⟨p.g,0,none⟩)] w (fun e w' => e = .returned (.tuple #[.agg #[.slice none 0 0],.slice none 0 0,.int .i64 E]) ∧ Same w w') → Calls Tryz.prog 29 #[.pointer (some ⟨p.g,0,none⟩)] w fun e w' => e = .returned (.tuple #[.agg #[.slice none 0 0],.slice none 0 0,.int .i64 m.finE]) ∧ (Same w w' ∧ LiveM W w' p.g m):=by
  intro E hE c
  refine c.mono ?_
  rintro e w' ⟨he,s'⟩
  rw [hE]
  exact ⟨he,s',p,d.next s',rfl,ho,s.trans s'⟩
 cases hc:m.closed with
 | true => exact fin 22 (by unfold Mg.finE;rw [if_pos hc]) (finish_closed d hc)
 | false =>
  cases hf:m.failed with
  | true => exact fin 15 (by unfold Mg.finE;rw [if_neg (by rw [hc];simp),if_pos hf]) (finish_failed d hc hf)
  | false =>
   by_cases hl:0 < m.left
   ·exact fin 12 (by unfold Mg.finE;rw [if_neg (by rw [hc];simp),if_neg (by rw [hf];simp),if_pos hl]) (finish_left d hc hf hl)
   ·exfalso;apply h;unfold Mg.finE;rw [if_neg (by rw [hc];simp),if_neg (by rw [hf];simp),if_neg hl]
def FinOut (w w':World) (m:Mg) (A1:Option Addr) (m1 c1 go n c:Nat):Prop:=∃ (tn:List RT) (ts:List Tbl) (lo:Nat) (hi:Nat → Prop),TabsAt w' ⟨A1,m1,c1⟩ tn ∧ tn.map RT.tb = applyS m.s m.c ∧ OutAt w' w.heap.size lo hi ⟨some ⟨go,0,none⟩,n,c⟩ ts m.out
theorem LiveM.finish (l:LiveM W w g m) (few:FewR m.tabs) (hdn:m.done.length ≤ 1000000) (h:m.finE = 0) :
  Calls Tryz.prog 29 #[.pointer (some ⟨g,0,none⟩)] w fun e w' => ∃ (A1:Option Addr) (m1 c1 go n c:Nat),e = .returned (.tuple #[.agg #[.slice A1 m1 c1],.slice (some ⟨go,0,none⟩) n c,.int .i64 0]) ∧ FinOut w w' m A1 m1 c1 go n c ∧ LiveM W w' g m.finish:=by
 obtain ⟨p,d,hg,ho,s⟩:=l
 subst hg
 have hc:m.closed = false:=by
  cases hc:m.closed with
  | false => rfl
  | true => unfold Mg.finE at h;rw [if_pos hc] at h;cases h
 have hf:m.failed = false:=by
  cases hf:m.failed with
  | false => rfl
  | true => unfold Mg.finE at h;rw [if_neg (by rw [hc];simp),if_pos hf] at h;cases h
 have hl:m.left = 0:=by
  unfold Mg.finE at h;rw [if_neg (by rw [hc];simp),if_neg (by rw [hf];simp)] at h
  by_cases h0:0 < m.left
  ·rw [if_pos h0] at h;cases h
  ·omega
 refine (finish_ok d few hdn hc hf hl).mono ?_
 rintro e w' ⟨go,n,c,ts,he,ho',t⟩
 have hl2:=LiveM.turned t rfl ho s
 obtain ⟨p',d',hg',hW',_⟩:=t
 refine ⟨p.hn.a,p.hn.n,p.hn.c,go,n,c,he,⟨p.tn,ts,p.lo,p.hi,?_,d.st.tnm,ho'⟩,hl2⟩
 have:=d'.same
 rw [hW'] at this
 exact d.st.tn.same this
theorem LiveM.abandon (l:LiveM W w g m) (few:FewR m.tabs) (hc:m.closed = false) :
  Calls Tryz.prog 32 #[.pointer (some ⟨g,0,none⟩)] w fun e w' => ∃ (A:Option Addr) (n c:Nat),e = .returned (.tuple #[.slice A n c,.int .i64 0]) ∧ (∃ (ts:List Tbl) (lo:Nat) (hi:Nat → Prop),OutAt w' w.heap.size lo hi ⟨A,n,c⟩ ts m.tabs) ∧ LiveM W w' g m.abandon:=by
 obtain ⟨p,d,hg,ho,s⟩:=l
 subst hg
 refine (abandon_ok d few hc).mono ?_
 rintro e w' ⟨A,n,c,ts,he,o,t⟩
 exact ⟨A,n,c,he,⟨ts,_,_,o⟩,LiveM.turned t rfl ho s⟩
theorem LiveM.stepC (l:LiveM W w g m) (hc:m.closed = true) (n:Int) :
  Calls Tryz.prog 25 #[.pointer (some ⟨g,0,none⟩),.int .i64 n] w fun e w' => e = .returned (.tuple #[.int .i64 0,.int .i64 22]) ∧ w = w':=by
 obtain ⟨p,d,hg,ho,s⟩:=l
 subst hg
 exact step_closed d n hc
end
theorem start_live (h:Hd) (ts:List RT) (c:Cg) (ht:Hd) (tbs:List Tbl) (w:World) (l:Laid w) (a:TabsAt w h ts) {nw:Nat} (hw:WasL (ts.map RT.tb) nw) (hnw:nw + 1 ≤ 1000000) (tsl:ts.length ≤ 1000000) (hn:okS c.name) (hd:okS c.dflt.s) {K:Nat → Prop} (tt:TablesAt w K ht tbs) (fr:FewR (rowsOf tbs)) (hE:startE (ts.map RT.tb) c (rowsOf tbs) = 0) :
  Calls Tryz.prog 23 #[.agg #[h.val],c.val,ht.val] w fun e w' => ∃ g:Nat,e = .returned (.tuple #[.pointer (some ⟨g,0,none⟩),.int .i64 0]) ∧ LiveM w w' g (start (ts.map RT.tb) c (rowsOf tbs)):=by
 refine (start_ok h ts c ht tbs w l a hw hnw tsl hn hd tt fr hE).mono ?_
 rintro e w' ⟨p,he,d,s,hB,_,_⟩
 exact ⟨p.g,he,p,d,rfl,fun k hk => Nat.le_trans hB (d.own_ty hk).1,s⟩
def bX:ByteArray:=⟨#[120]⟩
def bY:ByteArray:=⟨#[121]⟩
def bZ:ByteArray:=⟨#[122]⟩
def bW:ByteArray:=⟨#[119]⟩
def ex1:List (List Row):=[[rowE bX 1,rowE bY 200000,rowE bZ 3]]
def ex2:List (List Row):=[[rowE bX 1,rowE bZ 3]]
def M1:Mg:=start [exTb] exC ex1
def M1a:Mg:=M1.step 1
def M1b:Mg:=M1a.step 1
def M2:Mg:=start [exTb] exC ex2
def M2a:Mg:=M2.step 1
def M2b:Mg:=M2a.put 0 (rowE bW 4)
def M2c:Mg:=M2b.step 9
theorem f_st1:startE [exTb] exC ex1 = 0:=by decide +kernel
theorem f_st2:startE [exTb] exC ex2 = 0:=by decide +kernel
theorem f_1:(M1.stepN 1:Int) = 2 ∧ M1.stepE 1 = 0 ∧ (M1a.stepN 1:Int) = 2 ∧ M1a.stepE 1 = 15 ∧ M1b.finE = 15 ∧ M1b.closed = false:=by decide +kernel
theorem f_2:M2.finE = 12 ∧ M2a.putE 0 (rowE bW 4) = 0 ∧ (M2b.stepN 9:Int) = 0 ∧ M2b.stepE 9 = 0 ∧ M2c.finE = 0 ∧ M2c.finish.closed = true:=by decide +kernel
def outB (tabs:List (List Row)):Bool:=match tabs with
 | [[_,_,[_,v]]] => decide (v.k = 3) && decide (v.n = 4) && decide (v.s.size = 0)
 | _ => false
theorem f_out:outB M2c.out = true:=by decide +kernel
def nextB (s:List Tb):Bool:=match s with
 | [t] => match t.attrs with
  | [_,a] => decide (a.kind = 3)
  | _ => false
 | _ => false
theorem f_next:nextB (applyS [exTb] exC) = true:=by decide +kernel
theorem step_tabs (m:Mg) (n:Int):(m.step n).tabs = m.tabs:=by
 unfold Mg.step
 split
 ·rfl
 ·exact (Mg.steps_tabs _ _).1
theorem f_tabs1:M1b.tabs = ex1:=(step_tabs M1a 1).trans (step_tabs M1 1)
theorem f_len:(M1.rows.length ≤ 1000000 ∧ M1a.rows.length ≤ 1000000 ∧ M2.rows.length ≤ 1000000 ∧ M2b.rows.length ≤ 1000000 ∧ M2c.rows.length ≤ 1000000) ∧ (M2c.tabs.length ≤ 1000000 ∧ (M2c.tabs.all fun r => decide (r.length ≤ 1000000)) = true) ∧ M2c.done.length ≤ 1000000 ∧ (M2a.tabs.all fun r => decide (r.length ≤ 1000000)) = true:=by decide +kernel
theorem wasEx:WasL [exTb] 0:=by
 intro t ht a ha
 rw [List.mem_singleton.1 ht] at ha
 simp only [exTb,List.mem_cons,List.not_mem_nil,or_false] at ha
 rcases ha with rfl | rfl <;> exact Nat.le_refl _
theorem few_ex1:FewR ex1:=⟨show (1:Nat) ≤ 1000000 by decide,fun rows h => by rw [List.mem_singleton.1 h];show (3:Nat) ≤ 1000000;decide⟩
theorem tabs_of {wz W:World} (s:Same wz W) (rs:List Rw) {b0 b1 c0 c1:Nat} (x:∀ r ∈ rs,RowAt wz r.h r.v) (hl:rs.length ≤ 9223372036854775807) (b:Blk W b0 29 (rs.flatMap Rw.cell).toArray) (b':Blk W b1 99 #[.slice (some ⟨b0,0,none⟩) rs.length c0]) :
  TablesAt W (fun k => k < W.heap.size) ⟨some ⟨b1,0,none⟩,1,c1⟩ [⟨⟨some ⟨b0,0,none⟩,rs.length,c0⟩,rs⟩]:=by
 have L1:Lies W 1 ⟨some ⟨b1,0,none⟩,1,c1⟩ Tbl.cell [⟨⟨some ⟨b0,0,none⟩,rs.length,c0⟩,rs⟩]:=lies_of_blk (xs:=[(⟨⟨some ⟨b0,0,none⟩,rs.length,c0⟩,rs⟩:Tbl)]) Tbl.clen b' rfl (show (1:Nat) ≤ 9223372036854775807 by decide)
 have L2:Lies W 1 ⟨some ⟨b0,0,none⟩,rs.length,c0⟩ Rw.cell rs:=lies_of_blk Rw.clen b rfl hl
 refine ⟨L1,L1.in_,fun t ht => ?_⟩
 rw [List.mem_singleton.1 ht]
 exact ⟨L2,L2.in_,fun r hr => ⟨(x r hr).same s,((x r hr).same s).in_⟩⟩
theorem exampleE (w:World):Calls Tryz.prog 55 #[] w fun e w' => ∃ (A:Option Addr) (n c:Nat) (t:RT),e = .returned (.tuple #[.agg #[.slice A n c],.agg #[.int .i64 4,.string eT,.string eN,.string ⟨#[]⟩,.int .i64 3,.int .i64 0,.int .i64 0,.string ⟨#[]⟩]]) ∧ (TabsAt w' ⟨A,n,c⟩ [t] ∧ t.tb = exTb) ∧ Same w w':=by
 refine (example_ok w).mono ?_
 rintro e w' ⟨⟨A,n,c⟩,t,he,ta,ht,s⟩
 exact ⟨A,n,c,t,he,⟨ta,ht⟩,s⟩
theorem rowB (a:ByteArray) (n:Int) (w:World) (ha:a.size ≤ 100):Calls Tryz.prog 56 #[.string a,.int .i64 n] w fun e w' => ∃ (b:Nat) (m c:Nat),e = .returned (.slice (some ⟨b,0,none⟩) m c) ∧ (RowAt w' ⟨some ⟨b,0,none⟩,m,c⟩ (rowE a n) ∧ ∃ cs,Blk w' b 26 cs) ∧ Same w w':=by
 go_enter Tryz.func56,Tryz.ntmps56
 go_wp2_with fail
 go_ret
 refine ⟨_,_,_,rfl,⟨⟨lies_of_blk (xs:=rowE a n) V.clen (Blk.new w _ _) rfl (show (2:Nat) ≤ 9223372036854775807 by decide),?_⟩,_,Blk.new w _ _⟩,(Same.refl w).alloc _⟩
 intro v hv
 simp only [rowE,List.mem_cons,List.not_mem_nil,or_false] at hv
 rcases hv with rfl | rfl
 ·exact okS_of ha
 ·exact okS_of (show (⟨#[]⟩:ByteArray).size ≤ 100 by decide)
theorem two_new (w:World) (a b:Array Value) (ta tb:TypeId):Same w ((w.alloc (.cells a ta)).alloc (.cells b tb)) ∧ Blk ((w.alloc (.cells a ta)).alloc (.cells b tb)) w.heap.size ta a ∧ Blk ((w.alloc (.cells a ta)).alloc (.cells b tb)) (w.heap.size + 1) tb b:=by
 refine ⟨((Same.refl w).alloc _).alloc _,(Blk.new w _ _).alloc _,?_⟩
 have e:w.heap.size + 1 = (w.alloc (.cells a ta)).heap.size:=by simp
 rw [e];exact Blk.new _ _ _
theorem LiveM.low {V W w:World} {g:Nat} {m:Mg} (l:LiveM W w g m) (s:Same V W):LiveM V w g m:=by
 obtain ⟨p,d,hg,ho,sw⟩:=l
 exact ⟨p,d,hg,fun k hk => Nat.le_trans s.size (ho k hk),s.trans sw⟩
theorem start_ex {V wz W:World} (l:Laid V) {A:Option Addr} {n c:Nat} {t:RT} (ta:TabsAt V ⟨A,n,c⟩ [t]) (ht:t.tb = exTb) (sz:Same V wz) (s:Same wz W) (rs:List Rw) {b0 b1 c0 c1:Nat} (x:∀ r ∈ rs,RowAt wz r.h r.v) (hl:rs.length ≤ 1000000)
  (b:Blk W b0 29 (rs.flatMap Rw.cell).toArray) (b':Blk W b1 99 #[.slice (some ⟨b0,0,none⟩) rs.length c0]) (hE:startE [exTb] exC [rs.map Rw.v] = 0) :
  Calls Tryz.prog 23 #[.agg #[.slice A n c],.agg #[.int .i64 4,.string eT,.string eN,.string ⟨#[]⟩,.int .i64 3,.int .i64 0,.int .i64 0,.string ⟨#[]⟩],.slice (some ⟨b1,0,none⟩) 1 c1] W fun e w' => ∃ g:Nat,e = .returned (.tuple #[.pointer (some ⟨g,0,none⟩),.int .i64 0]) ∧ LiveM V w' g (start [exTb] exC [rs.map Rw.v]):=by
 have sV:=sz.trans s
 have T:=tabs_of s rs (c0:=c0) (c1:=c1) x (by omega) b b'
 have e1:rowsOf [(⟨⟨some ⟨b0,0,none⟩,rs.length,c0⟩,rs⟩:Tbl)] = [rs.map Rw.v]:=rfl
 have e2:[t].map RT.tb = [exTb]:=by rw [List.map_cons,ht];rfl
 have h:=start_live ⟨A,n,c⟩ [t] exC ⟨some ⟨b1,0,none⟩,1,c1⟩ [⟨⟨some ⟨b0,0,none⟩,rs.length,c0⟩,rs⟩] W (l.same sV) (ta.same sV) (nw:=0) (by rw [e2];exact wasEx) (by decide) (show (1:Nat) ≤ 1000000 by decide) (okS_of (show (⟨#[]⟩:ByteArray).size ≤ 100 by decide)) (okS_of (show (⟨#[]⟩:ByteArray).size ≤ 100 by decide)) T
  (by rw [e1];exact ⟨show (1:Nat) ≤ 1000000 by decide,fun rows h => by rw [List.mem_singleton.1 h,List.length_map];exact hl⟩) (by rw [e1,e2];exact hE)
 rw [e1,e2] at h
 exact h.mono fun e w' ⟨g,he,lv⟩ => ⟨g,he,lv.low sV⟩
section
variable {W w:World} {g:Nat} {m:Mg}
theorem LiveM.stepL (l:LiveM W w g m) (n a b:Int) (hb:m.rows.length ≤ 1000000) (hn:-1000 ≤ n ∧ n ≤ 1000) (h1:(m.stepN n:Int) = a) (h2:m.stepE n = b) :
  Calls Tryz.prog 25 #[.pointer (some ⟨g,0,none⟩),.int .i64 n] w fun e w' => e = .returned (.tuple #[.int .i64 a,.int .i64 b]) ∧ LiveM W w' g (m.step n):=by
 have h:=l.step n hb (by omega) (by omega)
 rw [h1,h2] at h
 exact h
theorem LiveM.finishEL (l:LiveM W w g m) (E:Int) (hE:m.finE = E) (h0:E ≠ 0) :
  Calls Tryz.prog 29 #[.pointer (some ⟨g,0,none⟩)] w fun e w' => e = .returned (.tuple #[.agg #[.slice none 0 0],.slice none 0 0,.int .i64 E]) ∧ LiveM W w' g m:=by
 have h:=l.finishE (by rw [hE];exact h0)
 rw [hE] at h
 exact h.mono fun e w' ⟨he,_,lv⟩ => ⟨he,lv⟩
theorem LiveM.abandonL (l:LiveM W w g m) (few:FewR m.tabs) (hc:m.closed = false) (rows:List Row) (ht:m.tabs = [rows]) :
  Calls Tryz.prog 32 #[.pointer (some ⟨g,0,none⟩)] w fun e w' => ∃ (go c:Nat) (B:Option Addr) (d:Nat),e = .returned (.tuple #[.slice (some ⟨go,0,none⟩) 1 c,.int .i64 0]) ∧ (w'.cell? ⟨go,0,none⟩ = some (.slice B rows.length d) ∧ go < w'.heap.size) ∧ LiveM W w' g m.abandon:=by
 refine (l.abandon few hc).mono ?_
 rintro e w' ⟨A,n,c,he,⟨ts,lo,hi,o⟩,lv⟩
 have hr:=o.2.1
 rw [ht] at hr
 have hl:ts.length = 1:=by have:=congrArg List.length hr;simpa [rowsOf] using this
 match ts,hl with
 | [t],_ =>
  obtain ⟨go,c',hh,_,hlt,_⟩:=o.1.head (show (0:Nat) < 1 by decide)
  injection hh with h1 h2 h3
  subst h1 h2 h3
  have hcell:=o.1.get 0 (show (0:Nat) < 1 by decide)
  have htr:t.rs.length = rows.length:=by
   have h2:[t.rows] = [rows]:=hr
   injection h2 with h2
   rw [← h2];simp [Tbl.rows]
  have hn:=(o.1.oi t (List.mem_singleton.2 rfl)).2
  refine ⟨go,c,t.h.a,t.h.c,he,⟨?_,hlt⟩,lv⟩
  rw [hcell]
  show some (Value.slice t.h.a t.h.n t.h.c) = _
  rw [hn,htr]
theorem LiveM.putL (l:LiveM W w g m) {b n c:Nat} {row:Row} (r:RowAt w ⟨some ⟨b,0,none⟩,n,c⟩ row) {cs:Array Value} (hb:Blk w b 26 cs) (t E:Int) (hl:∀ rows ∈ m.tabs,rows.length ≤ 1000000) (hE:m.putE t row = E) :
  Calls Tryz.prog 27 #[.pointer (some ⟨g,0,none⟩),.int .i64 t,.slice (some ⟨b,0,none⟩) n c] w fun e w' => e = .returned (.int .i64 E) ∧ LiveM W w' g (m.put t row):=by
 have h:=l.put t r (fun p d _ h0 => ⟨b,0,rfl,d.not_own hb (by decide) (by decide) (by decide)⟩) hl
 rw [hE] at h
 exact h
end
theorem bytes0 {s:ByteArray} (h:s.size = 0):s = ⟨#[]⟩:=by
 obtain ⟨a⟩:=s
 have:a.size = 0:=h
 rw [Array.size_eq_zero_iff] at this
 rw [this]
theorem step_sc (m:Mg) (n:Int):(m.step n).s = m.s ∧ (m.step n).c = m.c:=by
 unfold Mg.step
 split
 ·exact ⟨rfl,rfl⟩
 ·exact ⟨(Mg.steps_tabs _ _).2.1,(Mg.steps_tabs _ _).2.2.1⟩
theorem put_sc (m:Mg) (t:Int) (row:Row):(m.put t row).s = m.s ∧ (m.put t row).c = m.c:=by
 unfold Mg.put
 split <;> exact ⟨rfl,rfl⟩
theorem M2c_sc:M2c.s = [exTb] ∧ M2c.c = exC:=by
 have h1:=step_sc M2b 9
 have h2:=put_sc M2a 0 (rowE bW 4)
 have h3:=step_sc M2 1
 exact ⟨h1.1.trans (h2.1.trans h3.1),h1.2.trans (h2.2.trans h3.2)⟩
theorem out_shape:∀ {ts:List Tbl},outB (rowsOf ts) = true → ∃ (hi:Hd) (s0 s1:Rw) (hr:Hd) (v0:V),ts = [⟨hi,[s0,s1,⟨hr,[v0,⟨3,4,⟨#[]⟩⟩]⟩]⟩]
 | [],h => by simp [rowsOf,outB] at h
 | _ :: _ :: _,h => by simp [rowsOf,outB] at h
 | [⟨hi,rs⟩],h => by
  match rs,h with
  | [],h => simp [rowsOf,outB,Tbl.rows] at h
  | [_],h => simp [rowsOf,outB,Tbl.rows] at h
  | [_,_],h => simp [rowsOf,outB,Tbl.rows] at h
  | _ :: _ :: _ :: _ :: _,h => simp [rowsOf,outB,Tbl.rows] at h
  | [s0,s1,⟨hr,rv⟩],h =>
   match rv,h with
   | [],h => simp [rowsOf,outB,Tbl.rows] at h
   | [_],h => simp [rowsOf,outB,Tbl.rows] at h
   | _ :: _ :: _ :: _,h => simp [rowsOf,outB,Tbl.rows] at h
   | [v0,⟨vk,vn,vs⟩],h =>
    simp [rowsOf,outB,Tbl.rows] at h
    obtain ⟨⟨e1,e2⟩,e3⟩:=h
    refine ⟨hi,s0,s1,hr,v0,?_⟩
    rw [e1,e2,bytes0 (s:=vs) (by simpa using e3)]
def ExCells (w:World) (b1 o1 go b2 o2 c2 bi ci br orr cr:Nat):Prop:=
 (w.cell? ⟨b1,o1 + 1,none⟩ = some (.slice (some ⟨b2,o2,none⟩) 2 c2) ∧ w.cell? ⟨b2,o2 + 6 + 1,none⟩ = some (.int .i64 3)) ∧
 (w.cell? ⟨go,0,none⟩ = some (.slice (some ⟨bi,0,none⟩) 3 ci) ∧ w.cell? ⟨bi,2,none⟩ = some (.slice (some ⟨br,orr,none⟩) 2 cr)) ∧
 (w.cell? ⟨br,orr + 3,none⟩ = some (.int .i64 3) ∧ w.cell? ⟨br,orr + 3 + 1,none⟩ = some (.int .i64 4) ∧ w.cell? ⟨br,orr + 3 + 2,none⟩ = some (.string ⟨#[]⟩)) ∧
 (b1 < w.heap.size ∧ b2 < w.heap.size ∧ go < w.heap.size ∧ bi < w.heap.size ∧ br < w.heap.size)
theorem finish_ex {W w:World} {g:Nat} (l:LiveM W w g M2c) :
  Calls Tryz.prog 29 #[.pointer (some ⟨g,0,none⟩)] w fun e w' => ∃ (b1 o1 c1 go c b2 o2 c2 bi ci br orr cr:Nat),e = .returned (.tuple #[.agg #[.slice (some ⟨b1,o1,none⟩) 1 c1],.slice (some ⟨go,0,none⟩) 1 c,.int .i64 0]) ∧ ExCells w' b1 o1 go b2 o2 c2 bi ci br orr cr ∧ LiveM W w' g M2c.finish:=by
 have few:FewR M2c.tabs:=⟨f_len.2.1.1,fun rows h => by
  have:=List.all_eq_true.1 f_len.2.1.2 rows h
  simpa using this⟩
 refine (l.finish few f_len.2.2.1 f_2.2.2.2.2.1).mono ?_
 rintro e w' ⟨A1,m1,c1,go,n,c,he,⟨tn,ts,lo,hi,ht,htm,ho⟩,lv⟩
 rw [M2c_sc.1,M2c_sc.2] at htm
 have hn:=f_next
 have hob:=f_out
 rw [← htm] at hn
 rw [← ho.2.1] at hob
 match tn,hn with
 | [x],hn =>
  obtain ⟨xn,⟨A4,n4,c4⟩,ra,hk,key⟩:=x
  simp only [List.map_cons,List.map_nil,nextB,RT.tb] at hn
  match ra,hn with
  | [r0,r1],hn =>
   have hk3:r1.at_.kind = 3:=by simpa using hn
   clear hn
   have hm1:(1:Nat) = m1:=ht.1.1
   subst hm1
   obtain ⟨b1,o1,hA1,hb1,hc1⟩:=ht.1.2.2 0 (show (0:Nat) < 1 by decide)
   have hA1':A1 = some ⟨b1,o1,none⟩:=hA1
   subst hA1'
   have q1:=hc1 1 (.slice A4 n4 c4) rfl
   have ha:=(ht.2 _ (List.mem_singleton.2 rfl)).1
   have hn4:(2:Nat) = n4:=ha.1.1
   subst hn4
   obtain ⟨b2,o2,hA4,hb2,hc2⟩:=ha.1.2.2 1 (show (1:Nat) < 2 by decide)
   have hA4':A4 = some ⟨b2,o2,none⟩:=hA4
   subst hA4'
   have q2:=hc2 1 (.int .i64 r1.at_.kind) rfl
   rw [hk3] at q2
   simp only [Nat.zero_mul,Nat.add_zero,Nat.one_mul] at q1 q2
   obtain ⟨⟨Ai,ni,ci⟩,s0,s1,⟨Ar,nr,cr⟩,v0,hts⟩:=out_shape hob
   subst hts
   have oh:=ho.1.oh
   have hnn:n = 1:=oh
   subst hnn
   obtain ⟨_,cs,hbg⟩:=row_ty ho.1.oo (k:=go) rfl
   have g0:=OwnT.get (tb:=[⟨⟨Ai,ni,ci⟩,[s0,s1,⟨⟨Ar,nr,cr⟩,[v0,⟨3,4,⟨#[]⟩⟩]⟩]⟩]) ho.1 0 (show (0:Nat) < 1 by decide)
   obtain ⟨oi,oin⟩:=ho.1.oi _ (List.mem_singleton.2 rfl)
   have hni:ni = 3:=oin
   subst hni
   have oi':w'.ownsRow w.heap.size 29 1 (.slice Ai 3 ci) 3 ([s0,s1,(⟨⟨Ar,nr,cr⟩,[v0,⟨3,4,⟨#[]⟩⟩]⟩:Rw)].flatMap Rw.cell):=oi
   obtain ⟨bi,cur,hAi,_,hbi,_⟩:=own_blk oi' (by decide)
   subst hAi
   have g1:=own_cell Rw.clen oi' rfl 2 (by decide) 0 (by decide)
   have hrow:=(ho.2.2 _ (List.mem_singleton.2 rfl) ⟨⟨Ar,nr,cr⟩,[v0,⟨3,4,⟨#[]⟩⟩]⟩ (by simp)).1
   have hnr:(2:Nat) = nr:=hrow.1.1
   subst hnr
   obtain ⟨br,orr,hAr,hbr,hcr⟩:=hrow.1.2.2 1 (show (1:Nat) < 2 by decide)
   have hAr':Ar = some ⟨br,orr,none⟩:=hAr
   subst hAr'
   have d0:=hcr 0 (.int .i64 3) rfl
   have d1:=hcr 1 (.int .i64 4) rfl
   have d2:=hcr 2 (.string ⟨#[]⟩) rfl
   simp only [Nat.one_mul,Nat.add_zero] at d0 d1 d2
   refine ⟨b1,o1,c1,go,c,b2,o2,c4,bi,ci,br,orr,cr,he,⟨⟨q1,q2⟩,⟨g0,?_⟩,⟨d0,d1,d2⟩,hb1,hb2,hbg.lt,hbi.lt,hbr⟩,lv⟩
   simpa [Rw.cell,Hd.val] using g1
end Go.Proofs.YtfifnemnihcijaaGreatDoor
