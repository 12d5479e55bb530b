/- Part 20 of the proof of its last text: this session's own texts, shortened and joined by a program of its own (wip/pack.py). -/
import Derived.Test.YtaeckoinpllpnaaGreatTaa
import Derived.Test.YtaeckoinpllpnaaGreatTae
import Derived.Test.YtaeckoinpllpnaaGreatTaf
set_option linter.unusedVariables false
set_option linter.unusedSimpArgs false
set_option maxHeartbeats 16000000
set_option maxRecDepth 100000
namespace Go.Proofs.YtaeckoinpllpnaaGreat
open Go.RowKit Go.Proofs.YtaeckoinpllpnaaGreatW.PrintWords Go.Proofs.YtaeckoinpllpnaaGreatW.PrintLast
theorem Ziq (x:Pln) (cs:List Value) (w:World) (hP:allK w x kPln cs) (hsm1:∀ (j:Nat) (z:Cel),x.cells[j]? = some z→z.code.length≤1048576) (hsm2:∀ (j:Nat) (z:Wy),x.ways[j]? = some z→z.guard.length≤1048576) (hl1:x.cells.length≤1048576) (hl2:x.ways.length≤1048576) (hl3:x.slots.length≤1048576) (hl4:x.turns.length≤1048576) (hsm4:∀ (j:Nat) (z:List Int),x.turns[j]? = some z→z.length≤1048576) :
  Calls Tryz.prog 67 #[.agg cs.toArray] w fun e w'=>(∃ cs:List Value,e=.returned (.agg cs.toArray)∧Own kPln w' (fun k=>w.heap.size≤k) x cs)∧Below w.heap.size w w':=by
 obtain ⟨A1,c1,A2,c2,A3,c3,A4,c4,rfl,l1,r1,l2,r2,l3,r3,l4,r4⟩:=Zcs hP
 have HB:=(((Below.refl w.heap.size w).alloc nlr_ (.cells #[.int .i64 x.nodes,.int .i64 x.secret,.int .i64 x.fuel,.slice A1 x.cells.length c1,.slice A2 x.ways.length c2,.slice A3 x.slots.length c3,.slice A4 x.turns.length c4] 33)).alloc (by simp) (.cells #[.int .i64 0,.int .i64 0,.int .i64 0,.slice none 0 0,.slice none 0 0,.slice none 0 0,.slice none 0 0] 33)).alloc (by simp;omega) (.cells #[.int .i64 x.nodes,.int .i64 x.secret,.int .i64 x.fuel,.slice none 0 0,.slice none 0 0,.slice none 0 0,.slice none 0 0] 33)
 have Np:=Zal (Zal (Zas w (.cells #[.int .i64 x.nodes,.int .i64 x.secret,.int .i64 x.fuel,.slice A1 x.cells.length c1,.slice A2 x.ways.length c2,.slice A3 x.slots.length c3,.slice A4 x.turns.length c4] 33)) (.cells #[.int .i64 0,.int .i64 0,.int .i64 0,.slice none 0 0,.slice none 0 0,.slice none 0 0,.slice none 0 0] 33)) (.cells #[.int .i64 x.nodes,.int .i64 x.secret,.int .i64 x.fuel,.slice none 0 0,.slice none 0 0,.slice none 0 0,.slice none 0 0] 33)
 have Nr:(((w.alloc (.cells #[.int .i64 x.nodes,.int .i64 x.secret,.int .i64 x.fuel,.slice A1 x.cells.length c1,.slice A2 x.ways.length c2,.slice A3 x.slots.length c3,.slice A4 x.turns.length c4] 33)).alloc (.cells #[.int .i64 0,.int .i64 0,.int .i64 0,.slice none 0 0,.slice none 0 0,.slice none 0 0,.slice none 0 0] 33)).alloc (.cells #[.int .i64 x.nodes,.int .i64 x.secret,.int .i64 x.fuel,.slice none 0 0,.slice none 0 0,.slice none 0 0,.slice none 0 0] 33)).heap[w.heap.size+1]? = _:=Zal (Zbs (w.alloc (.cells #[.int .i64 x.nodes,.int .i64 x.secret,.int .i64 x.fuel,.slice A1 x.cells.length c1,.slice A2 x.ways.length c2,.slice A3 x.slots.length c3,.slice A4 x.turns.length c4] 33)) (.cells #[.int .i64 0,.int .i64 0,.int .i64 0,.slice none 0 0,.slice none 0 0,.slice none 0 0,.slice none 0 0] 33) (by simp)) (.cells #[.int .i64 x.nodes,.int .i64 x.secret,.int .i64 x.fuel,.slice none 0 0,.slice none 0 0,.slice none 0 0,.slice none 0 0] 33)
 have Ng:(((w.alloc (.cells #[.int .i64 x.nodes,.int .i64 x.secret,.int .i64 x.fuel,.slice A1 x.cells.length c1,.slice A2 x.ways.length c2,.slice A3 x.slots.length c3,.slice A4 x.turns.length c4] 33)).alloc (.cells #[.int .i64 0,.int .i64 0,.int .i64 0,.slice none 0 0,.slice none 0 0,.slice none 0 0,.slice none 0 0] 33)).alloc (.cells #[.int .i64 x.nodes,.int .i64 x.secret,.int .i64 x.fuel,.slice none 0 0,.slice none 0 0,.slice none 0 0,.slice none 0 0] 33)).heap[w.heap.size+1+1]? = _:=Zbs ((w.alloc (.cells #[.int .i64 x.nodes,.int .i64 x.secret,.int .i64 x.fuel,.slice A1 x.cells.length c1,.slice A2 x.ways.length c2,.slice A3 x.slots.length c3,.slice A4 x.turns.length c4] 33)).alloc (.cells #[.int .i64 0,.int .i64 0,.int .i64 0,.slice none 0 0,.slice none 0 0,.slice none 0 0,.slice none 0 0] 33)) (.cells #[.int .i64 x.nodes,.int .i64 x.secret,.int .i64 x.fuel,.slice none 0 0,.slice none 0 0,.slice none 0 0,.slice none 0 0] 33) (by simp)
 have p0:((w.alloc (.cells #[.int .i64 x.nodes,.int .i64 x.secret,.int .i64 x.fuel,.slice A1 x.cells.length c1,.slice A2 x.ways.length c2,.slice A3 x.slots.length c3,.slice A4 x.turns.length c4] 33)).alloc (.cells #[.int .i64 0,.int .i64 0,.int .i64 0,.slice none 0 0,.slice none 0 0,.slice none 0 0,.slice none 0 0] 33)).cell? ⟨w.heap.size,0,none⟩=some (.int .i64 x.nodes):=Zag (Zal (Zas w _) _) rfl
 go_enter Tryz.func67,Tryz.ntmps67
 go_upto_region 2 with (fail)
 change Code.wp _ _ _ _ (((w.alloc (.cells #[.int .i64 x.nodes,.int .i64 x.secret,.int .i64 x.fuel,.slice A1 x.cells.length c1,.slice A2 x.ways.length c2,.slice A3 x.slots.length c3,.slice A4 x.turns.length c4] 33)).alloc (.cells #[.int .i64 0,.int .i64 0,.int .i64 0,.slice none 0 0,.slice none 0 0,.slice none 0 0,.slice none 0 0] 33)).alloc (.cells #[.int .i64 x.nodes,.int .i64 x.secret,.int .i64 x.fuel,.slice none 0 0,.slice none 0 0,.slice none 0 0,.slice none 0 0] 33))
 generalize (((w.alloc (.cells #[.int .i64 x.nodes,.int .i64 x.secret,.int .i64 x.fuel,.slice A1 x.cells.length c1,.slice A2 x.ways.length c2,.slice A3 x.slots.length c3,.slice A4 x.turns.length c4] 33)).alloc (.cells #[.int .i64 0,.int .i64 0,.int .i64 0,.slice none 0 0,.slice none 0 0,.slice none 0 0,.slice none 0 0] 33)).alloc (.cells #[.int .i64 x.nodes,.int .i64 x.secret,.int .i64 x.fuel,.slice none 0 0,.slice none 0 0,.slice none 0 0,.slice none 0 0] 33))=W0 at *
 clear p0
 generalize hg0:w.heap.size+1+1=g at *
 have HN:P8 W0 (fun k=>w.heap.size≤k∧k≠w.heap.size∧k≠w.heap.size+1∧k≠g) (fun _=>0) (pRw kCel 107 (.slice none 0 0) ([])) (pRw kWy 112 (.slice none 0 0) ([])) (pRw kSlt 121 (.slice none 0 0) ([])) (pRw Zda 90 (.slice none 0 0) ([])) Zbw Zbw Zbw Zbw:=⟨Zbq _ _ _ _,Zbq _ _ _ _,Zbq _ _ _ _,Zbq _ _ _ _,trivial,trivial,trivial,trivial,pcRw _ _ _ _,pcRw _ _ _ _,pcRw _ _ _ _,pcRw _ _ _ _,Zet,Zet,Zet,Zet⟩
 obtain ⟨-,-,-,p3⟩:=cellsP4 Np
 go_wp2
 clear p3
 go_loopw [20] (fun i wr=>∃ (k:Nat) (u1:Value) (f:Nat→Nat),k≤x.cells.length∧i=.int .i64 k∧wr.heap[g]? = some (.cells #[.int .i64 x.nodes,.int .i64 x.secret,.int .i64 x.fuel,u1,.slice none 0 0,.slice none 0 0,.slice none 0 0] 33 (0,0))∧wr.heap[w.heap.size+1]? = some (.cells #[.int .i64 0,.int .i64 0,.int .i64 0,.slice none 0 0,.slice none 0 0,.slice none 0 0,.slice none 0 0] 33 (0,0))∧wr.heap[w.heap.size]? = some (.cells #[.int .i64 x.nodes,.int .i64 x.secret,.int .i64 x.fuel,.slice A1 x.cells.length c1,.slice A2 x.ways.length c2,.slice A3 x.slots.length c3,.slice A4 x.turns.length c4] 33 (0,0))∧P8 wr (fun k=>w.heap.size≤k∧k≠w.heap.size∧k≠w.heap.size+1∧k≠g) f (pRw kCel 107 (u1) (x.cells.take k)) (pRw kWy 112 (.slice none 0 0) ([])) (pRw kSlt 121 (.slice none 0 0) ([])) (pRw Zda 90 (.slice none 0 0) ([])) Zbw Zbw Zbw Zbw∧Below w.heap.size w wr) (fun i _=>x.cells.length-(intOf i).toNat)
 case atStart=>exact ⟨0,_,_,Nat.zero_le _,rfl,Ng,Nr,Np,HN,HB⟩
 case round =>
  clear Ng Nr Np HN HB
  obtain ⟨k,u1,f,hk,rfl,Ng,Nr,Np,HN,HB⟩:=hrel
  have hgl:=Zao Ng
  by_cases hlt:k<x.cells.length
  ·obtain ⟨z,hz⟩:=Zar x.cells hlt
   obtain ⟨ad,D1,g1,eA,z0,z1,z2,z3,z4,m1,s1⟩:=Zed r1 hz
   subst eA
   have hml:=hsm1 k z hz
   replace z0:=Zaa HB z0
   replace z1:=Zaa HB z1
   replace z2:=Zaa HB z2
   replace z3:=Zaa HB z3
   replace z4:=Zaa HB z4
   have s1:=Zac s1 HB
   obtain ⟨-,-,-,p3⟩:=cellsP4 Np
   go_upto_region 5 with (fail)
   change Code.wp _ _ _ _ (wr.alloc (.cells #[.int .i64 z.node,.int .i64 z.lvl,.int .i64 z.marks,.bool z.again,.slice D1 z.code.length g1] 107))
   replace Ng:=Zal Ng (.cells #[.int .i64 z.node,.int .i64 z.lvl,.int .i64 z.marks,.bool z.again,.slice D1 z.code.length g1] 107)
   replace Nr:=Zal Nr (.cells #[.int .i64 z.node,.int .i64 z.lvl,.int .i64 z.marks,.bool z.again,.slice D1 z.code.length g1] 107)
   replace Np:=Zal Np (.cells #[.int .i64 z.node,.int .i64 z.lvl,.int .i64 z.marks,.bool z.again,.slice D1 z.code.length g1] 107)
   have Ny:=Zas wr (.cells #[.int .i64 z.node,.int .i64 z.lvl,.int .i64 z.marks,.bool z.again,.slice D1 z.code.length g1] 107)
   have hal:Below wr.heap.size wr (wr.alloc (.cells #[.int .i64 z.node,.int .i64 z.lvl,.int .i64 z.marks,.bool z.again,.slice D1 z.code.length g1] 107)):=(brf_).alloc nlr_ _
   have s1:=Zac s1 hal
   generalize hgy:wr.heap.size=gy at *
   have hgl:g<gy:=by omega
   replace HB:=HB.alloc HB.size (.cells #[.int .i64 z.node,.int .i64 z.lvl,.int .i64 z.marks,.bool z.again,.slice D1 z.code.length g1] 107)
   have HN:P8 (wr.alloc (.cells #[.int .i64 z.node,.int .i64 z.lvl,.int .i64 z.marks,.bool z.again,.slice D1 z.code.length g1] 107)) (fun k=>w.heap.size≤k∧k≠w.heap.size∧k≠w.heap.size+1∧k≠g∧k≠gy) f (pRw kCel 107 (u1) (x.cells.take k)) (pRw kWy 112 (.slice none 0 0) ([])) (pRw kSlt 121 (.slice none 0 0) ([])) (pRw Zda 90 (.slice none 0 0) ([])) Zbw Zbw Zbw Zbw:=HN.skip (fun k _ hl=>Below.heap_alloc _ _ _ hl) (fun k hk hl=>by (try dsimp only at hk ⊢);omega)
   generalize wr.alloc (.cells #[.int .i64 z.node,.int .i64 z.lvl,.int .i64 z.marks,.bool z.again,.slice D1 z.code.length g1] 107)=W1 at *
   have hyl:=Zao Ny
   clear z0 z1 z2 z3 z4 p3 hal
   obtain ⟨-,-,-,-,e4⟩:=cellsP5 Ny
   go_upto_region 6 with ((with_reducible refine Zfo (b:=.append) (xs:=#[.const (Value.slice none 0 0),.tmp 25]) rfl ?_);at_builtin;(refine Zdi kOrd fOrd (w0:=W1) rfl (.const (Value.slice none 0 0)) (.tmp 25) 105 181 _ _ rfl Tryz.underlying105 iOrd rfl (by decide) (by omega) (.slice none 0 0) [] z.code D1 g1 (fun k=>W1.heap.size≤k) rfl rfl (Zbq _ _ _ _) (s1) ?aS ?aF ?aB ?aL ?_);(case aS=>exact fun _ h=>h);(case aF=>exact fun b h=>Nat.le_trans ((Below.refl W1.heap.size W1)).size h);(case aB=>exact (Below.refl W1.heap.size W1));(case aL=>simp;omega);intro v1 w1 hR1 hb1 hg1 hat1;obtain ⟨Bv,Lv,dv,rfl⟩:=Zba hR1;have Ny1:=Zab Ny hb1;obtain ⟨-,-,-,-,e6⟩:=cellsP5 Ny1;have f6:=Zad Ny1 4)
   have Ng2:=Zav (p:=⟨gy,4,none⟩) (Zab Ng hb1) (show g≠gy by omega) (.slice Bv Lv dv)
   have Nr2:=Zav (p:=⟨gy,4,none⟩) (Zab Nr hb1) (show w.heap.size+1≠gy by omega) (.slice Bv Lv dv)
   have Np2:=Zav (p:=⟨gy,4,none⟩) (Zab Np hb1) (show w.heap.size≠gy by omega) (.slice Bv Lv dv)
   have Ny2:(w1.setCell ⟨gy,4,none⟩ (.slice Bv Lv dv)).heap[gy]? = some (.cells #[.int .i64 z.node,.int .i64 z.lvl,.int .i64 z.marks,.bool z.again,.slice Bv Lv dv] 107 (0,0)):=Zau Ny1 4 (.slice Bv Lv dv)
   have hR2:Rw kOrd 181 (w1.setCell ⟨gy,4,none⟩ (.slice Bv Lv dv)) (fun k=>W1.heap.size≤k) (.slice Bv Lv dv) z.code:=Zah (by simpa using hR1) (fun k hk _=>Below.heap_setCell w1 ⟨gy,4,none⟩ _ k (by (try dsimp only at hk ⊢);omega))
   have HB2:=Zak (j:=4) (v:=.slice Bv Lv dv) (HB.trans (hb1.mono HB.size)) (show w.heap.size≤gy by omega)
   have HN2:=HN.skipf (w1:=(w1.setCell ⟨gy,4,none⟩ (.slice Bv Lv dv))) (T:=fun k=>w.heap.size≤k∧k≠w.heap.size∧k≠w.heap.size+1∧k≠g∧k≠gy) (g:=lab W1.heap.size f 0) (fun k hk hl=>(Below.heap_setCell w1 ⟨gy,4,none⟩ (.slice Bv Lv dv) k (by (try dsimp only at hk ⊢);omega)).trans (hb1.block k hl)) (fun _ hk _=>hk) (fun k _ hl=>Zfq hl)
   have hR3:=Zaf hR2
   have hs12:W1.heap.size≤(w1.setCell ⟨gy,4,none⟩ (.slice Bv Lv dv)).heap.size:=by have:=hb1.size;simpa [World.setCell] using this
   have HO:Rw kCel 107 (w1.setCell ⟨gy,4,none⟩ (.slice Bv Lv dv)) (fun k=>((fun k=>w.heap.size≤k∧k≠w.heap.size∧k≠w.heap.size+1∧k≠g∧k≠gy) k∧((k<(w1.setCell ⟨gy,4,none⟩ (.slice Bv Lv dv)).heap.size∧lab W1.heap.size f 0 k=0)∨(w1.setCell ⟨gy,4,none⟩ (.slice Bv Lv dv)).heap.size≤k))∧¬(W1.heap.size≤k∧k<(w1.setCell ⟨gy,4,none⟩ (.slice Bv Lv dv)).heap.size)) (u1) (x.cells.take k):=Zae (Zah (Zaf HN.r0) (fun k hk _=>(Below.heap_setCell w1 ⟨gy,4,none⟩ (.slice Bv Lv dv) k (by have:=hk.1.1;(try dsimp only at this ⊢);omega)).trans (hb1.block k hk.2))) (fun k hk=>⟨⟨hk.1.1,Or.inl ⟨by omega,by rw [Zfq hk.2];exact hk.1.2⟩⟩,by omega⟩)
   clear Ng Nr Np Ny Ny1 HB HN hR1 hR2 hb1 hg1 hat1 e4 e6 f6 s1
   generalize (w1.setCell ⟨gy,4,none⟩ (.slice Bv Lv dv))=W2 at *
   obtain ⟨y0,y1,y2,y3,y4⟩:=cellsP5 Ny2
   obtain ⟨-,-,-,c3⟩:=cellsP4 Ng2
   have hob:∀ q,(u1:Value).ownBlock=some q→(fun k=>w.heap.size≤k∧k≠w.heap.size∧k≠w.heap.size+1∧k≠g∧k≠gy) q∧lab W1.heap.size f 0 q=0:=fun q e=>((Zca HN2.r0) q e).1
   go_wp2_with ((with_reducible refine Zfo (b:=.append) (xs:=#[.tmp 29,.tmp 31]) rfl ?_);at_builtin;(refine Zdg kCel (w0:=w) rfl (.tmp 29) (.tmp 31) 29 107 _ _ rfl Tryz.underlying29 iCel rfl (by decide) (by omega) (u1) (x.cells.take k) z [.int .i64 z.node,.int .i64 z.lvl,.int .i64 z.marks,.bool z.again,.slice Bv Lv dv] (fun k=>(fun k=>w.heap.size≤k∧k≠w.heap.size∧k≠w.heap.size+1∧k≠g∧k≠gy) k∧((k<W2.heap.size∧lab W1.heap.size f 0 k=0)∨W2.heap.size≤k)) (fun k=>W1.heap.size≤k∧k<W2.heap.size) rfl rfl (Zva hR3) HO ?aT ?aS ?aF HB2 ?aL ?_);(case aT=>exact fun k hk=>⟨by (try dsimp only);omega,Or.inl ⟨hk.2,Zta hk.1⟩⟩);(case aS=>exact fun k hk=>hk.1.1);(case aF=>exact fun k hk=>⟨by (try dsimp only);omega,Or.inr hk⟩);(case aL=>simp;omega);intro v2 w2 hR4 HB3 hgr hat;obtain ⟨B,L9,d,rfl⟩:=Zba hR4;have Ng3:=Zch Ng2 hgr (fun e=>by have:=(hob _ e.symm).1;(try dsimp only at this);omega);have Nr3:=Zch Nr2 hgr (fun e=>by have:=(hob _ e.symm).1;(try dsimp only at this);omega);have Np3:=Zch Np2 hgr (fun e=>by have:=(hob _ e.symm).1;(try dsimp only at this);omega);obtain ⟨-,-,-,e7⟩:=cellsP4 Ng3;have f7:=Zad Ng3 3)
   have HN3:=(HN2.app0 brf_ hgr (fun q e=>(hob q e).2) (pcRw _ _ _ _) hR4).skip (w1:=w2.setCell ⟨g,3,none⟩ (.slice B L9 d)) (T:=fun k=>w.heap.size≤k∧k≠w.heap.size∧k≠w.heap.size+1∧k≠g) (fun b_ hk _=>Below.heap_setCell w2 ⟨g,3,none⟩ (.slice B L9 d) b_ (by (try dsimp only at hk ⊢);omega)) (fun k hk _=>⟨hk.1,hk.2.1,hk.2.2.1,hk.2.2.2.1⟩)
   refine ⟨⟨k+1,_,_,by omega,rfl,Zau Ng3 3 (.slice B L9 d),Zav (p:=⟨g,3,none⟩) Nr3 (show w.heap.size+1≠g by omega) (.slice B L9 d),Zav (p:=⟨g,3,none⟩) Np3 (show w.heap.size≠g by omega) (.slice B L9 d),by rw [List.take_succ_eq_append_getElem hlt,← (List.getElem?_eq_some_iff.1 hz).2] at *;exact HN3,Zak (j:=3) (v:=.slice B L9 d) HB3 (show w.heap.size≤g by omega)⟩, ?_⟩
   simp [intOf]
   omega
  ·have e:k=x.cells.length:=by omega
   subst e
   rw [List.take_length] at HN
   obtain ⟨-,-,-,-,p4⟩:=cellsP5 Np
   go_wp2
   clear p4
   go_loopw [38] (fun i wr=>∃ (k:Nat) (u1 u2:Value) (f:Nat→Nat),k≤x.ways.length∧i=.int .i64 k∧wr.heap[g]? = some (.cells #[.int .i64 x.nodes,.int .i64 x.secret,.int .i64 x.fuel,u1,u2,.slice none 0 0,.slice none 0 0] 33 (0,0))∧wr.heap[w.heap.size+1]? = some (.cells #[.int .i64 0,.int .i64 0,.int .i64 0,.slice none 0 0,.slice none 0 0,.slice none 0 0,.slice none 0 0] 33 (0,0))∧wr.heap[w.heap.size]? = some (.cells #[.int .i64 x.nodes,.int .i64 x.secret,.int .i64 x.fuel,.slice A1 x.cells.length c1,.slice A2 x.ways.length c2,.slice A3 x.slots.length c3,.slice A4 x.turns.length c4] 33 (0,0))∧P8 wr (fun k=>w.heap.size≤k∧k≠w.heap.size∧k≠w.heap.size+1∧k≠g) f (pRw kCel 107 (u1) (x.cells)) (pRw kWy 112 (u2) (x.ways.take k)) (pRw kSlt 121 (.slice none 0 0) ([])) (pRw Zda 90 (.slice none 0 0) ([])) Zbw Zbw Zbw Zbw∧Below w.heap.size w wr) (fun i _=>x.ways.length-(intOf i).toNat)
   case atStart=>exact ⟨0,_,_,_,Nat.zero_le _,rfl,Ng,Nr,Np,HN,HB⟩
   case round =>
    clear Ng Nr Np HN HB hgl hlt hk
    obtain ⟨k,u1,u2,f,hk,rfl,Ng,Nr,Np,HN,HB⟩:=hrel
    have hgl:=Zao Ng
    by_cases hlt:k<x.ways.length
    ·obtain ⟨z,hz⟩:=Zar x.ways hlt
     obtain ⟨ad,D1,g1,eA,z0,z1,z2,z3,z4,m1,s1⟩:=Zhc r2 hz
     subst eA
     have hml:=hsm2 k z hz
     replace z0:=Zaa HB z0
     replace z1:=Zaa HB z1
     replace z2:=Zaa HB z2
     replace z3:=Zaa HB z3
     replace z4:=Zaa HB z4
     have s1:=Zac s1 HB
     obtain ⟨-,-,-,-,p4⟩:=cellsP5 Np
     go_upto_region 11 with (fail)
     change Code.wp _ _ _ _ (wr.alloc (.cells #[.int .i64 z.frm,.int .i64 z.dst,.int .i64 z.depth,.bool z.guarded,.slice D1 z.guard.length g1] 112))
     replace Ng:=Zal Ng (.cells #[.int .i64 z.frm,.int .i64 z.dst,.int .i64 z.depth,.bool z.guarded,.slice D1 z.guard.length g1] 112)
     replace Nr:=Zal Nr (.cells #[.int .i64 z.frm,.int .i64 z.dst,.int .i64 z.depth,.bool z.guarded,.slice D1 z.guard.length g1] 112)
     replace Np:=Zal Np (.cells #[.int .i64 z.frm,.int .i64 z.dst,.int .i64 z.depth,.bool z.guarded,.slice D1 z.guard.length g1] 112)
     have Ny:=Zas wr (.cells #[.int .i64 z.frm,.int .i64 z.dst,.int .i64 z.depth,.bool z.guarded,.slice D1 z.guard.length g1] 112)
     have hal:Below wr.heap.size wr (wr.alloc (.cells #[.int .i64 z.frm,.int .i64 z.dst,.int .i64 z.depth,.bool z.guarded,.slice D1 z.guard.length g1] 112)):=(brf_).alloc nlr_ _
     have s1:=Zac s1 hal
     generalize hgy:wr.heap.size=gy at *
     have hgl:g<gy:=by omega
     replace HB:=HB.alloc HB.size (.cells #[.int .i64 z.frm,.int .i64 z.dst,.int .i64 z.depth,.bool z.guarded,.slice D1 z.guard.length g1] 112)
     have HN:P8 (wr.alloc (.cells #[.int .i64 z.frm,.int .i64 z.dst,.int .i64 z.depth,.bool z.guarded,.slice D1 z.guard.length g1] 112)) (fun k=>w.heap.size≤k∧k≠w.heap.size∧k≠w.heap.size+1∧k≠g∧k≠gy) f (pRw kCel 107 (u1) (x.cells)) (pRw kWy 112 (u2) (x.ways.take k)) (pRw kSlt 121 (.slice none 0 0) ([])) (pRw Zda 90 (.slice none 0 0) ([])) Zbw Zbw Zbw Zbw:=HN.skip (fun k _ hl=>Below.heap_alloc _ _ _ hl) (fun k hk hl=>by (try dsimp only at hk ⊢);omega)
     generalize wr.alloc (.cells #[.int .i64 z.frm,.int .i64 z.dst,.int .i64 z.depth,.bool z.guarded,.slice D1 z.guard.length g1] 112)=W1 at *
     have hyl:=Zao Ny
     clear z0 z1 z2 z3 z4 p4 hal
     obtain ⟨-,-,-,-,e4⟩:=cellsP5 Ny
     go_upto_region 12 with ((with_reducible refine Zfo (b:=.append) (xs:=#[.const (Value.slice none 0 0),.tmp 43]) rfl ?_);at_builtin;(refine Zdi kRul fRul (w0:=W1) rfl (.const (Value.slice none 0 0)) (.tmp 43) 110 183 _ _ rfl Tryz.underlying110 iRul rfl (by decide) (by omega) (.slice none 0 0) [] z.guard D1 g1 (fun k=>W1.heap.size≤k) rfl rfl (Zbq _ _ _ _) (s1) ?aS ?aF ?aB ?aL ?_);(case aS=>exact fun _ h=>h);(case aF=>exact fun b h=>Nat.le_trans ((Below.refl W1.heap.size W1)).size h);(case aB=>exact (Below.refl W1.heap.size W1));(case aL=>simp;omega);intro v1 w1 hR1 hb1 hg1 hat1;obtain ⟨Bv,Lv,dv,rfl⟩:=Zba hR1;have Ny1:=Zab Ny hb1;obtain ⟨-,-,-,-,e6⟩:=cellsP5 Ny1;have f6:=Zad Ny1 4)
     have Ng2:=Zav (p:=⟨gy,4,none⟩) (Zab Ng hb1) (show g≠gy by omega) (.slice Bv Lv dv)
     have Nr2:=Zav (p:=⟨gy,4,none⟩) (Zab Nr hb1) (show w.heap.size+1≠gy by omega) (.slice Bv Lv dv)
     have Np2:=Zav (p:=⟨gy,4,none⟩) (Zab Np hb1) (show w.heap.size≠gy by omega) (.slice Bv Lv dv)
     have Ny2:(w1.setCell ⟨gy,4,none⟩ (.slice Bv Lv dv)).heap[gy]? = some (.cells #[.int .i64 z.frm,.int .i64 z.dst,.int .i64 z.depth,.bool z.guarded,.slice Bv Lv dv] 112 (0,0)):=Zau Ny1 4 (.slice Bv Lv dv)
     have hR2:Rw kRul 183 (w1.setCell ⟨gy,4,none⟩ (.slice Bv Lv dv)) (fun k=>W1.heap.size≤k) (.slice Bv Lv dv) z.guard:=Zah (by simpa using hR1) (fun k hk _=>Below.heap_setCell w1 ⟨gy,4,none⟩ _ k (by (try dsimp only at hk ⊢);omega))
     have HB2:=Zak (j:=4) (v:=.slice Bv Lv dv) (HB.trans (hb1.mono HB.size)) (show w.heap.size≤gy by omega)
     have HN2:=HN.skipf (w1:=(w1.setCell ⟨gy,4,none⟩ (.slice Bv Lv dv))) (T:=fun k=>w.heap.size≤k∧k≠w.heap.size∧k≠w.heap.size+1∧k≠g∧k≠gy) (g:=lab W1.heap.size f 1) (fun k hk hl=>(Below.heap_setCell w1 ⟨gy,4,none⟩ (.slice Bv Lv dv) k (by (try dsimp only at hk ⊢);omega)).trans (hb1.block k hl)) (fun _ hk _=>hk) (fun k _ hl=>Zfq hl)
     have hR3:=Zaf hR2
     have hs12:W1.heap.size≤(w1.setCell ⟨gy,4,none⟩ (.slice Bv Lv dv)).heap.size:=by have:=hb1.size;simpa [World.setCell] using this
     have HO:Rw kWy 112 (w1.setCell ⟨gy,4,none⟩ (.slice Bv Lv dv)) (fun k=>((fun k=>w.heap.size≤k∧k≠w.heap.size∧k≠w.heap.size+1∧k≠g∧k≠gy) k∧((k<(w1.setCell ⟨gy,4,none⟩ (.slice Bv Lv dv)).heap.size∧lab W1.heap.size f 1 k=1)∨(w1.setCell ⟨gy,4,none⟩ (.slice Bv Lv dv)).heap.size≤k))∧¬(W1.heap.size≤k∧k<(w1.setCell ⟨gy,4,none⟩ (.slice Bv Lv dv)).heap.size)) (u2) (x.ways.take k):=Zae (Zah (Zaf HN.r1) (fun k hk _=>(Below.heap_setCell w1 ⟨gy,4,none⟩ (.slice Bv Lv dv) k (by have:=hk.1.1;(try dsimp only at this ⊢);omega)).trans (hb1.block k hk.2))) (fun k hk=>⟨⟨hk.1.1,Or.inl ⟨by omega,by rw [Zfq hk.2];exact hk.1.2⟩⟩,by omega⟩)
     clear Ng Nr Np Ny Ny1 HB HN hR1 hR2 hb1 hg1 hat1 e4 e6 f6 s1
     generalize (w1.setCell ⟨gy,4,none⟩ (.slice Bv Lv dv))=W2 at *
     obtain ⟨y0,y1,y2,y3,y4⟩:=cellsP5 Ny2
     obtain ⟨-,-,-,-,c4⟩:=cellsP5 Ng2
     have hob:∀ q,(u2:Value).ownBlock=some q→(fun k=>w.heap.size≤k∧k≠w.heap.size∧k≠w.heap.size+1∧k≠g∧k≠gy) q∧lab W1.heap.size f 1 q=1:=fun q e=>((Zca HN2.r1) q e).1
     go_wp2_with ((with_reducible refine Zfo (b:=.append) (xs:=#[.tmp 47,.tmp 49]) rfl ?_);at_builtin;(refine Zdg kWy (w0:=w) rfl (.tmp 47) (.tmp 49) 30 112 _ _ rfl Tryz.underlying30 iWy rfl (by decide) (by omega) (u2) (x.ways.take k) z [.int .i64 z.frm,.int .i64 z.dst,.int .i64 z.depth,.bool z.guarded,.slice Bv Lv dv] (fun k=>(fun k=>w.heap.size≤k∧k≠w.heap.size∧k≠w.heap.size+1∧k≠g∧k≠gy) k∧((k<W2.heap.size∧lab W1.heap.size f 1 k=1)∨W2.heap.size≤k)) (fun k=>W1.heap.size≤k∧k<W2.heap.size) rfl rfl (Zxc hR3) HO ?aT ?aS ?aF HB2 ?aL ?_);(case aT=>exact fun k hk=>⟨by (try dsimp only);omega,Or.inl ⟨hk.2,Zta hk.1⟩⟩);(case aS=>exact fun k hk=>hk.1.1);(case aF=>exact fun k hk=>⟨by (try dsimp only);omega,Or.inr hk⟩);(case aL=>simp;omega);intro v2 w2 hR4 HB3 hgr hat;obtain ⟨B,L9,d,rfl⟩:=Zba hR4;have Ng3:=Zch Ng2 hgr (fun e=>by have:=(hob _ e.symm).1;(try dsimp only at this);omega);have Nr3:=Zch Nr2 hgr (fun e=>by have:=(hob _ e.symm).1;(try dsimp only at this);omega);have Np3:=Zch Np2 hgr (fun e=>by have:=(hob _ e.symm).1;(try dsimp only at this);omega);obtain ⟨-,-,-,-,e7⟩:=cellsP5 Ng3;have f7:=Zad Ng3 4)
     have HN3:=(HN2.app1 brf_ hgr (fun q e=>(hob q e).2) (pcRw _ _ _ _) hR4).skip (w1:=w2.setCell ⟨g,4,none⟩ (.slice B L9 d)) (T:=fun k=>w.heap.size≤k∧k≠w.heap.size∧k≠w.heap.size+1∧k≠g) (fun b_ hk _=>Below.heap_setCell w2 ⟨g,4,none⟩ (.slice B L9 d) b_ (by (try dsimp only at hk ⊢);omega)) (fun k hk _=>⟨hk.1,hk.2.1,hk.2.2.1,hk.2.2.2.1⟩)
     refine ⟨⟨k+1,_,_,_,by omega,rfl,Zau Ng3 4 (.slice B L9 d),Zav (p:=⟨g,4,none⟩) Nr3 (show w.heap.size+1≠g by omega) (.slice B L9 d),Zav (p:=⟨g,4,none⟩) Np3 (show w.heap.size≠g by omega) (.slice B L9 d),by rw [List.take_succ_eq_append_getElem hlt,← (List.getElem?_eq_some_iff.1 hz).2] at *;exact HN3,Zak (j:=4) (v:=.slice B L9 d) HB3 (show w.heap.size≤g by omega)⟩, ?_⟩
     simp [intOf]
     omega
    ·have e:k=x.ways.length:=by omega
     subst e
     rw [List.take_length] at HN
     obtain ⟨-,-,-,-,-,p5⟩:=cellsP6 Np
     obtain ⟨-,-,-,-,-,c5⟩:=cellsP6 Ng
     go_upto_region 15 with ((with_reducible refine Zfo (b:=.append) (xs:=#[.tmp 54,.tmp 56]) rfl ?_);at_builtin;(refine Zdi kSlt fSlt (w0:=wr) rfl (.tmp 54) (.tmp 56) 31 121 _ _ rfl Tryz.underlying31 iSlt rfl (by decide) (by omega) (.slice none 0 0) [] x.slots A3 c3 (fun k=>wr.heap.size≤k) rfl rfl (Zbq _ _ _ _) (Zac r3 HB) ?aS ?aF ?aB ?aL ?_);(case aS=>exact fun _ h=>h);(case aF=>exact fun b h=>Nat.le_trans ((Below.refl wr.heap.size wr)).size h);(case aB=>exact (Below.refl wr.heap.size wr));(case aL=>simp;omega);intro v1 w1 hR1 hb1 hg1 hat1;obtain ⟨B,L9,d,rfl⟩:=Zba hR1;have Ng1:=Zab Ng hb1;obtain ⟨-,-,-,-,-,e6⟩:=cellsP6 Ng1;have f6:=Zad Ng1 5)
     have HN2:=(HN.app2 brf_ hg1 (fun k e=>by cases e) (pcRw _ _ _ _) (Zae (show Rw kSlt 121 w1 _ _ x.slots by simpa using hR1) (fun k hk=>⟨by (try dsimp only at hk ⊢);omega,Or.inr hk⟩))).step (w1:=w1.setCell ⟨g,5,none⟩ (.slice B L9 d)) (fun b_ hk _=>Below.heap_setCell w1 ⟨g,5,none⟩ (.slice B L9 d) b_ (by (try dsimp only at hk ⊢);omega))
     have Ng2:(w1.setCell ⟨g,5,none⟩ (.slice B L9 d)).heap[g]? = some (.cells #[.int .i64 x.nodes,.int .i64 x.secret,.int .i64 x.fuel,u1,u2,.slice B L9 d,.slice none 0 0] 33 (0,0)):=Zau Ng1 5 _
     have Nr2:=Zav (p:=⟨g,5,none⟩) (Zab Nr hb1) (show w.heap.size+1≠g by omega) (.slice B L9 d)
     have Np2:=Zav (p:=⟨g,5,none⟩) (Zab Np hb1) (show w.heap.size≠g by omega) (.slice B L9 d)
     have HB2:=Zak (j:=5) (v:=.slice B L9 d) (HB.trans (hb1.mono HB.size)) (show w.heap.size≤g by omega)
     clear Ng Nr Np HN HB Ng1 hR1 hb1 hg1 hat1 e6 f6 p5 c5 hk hlt
     generalize w1.setCell ⟨g,5,none⟩ (.slice B L9 d)=W2 at *
     generalize Value.slice B L9 d=u3 at *
     obtain ⟨-,-,-,-,-,-,p6⟩:=cellsP7 Np2
     go_wp2
     clear p6
     go_loopw [62] (fun i wr=>∃ (k:Nat) (u4:Value) (f:Nat→Nat),k≤x.turns.length∧i=.int .i64 k∧wr.heap[g]? = some (.cells #[.int .i64 x.nodes,.int .i64 x.secret,.int .i64 x.fuel,u1,u2,u3,u4] 33 (0,0))∧wr.heap[w.heap.size+1]? = some (.cells #[.int .i64 0,.int .i64 0,.int .i64 0,.slice none 0 0,.slice none 0 0,.slice none 0 0,.slice none 0 0] 33 (0,0))∧wr.heap[w.heap.size]? = some (.cells #[.int .i64 x.nodes,.int .i64 x.secret,.int .i64 x.fuel,.slice A1 x.cells.length c1,.slice A2 x.ways.length c2,.slice A3 x.slots.length c3,.slice A4 x.turns.length c4] 33 (0,0))∧P8 wr (fun k=>w.heap.size≤k∧k≠w.heap.size∧k≠w.heap.size+1∧k≠g) f (pRw kCel 107 (u1) (x.cells)) (pRw kWy 112 (u2) (x.ways)) (pRw kSlt 121 (u3) (x.slots)) (pRw Zda 90 (u4) (x.turns.take k)) Zbw Zbw Zbw Zbw∧Below w.heap.size w wr) (fun i _=>x.turns.length-(intOf i).toNat)
     case atStart=>exact ⟨0,_,_,Nat.zero_le _,rfl,Ng2,Nr2,Np2,HN2,HB2⟩
     case round =>
      clear Ng2 Nr2 Np2 HN2 HB2 hgl
      obtain ⟨k,u4,f,hk,rfl,Ng,Nr,Np,HN,HB⟩:=hrel
      have hgl:=Zao Ng
      by_cases hlt:k<x.turns.length
      ·obtain ⟨z,hz⟩:=Zar x.turns hlt
       obtain ⟨ad,D1,g1,eA,y0,m1,s1⟩:=Zhb r4 hz
       subst eA
       replace y0:=Zaa HB y0
       have hml:=hsm4 k z hz
       go_upto_region 18 with (fail)
       refine Zcf 8 u4.ownBlock [7] (by kernel_rfl) rfl rfl ?_
       intro Wd hd hs
       have Ng_d:=Zab Ng hd
       have Np_d:=Zab Np hd
       have Nr_d:=Zab Nr hd
       have HNd:=HN.step (w1:=Wd) (fun k _ hl=>hd.block k hl)
       have hgu:some g≠u4.ownBlock:=fun e=>by have:=((Zca HN.r3) _ e.symm).1;(try dsimp only at this);omega
       have HB_d:=HB.trans (hd.mono HB.size)
       refine head2 8 0 66 67 3 25 33 6 6 g (u:=u4) ⟨rfl,rfl⟩ (by kernel_rfl) ⟨rfl,rfl,rfl⟩ ⟨rfl,rfl,rfl⟩ rfl (show 66<75 by decide) (fun w1=>by go_simp) (fun w1 h=>by go_simp) (fun w1 hk=>hk.cell Ng_d hgu rfl) (Zbc.refl _ _) (fun _ _ _ d _ h=>by cases d <;> exact h) ?_
       refine Zbb (by simp only [Act.put,pkA,pkB,pkC];rfl) ?_
       refine mv1 8 2 68 9 rfl (by kernel_rfl) ⟨rfl,rfl,rfl⟩ rfl (fun _ _ _ d _ h=>by cases d <;> exact h) ?_
       refine Zbb (by simp only [Act.put,pkA,pkB,pkC];rfl) ?_
       refine Zdt 8 3 69 (fun v w1=>Rw kInt 3 w1 (fun k=>Wd.heap.size≤k) v z) rfl (by decide) (by kernel_rfl) rfl rfl rfl Tryz.func112 (by kernel_rfl) rfl #[.slice D1 z.length g1] (by (try simp only [List.map_toArray,List.map_cons,List.map_nil]);first | done | rfl) ((Zea D1 g1 z Wd (Zac (Zac s1 HB) hd) hml).mono (fun e w9 h=>⟨match h.1 with | ⟨v,he,ho⟩=>⟨v,he,ho⟩,h.2⟩)) (Zbc.refl _ _) nlr_ ?_
       rintro v w1 hv hb1 hk1
       obtain ⟨Bv,Lv,dv,rfl⟩:=Zba hv
       have hp:=Ztn hv
       refine Zbb (by simp only [Act.put,pkA,pkB,pkC];rfl) ?_
       have HB_1:=HB_d.trans (hb1.mono HB_d.size)
       have hsz1:=hb1.size
       refine Zcl Zda (w0:=w) 8 4 67 69 70 71 72 3 25 90 33 6 6 75 g (u:=u4) (xs:=x.turns.take k) (fun k=>(fun k=>w.heap.size≤k∧k≠w.heap.size∧k≠w.heap.size+1∧k≠g) k∧((k<Wd.heap.size∧f k=3)∨Wd.heap.size≤k)) (fun k=>Wd.heap.size≤k) ⟨rfl,rfl,rfl,rfl⟩ (by kernel_rfl) ⟨rfl,rfl,rfl⟩ ⟨rfl,rfl,rfl⟩ ⟨rfl,rfl,rfl⟩ ⟨rfl,rfl,rfl⟩ rfl (by decide) rfl rfl (fun w1=>by go_simp <;> (constructor <;> rfl)) (fun w1=>by go_simp) Tryz.underlying25 Zzk rfl (by decide) (by omega) (fun _=>by go_simp) hp ?aO ?aT ?aS ?aF HB_1 ?aL hk1 hb1.size Ng_d (show 6<7 by decide) hgu (fun _ _ _ d _ h=>by cases d <;> exact h) ?_
       (case aO=>exact Zae (Zaj (Zaf HNd.r3) hb1) (fun k hk=>by (try dsimp only at hk ⊢);omega))
       (case aT=>exact fun k hk=>by (try dsimp only at hk ⊢);omega)
       (case aS=>exact fun k hk=>by (try dsimp only at hk ⊢);omega)
       (case aF=>exact fun k hk=>by (try dsimp only at hk ⊢);omega)
       (case aL=>simp;omega)
       rintro B L9 d w2 vA vB-hR HB2 hgr hk2 -
       have hob:=fun q (e:u4.ownBlock=some q)=>((Zca HNd.r3) q e).1
       have HN3:=(HNd.app3 hb1 hgr (fun q e=>(hob q e).2) (pcRw _ _ _ _) hR).step (w1:=w2.setCell ⟨g,6,none⟩ (.slice B L9 d)) (fun b_ hk _=>Below.heap_setCell w2 ⟨g,6,none⟩ (.slice B L9 d) b_ (by (try dsimp only at hk ⊢);omega))
       have Ng3:=Zau ((hk2 g (Zao Ng_d) hgu).trans Ng_d) 6 (.slice B L9 d)
       have Nr3:=Zav (p:=⟨g,6,none⟩) ((hk2 _ (Zao Nr_d) (fun e=>by have:=(hob _ e.symm).1;(try dsimp only at this);omega)).trans Nr_d) (show w.heap.size+1≠g by omega) (.slice B L9 d)
       have Np3:=Zav (p:=⟨g,6,none⟩) ((hk2 _ (Zao Np_d) (fun e=>by have:=(hob _ e.symm).1;(try dsimp only at this);omega)).trans Np_d) (show w.heap.size≠g by omega) (.slice B L9 d)
       have HB3:=Zak (j:=6) (v:=.slice B L9 d) HB2 (show w.heap.size≤g by omega)
       simp only [Act.put,pkA,pkB,pkC]
       clear HN HNd HB Ng Nr Np Ng_d Nr_d Np_d hd hs hb1 hk1 hp hv HB_d HB_1 hk2 hgr hR y0 hob HB2
       go_wp2
       refine ⟨⟨k+1,_,_,by omega,rfl,Ng3,Nr3,Np3,by rw [List.take_succ_eq_append_getElem hlt,← (List.getElem?_eq_some_iff.1 hz).2] at *;exact HN3,HB3⟩, ?_⟩
       simp [intOf]
       omega
      ·have e:k=x.turns.length:=by omega
       subst e
       rw [List.take_length] at HN
       obtain ⟨E0,L0,g0,rfl⟩:=Zba HN.r0
       obtain ⟨E1,L1,g1,rfl⟩:=Zba HN.r1
       obtain ⟨E2,L2,g2,rfl⟩:=Zba HN.r2
       obtain ⟨E3,L3,g3,rfl⟩:=Zba HN.r3
       go_wp2_with (refine Zen 33 3 2 74 g (w.heap.size+1) #[.int .i64 x.nodes,.int .i64 x.secret,.int .i64 x.fuel,.slice E0 L0 g0,.slice E1 L1 g1,.slice E2 L2 g2,.slice E3 L3 g3] #[.int .i64 0,.int .i64 0,.int .i64 0,.slice none 0 0,.slice none 0 0,.slice none 0 0,.slice none 0 0] 33 33 _ ⟨rfl,rfl,rfl⟩ ⟨rfl,rfl,rfl⟩ (by rw [← hg0];rfl) rfl (by decide) (show 74<75 by decide) Ng Nr Tryz.underlying33 rfl (by kernel_rfl) rfl (by simp [Value.oneCell']) ?_;intro w9 N9 hk)
       refine bodyPost_ret (results_cell_row rfl _ _ (w.heap.size+1) 33 #[.int .i64 x.nodes,.int .i64 x.secret,.int .i64 x.fuel,.slice E0 L0 g0,.slice E1 L1 g1,.slice E2 L2 g2,.slice E3 L3 g3] (0,0) _ rfl N9 Tryz.underlying33 rfl (by kernel_rfl)) rfl ?_
       have HF:=HN.step (w1:=w9) (fun b_ h hl=>hk.block b_ hl (fun e=>h.2.2.1 e))
       exact ⟨⟨_,rfl,Zui (fun k=>f k+3) (Zae HF.r0 (fun k hk=>⟨hk.1.1,by (try dsimp only);omega⟩)) (Zae HF.r1 (fun k hk=>⟨hk.1.1,by (try dsimp only);omega⟩)) (Zae HF.r2 (fun k hk=>⟨hk.1.1,by (try dsimp only);omega⟩)) (Zae HF.r3 (fun k hk=>⟨hk.1.1,by (try dsimp only);omega⟩))⟩,HB.trans ⟨hk.os,hk.tape,hk.output,hk.size,fun b_ hb=>hk.block b_ (by have:=HB.size;omega) (fun e=>by omega)⟩⟩
end Go.Proofs.YtaeckoinpllpnaaGreat
