/- Part 36 of the proof of its last text: this session's own texts, shortened and joined by a program of its own (wip/pack.py). -/
import Derived.Test.YtaeckoinpllpnaaGreatTbi
import Derived.Test.YtaeckoinpllpnaaGreatTad
set_option linter.unusedVariables false
set_option linter.unusedSimpArgs false
set_option maxHeartbeats 16000000
set_option maxRecDepth 100000
namespace Go.Proofs.YtaeckoinpllpnaaGreat
open Go.RowKit Go.Proofs.YtaeckoinpllpnaaGreatW.PrintWords
theorem Zob (x:Wy) (A1:Option Addr) (c1:Nat) (w:World) (hA1:Rd kRul w A1 x.guard) (hl1:x.guard.length≤1048576) :
  Calls Tryz.prog 59 #[.agg #[.int .i64 x.frm,.int .i64 x.dst,.int .i64 x.depth,.bool x.guarded,.slice A1 x.guard.length c1]] w fun e w'=>(∃ B1 d1,e=.returned (.agg #[.int .i64 x.frm,.int .i64 x.dst,.int .i64 x.depth,.bool x.guarded,.slice B1 x.guard.length d1])∧Own kWy w' (fun k=>w.heap.size≤k) x [.int .i64 x.frm,.int .i64 x.dst,.int .i64 x.depth,.bool x.guarded,.slice B1 x.guard.length d1])∧Below w.heap.size w w':=by
 go_enter Tryz.func59,Tryz.ntmps59
 go_wp2_with (first
  | (go_at_call 106;have hx1:=(((Below.refl w.heap.size w).alloc nlr_ (.cells #[.int .i64 x.frm,.int .i64 x.dst,.int .i64 x.depth,.bool x.guarded,.slice A1 x.guard.length c1] 88)).alloc (by simp) (.cells #[.int .i64 0,.int .i64 0,.int .i64 0,.bool false,.slice none 0 0] 112)).alloc (by simp;omega) (.cells #[.int .i64 x.frm,.int .i64 x.dst,.int .i64 x.depth,.bool x.guarded,.slice none 0 0] 112);refine (Zlk A1 c1 _ _ (Zac hA1 hx1) hl1).mono ?_;rintro e w1 ⟨⟨t1,rfl,hr1⟩,hb1⟩;obtain ⟨B1,d1,rfl,_,_⟩:=Zbl hr1;have hw1:=hx1.trans (hb1.mono hx1.size);have hs1:=hb1.size;simp only [Zcq] at hs1;have Na1:=Zab (Zal (Zal (Zas w (.cells #[.int .i64 x.frm,.int .i64 x.dst,.int .i64 x.depth,.bool x.guarded,.slice A1 x.guard.length c1] 88)) _) _) hb1;have Nr1:=Zab (Zal (Zbs (g:=w.heap.size+1) _ (.cells #[.int .i64 0,.int .i64 0,.int .i64 0,.bool false,.slice none 0 0] 112) (by simp)) _) hb1;have No1:=Zab (Zbs (g:=w.heap.size+1+1) _ (.cells #[.int .i64 x.frm,.int .i64 x.dst,.int .i64 x.depth,.bool x.guarded,.slice none 0 0] 112) (by simp)) hb1;have R1_1:=Zae (T:=fun b=>w.heap.size+1+1+1≤b∧b<w1.heap.size) (Zaf hr1) (fun b h2=>⟨(by have h3:=h2.1;simp only [Zcq] at h3;omega),h2.2⟩);obtain ⟨ea0,ea1,ea2,ea3,ea4⟩:=cellsP5 Na1;obtain ⟨eo0,eo1,eo2,eo3,eo4⟩:=cellsP5 No1;have fo0:=Zad No1 0;have fo1:=Zad No1 1;have fo2:=Zad No1 2;have fo3:=Zad No1 3;have fo4:=Zad No1 4;obtain ⟨er0,er1,er2,er3,er4⟩:=cellsP5 Nr1;have fr0:=Zad Nr1 0;have fr1:=Zad Nr1 1;have fr2:=Zad Nr1 2;have fr3:=Zad Nr1 3;have fr4:=Zad Nr1 4))
 refine bodyPost_ret (results_cell_row rfl _ _ (w.heap.size+1) 112 #[.int .i64 x.frm,.int .i64 x.dst,.int .i64 x.depth,.bool x.guarded,.slice B1 x.guard.length d1] (0,0) _ rfl (by exact (Zau (Zau (Zau (Zau (Zau (Zav (p:=⟨w.heap.size+1+1,4,none⟩) Nr1 (show w.heap.size+1≠w.heap.size+1+1 by omega) (.slice B1 x.guard.length d1)) 0 (.int .i64 x.frm)) 1 (.int .i64 x.dst)) 2 (.int .i64 x.depth)) 3 (.bool x.guarded)) 4 (.slice B1 x.guard.length d1))) Tryz.underlying112 rfl (by kernel_rfl)) rfl ?_
 have kF:=(((((((Kep.refl (fun b=>b=w.heap.size+1+1∨b=w.heap.size+1) w1).set (i:=4) (.inl rfl) (.slice B1 x.guard.length d1)).set (i:=0) (.inr rfl) (.int .i64 x.frm)).set (i:=1) (.inr rfl) (.int .i64 x.dst)).set (i:=2) (.inr rfl) (.int .i64 x.depth)).set (i:=3) (.inr rfl) (.bool x.guarded)).set (i:=4) (.inr rfl) (.slice B1 x.guard.length d1))
 have R1:=Zah R1_1 (fun b h2 hlt=>kF.block b hlt (fun e=>by omega))
 exact ⟨⟨B1,d1,rfl,(Zxc (Zae R1 (fun b h2=>by omega)))⟩,(Zak (g:=w.heap.size+1) (j:=4) (v:=.slice B1 x.guard.length d1) (Zak (g:=w.heap.size+1) (j:=3) (v:=.bool x.guarded) (Zak (g:=w.heap.size+1) (j:=2) (v:=.int .i64 x.depth) (Zak (g:=w.heap.size+1) (j:=1) (v:=.int .i64 x.dst) (Zak (g:=w.heap.size+1) (j:=0) (v:=.int .i64 x.frm) (Zak (g:=w.heap.size+1+1) (j:=4) (v:=.slice B1 x.guard.length d1) hw1 (by omega)) (by omega)) (by omega)) (by omega)) (by omega)) (by omega))⟩
theorem Zng (A:Option Addr) (c:Nat) (xs:List Wy) (w:World) (hA:Rd kWy w A xs) (hl:xs.length≤1048576) (hz:∀ (j:Nat) (x:Wy),xs[j]? = some x→x.guard.length≤1048576) :
  Calls Tryz.prog 20 #[.slice A xs.length c] w fun e w'=>(∃ v,e=.returned v∧Rw kWy 112 w' (fun k=>w.heap.size≤k) v xs)∧Below w.heap.size w w':=by
 obtain ⟨i0,hi,hzz⟩:=Option.map_eq_some_iff.1 iWy
 simp only [Prod.mk.injEq] at hzz
 obtain ⟨hz0,hz1,hz2⟩:=hzz
 have hmk:=run_make (P:=Tryz.prog) w 30 112 i0 _ Tryz.underlying30 hi hz0 .i64 .i64 (xs.length:Int) (xs.length:Int) (by omega) (by omega) (by rw [hz2];omega) (by omega)
 simp only [Int.toNat_natCast] at hmk
 rw [hz1] at hmk
 have R0:=Zgl (fs:=kWy) (e:=112) (S:=fun k=>w.heap.size≤k) w (.agg #[.int .i64 0,.int .i64 0,.int .i64 0,.bool false,.slice none 0 0]) xs.length zWy rfl (by decide) Zzm (by omega) nlr_
 have B0:Below w.heap.size w (w.alloc (.cells (madeCells (Value.cells (.agg #[.int .i64 0,.int .i64 0,.int .i64 0,.bool false,.slice none 0 0])) (xs.length*5)) 112)):=(brf_).alloc nlr_ _
 rw [← Zgf xs zWy] at R0
 clear hi hz0 hz1 hz2
 go_enter Tryz.func20,Tryz.ntmps20
 go_wp2
 go_loopw [4] (fun i wr=>∃ k:Nat,k≤xs.length∧i=.int .i64 k∧Rw kWy 112 wr (fun k=>w.heap.size≤k) (.slice (some ⟨w.heap.size,0,none⟩) xs.length xs.length) (filI xs zWy k)∧Below w.heap.size w wr) (fun i _=>xs.length-(intOf i).toNat)
 case atStart=>exact ⟨0,Nat.zero_le _,rfl,R0,B0⟩
 case round =>
  clear R0 B0 hmk
  obtain ⟨k,hk,rfl,hR,hb⟩:=hrel
  by_cases hlt:k<xs.length
  ·obtain ⟨x,hx⟩:=Zar xs hlt
   obtain ⟨ad,A1,c1,rfl,a0,a1,a2,a3,a4,l1,r1⟩:=Zhc (Zac hA hb) hx
   have hset:=Aside0.mk (Zhr xs zWy k x hx)
   have hsz:=hb.size
   obtain ⟨T,cur,cs,hS,hSg,hg,hT,hO,hback⟩:=Zcp hR (Zhq xs zWy k hlt)
   obtain ⟨u1,f,rfl,_⟩:=Zxd hO
   have hS0:Seg wr w.heap.size 112 cur (k*5) 5 [.int .i64 zWy.frm,.int .i64 zWy.dst,.int .i64 zWy.depth,.bool zWy.guarded,u1]:=hS
   have hback0:=hback
   go_wp2_with (go_at_call 59;refine (Zob x A1 c1 _ r1 (hz k x hx)).mono ?_;rintro e w1 ⟨⟨B1,d1,rfl,hw⟩,hb1⟩;have hS1:=hS0.move (hb1.block _ hg);have c0:w1.cell? ⟨w.heap.size,k*5,none⟩=some (.int .i64 zWy.frm):=hS1.cell 0 _ rfl;have f0:w1.frozen? ⟨w.heap.size,k*5,none⟩=false:=hS1.froz _;have c1:w1.cell? ⟨w.heap.size,k*5+1,none⟩=some (.int .i64 zWy.dst):=hS1.cell 1 _ rfl;have f1:w1.frozen? ⟨w.heap.size,k*5+1,none⟩=false:=hS1.froz _;have c2:w1.cell? ⟨w.heap.size,k*5+2,none⟩=some (.int .i64 zWy.depth):=hS1.cell 2 _ rfl;have f2:w1.frozen? ⟨w.heap.size,k*5+2,none⟩=false:=hS1.froz _;have c3:w1.cell? ⟨w.heap.size,k*5+3,none⟩=some (.bool zWy.guarded):=hS1.cell 3 _ rfl;have f3:w1.frozen? ⟨w.heap.size,k*5+3,none⟩=false:=hS1.froz _;have c4:w1.cell? ⟨w.heap.size,k*5+4,none⟩=some (u1):=hS1.cell 4 _ rfl;have f4:w1.frozen? ⟨w.heap.size,k*5+4,none⟩=false:=hS1.froz _)
   have hfin:=hback0 _ _ x (fun b=>wr.heap.size≤b) (((((hS1.set 0 (by decide) (.int .i64 x.frm)).set 1 (by decide) (.int .i64 x.dst)).set 2 (by decide) (.int .i64 x.depth)).set 3 (by decide) (.bool x.guarded)).set 4 (by decide) (.slice B1 x.guard.length d1)) ((((((Kep.of_below (S:=fun b=>b=w.heap.size∨T b) hb1).set (i:=k*5) (.inl rfl) (.int .i64 x.frm)).set (i:=k*5+1) (.inl rfl) (.int .i64 x.dst)).set (i:=k*5+2) (.inl rfl) (.int .i64 x.depth)).set (i:=k*5+3) (.inl rfl) (.bool x.guarded)).set (i:=k*5+4) (.inl rfl) (.slice B1 x.guard.length d1)) (Zdf hw (fun b hb2 hlt2=>((((((Kep.refl (fun b=>b=w.heap.size) w1).set (i:=k*5) rfl (.int .i64 x.frm)).set (i:=k*5+1) rfl (.int .i64 x.dst)).set (i:=k*5+2) rfl (.int .i64 x.depth)).set (i:=k*5+3) rfl (.bool x.guarded)).set (i:=k*5+4) rfl (.slice B1 x.guard.length d1)).block b hlt2 (fun e=>by omega))) (fun b h=>.inr ⟨Nat.le_trans hsz h,h⟩)
   rw [hset.out] at hfin
   refine ⟨⟨k+1,by omega,rfl,hfin,(Zak (g:=w.heap.size) (j:=k*5+4) (v:=.slice B1 x.guard.length d1) (Zak (g:=w.heap.size) (j:=k*5+3) (v:=.bool x.guarded) (Zak (g:=w.heap.size) (j:=k*5+2) (v:=.int .i64 x.depth) (Zak (g:=w.heap.size) (j:=k*5+1) (v:=.int .i64 x.dst) (Zak (g:=w.heap.size) (j:=k*5) (v:=.int .i64 x.frm) (hb.trans (hb1.mono hb.size)) nlr_) nlr_) nlr_) nlr_) nlr_)⟩, ?_⟩
   simp [intOf]
   omega
  ·have e:k=xs.length:=by omega
   subst e
   rw [Zhp] at hR
   go_wp2
   go_ret
   exact ⟨⟨_,rfl,hR⟩,hb⟩
theorem Zpr (A:Option Addr) (c:Nat) (xs:List (List Int)) (w:World) (hA:Rd Zda w A xs) (hl:xs.length≤1048576) (hz:∀ (j:Nat) (x:List Int),xs[j]? = some x→x.length≤1048576) :
  Calls Tryz.prog 22 #[.slice A xs.length c] w fun e w'=>(∃ v,e=.returned v∧Rw Zda 90 w' (fun k=>w.heap.size≤k) v xs)∧Below w.heap.size w w':=by
 obtain ⟨i0,hi,hzz⟩:=Option.map_eq_some_iff.1 Zzk
 simp only [Prod.mk.injEq] at hzz
 obtain ⟨hz0,hz1,hz2⟩:=hzz
 have hmk:=run_make (P:=Tryz.prog) w 25 90 i0 _ Tryz.underlying25 hi hz0 .i64 .i64 (xs.length:Int) (xs.length:Int) (by omega) (by omega) (by rw [hz2];omega) (by omega)
 simp only [Int.toNat_natCast] at hmk
 rw [hz1] at hmk
 have R0:=Zgl (fs:=Zda) (e:=90) (S:=fun k=>w.heap.size≤k) w (.slice none 0 0) xs.length Zwd rfl (by decide) Zwy (by omega) nlr_
 rw [Nat.mul_one] at hmk
 rw [show xs.length*Zda.length=xs.length from Nat.mul_one _] at R0
 have B0:Below w.heap.size w (w.alloc (.cells (madeCells (Value.cells (.slice none 0 0)) (xs.length)) 90)):=(brf_).alloc nlr_ _
 rw [← Zgf xs Zwd] at R0
 clear hi hz0 hz1 hz2
 go_enter Tryz.func22,Tryz.ntmps22
 go_wp2
 go_loopw [4] (fun i wr=>∃ k:Nat,k≤xs.length∧i=.int .i64 k∧Rw Zda 90 wr (fun k=>w.heap.size≤k) (.slice (some ⟨w.heap.size,0,none⟩) xs.length xs.length) (filI xs Zwd k)∧Below w.heap.size w wr) (fun i _=>xs.length-(intOf i).toNat)
 case atStart=>exact ⟨0,Nat.zero_le _,rfl,R0,B0⟩
 case round =>
  clear R0 B0 hmk
  obtain ⟨k,hk,rfl,hR,hb⟩:=hrel
  by_cases hlt:k<xs.length
  ·obtain ⟨x,hx⟩:=Zar xs hlt
   obtain ⟨ad,A1,c1,rfl,a0,l1,r1⟩:=Zhb (Zac hA hb) hx
   have hset:=Aside0.mk (Zhr xs Zwd k x hx)
   have hsz:=hb.size
   obtain ⟨T,cur,cs,hS,hSg,hg,hT,hO,hback⟩:=Zcp hR (Zhq xs Zwd k hlt)
   obtain ⟨u1,f,rfl,_⟩:=Zue hO
   have hS0:Seg wr w.heap.size 90 cur (k*1) 1 [u1]:=hS
   rw [Nat.mul_one] at hS0
   have hback0:=hback
   rw [show k*Zda.length=k from Nat.mul_one k] at hback0
   go_wp2_with (go_at_call 61;refine (Zrn A1 c1 x _ r1 (hz k x hx)).mono ?_;rintro e w1 ⟨⟨t1,rfl,hw⟩,hb1⟩;obtain ⟨B1,d1,rfl,_,_⟩:=Zbl hw;have hS1:=hS0.move (hb1.block _ hg);have c0:w1.cell? ⟨w.heap.size,k,none⟩=some (u1):=hS1.cell 0 _ rfl;have f0:w1.frozen? ⟨w.heap.size,k,none⟩=false:=hS1.froz _)
   have hfin:=hback0 _ _ x (fun b=>wr.heap.size≤b) (hS1.set 0 (by decide) (.slice B1 x.length d1)) ((Kep.of_below (S:=fun b=>b=w.heap.size∨T b) hb1).set (i:=k) (.inl rfl) (.slice B1 x.length d1)) (Zdf (Ztn hw) (fun b hb2 hlt2=>((Kep.refl (fun b=>b=w.heap.size) w1).set (i:=k) rfl (.slice B1 x.length d1)).block b hlt2 (fun e=>by omega))) (fun b h=>.inr ⟨Nat.le_trans hsz h,h⟩)
   rw [hset.out] at hfin
   refine ⟨⟨k+1,by omega,rfl,hfin,(Zak (g:=w.heap.size) (j:=k) (v:=.slice B1 x.length d1) (hb.trans (hb1.mono hb.size)) nlr_)⟩, ?_⟩
   simp [intOf]
   omega
  ·have e:k=xs.length:=by omega
   subst e
   rw [Zhp] at hR
   go_wp2
   go_ret
   exact ⟨⟨_,rfl,hR⟩,hb⟩
theorem Znh (x:Pln) (A1:Option Addr) (c1:Nat) (A2:Option Addr) (c2:Nat) (A3:Option Addr) (c3:Nat) (A4:Option Addr) (c4:Nat) (w:World) (hA1:Rd kCel w A1 x.cells) (hA2:Rd kWy w A2 x.ways) (hA3:Rd kSlt w A3 x.slots) (hA4:Rd Zda w A4 x.turns) (hl1:x.cells.length≤1048576) (hl2:x.ways.length≤1048576) (hl3:x.slots.length≤1048576) (hl4:x.turns.length≤1048576) (hz1:∀ (j:Nat) (y:Cel),x.cells[j]? = some y→y.code.length≤1048576) (hz2:∀ (j:Nat) (y:Wy),x.ways[j]? = some y→y.guard.length≤1048576) (hz4:∀ (j:Nat) (y:List Int),x.turns[j]? = some y→y.length≤1048576) :
  Calls Tryz.prog 6 #[.agg #[.int .i64 x.nodes,.int .i64 x.secret,.int .i64 x.fuel,.slice A1 x.cells.length c1,.slice A2 x.ways.length c2,.slice A3 x.slots.length c3,.slice A4 x.turns.length c4]] w fun e w'=>(∃ B1 d1 B2 d2 B3 d3 B4 d4,e=.returned (.agg #[.int .i64 x.nodes,.int .i64 x.secret,.int .i64 x.fuel,.slice B1 x.cells.length d1,.slice B2 x.ways.length d2,.slice B3 x.slots.length d3,.slice B4 x.turns.length d4])∧Own kPln w' (fun k=>w.heap.size≤k) x [.int .i64 x.nodes,.int .i64 x.secret,.int .i64 x.fuel,.slice B1 x.cells.length d1,.slice B2 x.ways.length d2,.slice B3 x.slots.length d3,.slice B4 x.turns.length d4])∧Below w.heap.size w w':=by
 go_enter Tryz.func6,Tryz.ntmps6
 go_upto_region 5 with (fail)
 have hx:Below w.heap.size w (((w.alloc (.cells #[.int .i64 x.nodes,.int .i64 x.secret,.int .i64 x.fuel,.slice A1 x.cells.length c1,.slice A2 x.ways.length c2,.slice A3 x.slots.length c3,.slice A4 x.turns.length c4] 27)).alloc (.cells #[.int .i64 0,.int .i64 0,.int .i64 0,.slice none 0 0,.slice none 0 0,.slice none 0 0,.slice none 0 0] 33)).alloc (.cells #[.int .i64 x.nodes,.int .i64 x.secret,.int .i64 x.fuel,.slice none 0 0,.slice none 0 0,.slice none 0 0,.slice none 0 0] 33)):=(((Below.refl w.heap.size w).alloc nlr_ _).alloc (by simp) _).alloc (by simp;omega) _
 have Na:(((w.alloc (.cells #[.int .i64 x.nodes,.int .i64 x.secret,.int .i64 x.fuel,.slice A1 x.cells.length c1,.slice A2 x.ways.length c2,.slice A3 x.slots.length c3,.slice A4 x.turns.length c4] 27)).alloc (.cells #[.int .i64 0,.int .i64 0,.int .i64 0,.slice none 0 0,.slice none 0 0,.slice none 0 0,.slice none 0 0] 33)).alloc (.cells #[.int .i64 x.nodes,.int .i64 x.secret,.int .i64 x.fuel,.slice none 0 0,.slice none 0 0,.slice none 0 0,.slice none 0 0] 33)).heap[w.heap.size]? = some (.cells #[.int .i64 x.nodes,.int .i64 x.secret,.int .i64 x.fuel,.slice A1 x.cells.length c1,.slice A2 x.ways.length c2,.slice A3 x.slots.length c3,.slice A4 x.turns.length c4] 27 (0,0)):=Zal (Zal (Zas w _) _) _
 have Nr:(((w.alloc (.cells #[.int .i64 x.nodes,.int .i64 x.secret,.int .i64 x.fuel,.slice A1 x.cells.length c1,.slice A2 x.ways.length c2,.slice A3 x.slots.length c3,.slice A4 x.turns.length c4] 27)).alloc (.cells #[.int .i64 0,.int .i64 0,.int .i64 0,.slice none 0 0,.slice none 0 0,.slice none 0 0,.slice none 0 0] 33)).alloc (.cells #[.int .i64 x.nodes,.int .i64 x.secret,.int .i64 x.fuel,.slice none 0 0,.slice none 0 0,.slice none 0 0,.slice none 0 0] 33)).heap[w.heap.size+1]? = some (.cells #[.int .i64 0,.int .i64 0,.int .i64 0,.slice none 0 0,.slice none 0 0,.slice none 0 0,.slice none 0 0] 33 (0,0)):=Zal (Zbs _ _ (by simp)) _
 have No:(((w.alloc (.cells #[.int .i64 x.nodes,.int .i64 x.secret,.int .i64 x.fuel,.slice A1 x.cells.length c1,.slice A2 x.ways.length c2,.slice A3 x.slots.length c3,.slice A4 x.turns.length c4] 27)).alloc (.cells #[.int .i64 0,.int .i64 0,.int .i64 0,.slice none 0 0,.slice none 0 0,.slice none 0 0,.slice none 0 0] 33)).alloc (.cells #[.int .i64 x.nodes,.int .i64 x.secret,.int .i64 x.fuel,.slice none 0 0,.slice none 0 0,.slice none 0 0,.slice none 0 0] 33)).heap[w.heap.size+1+1]? = some (.cells #[.int .i64 x.nodes,.int .i64 x.secret,.int .i64 x.fuel,.slice none 0 0,.slice none 0 0,.slice none 0 0,.slice none 0 0] 33 (0,0)):=Zbs _ _ (by simp)
 have hsz:w.heap.size+1+1+1≤(((w.alloc (.cells #[.int .i64 x.nodes,.int .i64 x.secret,.int .i64 x.fuel,.slice A1 x.cells.length c1,.slice A2 x.ways.length c2,.slice A3 x.slots.length c3,.slice A4 x.turns.length c4] 27)).alloc (.cells #[.int .i64 0,.int .i64 0,.int .i64 0,.slice none 0 0,.slice none 0 0,.slice none 0 0,.slice none 0 0] 33)).alloc (.cells #[.int .i64 x.nodes,.int .i64 x.secret,.int .i64 x.fuel,.slice none 0 0,.slice none 0 0,.slice none 0 0,.slice none 0 0] 33)).heap.size:=by simp
 change Code.wp _ _ _ _ (((w.alloc (.cells #[.int .i64 x.nodes,.int .i64 x.secret,.int .i64 x.fuel,.slice A1 x.cells.length c1,.slice A2 x.ways.length c2,.slice A3 x.slots.length c3,.slice A4 x.turns.length c4] 27)).alloc (.cells #[.int .i64 0,.int .i64 0,.int .i64 0,.slice none 0 0,.slice none 0 0,.slice none 0 0,.slice none 0 0] 33)).alloc (.cells #[.int .i64 x.nodes,.int .i64 x.secret,.int .i64 x.fuel,.slice none 0 0,.slice none 0 0,.slice none 0 0,.slice none 0 0] 33))
 generalize ((w.alloc (.cells #[.int .i64 x.nodes,.int .i64 x.secret,.int .i64 x.fuel,.slice A1 x.cells.length c1,.slice A2 x.ways.length c2,.slice A3 x.slots.length c3,.slice A4 x.turns.length c4] 27)).alloc (.cells #[.int .i64 0,.int .i64 0,.int .i64 0,.slice none 0 0,.slice none 0 0,.slice none 0 0,.slice none 0 0] 33)).alloc (.cells #[.int .i64 x.nodes,.int .i64 x.secret,.int .i64 x.fuel,.slice none 0 0,.slice none 0 0,.slice none 0 0,.slice none 0 0] 33)=W0 at *
 obtain ⟨ea0,ea1,ea2,ea3,ea4,ea5,ea6⟩:=cellsP7 Na
 obtain ⟨eo0,eo1,eo2,eo3,eo4,eo5,eo6⟩:=cellsP7 No
 have fo0:=Zad No 0
 obtain ⟨er0,er1,er2,er3,er4,er5,er6⟩:=cellsP7 Nr
 have fr0:=Zad Nr 0
 have fo1:=Zad No 1
 have fr1:=Zad Nr 1
 have fo2:=Zad No 2
 have fr2:=Zad Nr 2
 have fo3:=Zad No 3
 have fr3:=Zad Nr 3
 have fo4:=Zad No 4
 have fr4:=Zad Nr 4
 have fo5:=Zad No 5
 have fr5:=Zad Nr 5
 have fo6:=Zad No 6
 have fr6:=Zad Nr 6
 go_upto_region 6 with (go_at_call 19;refine (Zlj A1 c1 _ _ (Zac hA1 hx) hl1 hz1).mono ?_;rintro e w1 ⟨⟨t1,rfl,hr1⟩,hb1⟩;obtain ⟨B1,d1,rfl,_,_⟩:=Zbl hr1;clear ea0 eo0 fo0 er0 fr0 ea1 eo1 fo1 er1 fr1 ea2 eo2 fo2 er2 fr2 ea3 eo3 fo3 er3 fr3 ea4 eo4 fo4 er4 fr4 ea5 eo5 fo5 er5 fr5 ea6 eo6 fo6 er6 fr6;have eo3:w1.cell? ⟨w.heap.size+1+1,3,none⟩=some (.slice none 0 0):=Zag (Zab No hb1) rfl;have fo3:=Zad (Zab No hb1) 3)
 have Na:=Zav (p:=⟨w.heap.size+1+1,3,none⟩) (Zab Na hb1) (show w.heap.size≠w.heap.size+1+1 by omega) (.slice B1 x.cells.length d1)
 have Nr:=Zav (p:=⟨w.heap.size+1+1,3,none⟩) (Zab Nr hb1) (show w.heap.size+1≠w.heap.size+1+1 by omega) (.slice B1 x.cells.length d1)
 have No:(w1.setCell ⟨w.heap.size+1+1,3,none⟩ (.slice B1 x.cells.length d1)).heap[w.heap.size+1+1]? = some (.cells #[.int .i64 x.nodes,.int .i64 x.secret,.int .i64 x.fuel,.slice B1 x.cells.length d1,.slice none 0 0,.slice none 0 0,.slice none 0 0] 33 (0,0)):=Zau (Zab No hb1) 3 (.slice B1 x.cells.length d1)
 have kS:Kep (fun b=>b=w.heap.size+1+1) W0 (w1.setCell ⟨w.heap.size+1+1,3,none⟩ (.slice B1 x.cells.length d1)):=(Kep.of_below (S:=fun b=>b=w.heap.size+1+1) hb1).set rfl _
 have kT:Kep (fun b=>b=w.heap.size+1+1) w1 (w1.setCell ⟨w.heap.size+1+1,3,none⟩ (.slice B1 x.cells.length d1)):=(Kep.refl (fun b=>b=w.heap.size+1+1) w1).set rfl _
 have R1:=Zae (T:=fun b=>W0.heap.size≤b∧b<(w1.setCell ⟨w.heap.size+1+1,3,none⟩ (.slice B1 x.cells.length d1)).heap.size) (Zaf (Zah hr1 (fun b h2 hlt=>kT.block b hlt (fun e=>by omega)))) (fun b h2=>h2)
 have hx:=Zak (g:=w.heap.size+1+1) (j:=3) (v:=.slice B1 x.cells.length d1) (hx.trans (hb1.mono hx.size)) (by omega)
 have hsz:=Nat.le_trans hsz kS.size
 have hz1':=kS.size
 clear kS kT hr1
 change Code.wp _ _ _ _ (w1.setCell ⟨w.heap.size+1+1,3,none⟩ (.slice B1 x.cells.length d1))
 generalize w1.setCell ⟨w.heap.size+1+1,3,none⟩ (.slice B1 x.cells.length d1)=W1 at *
 clear eo3 fo3
 obtain ⟨ea0,ea1,ea2,ea3,ea4,ea5,ea6⟩:=cellsP7 Na
 obtain ⟨eo0,eo1,eo2,eo3,eo4,eo5,eo6⟩:=cellsP7 No
 have fo0:=Zad No 0
 obtain ⟨er0,er1,er2,er3,er4,er5,er6⟩:=cellsP7 Nr
 have fr0:=Zad Nr 0
 have fo1:=Zad No 1
 have fr1:=Zad Nr 1
 have fo2:=Zad No 2
 have fr2:=Zad Nr 2
 have fo3:=Zad No 3
 have fr3:=Zad Nr 3
 have fo4:=Zad No 4
 have fr4:=Zad Nr 4
 have fo5:=Zad No 5
 have fr5:=Zad Nr 5
 have fo6:=Zad No 6
 have fr6:=Zad Nr 6
 go_upto_region 7 with (go_at_call 20;refine (Zng A2 c2 _ _ (Zac hA2 hx) hl2 hz2).mono ?_;rintro e w2 ⟨⟨t2,rfl,hr2⟩,hb2⟩;obtain ⟨B2,d2,rfl,_,_⟩:=Zbl hr2;clear ea0 eo0 fo0 er0 fr0 ea1 eo1 fo1 er1 fr1 ea2 eo2 fo2 er2 fr2 ea3 eo3 fo3 er3 fr3 ea4 eo4 fo4 er4 fr4 ea5 eo5 fo5 er5 fr5 ea6 eo6 fo6 er6 fr6;have eo4:w2.cell? ⟨w.heap.size+1+1,4,none⟩=some (.slice none 0 0):=Zag (Zab No hb2) rfl;have fo4:=Zad (Zab No hb2) 4)
 have Na:=Zav (p:=⟨w.heap.size+1+1,4,none⟩) (Zab Na hb2) (show w.heap.size≠w.heap.size+1+1 by omega) (.slice B2 x.ways.length d2)
 have Nr:=Zav (p:=⟨w.heap.size+1+1,4,none⟩) (Zab Nr hb2) (show w.heap.size+1≠w.heap.size+1+1 by omega) (.slice B2 x.ways.length d2)
 have No:(w2.setCell ⟨w.heap.size+1+1,4,none⟩ (.slice B2 x.ways.length d2)).heap[w.heap.size+1+1]? = some (.cells #[.int .i64 x.nodes,.int .i64 x.secret,.int .i64 x.fuel,.slice B1 x.cells.length d1,.slice B2 x.ways.length d2,.slice none 0 0,.slice none 0 0] 33 (0,0)):=Zau (Zab No hb2) 4 (.slice B2 x.ways.length d2)
 have kS:Kep (fun b=>b=w.heap.size+1+1) W1 (w2.setCell ⟨w.heap.size+1+1,4,none⟩ (.slice B2 x.ways.length d2)):=(Kep.of_below (S:=fun b=>b=w.heap.size+1+1) hb2).set rfl _
 have kT:Kep (fun b=>b=w.heap.size+1+1) w2 (w2.setCell ⟨w.heap.size+1+1,4,none⟩ (.slice B2 x.ways.length d2)):=(Kep.refl (fun b=>b=w.heap.size+1+1) w2).set rfl _
 have R1:=Zah R1 (fun b h2 hlt=>kS.block b hlt (fun e=>by omega))
 have R2:=Zae (T:=fun b=>W1.heap.size≤b∧b<(w2.setCell ⟨w.heap.size+1+1,4,none⟩ (.slice B2 x.ways.length d2)).heap.size) (Zaf (Zah hr2 (fun b h2 hlt=>kT.block b hlt (fun e=>by omega)))) (fun b h2=>h2)
 have hx:=Zak (g:=w.heap.size+1+1) (j:=4) (v:=.slice B2 x.ways.length d2) (hx.trans (hb2.mono hx.size)) (by omega)
 have hsz:=Nat.le_trans hsz kS.size
 have hz2':=kS.size
 clear kS kT hr2
 change Code.wp _ _ _ _ (w2.setCell ⟨w.heap.size+1+1,4,none⟩ (.slice B2 x.ways.length d2))
 generalize w2.setCell ⟨w.heap.size+1+1,4,none⟩ (.slice B2 x.ways.length d2)=W2 at *
 clear eo4 fo4
 obtain ⟨ea0,ea1,ea2,ea3,ea4,ea5,ea6⟩:=cellsP7 Na
 obtain ⟨eo0,eo1,eo2,eo3,eo4,eo5,eo6⟩:=cellsP7 No
 have fo0:=Zad No 0
 obtain ⟨er0,er1,er2,er3,er4,er5,er6⟩:=cellsP7 Nr
 have fr0:=Zad Nr 0
 have fo1:=Zad No 1
 have fr1:=Zad Nr 1
 have fo2:=Zad No 2
 have fr2:=Zad Nr 2
 have fo3:=Zad No 3
 have fr3:=Zad Nr 3
 have fo4:=Zad No 4
 have fr4:=Zad Nr 4
 have fo5:=Zad No 5
 have fr5:=Zad Nr 5
 have fo6:=Zad No 6
 have fr6:=Zad Nr 6
 go_upto_region 8 with (go_at_call 21;refine (Zll A3 c3 _ _ (Zac hA3 hx) hl3).mono ?_;rintro e w3 ⟨⟨t3,rfl,hr3⟩,hb3⟩;obtain ⟨B3,d3,rfl,_,_⟩:=Zbl hr3;clear ea0 eo0 fo0 er0 fr0 ea1 eo1 fo1 er1 fr1 ea2 eo2 fo2 er2 fr2 ea3 eo3 fo3 er3 fr3 ea4 eo4 fo4 er4 fr4 ea5 eo5 fo5 er5 fr5 ea6 eo6 fo6 er6 fr6;have eo5:w3.cell? ⟨w.heap.size+1+1,5,none⟩=some (.slice none 0 0):=Zag (Zab No hb3) rfl;have fo5:=Zad (Zab No hb3) 5)
 have Na:=Zav (p:=⟨w.heap.size+1+1,5,none⟩) (Zab Na hb3) (show w.heap.size≠w.heap.size+1+1 by omega) (.slice B3 x.slots.length d3)
 have Nr:=Zav (p:=⟨w.heap.size+1+1,5,none⟩) (Zab Nr hb3) (show w.heap.size+1≠w.heap.size+1+1 by omega) (.slice B3 x.slots.length d3)
 have No:(w3.setCell ⟨w.heap.size+1+1,5,none⟩ (.slice B3 x.slots.length d3)).heap[w.heap.size+1+1]? = some (.cells #[.int .i64 x.nodes,.int .i64 x.secret,.int .i64 x.fuel,.slice B1 x.cells.length d1,.slice B2 x.ways.length d2,.slice B3 x.slots.length d3,.slice none 0 0] 33 (0,0)):=Zau (Zab No hb3) 5 (.slice B3 x.slots.length d3)
 have kS:Kep (fun b=>b=w.heap.size+1+1) W2 (w3.setCell ⟨w.heap.size+1+1,5,none⟩ (.slice B3 x.slots.length d3)):=(Kep.of_below (S:=fun b=>b=w.heap.size+1+1) hb3).set rfl _
 have kT:Kep (fun b=>b=w.heap.size+1+1) w3 (w3.setCell ⟨w.heap.size+1+1,5,none⟩ (.slice B3 x.slots.length d3)):=(Kep.refl (fun b=>b=w.heap.size+1+1) w3).set rfl _
 have R1:=Zah R1 (fun b h2 hlt=>kS.block b hlt (fun e=>by omega))
 have R2:=Zah R2 (fun b h2 hlt=>kS.block b hlt (fun e=>by omega))
 have R3:=Zae (T:=fun b=>W2.heap.size≤b∧b<(w3.setCell ⟨w.heap.size+1+1,5,none⟩ (.slice B3 x.slots.length d3)).heap.size) (Zaf (Zah hr3 (fun b h2 hlt=>kT.block b hlt (fun e=>by omega)))) (fun b h2=>h2)
 have hx:=Zak (g:=w.heap.size+1+1) (j:=5) (v:=.slice B3 x.slots.length d3) (hx.trans (hb3.mono hx.size)) (by omega)
 have hsz:=Nat.le_trans hsz kS.size
 have hz3':=kS.size
 clear kS kT hr3
 change Code.wp _ _ _ _ (w3.setCell ⟨w.heap.size+1+1,5,none⟩ (.slice B3 x.slots.length d3))
 generalize w3.setCell ⟨w.heap.size+1+1,5,none⟩ (.slice B3 x.slots.length d3)=W3 at *
 clear eo5 fo5
 obtain ⟨ea0,ea1,ea2,ea3,ea4,ea5,ea6⟩:=cellsP7 Na
 obtain ⟨eo0,eo1,eo2,eo3,eo4,eo5,eo6⟩:=cellsP7 No
 have fo0:=Zad No 0
 obtain ⟨er0,er1,er2,er3,er4,er5,er6⟩:=cellsP7 Nr
 have fr0:=Zad Nr 0
 have fo1:=Zad No 1
 have fr1:=Zad Nr 1
 have fo2:=Zad No 2
 have fr2:=Zad Nr 2
 have fo3:=Zad No 3
 have fr3:=Zad Nr 3
 have fo4:=Zad No 4
 have fr4:=Zad Nr 4
 have fo5:=Zad No 5
 have fr5:=Zad Nr 5
 have fo6:=Zad No 6
 have fr6:=Zad Nr 6
 go_upto_region 9 with (go_at_call 22;refine (Zpr A4 c4 _ _ (Zac hA4 hx) hl4 hz4).mono ?_;rintro e w4 ⟨⟨t4,rfl,hr4⟩,hb4⟩;obtain ⟨B4,d4,rfl,_,_⟩:=Zbl hr4;clear ea0 eo0 fo0 er0 fr0 ea1 eo1 fo1 er1 fr1 ea2 eo2 fo2 er2 fr2 ea3 eo3 fo3 er3 fr3 ea4 eo4 fo4 er4 fr4 ea5 eo5 fo5 er5 fr5 ea6 eo6 fo6 er6 fr6;have eo6:w4.cell? ⟨w.heap.size+1+1,6,none⟩=some (.slice none 0 0):=Zag (Zab No hb4) rfl;have fo6:=Zad (Zab No hb4) 6)
 have Na:=Zav (p:=⟨w.heap.size+1+1,6,none⟩) (Zab Na hb4) (show w.heap.size≠w.heap.size+1+1 by omega) (.slice B4 x.turns.length d4)
 have Nr:=Zav (p:=⟨w.heap.size+1+1,6,none⟩) (Zab Nr hb4) (show w.heap.size+1≠w.heap.size+1+1 by omega) (.slice B4 x.turns.length d4)
 have No:(w4.setCell ⟨w.heap.size+1+1,6,none⟩ (.slice B4 x.turns.length d4)).heap[w.heap.size+1+1]? = some (.cells #[.int .i64 x.nodes,.int .i64 x.secret,.int .i64 x.fuel,.slice B1 x.cells.length d1,.slice B2 x.ways.length d2,.slice B3 x.slots.length d3,.slice B4 x.turns.length d4] 33 (0,0)):=Zau (Zab No hb4) 6 (.slice B4 x.turns.length d4)
 have kS:Kep (fun b=>b=w.heap.size+1+1) W3 (w4.setCell ⟨w.heap.size+1+1,6,none⟩ (.slice B4 x.turns.length d4)):=(Kep.of_below (S:=fun b=>b=w.heap.size+1+1) hb4).set rfl _
 have kT:Kep (fun b=>b=w.heap.size+1+1) w4 (w4.setCell ⟨w.heap.size+1+1,6,none⟩ (.slice B4 x.turns.length d4)):=(Kep.refl (fun b=>b=w.heap.size+1+1) w4).set rfl _
 have R1:=Zah R1 (fun b h2 hlt=>kS.block b hlt (fun e=>by omega))
 have R2:=Zah R2 (fun b h2 hlt=>kS.block b hlt (fun e=>by omega))
 have R3:=Zah R3 (fun b h2 hlt=>kS.block b hlt (fun e=>by omega))
 have R4:=Zae (T:=fun b=>W3.heap.size≤b∧b<(w4.setCell ⟨w.heap.size+1+1,6,none⟩ (.slice B4 x.turns.length d4)).heap.size) (Zaf (Zah hr4 (fun b h2 hlt=>kT.block b hlt (fun e=>by omega)))) (fun b h2=>h2)
 have hx:=Zak (g:=w.heap.size+1+1) (j:=6) (v:=.slice B4 x.turns.length d4) (hx.trans (hb4.mono hx.size)) (by omega)
 have hsz:=Nat.le_trans hsz kS.size
 have hz4':=kS.size
 clear kS kT hr4
 change Code.wp _ _ _ _ (w4.setCell ⟨w.heap.size+1+1,6,none⟩ (.slice B4 x.turns.length d4))
 generalize w4.setCell ⟨w.heap.size+1+1,6,none⟩ (.slice B4 x.turns.length d4)=W4 at *
 clear eo6 fo6
 obtain ⟨ea0,ea1,ea2,ea3,ea4,ea5,ea6⟩:=cellsP7 Na
 obtain ⟨eo0,eo1,eo2,eo3,eo4,eo5,eo6⟩:=cellsP7 No
 have fo0:=Zad No 0
 obtain ⟨er0,er1,er2,er3,er4,er5,er6⟩:=cellsP7 Nr
 have fr0:=Zad Nr 0
 have fo1:=Zad No 1
 have fr1:=Zad Nr 1
 have fo2:=Zad No 2
 have fr2:=Zad Nr 2
 have fo3:=Zad No 3
 have fr3:=Zad Nr 3
 have fo4:=Zad No 4
 have fr4:=Zad Nr 4
 have fo5:=Zad No 5
 have fr5:=Zad Nr 5
 have fo6:=Zad No 6
 have fr6:=Zad Nr 6
 go_wp2
 refine bodyPost_ret (results_cell_row rfl _ _ (w.heap.size+1) 33 #[.int .i64 x.nodes,.int .i64 x.secret,.int .i64 x.fuel,.slice B1 x.cells.length d1,.slice B2 x.ways.length d2,.slice B3 x.slots.length d3,.slice B4 x.turns.length d4] (0,0) _ rfl (by exact (Zau (Zau (Zau (Zau (Zau (Zau (Zau Nr 0 (.int .i64 x.nodes)) 1 (.int .i64 x.secret)) 2 (.int .i64 x.fuel)) 3 (.slice B1 x.cells.length d1)) 4 (.slice B2 x.ways.length d2)) 5 (.slice B3 x.slots.length d3)) 6 (.slice B4 x.turns.length d4))) Tryz.underlying33 rfl (by kernel_rfl)) rfl ?_
 have kF:=((((((((Kep.refl (fun b=>b=w.heap.size+1) W4).set (i:=0) rfl (.int .i64 x.nodes)).set (i:=1) rfl (.int .i64 x.secret)).set (i:=2) rfl (.int .i64 x.fuel)).set (i:=3) rfl (.slice B1 x.cells.length d1)).set (i:=4) rfl (.slice B2 x.ways.length d2)).set (i:=5) rfl (.slice B3 x.slots.length d3)).set (i:=6) rfl (.slice B4 x.turns.length d4))
 have R1:=Zah R1 (fun b h2 hlt=>kF.block b hlt (fun e=>by omega))
 have R2:=Zah R2 (fun b h2 hlt=>kF.block b hlt (fun e=>by omega))
 have R3:=Zah R3 (fun b h2 hlt=>kF.block b hlt (fun e=>by omega))
 have R4:=Zah R4 (fun b h2 hlt=>kF.block b hlt (fun e=>by omega))
 exact ⟨⟨B1,d1,B2,d2,B3,d3,B4,d4,rfl,(Zui (fun b=>if b<W1.heap.size then 3 else if b<W2.heap.size then 4 else if b<W3.heap.size then 5 else 6) (Zae R1 (fun b h2=>⟨by omega,by (try dsimp only);repeat (first | rw [if_pos (by omega)] | rw [if_neg (by omega)])⟩)) (Zae R2 (fun b h2=>⟨by omega,by (try dsimp only);repeat (first | rw [if_pos (by omega)] | rw [if_neg (by omega)])⟩)) (Zae R3 (fun b h2=>⟨by omega,by (try dsimp only);repeat (first | rw [if_pos (by omega)] | rw [if_neg (by omega)])⟩)) (Zae R4 (fun b h2=>⟨by omega,by (try dsimp only);repeat (first | rw [if_pos (by omega)] | rw [if_neg (by omega)])⟩)))⟩,(Zak (g:=w.heap.size+1) (j:=6) (v:=.slice B4 x.turns.length d4) (Zak (g:=w.heap.size+1) (j:=5) (v:=.slice B3 x.slots.length d3) (Zak (g:=w.heap.size+1) (j:=4) (v:=.slice B2 x.ways.length d2) (Zak (g:=w.heap.size+1) (j:=3) (v:=.slice B1 x.cells.length d1) (Zak (g:=w.heap.size+1) (j:=2) (v:=.int .i64 x.fuel) (Zak (g:=w.heap.size+1) (j:=1) (v:=.int .i64 x.secret) (Zak (g:=w.heap.size+1) (j:=0) (v:=.int .i64 x.nodes) hx (by omega)) (by omega)) (by omega)) (by omega)) (by omega)) (by omega)) (by omega))⟩
theorem Zlm (A:Option Addr) (c:Nat) (xs:List Ord) (left:Int) (w:World) (hA:Rd kOrd w A xs) (h0:0≤left) (h1:left≤1048576) :
  Calls Tryz.prog 92 #[.slice A xs.length c,.int .i64 left] w fun e w'=>Szd xs.length left e∧Below w.heap.size w w':=by
 have hm:=Zax hA
 go_enter Tryz.func92,Tryz.ntmps92
 go_wp2
 all_goals go_ret
 all_goals exact ⟨⟨_,rfl,by omega⟩,brf_⟩
theorem Zln (A:Option Addr) (c:Nat) (xs:List Rul) (left:Int) (w:World) (hA:Rd kRul w A xs) (h0:0≤left) (h1:left≤1048576) :
  Calls Tryz.prog 93 #[.slice A xs.length c,.int .i64 left] w fun e w'=>Szd xs.length left e∧Below w.heap.size w w':=by
 have hm:=Zax hA
 go_enter Tryz.func93,Tryz.ntmps93
 go_wp2
 all_goals go_ret
 all_goals exact ⟨⟨_,rfl,by omega⟩,brf_⟩
theorem Zlo (A:Option Addr) (c:Nat) (xs:List Slt) (left:Int) (w:World) (hA:Rd kSlt w A xs) (h0:0≤left) (h1:left≤1048576) :
  Calls Tryz.prog 15 #[.slice A xs.length c,.int .i64 left] w fun e w'=>Szd xs.length left e∧Below w.heap.size w w':=by
 have hm:=Zax hA
 go_enter Tryz.func15,Tryz.ntmps15
 go_wp2
 all_goals go_ret
 all_goals exact ⟨⟨_,rfl,by omega⟩,brf_⟩
theorem Zro (A:Option Addr) (c:Nat) (xs:List Int) (left:Int) (w:World) (hA:Rd kInt w A xs) (h0:0≤left) (h1:left≤1048576) :
  Calls Tryz.prog 51 #[.slice A xs.length c,.int .i64 left] w fun e w'=>Szd xs.length left e∧Below w.heap.size w w':=by
 have hm:=Zax hA
 go_enter Tryz.func51,Tryz.ntmps51
 go_wp2
 all_goals go_ret
 all_goals exact ⟨⟨_,rfl,by omega⟩,brf_⟩
theorem Zni (x:Cel) (A1:Option Addr) (c1:Nat) (left:Int) (w:World) (hA1:Rd kOrd w A1 x.code) (h0:0≤left) (h1:left≤1048576) :
  Calls Tryz.prog 49 #[.agg #[.int .i64 x.node,.int .i64 x.lvl,.int .i64 x.marks,.bool x.again,.slice A1 x.code.length c1],.int .i64 left] w fun e w'=>Szd x.code.length left e∧Below w.heap.size w w':=by
 have hw0:Below w.heap.size w (w.alloc (.cells #[.int .i64 x.node,.int .i64 x.lvl,.int .i64 x.marks,.bool x.again,.slice A1 x.code.length c1] 84)):=(brf_).alloc nlr_ _
 go_enter Tryz.func49,Tryz.ntmps49
 go_wp2_with (go_at_call 92;refine (Zlm A1 c1 _ left _ (Zac hA1 hw0) h0 h1).mono ?_;rintro e w1 ⟨⟨r,rfl,hr⟩,hb1⟩;have hw1:=hw0.trans (hb1.mono hw0.size))
 all_goals go_ret
 all_goals exact ⟨⟨_,rfl,by omega⟩,hw1⟩
theorem Zoc (x:Wy) (A1:Option Addr) (c1:Nat) (left:Int) (w:World) (hA1:Rd kRul w A1 x.guard) (h0:0≤left) (h1:left≤1048576) :
  Calls Tryz.prog 50 #[.agg #[.int .i64 x.frm,.int .i64 x.dst,.int .i64 x.depth,.bool x.guarded,.slice A1 x.guard.length c1],.int .i64 left] w fun e w'=>Szd x.guard.length left e∧Below w.heap.size w w':=by
 have hw0:Below w.heap.size w (w.alloc (.cells #[.int .i64 x.frm,.int .i64 x.dst,.int .i64 x.depth,.bool x.guarded,.slice A1 x.guard.length c1] 88)):=(brf_).alloc nlr_ _
 go_enter Tryz.func50,Tryz.ntmps50
 go_wp2_with (go_at_call 93;refine (Zln A1 c1 _ left _ (Zac hA1 hw0) h0 h1).mono ?_;rintro e w1 ⟨⟨r,rfl,hr⟩,hb1⟩;have hw1:=hw0.trans (hb1.mono hw0.size))
 all_goals go_ret
 all_goals exact ⟨⟨_,rfl,by omega⟩,hw1⟩
theorem Zlp (A:Option Addr) (c:Nat) (xs:List Cel) (left:Int) (w:World) (hA:Rd kCel w A xs) (h0:0≤left) (h1:left≤1048576) :
  Calls Tryz.prog 13 #[.slice A xs.length c,.int .i64 left] w fun e w'=>Szd (szL (fun x:Cel=>x.code.length) xs) left e∧Below w.heap.size w w':=by
 have hm:=Zax hA
 unfold szL
 by_cases hneg:left-(xs.length:Int)<0
 ·go_enter Tryz.func13,Tryz.ntmps13
  go_wp2
  all_goals go_ret
  all_goals exact ⟨⟨_,rfl,by omega⟩,brf_⟩
 ·go_enter Tryz.func13,Tryz.ntmps13
  go_wp2
  go_loopw [1,5] (fun l i wr=>∃ (k:Nat) (lv:Int),k≤xs.length∧l=.int .i64 lv∧i=.int .i64 k∧0≤lv∧lv≤1048576∧lv+xs.length+sumL (fun x:Cel=>x.code.length) (xs.take k)=left∧Below w.heap.size w wr) (fun _ i _=>xs.length-(intOf i).toNat)
  case atStart=>exact ⟨0,_,Nat.zero_le _,rfl,rfl,by omega,by omega,by simp [sumL,nL],brf_⟩
  case round =>
   obtain ⟨k,lv,hk,rfl,rfl,h2,h3,h4,hb⟩:=hrel
   by_cases hlt:k<xs.length
   ·obtain ⟨x,hx⟩:=Zar xs hlt
    have ht:=Zlx (fun x:Cel=>x.code.length) xs k x hx
    try dsimp only at ht
    obtain ⟨ad,A1,c1,rfl,a0,a1,a2,a3,a4,l1,r1⟩:=Zed (Zac hA hb) hx
    go_wp2_with (go_at_call 49;refine (Zni x A1 c1 lv _ r1 h2 h3).mono ?_;rintro e w1 ⟨⟨r,rfl,hr⟩,hb1⟩;have hb2:=hb.trans (hb1.mono hb.size))
    all_goals first
     | (go_ret;exact ⟨⟨_,rfl,.inl rfl⟩,hb2⟩)
     | (refine ⟨⟨k+1,r,by omega,rfl,rfl,by omega,by omega,by omega,hb2⟩, ?_⟩;simp [intOf];omega)
   ·have e:k=xs.length:=by omega
    subst e
    rw [List.take_length] at h4
    go_wp2
    go_ret
    exact ⟨⟨_,rfl,by omega⟩,hb⟩
theorem Znj (A:Option Addr) (c:Nat) (xs:List Wy) (left:Int) (w:World) (hA:Rd kWy w A xs) (h0:0≤left) (h1:left≤1048576) :
  Calls Tryz.prog 14 #[.slice A xs.length c,.int .i64 left] w fun e w'=>Szd (szL (fun x:Wy=>x.guard.length) xs) left e∧Below w.heap.size w w':=by
 have hm:=Zax hA
 unfold szL
 by_cases hneg:left-(xs.length:Int)<0
 ·go_enter Tryz.func14,Tryz.ntmps14
  go_wp2
  all_goals go_ret
  all_goals exact ⟨⟨_,rfl,by omega⟩,brf_⟩
 ·go_enter Tryz.func14,Tryz.ntmps14
  go_wp2
  go_loopw [1,5] (fun l i wr=>∃ (k:Nat) (lv:Int),k≤xs.length∧l=.int .i64 lv∧i=.int .i64 k∧0≤lv∧lv≤1048576∧lv+xs.length+sumL (fun x:Wy=>x.guard.length) (xs.take k)=left∧Below w.heap.size w wr) (fun _ i _=>xs.length-(intOf i).toNat)
  case atStart=>exact ⟨0,_,Nat.zero_le _,rfl,rfl,by omega,by omega,by simp [sumL,nL],brf_⟩
  case round =>
   obtain ⟨k,lv,hk,rfl,rfl,h2,h3,h4,hb⟩:=hrel
   by_cases hlt:k<xs.length
   ·obtain ⟨x,hx⟩:=Zar xs hlt
    have ht:=Zlx (fun x:Wy=>x.guard.length) xs k x hx
    try dsimp only at ht
    obtain ⟨ad,A1,c1,rfl,a0,a1,a2,a3,a4,l1,r1⟩:=Zhc (Zac hA hb) hx
    go_wp2_with (go_at_call 50;refine (Zoc x A1 c1 lv _ r1 h2 h3).mono ?_;rintro e w1 ⟨⟨r,rfl,hr⟩,hb1⟩;have hb2:=hb.trans (hb1.mono hb.size))
    all_goals first
     | (go_ret;exact ⟨⟨_,rfl,.inl rfl⟩,hb2⟩)
     | (refine ⟨⟨k+1,r,by omega,rfl,rfl,by omega,by omega,by omega,hb2⟩, ?_⟩;simp [intOf];omega)
   ·have e:k=xs.length:=by omega
    subst e
    rw [List.take_length] at h4
    go_wp2
    go_ret
    exact ⟨⟨_,rfl,by omega⟩,hb⟩
theorem Zps (A:Option Addr) (c:Nat) (xs:List (List Int)) (left:Int) (w:World) (hA:Rd Zda w A xs) (h0:0≤left) (h1:left≤1048576) :
  Calls Tryz.prog 16 #[.slice A xs.length c,.int .i64 left] w fun e w'=>Szd (szL (fun x:List Int=>x.length) xs) left e∧Below w.heap.size w w':=by
 have hm:=Zax hA
 unfold szL
 by_cases hneg:left-(xs.length:Int)<0
 ·go_enter Tryz.func16,Tryz.ntmps16
  go_wp2
  all_goals go_ret
  all_goals exact ⟨⟨_,rfl,by omega⟩,brf_⟩
 ·go_enter Tryz.func16,Tryz.ntmps16
  go_wp2
  go_loopw [1,5] (fun l i wr=>∃ (k:Nat) (lv:Int),k≤xs.length∧l=.int .i64 lv∧i=.int .i64 k∧0≤lv∧lv≤1048576∧lv+xs.length+sumL (fun x:List Int=>x.length) (xs.take k)=left∧Below w.heap.size w wr) (fun _ i _=>xs.length-(intOf i).toNat)
  case atStart=>exact ⟨0,_,Nat.zero_le _,rfl,rfl,by omega,by omega,by simp [sumL,nL],brf_⟩
  case round =>
   obtain ⟨k,lv,hk,rfl,rfl,h2,h3,h4,hb⟩:=hrel
   by_cases hlt:k<xs.length
   ·obtain ⟨x,hx⟩:=Zar xs hlt
    have ht:=Zlx (fun x:List Int=>x.length) xs k x hx
    try dsimp only at ht
    obtain ⟨ad,A1,c1,rfl,a0,l1,r1⟩:=Zhb (Zac hA hb) hx
    go_wp2_with (go_at_call 51;refine (Zro A1 c1 x lv _ r1 h2 h3).mono ?_;rintro e w1 ⟨⟨r,rfl,hr⟩,hb1⟩;have hb2:=hb.trans (hb1.mono hb.size))
    all_goals first
     | (go_ret;exact ⟨⟨_,rfl,.inl rfl⟩,hb2⟩)
     | (refine ⟨⟨k+1,r,by omega,rfl,rfl,by omega,by omega,by omega,hb2⟩, ?_⟩;simp [intOf];omega)
   ·have e:k=xs.length:=by omega
    subst e
    rw [List.take_length] at h4
    go_wp2
    go_ret
    exact ⟨⟨_,rfl,by omega⟩,hb⟩
def Pln.size (x:Pln):Nat:=szL (fun x:Cel=>x.code.length) x.cells+szL (fun x:Wy=>x.guard.length) x.ways+x.slots.length+szL (fun x:List Int=>x.length) x.turns
theorem Znk (x:Pln) (A1:Option Addr) (c1:Nat) (A2:Option Addr) (c2:Nat) (A3:Option Addr) (c3:Nat) (A4:Option Addr) (c4:Nat) (left:Int) (w:World) (hA1:Rd kCel w A1 x.cells) (hA2:Rd kWy w A2 x.ways) (hA3:Rd kSlt w A3 x.slots) (hA4:Rd Zda w A4 x.turns) (h0:0≤left) (h1:left≤1048576) :
  Calls Tryz.prog 4 #[.agg #[.int .i64 x.nodes,.int .i64 x.secret,.int .i64 x.fuel,.slice A1 x.cells.length c1,.slice A2 x.ways.length c2,.slice A3 x.slots.length c3,.slice A4 x.turns.length c4],.int .i64 left] w fun e w'=>Szd x.size left e∧Below w.heap.size w w':=by
 have hw0:Below w.heap.size w (w.alloc (.cells #[.int .i64 x.nodes,.int .i64 x.secret,.int .i64 x.fuel,.slice A1 x.cells.length c1,.slice A2 x.ways.length c2,.slice A3 x.slots.length c3,.slice A4 x.turns.length c4] 27)):=(brf_).alloc nlr_ _
 unfold Pln.size
 go_enter Tryz.func4,Tryz.ntmps4
 go_wp2_with (first
  | (go_at_call 16;refine (Zps A4 c4 _ r3 _ (Zac hA4 hw3) (by omega) (by omega)).mono ?_;rintro e w4 ⟨⟨r4,rfl,hr4⟩,hb4⟩;have hw4:=hw3.trans (hb4.mono hw3.size))
  | (go_at_call 15;refine (Zlo A3 c3 _ r2 _ (Zac hA3 hw2) (by omega) (by omega)).mono ?_;rintro e w3 ⟨⟨r3,rfl,hr3⟩,hb3⟩;have hw3:=hw2.trans (hb3.mono hw2.size);have Na3:=Zab Na2 hb3;obtain ⟨ea3_0,ea3_1,ea3_2,ea3_3,ea3_4,ea3_5,ea3_6⟩:=cellsP7 Na3)
  | (go_at_call 14;refine (Znj A2 c2 _ r1 _ (Zac hA2 hw1) (by omega) (by omega)).mono ?_;rintro e w2 ⟨⟨r2,rfl,hr2⟩,hb2⟩;have hw2:=hw1.trans (hb2.mono hw1.size);have Na2:=Zab Na1 hb2;obtain ⟨ea2_0,ea2_1,ea2_2,ea2_3,ea2_4,ea2_5,ea2_6⟩:=cellsP7 Na2)
  | (go_at_call 13;refine (Zlp A1 c1 _ left _ (Zac hA1 hw0) (by omega) (by omega)).mono ?_;rintro e w1 ⟨⟨r1,rfl,hr1⟩,hb1⟩;have hw1:=hw0.trans (hb1.mono hw0.size);have Na1:=Zab (Zas w _) hb1;obtain ⟨ea1_0,ea1_1,ea1_2,ea1_3,ea1_4,ea1_5,ea1_6⟩:=cellsP7 Na1))
 all_goals go_ret
 all_goals first
  | exact ⟨⟨_,rfl,by omega⟩,hw4⟩
  | exact ⟨⟨_,rfl,.inl rfl⟩,hw3⟩
  | exact ⟨⟨_,rfl,.inl rfl⟩,hw2⟩
  | exact ⟨⟨_,rfl,.inl rfl⟩,hw1⟩
end Go.Proofs.YtaeckoinpllpnaaGreat
