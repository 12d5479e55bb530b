/- Part 24 of the proof of its last text: this session's own texts, shortened and joined by a program of its own (wip/pack.py). -/
import Derived.Test.YtaeckoinpllpnaaGreatTaa
import Derived.Test.YtaeckoinpllpnaaGreatTaw
import Derived.Test.YtaeckoinpllpnaaGreatTau
import Derived.Test.YtaeckoinpllpnaaGreatTaf
set_option linter.unusedVariables false
set_option linter.unusedSimpArgs false
set_option maxHeartbeats 16000000
set_option maxRecDepth 100000
namespace Go.Proofs.YtaeckoinpllpnaaGreat
open Go.RowKit Go.Proofs.YtaeckoinpllpnaaGreatW.PrintWords Go.Proofs.YtaeckoinpllpnaaGreatW.PrintLast
def Zvi (z:CelSt):Prop:=z.regs.length≤1048576∧z.mem.length≤1048576∧z.inn.length≤1048576
def Zyt (z:Box):Prop:=z.items.length≤1048576∧∀ (j:Nat) (m:List Int),z.items[j]? = some m→m.length≤1048576
def Ztw (z:List Sight):Prop:=z.length≤1048576∧∀ (j:Nat) (m:Sight),z[j]? = some m→m.bytes.length≤1048576
theorem Zny (A:Option Addr) (c:Nat) (xs:List CelSt) (w:World) (hA:Rd Zby w A xs) (hl:xs.length≤1048576) (hz:∀ (j:Nat) (z:CelSt),xs[j]? = some z→Zvi z) :
  Calls Tryz.prog 151 #[.slice A xs.length c] w fun e w'=>(∃ v,e=.returned v∧Rw Zby 103 w' (fun k=>w.heap.size≤k) v xs)∧Below w.heap.size w w':=by
 go_enter Tryz.func151,Tryz.ntmps151
 go_wp2
 go_loopw [3,8] (fun v i wr=>∃ k:Nat,k≤xs.length∧i=.int .i64 k∧Rw Zby 103 wr (fun k=>w.heap.size≤k) v (xs.take k)∧Below w.heap.size w wr) (fun v i _=>xs.length-(intOf i).toNat)
 case atStart=>exact ⟨0,Nat.zero_le _,rfl,Zbq _ _ _ _,brf_⟩
 case round =>
  obtain ⟨k,hk,rfl,hR,hb⟩:=hrel
  by_cases hlt:k<xs.length
  ·obtain ⟨z,hz9⟩:=Zar xs hlt
   obtain ⟨ad,cs0,rfl,hk0,h0,hi⟩:=Zce (Zac hA hb) hz9
   obtain ⟨hq1,hq2,hq3⟩:=hz k z hz9
   have hkk:=hk0
   obtain ⟨A1,c1,A2,c2,A3,c3,rfl,-,-,-,-,-,-⟩:=Zfp hkk
   have z0:wr.cell? (ad.add (k*5))=some (.int .i64 z.pc):=h0 _ rfl
   have z1:wr.cell? ⟨(ad.add (k*5)).block,(ad.add (k*5)).off+1,none⟩=some (.slice A1 z.regs.length c1):=hi 1 _ (by decide) rfl
   have z2:wr.cell? ⟨(ad.add (k*5)).block,(ad.add (k*5)).off+2,none⟩=some (.slice A2 z.mem.length c2):=hi 2 _ (by decide) rfl
   have z3:wr.cell? ⟨(ad.add (k*5)).block,(ad.add (k*5)).off+3,none⟩=some (.int .i64 z.halt):=hi 3 _ (by decide) rfl
   have z4:wr.cell? ⟨(ad.add (k*5)).block,(ad.add (k*5)).off+4,none⟩=some (.slice A3 z.inn.length c3):=hi 4 _ (by decide) rfl
   have hal:Below wr.heap.size wr (wr.alloc (.cells #[.int .i64 z.pc,.slice A1 z.regs.length c1,.slice A2 z.mem.length c2,.int .i64 z.halt,.slice A3 z.inn.length c3] 103)):=(brf_).alloc nlr_ _
   have hk1:=Zai hal hk0
   have hba:=hb.alloc hb.size (.cells #[.int .i64 z.pc,.slice A1 z.regs.length c1,.slice A2 z.mem.length c2,.int .i64 z.halt,.slice A3 z.inn.length c3] 103)
   have hasz:=Zcq wr (.cells #[.int .i64 z.pc,.slice A1 z.regs.length c1,.slice A2 z.mem.length c2,.int .i64 z.halt,.slice A3 z.inn.length c3] 103)
   clear h0 hi hkk
   go_wp2_with (first
    | (go_at_call 192;with_reducible refine (Zph z _ _ hk1 hq1 hq2 hq3).mono ?_;rintro e w1 ⟨⟨cs1,rfl,hO⟩,hb1⟩;have hO9:=hO;obtain ⟨u1,u2,u3,f9,rfl,-,-,-⟩:=Zfz hO9;have hR1:=Zaj (Zaf hR) (hal.trans (hb1.mono hal.size));have hb2:=hba.trans (hb1.mono hba.size);have hs1:=hb1.size)
    | ((with_reducible refine Zfo (b:=.append) (xs:=#[.tmp 12,.tmp 15]) rfl ?_);at_builtin;(refine Zdg Zby (w0:=w) rfl (.tmp 12) (.tmp 15) 35 103 _ _ rfl Tryz.underlying35 Zsw rfl (by decide) (by omega) _ (xs.take k) z _ (fun k=>w.heap.size≤k) (fun k=>(wr.alloc (.cells #[.int .i64 z.pc,.slice A1 z.regs.length c1,.slice A2 z.mem.length c2,.int .i64 z.halt,.slice A3 z.inn.length c3] 103)).heap.size≤k) rfl rfl hO (Zae hR1 (fun k hk=>by have:=hk.1;have:=hk.2;(try dsimp only at this ⊢);omega)) (fun k hk=>by have:=hb.size;(try dsimp only at hk ⊢);omega) (fun _ h=>h) (fun k hk=>by have:=hb2.size;(try dsimp only);omega) hb2 (by simp;omega) ?_);intro v2 w2 hR2 HB2 hgr hat))
   refine ⟨⟨k+1,by omega,rfl,by rw [List.take_succ_eq_append_getElem hlt,← (List.getElem?_eq_some_iff.1 hz9).2] at *;exact hR2,HB2⟩, ?_⟩
   simp [intOf]
   omega
  ·have e:k=xs.length:=by omega
   subst e
   rw [List.take_length] at hR
   go_wp2
   go_ret
   exact ⟨⟨_,rfl,hR⟩,hb⟩
theorem Zgs (A:Option Addr) (c:Nat) (xs:List (List Int)) (w:World) (hA:Rd Zck w A xs) (hl:xs.length≤1048576) (hz:∀ (j:Nat) (x:List Int),xs[j]? = some x→x.length≤1048576) :
  Calls Tryz.prog 109 #[.slice A xs.length c] w fun e w'=>(∃ v,e=.returned v∧Rw Zck 101 w' (fun k=>w.heap.size≤k) v xs)∧Below w.heap.size w w':=by
 by_cases h0:xs.length=0
 ·obtain rfl:=List.eq_nil_of_length_eq_zero h0
  go_enter Tryz.func109,Tryz.ntmps109
  go_wp2
  go_ret
  exact ⟨⟨_,rfl,Zbq _ _ _ _⟩,brf_⟩
 ·obtain ⟨i0,hi,hzz⟩:=Option.map_eq_some_iff.1 Zxa
  simp only [Prod.mk.injEq] at hzz
  obtain ⟨hz0,hz1,hz2⟩:=hzz
  have hmk:=run_make (P:=Tryz.prog) w 54 101 i0 _ Tryz.underlying54 hi hz0 .i64 .i64 (xs.length:Int) (xs.length:Int) (by omega) (by omega) (by rw [hz2];omega) (by omega)
  simp only [Int.toNat_natCast] at hmk
  rw [hz1] at hmk
  have R0:=Zgl (fs:=Zck) (e:=101) (S:=fun k=>w.heap.size≤k) w (.slice none 0 0) xs.length Zsu rfl (by decide) Zwe (by omega) nlr_
  rw [Nat.mul_one] at hmk
  rw [show xs.length*Zck.length=xs.length from Nat.mul_one _] at R0
  have B0:Below w.heap.size w (w.alloc (.cells (madeCells (Value.cells (.slice none 0 0)) (xs.length)) 101)):=(brf_).alloc nlr_ _
  rw [← Zgf xs Zsu] at R0
  clear hi hz0 hz1 hz2
  have hne:((xs.length:Int)==0)=false:=by rw [beq_eq_false_iff_ne];omega
  go_enter Tryz.func109,Tryz.ntmps109
  go_wp2
  go_loopw [14] (fun i wr=>∃ k:Nat,k≤xs.length∧i=.int .i64 k∧Rw Zck 101 wr (fun k=>w.heap.size≤k) (.slice (some ⟨w.heap.size,0,none⟩) xs.length xs.length) (filI xs Zsu k)∧Below w.heap.size w wr) (fun i _=>xs.length-(intOf i).toNat)
  case atStart=>exact ⟨0,Nat.zero_le _,rfl,R0,B0⟩
  case round =>
   clear R0 B0 hmk
   obtain ⟨k,hk,rfl,hR,hb⟩:=hrel
   by_cases hlt:k<xs.length
   ·obtain ⟨x,hx⟩:=Zar xs hlt
    obtain ⟨ad,A1,c1,rfl,a0,l1,r1⟩:=Zjs (Zac hA hb) hx
    have hset:=Aside0.mk (Zhr xs Zsu k x hx)
    have hsz:=hb.size
    obtain ⟨T,cur,cs,hS,hSg,hg,hT,hO,hback⟩:=Zcp hR (Zhq xs Zsu k hlt)
    obtain ⟨u1,f,rfl,_⟩:=Zsv hO
    have hS0:Seg wr w.heap.size 101 cur (k*1) 1 [u1]:=hS
    rw [Nat.mul_one] at hS0
    have hback0:=hback
    rw [show k*Zck.length=k from Nat.mul_one k] at hback0
    go_wp2_with (go_at_call 153;refine (Zgm A1 c1 x _ r1 (hz k x hx)).mono ?_;rintro e w1 ⟨⟨t1,rfl,hw⟩,hb1⟩;obtain ⟨B1,d1,rfl,_,_⟩:=Zbl hw;have hS1:=hS0.move (hb1.block _ hg);have c0:w1.cell? ⟨w.heap.size,k,none⟩=some (u1):=hS1.cell 0 _ rfl;have f0:w1.frozen? ⟨w.heap.size,k,none⟩=false:=hS1.froz _)
    have hfin:=hback0 _ _ x (fun b=>wr.heap.size≤b) (hS1.set 0 (by decide) (.slice B1 x.length d1)) ((Kep.of_below (S:=fun b=>b=w.heap.size∨T b) hb1).set (i:=k) (.inl rfl) (.slice B1 x.length d1)) (Zdf (Zqc hw) (fun b hb2 hlt2=>((Kep.refl (fun b=>b=w.heap.size) w1).set (i:=k) rfl (.slice B1 x.length d1)).block b hlt2 (fun e=>by omega))) (fun b h=>.inr ⟨Nat.le_trans hsz h,h⟩)
    rw [hset.out] at hfin
    refine ⟨⟨k+1,by omega,rfl,hfin,(Zak (g:=w.heap.size) (j:=k) (v:=.slice B1 x.length d1) (hb.trans (hb1.mono hb.size)) nlr_)⟩, ?_⟩
    simp [intOf]
    omega
   ·have e:k=xs.length:=by omega
    subst e
    rw [Zhp] at hR
    go_wp2
    go_ret
    exact ⟨⟨_,rfl,hR⟩,hb⟩
theorem Zpj (x:Box) (cs:List Value) (w:World) (hC:allK w x kBox cs) (l1:x.items.length≤1048576) (l2:∀ (j:Nat) (m:List Int),x.items[j]? = some m→m.length≤1048576) :
  Calls Tryz.prog 193 #[.agg cs.toArray] w fun e w'=>(∃ cs:List Value,e=.returned (.agg cs.toArray)∧Own kBox w' (fun k=>w.heap.size≤k) x cs)∧Below w.heap.size w w':=by
 obtain ⟨A1,c1,rfl,-,r1⟩:=Zwh hC
 obtain ⟨W,eW,hb0,Np,Nr⟩:=new2 w (.cells #[.int .i64 x.depth,.slice A1 x.items.length c1] 109) (.cells #[.int .i64 0,.slice none 0 0] 109)
 go_enter Tryz.func193,Tryz.ntmps193
 go_upto_region 1 with (fail)
 refine wp_at eW ?_
 clear eW
 have hWr:w.heap.size+1<W.heap.size:=Zao Nr
 refine Zcf 7 none [6] (by kernel_rfl) rfl rfl ?_
 intro Wd hd hs
 have Np_d:=Zab Np hd
 have Nr_d:=Zab Nr hd
 have HBd:=hb0.trans (hd.mono hb0.size)
 refine head2g #[false,false,false,false,false,false,false] #[true,false,false,false,false,false,false] #[true,true,false,false,false,false,false] 0 1 3 4 1 3 109 0 0 w.heap.size (u:=.int .i64 x.depth) ⟨rfl,rfl⟩ (by kernel_rfl) ⟨rfl,rfl,rfl⟩ ⟨rfl,rfl,rfl⟩ rfl (show 3<9 by decide) (fun w1=>by go_simp) (fun w1 hk=>by have N9:=(hk _ (Zao Np_d) (by simp)).trans Np_d;have y:=cellsP1 N9;go_simp) (Zbc.refl _ _) (fun _ _ _ d _ h=>by cases d <;> exact h) ?_
 refine Zbb (by simp only [Act.put,pkA,pkB,pkC];rfl) ?_
 refine head2g #[true,true,false,false,false,false,false] #[true,true,true,false,false,false,false] #[true,true,true,true,false,false,false] 2 3 5 6 1 54 109 1 1 w.heap.size (u:=.slice A1 x.items.length c1) ⟨rfl,rfl⟩ (by kernel_rfl) ⟨rfl,rfl,rfl⟩ ⟨rfl,rfl,rfl⟩ rfl (show 5<9 by decide) (fun w1=>by go_simp) (fun w1 hk=>by have N9:=(hk _ (Zao Np_d) (by simp)).trans Np_d;obtain ⟨-,y⟩:=cellsP2 N9;go_simp) (Zbc.refl _ _) (fun _ _ _ d _ h=>by cases d <;> exact h) ?_
 refine Zbb (by simp only [Act.put,pkA,pkB,pkC];rfl) ?_
 refine Zfd #[true,true,true,true,false,false,false] #[true,true,true,true,true,false,false] 4 7 (fun v w1=>Rw Zck 101 w1 (fun k=>Wd.heap.size≤k) v x.items) rfl (by decide) (by kernel_rfl) rfl rfl rfl Tryz.func109 (by kernel_rfl) rfl #[.slice A1 x.items.length c1] (by (try simp only [List.map_toArray,List.map_cons,List.map_nil]);first | done | rfl) ((Zgs A1 c1 x.items Wd (Zac r1 HBd) l1 l2).mono (fun e w9 h=>⟨match h.1 with | ⟨v,he,h1⟩=>⟨v,he,h1⟩,h.2⟩)) (Zbc.refl _ _) nlr_ ?_
 rintro v w1 h1 hb1 hk1
 obtain ⟨E1,L1,g1,rfl⟩:=Zba h1
 refine Zbb (by simp only [Act.put,pkA,pkB,pkC];rfl) ?_
 refine Zap (i:=5) (N:=some 8) (v:=.agg #[.int .i64 x.depth,.slice E1 L1 g1]) #[true,true,true,true,true,true,false] rfl rfl (by kernel_rfl) (fun _ _ _ h=>h) (Or.inl ⟨by rfl,fun w1=>by go_simp <;> rfl⟩) (by simp only [Act.put,pkA,pkB,pkC];rfl) ?_
 have Nr2:=Zab Nr_d hb1
 refine Znl (i:=6) (N:=none) #[true,true,true,true,true,true,true] rfl rfl (by kernel_rfl) (by decide) (fun K hK=>?_)
 refine Zgx rfl rfl 109 (.tmp 2) (.tmp 8) rfl (w.heap.size+1) #[.int .i64 x.depth,.slice E1 L1 g1] rfl rfl 109 #[.int .i64 0,.slice none 0 0] Nr2 (by kernel_rfl) rfl (by simp [Value.oneCell']) (fun w9 N9 hk9=>?_)
 refine hK.out _ _ ?_
 clear hK K
 refine Zgw (by kernel_rfl) ?_
 go_wp2
 refine bodyPost_ret (results_cell_row rfl _ _ (w.heap.size+1) 109 #[.int .i64 x.depth,.slice E1 L1 g1] (0,0) _ rfl N9 Tryz.underlying109 rfl (by kernel_rfl)) rfl ?_
 have hsd:=hd.size
 have hs1:=hb1.size
 have HB2:=HBd.trans (hb1.mono HBd.size)
 refine ⟨⟨_,rfl,Zxf (Zae (Zah h1 (fun k hk hl=>hk9.block k hl (fun e=>by (try dsimp only at hk e);omega))) (fun k hk=>by (try dsimp only at hk ⊢);omega))⟩,HB2.trans ⟨hk9.os,hk9.tape,hk9.output,hk9.size,fun b_ hb=>hk9.block b_ (by have:=HB2.size;omega) (fun e=>by omega)⟩⟩
theorem Zif (A:Option Addr) (c:Nat) (xs:List Box) (w:World) (hA:Rd kBox w A xs) (hl:xs.length≤1048576) (hz:∀ (j:Nat) (z:Box),xs[j]? = some z→Zyt z) :
  Calls Tryz.prog 152 #[.slice A xs.length c] w fun e w'=>(∃ v,e=.returned v∧Rw kBox 109 w' (fun k=>w.heap.size≤k) v xs)∧Below w.heap.size w w':=by
 go_enter Tryz.func152,Tryz.ntmps152
 go_wp2
 go_loopw [3,8] (fun v i wr=>∃ k:Nat,k≤xs.length∧i=.int .i64 k∧Rw kBox 109 wr (fun k=>w.heap.size≤k) v (xs.take k)∧Below w.heap.size w wr) (fun v i _=>xs.length-(intOf i).toNat)
 case atStart=>exact ⟨0,Nat.zero_le _,rfl,Zbq _ _ _ _,brf_⟩
 case round =>
  obtain ⟨k,hk,rfl,hR,hb⟩:=hrel
  by_cases hlt:k<xs.length
  ·obtain ⟨z,hz9⟩:=Zar xs hlt
   obtain ⟨ad,cs0,rfl,hk0,h0,hi⟩:=Zce (Zac hA hb) hz9
   obtain ⟨hq1,hq2⟩:=hz k z hz9
   have hkk:=hk0
   obtain ⟨A1,c1,rfl,-,-⟩:=Zwh hkk
   have z0:wr.cell? (ad.add (k*2))=some (.int .i64 z.depth):=h0 _ rfl
   have z1:wr.cell? ⟨(ad.add (k*2)).block,(ad.add (k*2)).off+1,none⟩=some (.slice A1 z.items.length c1):=hi 1 _ (by decide) rfl
   have hal:Below wr.heap.size wr (wr.alloc (.cells #[.int .i64 z.depth,.slice A1 z.items.length c1] 109)):=(brf_).alloc nlr_ _
   have hk1:=Zai hal hk0
   have hba:=hb.alloc hb.size (.cells #[.int .i64 z.depth,.slice A1 z.items.length c1] 109)
   have hasz:=Zcq wr (.cells #[.int .i64 z.depth,.slice A1 z.items.length c1] 109)
   clear h0 hi hkk
   go_wp2_with (first
    | (go_at_call 193;with_reducible refine (Zpj z _ _ hk1 hq1 hq2).mono ?_;rintro e w1 ⟨⟨cs1,rfl,hO⟩,hb1⟩;have hO9:=hO;obtain ⟨u1,f9,rfl,-⟩:=Zhn hO9;have hR1:=Zaj (Zaf hR) (hal.trans (hb1.mono hal.size));have hb2:=hba.trans (hb1.mono hba.size);have hs1:=hb1.size)
    | ((with_reducible refine Zfo (b:=.append) (xs:=#[.tmp 12,.tmp 15]) rfl ?_);at_builtin;(refine Zdg kBox (w0:=w) rfl (.tmp 12) (.tmp 15) 36 109 _ _ rfl Tryz.underlying36 iBox rfl (by decide) (by omega) _ (xs.take k) z _ (fun k=>w.heap.size≤k) (fun k=>(wr.alloc (.cells #[.int .i64 z.depth,.slice A1 z.items.length c1] 109)).heap.size≤k) rfl rfl hO (Zae hR1 (fun k hk=>by have:=hk.1;have:=hk.2;(try dsimp only at this ⊢);omega)) (fun k hk=>by have:=hb.size;(try dsimp only at hk ⊢);omega) (fun _ h=>h) (fun k hk=>by have:=hb2.size;(try dsimp only);omega) hb2 (by simp;omega) ?_);intro v2 w2 hR2 HB2 hgr hat))
   refine ⟨⟨k+1,by omega,rfl,by rw [List.take_succ_eq_append_getElem hlt,← (List.getElem?_eq_some_iff.1 hz9).2] at *;exact hR2,HB2⟩, ?_⟩
   simp [intOf]
   omega
  ·have e:k=xs.length:=by omega
   subst e
   rw [List.take_length] at hR
   go_wp2
   go_ret
   exact ⟨⟨_,rfl,hR⟩,hb⟩
theorem Zmo (A:Option Addr) (c:Nat) (xs:List (List Sight)) (w:World) (hA:Rd Zbv w A xs) (hl:xs.length≤1048576) (hz:∀ (j:Nat) (z:List Sight),xs[j]? = some z→Ztw z) :
  Calls Tryz.prog 110 #[.slice A xs.length c] w fun e w'=>(∃ v,e=.returned v∧Rw Zbv 117 w' (fun k=>w.heap.size≤k) v xs)∧Below w.heap.size w w':=by
 go_enter Tryz.func110,Tryz.ntmps110
 go_wp2
 go_loopw [3,11] (fun v i wr=>∃ k:Nat,k≤xs.length∧i=.int .i64 k∧Rw Zbv 117 wr (fun k=>w.heap.size≤k) v (xs.take k)∧Below w.heap.size w wr) (fun v i _=>xs.length-(intOf i).toNat)
 case atStart=>exact ⟨0,Nat.zero_le _,rfl,Zbq _ _ _ _,brf_⟩
 case round =>
  obtain ⟨k,hk,rfl,hR,hb⟩:=hrel
  by_cases hlt:k<xs.length
  ·obtain ⟨y,hy⟩:=Zar xs hlt
   obtain ⟨hq1,hq2⟩:=hz k y hy
   obtain ⟨ad,A0,c0,rfl,y0,m0,r0⟩:=Zhd (Zac hA hb) hy
   generalize hwo:wr=wo at *
   clear hwo wr
   go_wp2
   clear y0
   go_loopw [6,17] (fun v i wr=>∃ j:Nat,j≤y.length∧i=.int .i64 j∧Rw Zes 176 wr (fun k=>wo.heap.size≤k) v (y.take j)∧Below wo.heap.size wo wr) (fun v i _=>y.length-(intOf i).toNat)
   case atStart=>exact ⟨0,Nat.zero_le _,rfl,Zbq _ _ _ _,brf_⟩
   case round =>
    obtain ⟨j,hj,rfl,hR1,hb1⟩:=hrel
    by_cases hlj:j<y.length
    ·obtain ⟨z,hz9⟩:=Zar y hlj
     have hzl:=hq2 j z hz9
     obtain ⟨ad0,A1,c1,rfl,z0,z1,z2,l1,r1⟩:=Zlv (Zac r0 hb1) hz9
     go_upto_region 9 with (fail)
     change Code.wp _ _ _ _ (wr.alloc (.cells #[.int .i64 z.kind,.int .i64 z.way,.slice A1 z.bytes.length c1] 176))
     have hal:Below wr.heap.size wr (wr.alloc (.cells #[.int .i64 z.kind,.int .i64 z.way,.slice A1 z.bytes.length c1] 176)):=(brf_).alloc nlr_ _
     have Ny:=Zas wr (.cells #[.int .i64 z.kind,.int .i64 z.way,.slice A1 z.bytes.length c1] 176)
     have hasz:=Zcq wr (.cells #[.int .i64 z.kind,.int .i64 z.way,.slice A1 z.bytes.length c1] 176)
     have hb2:=hb1.trans (hal.mono hb1.size)
     have r2:=Zac r1 hal
     have hR2:=Zaj (Zaf hR1) hal
     have hs1:=hb1.size
     clear z0 z1 z2
     generalize hgy:wr.heap.size=gy at *
     generalize wr.alloc (.cells #[.int .i64 z.kind,.int .i64 z.way,.slice A1 z.bytes.length c1] 176)=W1 at *
     obtain ⟨-,-,e2⟩:=cellsP3 Ny
     go_upto_region 10 with (go_at_call 153;with_reducible refine (Zgm A1 c1 z.bytes W1 r2 hzl).mono ?_;rintro e w1 ⟨⟨v1,rfl,h1⟩,hb3⟩;obtain ⟨E1,L1,g1,rfl⟩:=Zba h1;have Ny1:=Zab Ny hb3;have e3:w1.cell? ⟨gy,2,none⟩=some (.slice A1 z.bytes.length c1):=Zag Ny1 rfl;have f3:=Zad Ny1 2)
     have Ny2:(w1.setCell ⟨gy,2,none⟩ (.slice E1 L1 g1)).heap[gy]? = some (.cells #[.int .i64 z.kind,.int .i64 z.way,.slice E1 L1 g1] 176 (0,0)):=Zau Ny1 2 _
     have HB2:=Zak (j:=2) (v:=.slice E1 L1 g1) (hb2.trans (hb3.mono hb2.size)) (show wo.heap.size≤gy by omega)
     have hp:=Zuf (x:=z) (Zaf (Zah h1 (w1:=w1.setCell ⟨gy,2,none⟩ (.slice E1 L1 g1)) (fun k hk _=>Below.heap_setCell w1 ⟨gy,2,none⟩ _ k (by (try dsimp only at hk ⊢);omega))))
     have hR3:=Zah (Zaj (Zaf hR2) hb3) (w1:=w1.setCell ⟨gy,2,none⟩ (.slice E1 L1 g1)) (fun k hk _=>Below.heap_setCell w1 ⟨gy,2,none⟩ _ k (by (try dsimp only at hk ⊢);omega))
     have hs2:W1.heap.size≤(w1.setCell ⟨gy,2,none⟩ (.slice E1 L1 g1)).heap.size:=by have:=hb3.size;simpa [World.setCell] using this
     clear e2 e3 f3 Ny1 h1 hb3 hR2 hR1
     generalize w1.setCell ⟨gy,2,none⟩ (.slice E1 L1 g1)=W2 at *
     obtain ⟨y0,y1,y2⟩:=cellsP3 Ny2
     go_wp2_with ((with_reducible refine Zfo (b:=.append) (xs:=#[.tmp 25,.tmp 27]) rfl ?_);at_builtin;(refine Zdg Zes (w0:=wo) rfl (.tmp 25) (.tmp 27) 117 176 _ _ rfl Tryz.underlying117 Zza rfl (by decide) (by omega) _ (y.take j) z _ (fun k=>wo.heap.size≤k) (fun k=>W1.heap.size≤k∧k<W2.heap.size) rfl rfl hp (Zae hR3 (fun k hk=>by have:=hk.1;have:=hk.2;(try dsimp only at *);omega)) (fun k hk=>by have:=hb1.size;(try dsimp only at hk ⊢);omega) (fun _ h=>h) (fun k hk=>by have:=HB2.size;(try dsimp only);omega) HB2 (by simp;omega) ?_);intro v2 w2 hR4 HB3 hgr hat)
     refine ⟨⟨j+1,by omega,rfl,by rw [List.take_succ_eq_append_getElem hlj,← (List.getElem?_eq_some_iff.1 hz9).2] at *;exact hR4,HB3⟩, ?_⟩
     simp [intOf]
     omega
    ·have e:j=y.length:=by omega
     subst e
     rw [List.take_length] at hR1
     obtain ⟨E1,L1,g1,rfl⟩:=Zba hR1
     have hO:=Zno (Zaf hR1)
     have hR2:=Zaj (Zaf hR) hb1
     have HB:=hb.trans (hb1.mono hb.size)
     have hs1:=hb1.size
     go_wp2_with ((with_reducible refine Zfo (b:=.append) (xs:=#[.tmp 30,.tmp 32]) rfl ?_);at_builtin;(refine Zdg Zbv (w0:=w) rfl (.tmp 30) (.tmp 32) 38 117 _ _ rfl Tryz.underlying38 Ztp rfl (by decide) (by omega) _ (xs.take k) y _ (fun k=>w.heap.size≤k) (fun k=>wo.heap.size≤k∧k<wr.heap.size) rfl rfl hO (Zae hR2 (fun k hk=>by have:=hk.1;have:=hk.2;(try dsimp only at *);omega)) (fun k hk=>by have:=hb.size;(try dsimp only at hk ⊢);omega) (fun _ h=>h) (fun k hk=>by have:=HB.size;(try dsimp only);omega) HB (by simp;omega) ?_);intro v2 w2 hR4 HB3 hgr hat)
     refine ⟨⟨k+1,by omega,rfl,by rw [List.take_succ_eq_append_getElem hlt,← (List.getElem?_eq_some_iff.1 hy).2] at *;exact hR4,HB3⟩, ?_⟩
     simp [intOf]
     omega
  ·have e:k=xs.length:=by omega
   subst e
   rw [List.take_length] at hR
   go_wp2
   go_ret
   exact ⟨⟨_,rfl,hR⟩,hb⟩
theorem Zum {α:Type} {fs:List (Fd α)} {e:TypeId} {w:World} {g:Nat} (h:w.heap[g]? = some (.cells #[] e (0,0))):Rw fs e w (fun k=>k=g) (.slice (some ⟨g,0,none⟩) 0 0) []:=by
 have hg:=Zao h
 have hs:({ w with heap:=w.heap.extract 0 g }:World).heap.size=g:=by simp;omega
 have q:=Zfl fs e ({ w with heap:=w.heap.extract 0 g }:World) (fun k=>k=g) hs
 rw [hs] at q
 refine Zcd q (fun k hk=>?_)
 subst hk
 rw [h]
 have:=Zas ({ w with heap:=w.heap.extract 0 k }:World) (.cells #[] e)
 rw [hs] at this
 exact this.symm
theorem Zjc (x:Box) (cs:List Value) (w:World) (hC:allK w x kBox cs) (l1:x.items.length≤1048576) (l2:∀ (j:Nat) (m:List Int),x.items[j]? = some m→m.length≤1048576) :
  Calls Tryz.prog 133 #[.agg cs.toArray] w fun e w'=>(∃ cs:List Value,e=.returned (.agg cs.toArray)∧Own kBox w' (fun k=>w.heap.size≤k) x cs)∧Below w.heap.size w w':=by
 obtain ⟨A1,c1,rfl,-,r1⟩:=Zwh hC
 obtain ⟨W0,eW,HB0,Np0,Nr0⟩:=new2 w (.cells #[.int .i64 x.depth,.slice A1 x.items.length c1] 109) (.cells #[.int .i64 0,.slice none 0 0] 109)
 go_enter Tryz.func133,Tryz.ntmps133
 go_upto_region 1 with (fail)
 refine wp_at eW ?_
 clear eW
 have g0:w.heap.size+1<W0.heap.size:=Zao Nr0
 go_wp2
 go_loopw [3,4] (fun v i wr=>∃ k:Nat,k≤x.items.length∧i=.int .i64 k∧Rw Zck 101 wr (fun k=>W0.heap.size≤k) v (x.items.take k)∧Below W0.heap.size W0 wr) (fun v i _=>x.items.length-(intOf i).toNat)
 case atStart=>exact ⟨0,Nat.zero_le _,rfl,Zfl _ _ _ _ nlr_,(brf_).alloc nlr_ _⟩
 case round =>
  obtain ⟨k,hk,rfl,hR,hb⟩:=hrel
  have Np:=Zab Np0 hb
  have hsb:=hb.size
  by_cases hlt:k<x.items.length
  ·obtain ⟨z,hz⟩:=Zar x.items hlt
   obtain ⟨ad,D1,d1,rfl,y0,m1,s1⟩:=Zjs (Zac (Zac r1 HB0) hb) hz
   obtain ⟨-,p1⟩:=cellsP2 Np
   have hzl:=l2 k z hz
   go_wp2_with (first
    | (go_at_call 98;with_reducible refine (Zfr D1 d1 z wr s1 hzl).mono ?_;rintro e w1 ⟨⟨v1,rfl,hO9⟩,hb1⟩;obtain ⟨E1,L1,q1,rfl⟩:=Zba hO9;have hO:=Zqc hO9;have hR1:=Zaj (Zaf hR) hb1;have hb2:=hb.trans (hb1.mono hb.size);have hs1:=hb1.size)
    | ((with_reducible refine Zfo (b:=.append) (xs:=#[.tmp 13,.tmp 20]) rfl ?_);at_builtin;(refine Zdg Zck (w0:=W0) rfl (.tmp 13) (.tmp 20) 54 101 _ _ rfl Tryz.underlying54 Zxa rfl (by decide) (by omega) _ (x.items.take k) z _ (fun k=>W0.heap.size≤k) (fun k=>wr.heap.size≤k) rfl rfl hO (Zae hR1 (fun k hk=>by have:=hk.1;have:=hk.2;(try dsimp only at this ⊢);omega)) (fun k hk=>by (try dsimp only at hk ⊢);omega) (fun _ h=>h) (fun k hk=>by (try dsimp only);omega) hb2 (by simp;omega) ?_);intro v2 w2 hR2 HB2 hgr hat))
   refine ⟨⟨k+1,by omega,rfl,by rw [List.take_succ_eq_append_getElem hlt,← (List.getElem?_eq_some_iff.1 hz).2] at *;exact hR2,HB2⟩, ?_⟩
   simp [intOf]
   omega
  ·have e:k=x.items.length:=by omega
   subst e
   rw [List.take_length] at hR
   obtain ⟨E1,L1,q1,rfl⟩:=Zba hR
   obtain ⟨p0,p1⟩:=cellsP2 Np
   have Nr:=Zab Nr0 hb
   have HB:=HB0.trans (hb.mono HB0.size)
   go_wp2_with (refine Zey 109 (.tmp 2) (.tmp 25) ⟨rfl,rfl,rfl⟩ (w.heap.size+1) #[.int .i64 x.depth,.slice E1 L1 q1] rfl rfl 109 #[.int .i64 0,.slice none 0 0] Nr (by kernel_rfl) rfl (by simp [Value.oneCell']) ?_;intro w4 N4 hk4)
   refine bodyPost_ret (results_cell_row rfl _ _ (w.heap.size+1) 109 #[.int .i64 x.depth,.slice E1 L1 q1] (0,0) _ rfl N4 Tryz.underlying109 rfl (by kernel_rfl)) rfl ?_
   exact ⟨⟨_,rfl,Zxf (Zae (Zah hR (fun k hk hl=>hk4.block k hl (fun e=>by (try dsimp only at hk e);omega))) (fun k hk=>by (try dsimp only at hk ⊢);omega))⟩,HB.trans ⟨hk4.os,hk4.tape,hk4.output,hk4.size,fun b_ hb=>hk4.block b_ (by have:=HB.size;omega) (fun e=>by omega)⟩⟩
theorem Zmp (A:Option Addr) (c:Nat) (y:List Sight) (w:World) (hA:Rd Zes w A y) (hz:Ztw y) :
  Calls Tryz.prog 99 #[.slice A y.length c] w fun e w'=>(∃ v,e=.returned v∧Rw Zes 176 w' (fun k=>w.heap.size≤k) v y)∧Below w.heap.size w w':=by
 obtain ⟨hq1,hq2⟩:=hz
 go_enter Tryz.func99,Tryz.ntmps99
 go_wp2
 go_loopw [3,4] (fun v i wr=>∃ j:Nat,j≤y.length∧i=.int .i64 j∧Rw Zes 176 wr (fun k=>w.heap.size≤k) v (y.take j)∧Below w.heap.size w wr) (fun v i _=>y.length-(intOf i).toNat)
 case atStart=>exact ⟨0,Nat.zero_le _,rfl,Zfl _ _ _ _ nlr_,(brf_).alloc nlr_ _⟩
 case round =>
    obtain ⟨j,hj,rfl,hR1,hb1⟩:=hrel
    by_cases hlj:j<y.length
    ·obtain ⟨z,hz9⟩:=Zar y hlj
     have hzl:=hq2 j z hz9
     obtain ⟨ad0,A1,c1,rfl,z0,z1,z2,l1,r1⟩:=Zlv (Zac hA hb1) hz9
     go_upto_region 6 with (fail)
     change Code.wp _ _ _ _ (wr.alloc (.cells #[.int .i64 z.kind,.int .i64 z.way,.slice A1 z.bytes.length c1] 176))
     have hal:Below wr.heap.size wr (wr.alloc (.cells #[.int .i64 z.kind,.int .i64 z.way,.slice A1 z.bytes.length c1] 176)):=(brf_).alloc nlr_ _
     have Ny:=Zas wr (.cells #[.int .i64 z.kind,.int .i64 z.way,.slice A1 z.bytes.length c1] 176)
     have hasz:=Zcq wr (.cells #[.int .i64 z.kind,.int .i64 z.way,.slice A1 z.bytes.length c1] 176)
     have hb2:=hb1.trans (hal.mono hb1.size)
     have r2:=Zac r1 hal
     have hR2:=Zaj (Zaf hR1) hal
     have hs1:=hb1.size
     clear z0 z1 z2
     generalize hgy:wr.heap.size=gy at *
     generalize wr.alloc (.cells #[.int .i64 z.kind,.int .i64 z.way,.slice A1 z.bytes.length c1] 176)=W1 at *
     obtain ⟨-,-,e2⟩:=cellsP3 Ny
     go_upto_region 7 with (go_at_call 98;with_reducible refine (Zfr A1 c1 z.bytes W1 r2 hzl).mono ?_;rintro e w1 ⟨⟨v1,rfl,h1⟩,hb3⟩;obtain ⟨E1,L1,g1,rfl⟩:=Zba h1;have Ny1:=Zab Ny hb3;have e3:w1.cell? ⟨gy,2,none⟩=some (.slice A1 z.bytes.length c1):=Zag Ny1 rfl;have f3:=Zad Ny1 2)
     have Ny2:(w1.setCell ⟨gy,2,none⟩ (.slice E1 L1 g1)).heap[gy]? = some (.cells #[.int .i64 z.kind,.int .i64 z.way,.slice E1 L1 g1] 176 (0,0)):=Zau Ny1 2 _
     have HB2:=Zak (j:=2) (v:=.slice E1 L1 g1) (hb2.trans (hb3.mono hb2.size)) (show w.heap.size≤gy by omega)
     have hp:=Zuf (x:=z) (Zaf (Zah h1 (w1:=w1.setCell ⟨gy,2,none⟩ (.slice E1 L1 g1)) (fun k hk _=>Below.heap_setCell w1 ⟨gy,2,none⟩ _ k (by (try dsimp only at hk ⊢);omega))))
     have hR3:=Zah (Zaj (Zaf hR2) hb3) (w1:=w1.setCell ⟨gy,2,none⟩ (.slice E1 L1 g1)) (fun k hk _=>Below.heap_setCell w1 ⟨gy,2,none⟩ _ k (by (try dsimp only at hk ⊢);omega))
     have hs2:W1.heap.size≤(w1.setCell ⟨gy,2,none⟩ (.slice E1 L1 g1)).heap.size:=by have:=hb3.size;simpa [World.setCell] using this
     clear e2 e3 f3 Ny1 h1 hb3 hR2 hR1
     generalize w1.setCell ⟨gy,2,none⟩ (.slice E1 L1 g1)=W2 at *
     obtain ⟨y0,y1,y2⟩:=cellsP3 Ny2
     go_wp2_with ((with_reducible refine Zfo (b:=.append) (xs:=#[.tmp 21,.tmp 23]) rfl ?_);at_builtin;(refine Zdg Zes (w0:=w) rfl (.tmp 21) (.tmp 23) 117 176 _ _ rfl Tryz.underlying117 Zza rfl (by decide) (by omega) _ (y.take j) z _ (fun k=>w.heap.size≤k) (fun k=>W1.heap.size≤k∧k<W2.heap.size) rfl rfl hp (Zae hR3 (fun k hk=>by have:=hk.1;have:=hk.2;(try dsimp only at *);omega)) (fun k hk=>by have:=hb1.size;(try dsimp only at hk ⊢);omega) (fun _ h=>h) (fun k hk=>by have:=HB2.size;(try dsimp only);omega) HB2 (by simp;omega) ?_);intro v2 w2 hR4 HB3 hgr hat)
     refine ⟨⟨j+1,by omega,rfl,by rw [List.take_succ_eq_append_getElem hlj,← (List.getElem?_eq_some_iff.1 hz9).2] at *;exact hR4,HB3⟩, ?_⟩
     simp [intOf]
     omega
    ·have e:j=y.length:=by omega
     subst e
     rw [List.take_length] at hR1
     go_wp2
     go_ret
     exact ⟨⟨_,rfl,hR1⟩,hb1⟩
theorem Zpk (A1 A2:Option Addr) (c1 c2:Nat) (xs ys:List Int) (w:World) (r1:Rd kInt w A1 xs) (r2:Rd kInt w A2 ys) (l1:xs.length≤1048576) (l2:ys.length≤1048576) :
  Calls Tryz.prog 131 #[.agg #[.slice A1 xs.length c1,.slice A2 ys.length c2]] w fun e w'=>(∃ (u1 u2:Value) (f:Nat→Nat),e=.returned (.agg #[u1,u2])∧Rw kInt 3 w' (fun k=>w.heap.size≤k∧f k=8) u1 xs∧Rw kInt 3 w' (fun k=>w.heap.size≤k∧f k=9) u2 ys)∧Below w.heap.size w w':=by
 obtain ⟨W,eW,hb0,Np,Nr⟩:=new2 w (.cells #[.slice A1 xs.length c1,.slice A2 ys.length c2] 96) (.cells #[.slice none 0 0,.slice none 0 0] 96)
 go_enter Tryz.func131,Tryz.ntmps131
 go_upto_region 1 with (fail)
 refine wp_at eW ?_
 clear eW
 have hWr:w.heap.size+1<W.heap.size:=Zao Nr
 refine Zfm (n:=10) (S:=fun w1=>Below W.heap.size W w1) (ds:=[9]) #[false,false,false,false,false,false,false,false,false,false] (by kernel_rfl) rfl rfl (Zat (brf_)) (fun hWd=>?_)
 refine head2g #[false,false,false,false,false,false,false,false,false,false] #[false,true,false,false,false,false,false,false,false,false] #[false,true,true,false,false,false,false,false,false,false] 1 2 4 5 1 90 96 0 0 w.heap.size (u:=.slice A1 xs.length c1) ⟨rfl,rfl⟩ (by kernel_rfl) ⟨rfl,rfl,rfl⟩ ⟨rfl,rfl,rfl⟩ rfl (show 4<12 by decide) (fun w1=>by go_simp) (fun w1 hk=>by have h9:=cellsP1 (Zab Np hk);go_simp) hWd (fun _ _ _ d _ h=>by cases d <;> exact h) ?_
 refine Zbb (by simp only [Act.put,pkA,pkB,pkC];rfl) ?_
 refine head2g #[false,true,true,false,false,false,false,false,false,false] #[false,true,true,false,false,true,false,false,false,false] #[false,true,true,false,false,true,true,false,false,false] 5 6 8 9 1 90 96 1 1 w.heap.size (u:=.slice A2 ys.length c2) ⟨rfl,rfl⟩ (by kernel_rfl) ⟨rfl,rfl,rfl⟩ ⟨rfl,rfl,rfl⟩ rfl (show 8<12 by decide) (fun w1=>by go_simp) (fun w1 hk=>by obtain ⟨-,h9⟩:=cellsP2 (Zab Np hk);go_simp) hWd (fun _ _ _ d _ h=>by cases d <;> exact h) ?_
 refine Zbb (by simp only [Act.put,pkA,pkB,pkC];rfl) ?_
 refine Zia 12 W.heap.size [0,3,7,8] 4 4 2 1000 7 8 (fun m=>if m=0 then 3 else if m=1 then 6 else if m=2 then 10 else 11) (fun g=>.slice (some ⟨g,0,none⟩) 0 0) (fun g=>.slice (some ⟨g,0,none⟩) 0 0) (.cells #[] 3) (.cells #[] 3) (fun m b1 b2=>#[decide (1≤m),true,true,decide (2≤m),b1,true,true,decide (3≤m),decide (4≤m),false]) 1 (fun m a wx T=>a.tmps.size=12∧Sl [(1,.pointer (some ⟨w.heap.size,0,none⟩)),(2,.pointer (some ⟨w.heap.size+1,0,none⟩)),(5,.slice A1 xs.length c1),(9,.slice A2 ys.length c2)] a∧Below W.heap.size W wx∧(∀ k,T k→W.heap.size≤k)∧(m=1→∃ g0,a.eval (.tmp 3)=.slice (some ⟨g0,0,none⟩) 0 0∧Rw kInt 3 wx (fun k=>k=g0) (.slice (some ⟨g0,0,none⟩) 0 0) []∧T g0)∧(2≤m→∃ B1 L1 d1 T1,a.eval (.tmp 6)=.slice B1 L1 d1∧Rw kInt 3 wx T1 (.slice B1 L1 d1) xs∧(∀ k,T1 k→T k)∧(3≤m→∃ B2 L2 d2 T2,a.eval (.tmp 10)=.slice B2 L2 d2∧Rw kInt 3 wx T2 (.slice B2 L2 d2) ys∧(∀ k,T2 k→T k∧¬T1 k)∧(4≤m→a.eval (.tmp 11)=.agg #[.slice B1 L1 d1,.slice B2 L2 d2])))) true false (by kernel_rfl) ?hsz ?ht ?hlo ?hS _ ?st1 ?st2 ?hn1 ?hn2 ?hc ?hend 5 0 false true (fun _=>undef) _ _ (fun _=>False) 0 0 rfl (by decide) rfl (fun h=>by cases h) (fun _=>rfl) (fun _=>rfl) (fun h=>by simp at h) ?hin (fun _ h=>h.elim) (fun _ h=>by cases h) (fun h=>by cases h) (fun _ h=>by cases h)
 case hsz=>exact fun m a wx T h=>h.1
 case ht=>exact ⟨by decide,by decide,by decide,fun m=>by split <;> (try split) <;> (try split) <;> decide⟩
 case hlo=>exact fun m a wx T h=>h.2.2.1.size
 case hS=>exact fun m a wx T h=>h.2.2.1
 case st1 =>
  rintro m a wx T ⟨h1,h2,h3,h4,h5,h6⟩ hT
  have hb9:Below wx.heap.size wx (wx.alloc (.cells #[] 3)):=(brf_).alloc nlr_ _
  refine ⟨by rw [Zcb];exact h1,h2.put (by kernel_rfl),h3.alloc h3.size _,h4,fun e=>?_,fun e=>?_⟩
  ·obtain ⟨g0,q1,q2,q3⟩:=h5 e
   exact ⟨g0,(Zaq (by decide)).trans q1,Zaj q2 hb9,q3⟩
  ·obtain ⟨B1,L1,d1,T1,q1,q2,q3,q4⟩:=h6 e
   refine ⟨B1,L1,d1,T1,(Zaq (by decide)).trans q1,Zaj q2 hb9,q3,fun e=>?_⟩
   obtain ⟨B2,L2,d2,T2,z1,z2,z3,z4⟩:=q4 e
   exact ⟨B2,L2,d2,T2,(Zaq (by decide)).trans z1,Zaj z2 hb9,z3,fun e=>(Zaq (by decide)).trans (z4 e)⟩
 case st2 =>
  rintro m a wx T ⟨h1,h2,h3,h4,h5,h6⟩ hT
  have hb9:Below wx.heap.size wx (wx.alloc (.cells #[] 3)):=(brf_).alloc nlr_ _
  refine ⟨by rw [Zcb];exact h1,h2.put (by kernel_rfl),h3.alloc h3.size _,h4,fun e=>?_,fun e=>?_⟩
  ·obtain ⟨g0,q1,q2,q3⟩:=h5 e
   exact ⟨g0,(Zaq (by decide)).trans q1,Zaj q2 hb9,q3⟩
  ·obtain ⟨B1,L1,d1,T1,q1,q2,q3,q4⟩:=h6 e
   refine ⟨B1,L1,d1,T1,(Zaq (by decide)).trans q1,Zaj q2 hb9,q3,fun e=>?_⟩
   obtain ⟨B2,L2,d2,T2,z1,z2,z3,z4⟩:=q4 e
   exact ⟨B2,L2,d2,T2,(Zaq (by decide)).trans z1,Zaj z2 hb9,z3,fun e=>(Zaq (by decide)).trans (z4 e)⟩
 case hn1=>exact fun _ m a wx T h=>⟨_,rfl,rfl,rfl,by unfold execOp;go_simp⟩
 case hn2=>exact fun h=>by cases h
 case hc =>
  intro m i hi a wx T g1 g2 ⟨h1,h2,h3,h4,h5,h6⟩ hT hu1 _
  match m,hi with
  | 0,hi =>
   obtain rfl:=Option.some.inj hi
   refine ⟨_,rfl,rfl,rfl,fun K hK=>?_⟩
   refine Zgd (t:=3) (v:=.slice (some ⟨wx.heap.size,0,none⟩) 0 0) (w1:=wx.alloc (.cells #[] 3)) rfl rfl (by unfold execOp;go_simp) ?_
   have hsz:=Zcq wx (.cells #[] 3)
   refine hK _ _ (fun k=>k=wx.heap.size) ⟨by rw [Zcb];exact h1,h2.put (by kernel_rfl),h3.alloc h3.size _,fun k hk=>by have:=h3.size;omega,fun _=>⟨_,Zco (by rw [h1];decide),Zfl _ _ _ _ rfl,rfl⟩,fun e=>by omega⟩ (fun k hk=>by omega) (by omega) (fun k hk=>Or.inr (Or.inl (by omega))) (fun k hk _ _ _=>Below.heap_alloc _ _ _ hk)
  | 1,hi =>
   obtain rfl:=Option.some.inj hi
   obtain ⟨g0,q1,q2,q3⟩:=h5 rfl
   have hg0:=hT g0 q3
   refine ⟨_,rfl,rfl,rfl,fun K hK=>?_⟩
   refine Zdj kInt fInt rfl (.tmp 3) (.tmp 5) 90 3 _ _ rfl Tryz.underlying90 iInt rfl (by decide) (by omega) g0 _ xs A1 c1 q1 (h2 (5,_) (by simp)) q2 hg0 (Zac (Zac r1 hb0) h3) (by omega) ?_
   intro v1 w1 hR hs hm hbl
   obtain ⟨B,L9,d,rfl⟩:=Zba hR
   refine hK _ _ (fun k=>k<w1.heap.size∧(k=g0∨wx.heap.size≤k)) ⟨by rw [Zcb];exact h1,h2.put (by kernel_rfl),h3.trans (hbl.mono (h4 g0 q3)),fun k hk=>by have:=h4 g0 q3;have:=h3.size;omega,fun e=>by omega,fun _=>⟨B,L9,d,_,Zco (by rw [h1];decide),Zae (Zaf hR) (fun k hk=>⟨hk.2,hk.1⟩),fun _ h=>h,fun e=>by omega⟩⟩ (fun k hk=>hk.1) hs (fun k hk=>hk.2.elim (fun e=>Or.inl (by rw [e];exact q3)) (fun e=>Or.inr (Or.inl e))) (fun k hk hn _ _=>hm k hk (fun e=>hn (by rw [e];exact q3)))
  | 2,hi =>
   obtain rfl:=Option.some.inj hi
   obtain ⟨B1,L1,d1,T1,q1,q2,q3,q4⟩:=h6 (by omega)
   obtain ⟨n1,n2,n3,n4,n5⟩:=hu1 rfl
   refine ⟨_,rfl,rfl,rfl,fun K hK=>?_⟩
   have hlit:Rw kInt 3 wx (fun k=>k=g1) (.slice (some ⟨g1,0,none⟩) 0 0) []:=Zum n2
   refine Zdj kInt fInt rfl (.tmp 7) (.tmp 9) 90 3 _ _ rfl Tryz.underlying90 iInt rfl (by decide) (by omega) g1 _ ys A2 c2 n1 (h2 (9,_) (by simp)) hlit n4 (Zac (Zac r2 hb0) h3) (by omega) ?_
   intro v1 w1 hR hs hm hbl
   obtain ⟨B,L9,d,rfl⟩:=Zba hR
   refine hK _ _ (fun k=>T k∨(k<w1.heap.size∧(k=g1∨wx.heap.size≤k))) ⟨by rw [Zcb];exact h1,h2.put (by kernel_rfl),h3.trans (hbl.mono n5),fun k hk=>hk.elim (fun h=>h4 k h) (fun h=>by have:=h3.size;omega),fun e=>by omega,fun _=>⟨B1,L1,d1,T1,(Zaq (by decide)).trans q1,Zah q2 (fun k hk hl=>hm k hl (fun e=>n3 (by rw [← e];exact q3 k hk))),fun k hk=>Or.inl (q3 k hk),fun _=>⟨B,L9,d,_,Zco (by rw [h1];decide),Zae (Zaf hR) (fun k hk=>⟨hk.2,hk.1⟩),fun k hk=>⟨Or.inr hk,fun h9=>by have:=hT k (q3 k h9);exact hk.2.elim (fun e=>n3 (by rw [← e];exact q3 k h9)) (fun e=>by omega)⟩,fun e=>by omega⟩⟩⟩ (fun k hk=>hk.elim (fun h=>by have:=hT k h;omega) (fun h=>h.1)) hs (fun k hk=>hk.elim Or.inl (fun h=>h.2.elim (fun e=>Or.inr (Or.inr (Or.inl ⟨rfl,e⟩))) (fun e=>Or.inr (Or.inl e)))) (fun k hk _ hn _=>hm k hk (fun e=>hn ⟨rfl,e⟩))
  | 3,hi =>
   obtain rfl:=Option.some.inj hi
   obtain ⟨B1,L1,d1,T1,q1,q2,q3,q4⟩:=h6 (by omega)
   obtain ⟨B2,L2,d2,T2,z1,z2,z3,z4⟩:=q4 (by omega)
   refine ⟨_,rfl,rfl,rfl,fun K hK=>?_⟩
   refine Zgd (t:=11) (v:=.agg #[.slice B1 L1 d1,.slice B2 L2 d2]) (w1:=wx) rfl rfl (by revert q1 z1;unfold execOp;generalize a.eval=ρ;intro q1 z1;go_simp <;> rfl) ?_
   exact hK _ _ T ⟨by rw [Zcb];exact h1,h2.put (by kernel_rfl),h3,h4,fun e=>by omega,fun _=>⟨B1,L1,d1,T1,(Zaq (by decide)).trans q1,q2,q3,fun _=>⟨B2,L2,d2,T2,(Zaq (by decide)).trans z1,z2,z3,fun _=>Zco (by rw [h1];decide)⟩⟩⟩ hT nlr_ (fun k hk=>Or.inl hk) (fun k _ _ _ _=>rfl)
 case hin=>exact ⟨rfl,fun p hp=>by simp only [List.mem_cons,List.not_mem_nil,or_false] at hp;rcases hp with rfl | rfl | rfl | rfl <;> rfl,hWd,fun _ h=>h.elim,fun e=>by omega,fun e=>by omega⟩
 case hend =>
  intro cv g g2 a wx T ha ⟨h1,h2,h3,h4,h5,h6⟩ hT _ _ _
  obtain ⟨B1,L1,d1,T1,q1,q2,q3,q4⟩:=h6 (by decide)
  obtain ⟨B2,L2,d2,T2,z1,z2,z3,z4⟩:=q4 (by decide)
  have z4:=z4 (by decide)
  have Nr1:=Zab Nr h3
  have HB:=hb0.trans (h3.mono hb0.size)
  refine Znl (i:=9) (N:=none) #[true,true,true,true,true,true,true,true,true,true] rfl rfl (by kernel_rfl) (by decide) (fun K hK=>?_)
  refine Zgx rfl rfl 96 (.tmp 2) (.tmp 11) rfl (w.heap.size+1) #[.slice B1 L1 d1,.slice B2 L2 d2] (h2 (2,_) (by simp)) z4 96 #[.slice none 0 0,.slice none 0 0] Nr1 (by kernel_rfl) rfl (by simp [Value.oneCell']) (fun w9 Ng hk=>?_)
  refine hK.out _ _ ?_
  clear hK K
  refine Zgw (by kernel_rfl) ?_
  subst ha
  simp only [canB,Zqg,canC,List.length_cons,List.length_nil,if_true,if_false,Bool.false_eq_true,Nat.zero_add,Nat.reduceAdd,Nat.reduceEqDiff]
  simp only [Act.put,pkA,pkB,pkC]
  generalize cv 0=vz0;generalize cv 1=vz1;generalize cv 2=vz2;generalize cv 3=vz3
  clear h2 h5 h6 q1 z1 z4 q4 h1
  go_wp2
  refine bodyPost_ret (results_cell_row rfl _ _ (w.heap.size+1) 96 #[.slice B1 L1 d1,.slice B2 L2 d2] (0,0) _ rfl Ng Tryz.underlying96 rfl (by kernel_rfl)) rfl ?_
  have hne:∀ k,T k→k≠w.heap.size+1:=fun k hk=>by have:=h4 k hk;omega
  classical
  exact ⟨⟨_,_,rfl,fun k=>if T1 k then 8 else 9,Zae (Zah q2 (fun k hk1 hl=>hk.block k hl (hne k (q3 k hk1)))) (fun k hk1=>⟨by have:=h4 k (q3 k hk1);omega,if_pos hk1⟩),Zae (Zah z2 (fun k hk1 hl=>hk.block k hl (hne k (z3 k hk1).1))) (fun k hk1=>⟨by have:=h4 k (z3 k hk1).1;omega,if_neg (z3 k hk1).2⟩)⟩,HB.trans ⟨hk.os,hk.tape,hk.output,hk.size,fun k hk1=>hk.block k (by have:=HB.size;omega) (fun e=>by omega)⟩⟩
end Go.Proofs.YtaeckoinpllpnaaGreat
