/- Part 33 of the proof of its last text: this session's own texts, shortened and joined by a program of its own (wip/pack.py). -/
import Derived.Test.YtaeckoinpllpnaaGreatTaa
import Derived.Test.YtaeckoinpllpnaaGreatTbe
import Derived.Test.YtaeckoinpllpnaaGreatTbf
import Derived.Test.YtaeckoinpllpnaaGreatTbc
import Derived.Test.YtaeckoinpllpnaaGreatTad
set_option linter.unusedVariables false
set_option linter.unusedSimpArgs false
set_option maxHeartbeats 16000000
set_option maxRecDepth 100000
namespace Go.Proofs.YtaeckoinpllpnaaGreat
open Go.RowKit Go.Proofs.YtaeckoinpllpnaaGreatW.PrintWords Go.Proofs.YtaeckoinpllpnaaGreatW.PrintLast
def plnZ:Pln:=⟨0,0,0,[],[],[],[]⟩
theorem Zvz:Zcz plnZ=false:=rfl
def oneZ:One:=⟨plnZ,[],[],[],[],[],0,[]⟩
theorem Zze (w:World):allK w plnZ kPln [.int .i64 0,.int .i64 0,.int .i64 0,.slice none 0 0,.slice none 0 0,.slice none 0 0,.slice none 0 0]:=⟨rfl,rfl,rfl,⟨_,_,rfl,Nat.le_refl _,Zuc _ _ _⟩,⟨_,_,rfl,Nat.le_refl _,Zuc _ _ _⟩,⟨_,_,rfl,Nat.le_refl _,Zuc _ _ _⟩,⟨_,_,rfl,Nat.le_refl _,Zuc _ _ _⟩,trivial⟩
theorem Zwa (w:World) (S:Nat→Prop):Own kOne w S oneZ [.int .i64 0,.int .i64 0,.int .i64 0,.slice none 0 0,.slice none 0 0,.slice none 0 0,.slice none 0 0,.slice none 0 0,.slice none 0 0,.slice none 0 0,.slice none 0 0,.slice none 0 0,.int .i64 0,.slice none 0 0]:=Zzd (x:=oneZ) (fun _=>0) (Zbq _ _ _ _) (Zbq _ _ _ _) (Zbq _ _ _ _) (Zbq _ _ _ _) (Zbq _ _ _ _) (Zbq _ _ _ _) (Zbq _ _ _ _) (Zbq _ _ _ _) (Zbq _ _ _ _) (Zbq _ _ _ _)
theorem Zwm {w:World} {x:One} {cs:List Value} (h:allK w x kOne cs):∃ A1 c1 A2 c2 A3 c3 A4 c4 A5 c5 A6 c6 A7 c7 A8 c8 A9 c9 A10 c10,cs=[.int .i64 x.plan.nodes,.int .i64 x.plan.secret,.int .i64 x.plan.fuel,.slice A1 x.plan.cells.length c1,.slice A2 x.plan.ways.length c2,.slice A3 x.plan.slots.length c3,.slice A4 x.plan.turns.length c4,.slice A5 x.up.length c5,.slice A6 x.cells.length c6,.slice A7 x.out.length c7,.slice A8 x.inn.length c8,.slice A9 x.air.length c9,.int .i64 x.now,.slice A10 x.seen.length c10]∧x.plan.cells.length≤c1∧Rd kCel w A1 x.plan.cells∧x.plan.ways.length≤c2∧Rd kWy w A2 x.plan.ways∧x.plan.slots.length≤c3∧Rd kSlt w A3 x.plan.slots∧x.plan.turns.length≤c4∧Rd Zda w A4 x.plan.turns∧x.up.length≤c5∧Rd Zgk w A5 x.up∧x.cells.length≤c6∧Rd Zby w A6 x.cells∧x.out.length≤c7∧Rd kBox w A7 x.out∧x.inn.length≤c8∧Rd kBox w A8 x.inn∧x.air.length≤c9∧Rd Zdd w A9 x.air∧x.seen.length≤c10∧Rd Zbv w A10 x.seen:=by
 obtain ⟨v0,t0,rfl,e0,h⟩:=Zbr h
 obtain ⟨v1,t1,rfl,e1,h⟩:=Zbr h
 obtain ⟨v2,t2,rfl,e2,h⟩:=Zbr h
 obtain ⟨v3,t3,rfl,e3,h⟩:=Zbr h
 obtain ⟨v4,t4,rfl,e4,h⟩:=Zbr h
 obtain ⟨v5,t5,rfl,e5,h⟩:=Zbr h
 obtain ⟨v6,t6,rfl,e6,h⟩:=Zbr h
 obtain ⟨v7,t7,rfl,e7,h⟩:=Zbr h
 obtain ⟨v8,t8,rfl,e8,h⟩:=Zbr h
 obtain ⟨v9,t9,rfl,e9,h⟩:=Zbr h
 obtain ⟨v10,t10,rfl,e10,h⟩:=Zbr h
 obtain ⟨v11,t11,rfl,e11,h⟩:=Zbr h
 obtain ⟨v12,t12,rfl,e12,h⟩:=Zbr h
 obtain ⟨v13,t13,rfl,e13,h⟩:=Zbr h
 obtain rfl:=Ztq h
 obtain rfl:v0=_:=e0
 obtain rfl:v1=_:=e1
 obtain rfl:v2=_:=e2
 obtain rfl:v12=_:=e12
 obtain ⟨A1,c1,rfl,m1,r1⟩:=e3
 obtain ⟨A2,c2,rfl,m2,r2⟩:=e4
 obtain ⟨A3,c3,rfl,m3,r3⟩:=e5
 obtain ⟨A4,c4,rfl,m4,r4⟩:=e6
 obtain ⟨A5,c5,rfl,m5,r5⟩:=e7
 obtain ⟨A6,c6,rfl,m6,r6⟩:=e8
 obtain ⟨A7,c7,rfl,m7,r7⟩:=e9
 obtain ⟨A8,c8,rfl,m8,r8⟩:=e10
 obtain ⟨A9,c9,rfl,m9,r9⟩:=e11
 obtain ⟨A10,c10,rfl,m10,r10⟩:=e13
 exact ⟨A1,c1,A2,c2,A3,c3,A4,c4,A5,c5,A6,c6,A7,c7,A8,c8,A9,c9,A10,c10,rfl,m1,r1,m2,r2,m3,r3,m4,r4,m5,r5,m6,r6,m7,r7,m8,r8,m9,r9,m10,r10⟩
theorem Zsq (x:Pln) (hok:Zcz x=false) (ps:List Value) (w:World) (hP:allK w x kPln ps) :
  Calls Tryz.prog 24 #[.agg ps.toArray] w fun e w'=>e=.returned (.agg #[.int .i64 0,.int .i64 0,.int .i64 0,.slice none 0 0,.slice none 0 0,.slice none 0 0,.slice none 0 0,.slice none 0 0,.int .i64 0,.slice none 0 0,.slice none 0 0])∧Below w.heap.size w w':=by
 have hPP:=hP
 obtain ⟨B1,d1,B2,d2,B3,d3,B4,d4,rfl,-⟩:=Zcs hP
 have qP:=fun (w1:World) (h:Below w.heap.size w w1)=>Zge x _ w1 (Zai h hPP)
 rw [hok] at qP
 obtain ⟨W0,eW,hb0,Np,Nr⟩:=new2 w (.cells #[.int .i64 x.nodes,.int .i64 x.secret,.int .i64 x.fuel,.slice B1 x.cells.length d1,.slice B2 x.ways.length d2,.slice B3 x.slots.length d3,.slice B4 x.turns.length d4] 33) (.cells #[.int .i64 0,.int .i64 0,.int .i64 0,.slice none 0 0,.slice none 0 0,.slice none 0 0,.slice none 0 0,.slice none 0 0,.int .i64 0,.slice none 0 0,.slice none 0 0] 56)
 go_enter Tryz.func24,Tryz.ntmps24
 go_upto_region 1 with (fail)
 refine wp_at eW ?_
 clear eW
 obtain ⟨p0,p1,p2,p3,p4,p5,p6⟩:=cellsP7 Np
 go_wp2_with (first
  | (go_at_call 66;with_reducible refine (qP _ hb0).mono ?_;rintro e w2 ⟨rfl,hb7⟩;have hb1:=hb0.trans (hb7.mono hb0.size);have Nr1:=Zab Nr hb7;clear p0 p1 p2 p3 p4 p5 p6)
  | (refine Zey 56 (.tmp 2) (.tmp 9) ⟨rfl,rfl,rfl⟩ (w.heap.size+1) #[.int .i64 0,.int .i64 0,.int .i64 0,.slice none 0 0,.slice none 0 0,.slice none 0 0,.slice none 0 0,.slice none 0 0,.int .i64 0,.slice none 0 0,.slice none 0 0] rfl rfl 56 #[.int .i64 0,.int .i64 0,.int .i64 0,.slice none 0 0,.slice none 0 0,.slice none 0 0,.slice none 0 0,.slice none 0 0,.int .i64 0,.slice none 0 0,.slice none 0 0] Nr1 (by kernel_rfl) rfl (by simp [Value.oneCell']) ?_;intro wz Nz hkz))
 refine bodyPost_ret (results_cell_row rfl _ _ (w.heap.size+1) 56 #[.int .i64 0,.int .i64 0,.int .i64 0,.slice none 0 0,.slice none 0 0,.slice none 0 0,.slice none 0 0,.slice none 0 0,.int .i64 0,.slice none 0 0,.slice none 0 0] (0,0) _ rfl Nz Tryz.underlying56 rfl (by kernel_rfl)) rfl ?_
 exact ⟨rfl,hb1.trans ⟨hkz.os,hkz.tape,hkz.output,hkz.size,fun b_ hb=>hkz.block b_ (by have:=hb1.size;omega) (fun e=>by omega)⟩⟩
theorem Zsr (x:Pln) (hok:Zcz x=false) (ps:List Value) (w:World) (hP:allK w x kPln ps) :
  Calls Tryz.prog 18 #[.agg ps.toArray] w fun e w'=>e=.returned (.agg #[.int .i64 0,.int .i64 0,.int .i64 0,.slice none 0 0,.slice none 0 0,.slice none 0 0,.slice none 0 0,.slice none 0 0,.int .i64 0,.slice none 0 0,.slice none 0 0])∧Below w.heap.size w w':=by
 have hPP:=hP
 obtain ⟨B1,d1,B2,d2,B3,d3,B4,d4,rfl,-⟩:=Zcs hP
 have qP:=fun (w1:World) (h:Below w.heap.size w w1)=>Zeu x _ w1 (Zai h hPP)
 rw [hok] at qP
 obtain ⟨W0,eW,hb0,Np,Nr⟩:=new2 w (.cells #[.int .i64 x.nodes,.int .i64 x.secret,.int .i64 x.fuel,.slice B1 x.cells.length d1,.slice B2 x.ways.length d2,.slice B3 x.slots.length d3,.slice B4 x.turns.length d4] 33) (.cells #[.int .i64 0,.int .i64 0,.int .i64 0,.slice none 0 0,.slice none 0 0,.slice none 0 0,.slice none 0 0,.slice none 0 0,.int .i64 0,.slice none 0 0,.slice none 0 0] 56)
 go_enter Tryz.func18,Tryz.ntmps18
 go_upto_region 1 with (fail)
 refine wp_at eW ?_
 clear eW
 obtain ⟨p0,p1,p2,p3,p4,p5,p6⟩:=cellsP7 Np
 go_wp2_with (first
  | (go_at_call 54;with_reducible refine (qP _ hb0).mono ?_;rintro e w2 ⟨rfl,hb7⟩;have hb1:=hb0.trans (hb7.mono hb0.size);have Nr1:=Zab Nr hb7;clear p0 p1 p2 p3 p4 p5 p6)
  | (refine Zey 56 (.tmp 2) (.tmp 9) ⟨rfl,rfl,rfl⟩ (w.heap.size+1) #[.int .i64 0,.int .i64 0,.int .i64 0,.slice none 0 0,.slice none 0 0,.slice none 0 0,.slice none 0 0,.slice none 0 0,.int .i64 0,.slice none 0 0,.slice none 0 0] rfl rfl 56 #[.int .i64 0,.int .i64 0,.int .i64 0,.slice none 0 0,.slice none 0 0,.slice none 0 0,.slice none 0 0,.slice none 0 0,.int .i64 0,.slice none 0 0,.slice none 0 0] Nr1 (by kernel_rfl) rfl (by simp [Value.oneCell']) ?_;intro wz Nz hkz))
 refine bodyPost_ret (results_cell_row rfl _ _ (w.heap.size+1) 56 #[.int .i64 0,.int .i64 0,.int .i64 0,.slice none 0 0,.slice none 0 0,.slice none 0 0,.slice none 0 0,.slice none 0 0,.int .i64 0,.slice none 0 0,.slice none 0 0] (0,0) _ rfl Nz Tryz.underlying56 rfl (by kernel_rfl)) rfl ?_
 exact ⟨rfl,hb1.trans ⟨hkz.os,hkz.tape,hkz.output,hkz.size,fun b_ hb=>hkz.block b_ (by have:=hb1.size;omega) (fun e=>by omega)⟩⟩
theorem Zss (w:World) (gw:Nat) (hN:w.heap[gw]? = some (.cells #[.int .i64 0,.int .i64 0,.int .i64 0,.slice none 0 0,.slice none 0 0,.slice none 0 0,.slice none 0 0,.slice none 0 0,.int .i64 0,.slice none 0 0,.slice none 0 0] 56 (0,0))) :
  Calls Tryz.prog 107 #[.pointer (some ⟨gw,0,none⟩)] w fun e w'=>e=.returned (.bool false)∧Below w.heap.size w w':=by
 have qP:=fun (w1:World)=>Zge plnZ _ w1 (Zze w1)
 rw [Zvz] at qP
 obtain ⟨g0,g1,g2,g3,g4,g5,g6,g7,g8,g9,g10⟩:=cellsP11 hN
 go_enter Tryz.func107,Tryz.ntmps107
 go_wp2_with (fail)
 refine Zan (by kernel_rfl) (by kernel_rfl) ?_
 have hx:=Zbg w
 repeat (go_big_quiet_step (first | (go_at_call 66;with_reducible exact Calls.ext_of_below (qP _))))
 refine wpQuiet_nil ?_
 rintro _ ⟨wt,rfl⟩
 have hbx:=Zam w wt
 clear hx
 go_wp2
 go_ret
 exact ⟨rfl,hbx⟩
theorem Zuo (w:World):Calls Tryz.prog 62 #[.agg #[.int .i64 0,.int .i64 0,.int .i64 0,.slice none 0 0,.slice none 0 0,.slice none 0 0,.slice none 0 0,.slice none 0 0,.int .i64 0,.slice none 0 0,.slice none 0 0]] w fun e w'=>e=.returned (.bool false)∧Below w.heap.size w w':=by
 have hb0:=(Below.refl w.heap.size w).alloc nlr_ (.cells #[.int .i64 0,.int .i64 0,.int .i64 0,.slice none 0 0,.slice none 0 0,.slice none 0 0,.slice none 0 0,.slice none 0 0,.int .i64 0,.slice none 0 0,.slice none 0 0] 56)
 have q:=Zss (w.alloc (.cells #[.int .i64 0,.int .i64 0,.int .i64 0,.slice none 0 0,.slice none 0 0,.slice none 0 0,.slice none 0 0,.slice none 0 0,.int .i64 0,.slice none 0 0,.slice none 0 0] 56)) w.heap.size (Zas w _)
 go_enter Tryz.func62,Tryz.ntmps62
 go_wp2_with (go_at_call 107;with_reducible refine q.mono ?_;rintro e w2 ⟨rfl,hb7⟩)
 go_ret
 exact ⟨rfl,hb0.trans (hb7.mono hb0.size)⟩
theorem Zup (w:World):Calls Tryz.prog 52 #[.agg #[.int .i64 0,.int .i64 0,.int .i64 0,.slice none 0 0,.slice none 0 0,.slice none 0 0,.slice none 0 0,.slice none 0 0,.int .i64 0,.slice none 0 0,.slice none 0 0]] w fun e w'=>e=.returned (.bool false)∧Below w.heap.size w w':=by
 obtain ⟨W,eW,hb0,Nw⟩:=new1 w (.cells #[.int .i64 0,.int .i64 0,.int .i64 0,.slice none 0 0,.slice none 0 0,.slice none 0 0,.slice none 0 0,.slice none 0 0,.int .i64 0,.slice none 0 0,.slice none 0 0] 56)
 have qP:=fun (w1:World)=>Zeu plnZ _ w1 (Zze w1)
 rw [Zvz] at qP
 go_enter Tryz.func52,Tryz.ntmps52
 go_upto_region 1 with (fail)
 refine wp_at eW ?_
 clear eW
 obtain ⟨g0,g1,g2,g3,g4,g5,g6,g7,g8,g9,g10⟩:=cellsP11 Nw
 go_wp2_with (go_at_call 54;with_reducible refine (qP _).mono ?_;rintro e w2 ⟨rfl,hb7⟩;clear g0 g1 g2 g3 g4 g5 g6 g7 g8 g9 g10)
 go_ret
 exact ⟨rfl,hb0.trans (hb7.mono hb0.size)⟩
theorem Zuq (w:World) :
  Calls Tryz.prog 23 #[.agg #[.int .i64 0,.int .i64 0,.int .i64 0,.slice none 0 0,.slice none 0 0,.slice none 0 0,.slice none 0 0,.slice none 0 0,.int .i64 0,.slice none 0 0,.slice none 0 0]] w fun e w'=>e=.returned (.agg #[.int .i64 0,.int .i64 0,.int .i64 0,.slice none 0 0,.slice none 0 0,.slice none 0 0,.slice none 0 0,.slice none 0 0,.slice none 0 0,.slice none 0 0,.slice none 0 0,.slice none 0 0,.int .i64 0,.slice none 0 0])∧Below w.heap.size w w':=by
 have qO:=fun (w1:World)=>Zuo w1
 obtain ⟨W0,eW,hb0,Np,Nr⟩:=new2 w (.cells #[.int .i64 0,.int .i64 0,.int .i64 0,.slice none 0 0,.slice none 0 0,.slice none 0 0,.slice none 0 0,.slice none 0 0,.int .i64 0,.slice none 0 0,.slice none 0 0] 56) (.cells #[.int .i64 0,.int .i64 0,.int .i64 0,.slice none 0 0,.slice none 0 0,.slice none 0 0,.slice none 0 0,.slice none 0 0,.slice none 0 0,.slice none 0 0,.slice none 0 0,.slice none 0 0,.int .i64 0,.slice none 0 0] 40)
 go_enter Tryz.func23,Tryz.ntmps23
 go_upto_region 1 with (fail)
 refine wp_at eW ?_
 clear eW
 obtain ⟨p0,p1,p2,p3,p4,p5,p6,p7,p8,p9,p10⟩:=cellsP11 Np
 go_wp2_with (first
  | (go_at_call 62;with_reducible refine (qO _).mono ?_;rintro e w2 ⟨rfl,hb7⟩;have hb1:=hb0.trans (hb7.mono hb0.size);have Nr1:=Zab Nr hb7;clear p0 p1 p2 p3 p4 p5 p6 p7 p8 p9 p10)
  | (refine Zey 40 (.tmp 2) (.tmp 12) ⟨rfl,rfl,rfl⟩ (w.heap.size+1) #[.int .i64 0,.int .i64 0,.int .i64 0,.slice none 0 0,.slice none 0 0,.slice none 0 0,.slice none 0 0,.slice none 0 0,.slice none 0 0,.slice none 0 0,.slice none 0 0,.slice none 0 0,.int .i64 0,.slice none 0 0] rfl rfl 40 #[.int .i64 0,.int .i64 0,.int .i64 0,.slice none 0 0,.slice none 0 0,.slice none 0 0,.slice none 0 0,.slice none 0 0,.slice none 0 0,.slice none 0 0,.slice none 0 0,.slice none 0 0,.int .i64 0,.slice none 0 0] Nr1 (by kernel_rfl) rfl (by simp [Value.oneCell']) ?_;intro wz Nz hkz))
 refine bodyPost_ret (results_cell_row rfl _ _ (w.heap.size+1) 40 #[.int .i64 0,.int .i64 0,.int .i64 0,.slice none 0 0,.slice none 0 0,.slice none 0 0,.slice none 0 0,.slice none 0 0,.slice none 0 0,.slice none 0 0,.slice none 0 0,.slice none 0 0,.int .i64 0,.slice none 0 0] (0,0) _ rfl Nz Tryz.underlying40 rfl (by kernel_rfl)) rfl ?_
 exact ⟨rfl,hb1.trans ⟨hkz.os,hkz.tape,hkz.output,hkz.size,fun b_ hb=>hkz.block b_ (by have:=hb1.size;omega) (fun e=>by omega)⟩⟩
theorem Zur (w:World) :
  Calls Tryz.prog 17 #[.agg #[.int .i64 0,.int .i64 0,.int .i64 0,.slice none 0 0,.slice none 0 0,.slice none 0 0,.slice none 0 0,.slice none 0 0,.int .i64 0,.slice none 0 0,.slice none 0 0]] w fun e w'=>e=.returned (.agg #[.int .i64 0,.int .i64 0,.int .i64 0,.slice none 0 0,.slice none 0 0,.slice none 0 0,.slice none 0 0,.slice none 0 0,.slice none 0 0,.slice none 0 0,.slice none 0 0,.slice none 0 0,.int .i64 0,.slice none 0 0])∧Below w.heap.size w w':=by
 have qO:=fun (w1:World)=>Zup w1
 obtain ⟨W0,eW,hb0,Np,Nr⟩:=new2 w (.cells #[.int .i64 0,.int .i64 0,.int .i64 0,.slice none 0 0,.slice none 0 0,.slice none 0 0,.slice none 0 0,.slice none 0 0,.int .i64 0,.slice none 0 0,.slice none 0 0] 56) (.cells #[.int .i64 0,.int .i64 0,.int .i64 0,.slice none 0 0,.slice none 0 0,.slice none 0 0,.slice none 0 0,.slice none 0 0,.slice none 0 0,.slice none 0 0,.slice none 0 0,.slice none 0 0,.int .i64 0,.slice none 0 0] 40)
 go_enter Tryz.func17,Tryz.ntmps17
 go_upto_region 1 with (fail)
 refine wp_at eW ?_
 clear eW
 obtain ⟨p0,p1,p2,p3,p4,p5,p6,p7,p8,p9,p10⟩:=cellsP11 Np
 go_wp2_with (first
  | (go_at_call 52;with_reducible refine (qO _).mono ?_;rintro e w2 ⟨rfl,hb7⟩;have hb1:=hb0.trans (hb7.mono hb0.size);have Nr1:=Zab Nr hb7;clear p0 p1 p2 p3 p4 p5 p6 p7 p8 p9 p10)
  | (refine Zey 40 (.tmp 2) (.tmp 12) ⟨rfl,rfl,rfl⟩ (w.heap.size+1) #[.int .i64 0,.int .i64 0,.int .i64 0,.slice none 0 0,.slice none 0 0,.slice none 0 0,.slice none 0 0,.slice none 0 0,.slice none 0 0,.slice none 0 0,.slice none 0 0,.slice none 0 0,.int .i64 0,.slice none 0 0] rfl rfl 40 #[.int .i64 0,.int .i64 0,.int .i64 0,.slice none 0 0,.slice none 0 0,.slice none 0 0,.slice none 0 0,.slice none 0 0,.slice none 0 0,.slice none 0 0,.slice none 0 0,.slice none 0 0,.int .i64 0,.slice none 0 0] Nr1 (by kernel_rfl) rfl (by simp [Value.oneCell']) ?_;intro wz Nz hkz))
 refine bodyPost_ret (results_cell_row rfl _ _ (w.heap.size+1) 40 #[.int .i64 0,.int .i64 0,.int .i64 0,.slice none 0 0,.slice none 0 0,.slice none 0 0,.slice none 0 0,.slice none 0 0,.slice none 0 0,.slice none 0 0,.slice none 0 0,.slice none 0 0,.int .i64 0,.slice none 0 0] (0,0) _ rfl Nz Tryz.underlying40 rfl (by kernel_rfl)) rfl ?_
 exact ⟨rfl,hb1.trans ⟨hkz.os,hkz.tape,hkz.output,hkz.size,fun b_ hb=>hkz.block b_ (by have:=hb1.size;omega) (fun e=>by omega)⟩⟩
def Zaw (x:Pln):One:=if Zcz x=true then Zun x else oneZ
theorem Zvj {x:Pln} (h:Zcz x=true):∃ n,Sane x n:=by
 simp only [Zcz,Bool.and_eq_true,decide_eq_true_eq] at h
 obtain ⟨h1,h2,h3,h4,h5,h6,h7,-⟩:=h
 have a:=Zeg h1
 have c:=Zeg h4
 refine ⟨x.nodes.toNat,by omega,by omega,by omega,by omega,h6, ?_,Zja h7, ?_⟩
 ·intro j y hy
  have h8:=Zoi h7 hy
  simp only [wyOk,Bool.and_eq_true] at h8
  exact h8.2.2.2.1
 ·intro j z hz
  have h8:=Zoi h5 hz
  simp only [Zfc,Bool.and_eq_true] at h8
  have:=Zeg h8.1
  omega
theorem Zus {x:Pln} {n:Nat} (hx:Sane x n) (h1:Zwl x):Zxr (Zee x):=by
 have e:=hx.hn
 have:=hx.n4
 have hc:=hx.cel
 have hw:=hx.way
 have hbx:∀ (j:Nat) (m:Box),(x.ways.map (fun y=>Zbd y.depth))[j]? = some m→Zyt m:=by
  intro j m hm
  rw [List.getElem?_map] at hm
  obtain ⟨y,-,rfl⟩:=Option.map_eq_some_iff.1 hm
  exact ⟨by simp [Zbd],fun j m h=>by simp [Zbd] at h⟩
 have hcl:∀ (j:Nat) (m:CelSt),(x.cells.map (fun _=>Zbt))[j]? = some m→Zvi m:=by
  intro j m hm
  rw [List.getElem?_map] at hm
  obtain ⟨y,-,rfl⟩:=Option.map_eq_some_iff.1 hm
  exact ⟨by simp [Zbt],by simp [Zbt],by simp [Zbt]⟩
 have hl:(Zee x).nodes.length≤1048576:=by simp [Zee];omega
 have hl2:(Zee x).seen.length≤1048576:=by simp [Zee];omega
 refine ⟨h1,hl, ?_,by simp [Zee],fun j z h=>by simp [Zee] at h,hl2, ?_⟩
 ·intro j z hz
  have hz':z=Zbm x 1 true:=by
   simp only [Zee] at hz
   exact (List.eq_of_mem_replicate (List.mem_of_getElem? hz))
  subst hz'
  refine ⟨by simp [Zbm];omega,hcl,by simp [Zbm];omega,hbx,by simp [Zbm];omega,hbx,by simp [Zbm];omega,by simp [Zbm];omega,by simp [Zbm];omega,by simp [Zbm];omega⟩
 ·intro j z hz
  have hz':z=[]:=by
   simp only [Zee] at hz
   exact (List.eq_of_mem_replicate (List.mem_of_getElem? hz))
  subst hz'
  exact ⟨by simp,fun j m h=>by simp at h⟩
theorem Zrl (x:Pln) (hsm:Zwl x) (ps:List Value) (w:World) (hP:allK w x kPln ps) :
  Calls Tryz.prog 7 #[.agg ps.toArray] w fun e w'=>(∃ cs:List Value,e=.returned (.agg cs.toArray)∧Own kOne w' (fun k=>w.heap.size≤k) (Zaw x) cs)∧Below w.heap.size w w':=by
 have hPP:=hP
 obtain ⟨B1,d1,B2,d2,B3,d3,B4,d4,rfl,-⟩:=Zcs hP
 obtain ⟨W0,eW,hb0,Np,Nr⟩:=new2 w (.cells #[.int .i64 x.nodes,.int .i64 x.secret,.int .i64 x.fuel,.slice B1 x.cells.length d1,.slice B2 x.ways.length d2,.slice B3 x.slots.length d3,.slice B4 x.turns.length d4] 33) (.cells #[.int .i64 0,.int .i64 0,.int .i64 0,.slice none 0 0,.slice none 0 0,.slice none 0 0,.slice none 0 0,.slice none 0 0,.slice none 0 0,.slice none 0 0,.slice none 0 0,.slice none 0 0,.int .i64 0,.slice none 0 0] 40)
 have qC:∀ w1:World,Below w.heap.size w w1→Calls Tryz.prog 24 #[.agg #[.int .i64 x.nodes,.int .i64 x.secret,.int .i64 x.fuel,.slice B1 x.cells.length d1,.slice B2 x.ways.length d2,.slice B3 x.slots.length d3,.slice B4 x.turns.length d4]] w1 fun e w2=>(∃ ws:List Value,e=.returned (.agg ws.toArray)∧Below w1.heap.size w1 w2∧Calls Tryz.prog 23 #[.agg ws.toArray] w2 fun e w3=>(∃ cs:List Value,e=.returned (.agg cs.toArray)∧Own kOne w3 (fun k=>w2.heap.size≤k) (Zaw x) cs)∧Below w2.heap.size w2 w3):=by
  intro w1 h
  by_cases hok:Zcz x=true
  ·obtain ⟨n,hx⟩:=Zvj hok
   have hsw:=Zus hx hsm
   obtain ⟨m1,m2,m3,m4,m5,m6,m7⟩:=hsm
   refine (Zrg x n hx hok m1 m2 m5 m6 m7 _ w1 (Zai h hPP)).mono ?_
   rintro e w2 ⟨⟨ws,rfl,hO⟩,hb⟩
   refine ⟨ws,rfl,hb, ?_⟩
   have:=Zso x n hx hok hsw ws w2 (Zbh hO)
   rw [Zaw,if_pos hok]
   exact this
  ·refine (Zsq x (by simpa using hok) _ w1 (Zai h hPP)).mono ?_
   rintro e w2 ⟨rfl,hb⟩
   refine ⟨[.int .i64 0,.int .i64 0,.int .i64 0,.slice none 0 0,.slice none 0 0,.slice none 0 0,.slice none 0 0,.slice none 0 0,.int .i64 0,.slice none 0 0,.slice none 0 0],rfl,hb, ?_⟩
   refine (Zuq w2).mono ?_
   rintro e w3 ⟨rfl,hb3⟩
   refine ⟨⟨[.int .i64 0,.int .i64 0,.int .i64 0,.slice none 0 0,.slice none 0 0,.slice none 0 0,.slice none 0 0,.slice none 0 0,.slice none 0 0,.slice none 0 0,.slice none 0 0,.slice none 0 0,.int .i64 0,.slice none 0 0],rfl, ?_⟩,hb3⟩
   rw [Zaw,if_neg hok]
   exact Zwa _ _
 go_enter Tryz.func7,Tryz.ntmps7
 go_upto_region 1 with (fail)
 refine wp_at eW ?_
 clear eW
 obtain ⟨p0,p1,p2,p3,p4,p5,p6⟩:=cellsP7 Np
 go_wp2_with (first
  | (go_at_call 24;with_reducible refine (qC _ hb0).mono ?_;rintro e w2 ⟨ws,rfl,hb7,qO⟩;have hb1:=hb0.trans (hb7.mono hb0.size);have Nr1:=Zab Nr hb7;clear p0 p1 p2 p3 p4 p5 p6;replace qO:=Zrj qO)
  | (go_at_call 23;with_reducible refine qO.out.mono ?_;rintro e w3 ⟨⟨cs,rfl,hO⟩,hb8⟩;have hb2:=hb1.trans (hb8.mono hb1.size);have Nr2:=Zab Nr1 hb8;have hO9:=Zbh hO;have hsO:=hb8.size;have hs2:=Zao Nr1;clear qO hb7;obtain ⟨A1,c1,A2,c2,A3,c3,A4,c4,A5,c5,A6,c6,A7,c7,A8,c8,A9,c9,A10,c10,rfl,-⟩:=Zwm hO9;clear hO9)
  | (refine Zey 40 (.tmp 2) (.tmp 5) ⟨rfl,rfl,rfl⟩ (w.heap.size+1) #[.int .i64 (Zaw x).plan.nodes,.int .i64 (Zaw x).plan.secret,.int .i64 (Zaw x).plan.fuel,.slice A1 (Zaw x).plan.cells.length c1,.slice A2 (Zaw x).plan.ways.length c2,.slice A3 (Zaw x).plan.slots.length c3,.slice A4 (Zaw x).plan.turns.length c4,.slice A5 (Zaw x).up.length c5,.slice A6 (Zaw x).cells.length c6,.slice A7 (Zaw x).out.length c7,.slice A8 (Zaw x).inn.length c8,.slice A9 (Zaw x).air.length c9,.int .i64 (Zaw x).now,.slice A10 (Zaw x).seen.length c10] rfl rfl 40 #[.int .i64 0,.int .i64 0,.int .i64 0,.slice none 0 0,.slice none 0 0,.slice none 0 0,.slice none 0 0,.slice none 0 0,.slice none 0 0,.slice none 0 0,.slice none 0 0,.slice none 0 0,.int .i64 0,.slice none 0 0] Nr2 (by kernel_rfl) rfl (by simp [Value.oneCell']) ?_;intro wz Nz hkz))
 refine bodyPost_ret (results_cell_row rfl _ _ (w.heap.size+1) 40 #[.int .i64 (Zaw x).plan.nodes,.int .i64 (Zaw x).plan.secret,.int .i64 (Zaw x).plan.fuel,.slice A1 (Zaw x).plan.cells.length c1,.slice A2 (Zaw x).plan.ways.length c2,.slice A3 (Zaw x).plan.slots.length c3,.slice A4 (Zaw x).plan.turns.length c4,.slice A5 (Zaw x).up.length c5,.slice A6 (Zaw x).cells.length c6,.slice A7 (Zaw x).out.length c7,.slice A8 (Zaw x).inn.length c8,.slice A9 (Zaw x).air.length c9,.int .i64 (Zaw x).now,.slice A10 (Zaw x).seen.length c10] (0,0) _ rfl Nz Tryz.underlying40 rfl (by kernel_rfl)) rfl ?_
 have hO5:=Zdf hO (fun k hk hl=>hkz.block k hl (fun e=>by (try dsimp only at hk e);omega))
 exact ⟨⟨_,rfl,Zbx hO5 (fun k hk=>by (try dsimp only at hk ⊢);omega)⟩,hb2.trans ⟨hkz.os,hkz.tape,hkz.output,hkz.size,fun b_ hb=>hkz.block b_ (by have:=hb2.size;omega) (fun e=>by omega)⟩⟩
theorem Zrm (x:Pln) (hsm:Zwl x) (ps:List Value) (w:World) (hP:allK w x kPln ps) :
  Calls Tryz.prog 5 #[.agg ps.toArray] w fun e w'=>(∃ cs:List Value,e=.returned (.agg cs.toArray)∧Own kOne w' (fun k=>w.heap.size≤k) (Zaw x) cs)∧Below w.heap.size w w':=by
 have hPP:=hP
 obtain ⟨B1,d1,B2,d2,B3,d3,B4,d4,rfl,-⟩:=Zcs hP
 obtain ⟨W0,eW,hb0,Np,Nr⟩:=new2 w (.cells #[.int .i64 x.nodes,.int .i64 x.secret,.int .i64 x.fuel,.slice B1 x.cells.length d1,.slice B2 x.ways.length d2,.slice B3 x.slots.length d3,.slice B4 x.turns.length d4] 33) (.cells #[.int .i64 0,.int .i64 0,.int .i64 0,.slice none 0 0,.slice none 0 0,.slice none 0 0,.slice none 0 0,.slice none 0 0,.slice none 0 0,.slice none 0 0,.slice none 0 0,.slice none 0 0,.int .i64 0,.slice none 0 0] 40)
 have qC:∀ w1:World,Below w.heap.size w w1→Calls Tryz.prog 18 #[.agg #[.int .i64 x.nodes,.int .i64 x.secret,.int .i64 x.fuel,.slice B1 x.cells.length d1,.slice B2 x.ways.length d2,.slice B3 x.slots.length d3,.slice B4 x.turns.length d4]] w1 fun e w2=>(∃ ws:List Value,e=.returned (.agg ws.toArray)∧Below w1.heap.size w1 w2∧Calls Tryz.prog 17 #[.agg ws.toArray] w2 fun e w3=>(∃ cs:List Value,e=.returned (.agg cs.toArray)∧Own kOne w3 (fun k=>w2.heap.size≤k) (Zaw x) cs)∧Below w2.heap.size w2 w3):=by
  intro w1 h
  by_cases hok:Zcz x=true
  ·obtain ⟨n,hx⟩:=Zvj hok
   have hsw:=Zus hx hsm
   obtain ⟨m1,m2,m3,m4,m5,m6,m7⟩:=hsm
   refine (Zrf x n hx hok m1 m2 m5 m6 m7 _ w1 (Zai h hPP)).mono ?_
   rintro e w2 ⟨⟨ws,rfl,hO⟩,hb⟩
   refine ⟨ws,rfl,hb, ?_⟩
   have:=Zsp x n hx hok hsw ws w2 (Zbh hO)
   rw [Zaw,if_pos hok]
   exact this
  ·refine (Zsr x (by simpa using hok) _ w1 (Zai h hPP)).mono ?_
   rintro e w2 ⟨rfl,hb⟩
   refine ⟨[.int .i64 0,.int .i64 0,.int .i64 0,.slice none 0 0,.slice none 0 0,.slice none 0 0,.slice none 0 0,.slice none 0 0,.int .i64 0,.slice none 0 0,.slice none 0 0],rfl,hb, ?_⟩
   refine (Zur w2).mono ?_
   rintro e w3 ⟨rfl,hb3⟩
   refine ⟨⟨[.int .i64 0,.int .i64 0,.int .i64 0,.slice none 0 0,.slice none 0 0,.slice none 0 0,.slice none 0 0,.slice none 0 0,.slice none 0 0,.slice none 0 0,.slice none 0 0,.slice none 0 0,.int .i64 0,.slice none 0 0],rfl, ?_⟩,hb3⟩
   rw [Zaw,if_neg hok]
   exact Zwa _ _
 go_enter Tryz.func5,Tryz.ntmps5
 go_upto_region 1 with (fail)
 refine wp_at eW ?_
 clear eW
 obtain ⟨p0,p1,p2,p3,p4,p5,p6⟩:=cellsP7 Np
 go_wp2_with (first
  | (go_at_call 18;with_reducible refine (qC _ hb0).mono ?_;rintro e w2 ⟨ws,rfl,hb7,qO⟩;have hb1:=hb0.trans (hb7.mono hb0.size);have Nr1:=Zab Nr hb7;clear p0 p1 p2 p3 p4 p5 p6;replace qO:=Zrj qO)
  | (go_at_call 17;with_reducible refine qO.out.mono ?_;rintro e w3 ⟨⟨cs,rfl,hO⟩,hb8⟩;have hb2:=hb1.trans (hb8.mono hb1.size);have Nr2:=Zab Nr1 hb8;have hO9:=Zbh hO;have hsO:=hb8.size;have hs2:=Zao Nr1;clear qO hb7;obtain ⟨A1,c1,A2,c2,A3,c3,A4,c4,A5,c5,A6,c6,A7,c7,A8,c8,A9,c9,A10,c10,rfl,-⟩:=Zwm hO9;clear hO9)
  | (refine Zey 40 (.tmp 2) (.tmp 5) ⟨rfl,rfl,rfl⟩ (w.heap.size+1) #[.int .i64 (Zaw x).plan.nodes,.int .i64 (Zaw x).plan.secret,.int .i64 (Zaw x).plan.fuel,.slice A1 (Zaw x).plan.cells.length c1,.slice A2 (Zaw x).plan.ways.length c2,.slice A3 (Zaw x).plan.slots.length c3,.slice A4 (Zaw x).plan.turns.length c4,.slice A5 (Zaw x).up.length c5,.slice A6 (Zaw x).cells.length c6,.slice A7 (Zaw x).out.length c7,.slice A8 (Zaw x).inn.length c8,.slice A9 (Zaw x).air.length c9,.int .i64 (Zaw x).now,.slice A10 (Zaw x).seen.length c10] rfl rfl 40 #[.int .i64 0,.int .i64 0,.int .i64 0,.slice none 0 0,.slice none 0 0,.slice none 0 0,.slice none 0 0,.slice none 0 0,.slice none 0 0,.slice none 0 0,.slice none 0 0,.slice none 0 0,.int .i64 0,.slice none 0 0] Nr2 (by kernel_rfl) rfl (by simp [Value.oneCell']) ?_;intro wz Nz hkz))
 refine bodyPost_ret (results_cell_row rfl _ _ (w.heap.size+1) 40 #[.int .i64 (Zaw x).plan.nodes,.int .i64 (Zaw x).plan.secret,.int .i64 (Zaw x).plan.fuel,.slice A1 (Zaw x).plan.cells.length c1,.slice A2 (Zaw x).plan.ways.length c2,.slice A3 (Zaw x).plan.slots.length c3,.slice A4 (Zaw x).plan.turns.length c4,.slice A5 (Zaw x).up.length c5,.slice A6 (Zaw x).cells.length c6,.slice A7 (Zaw x).out.length c7,.slice A8 (Zaw x).inn.length c8,.slice A9 (Zaw x).air.length c9,.int .i64 (Zaw x).now,.slice A10 (Zaw x).seen.length c10] (0,0) _ rfl Nz Tryz.underlying40 rfl (by kernel_rfl)) rfl ?_
 have hO5:=Zdf hO (fun k hk hl=>hkz.block k hl (fun e=>by (try dsimp only at hk e);omega))
 exact ⟨⟨_,rfl,Zbx hO5 (fun k hk=>by (try dsimp only at hk ⊢);omega)⟩,hb2.trans ⟨hkz.os,hkz.tape,hkz.output,hkz.size,fun b_ hb=>hkz.block b_ (by have:=hb2.size;omega) (fun e=>by omega)⟩⟩
end Go.Proofs.YtaeckoinpllpnaaGreat
namespace Go.Proofs.YtaeckoinpllpnaaGreat
open Go.RowKit Go.Proofs.YtaeckoinpllpnaaGreatW.PrintWords
theorem Zji (x:One) (A1 A2 A3 A4 A5 A6 A7 A8 A9 A10:Option Addr) (c1 c2 c3 c4 c5 c6 c7 c8 c9 c10:Nat) (k:Int) (S:Nat→Prop) (w:World) (H:Own kOne w S x [.int .i64 x.plan.nodes,.int .i64 x.plan.secret,.int .i64 x.plan.fuel,.slice A1 x.plan.cells.length c1,.slice A2 x.plan.ways.length c2,.slice A3 x.plan.slots.length c3,.slice A4 x.plan.turns.length c4,.slice A5 x.up.length c5,.slice A6 x.cells.length c6,.slice A7 x.out.length c7,.slice A8 x.inn.length c8,.slice A9 x.air.length c9,.int .i64 x.now,.slice A10 x.seen.length c10]) (h0:0≤k) (h1:k+(mOne.n x:Nat)≤1099511627776) :
  Calls Tryz.prog 11 #[.agg #[.int .i64 x.plan.nodes,.int .i64 x.plan.secret,.int .i64 x.plan.fuel,.slice A1 x.plan.cells.length c1,.slice A2 x.plan.ways.length c2,.slice A3 x.plan.slots.length c3,.slice A4 x.plan.turns.length c4,.slice A5 x.up.length c5,.slice A6 x.cells.length c6,.slice A7 x.out.length c7,.slice A8 x.inn.length c8,.slice A9 x.air.length c9,.int .i64 x.now,.slice A10 x.seen.length c10],.int .i64 k] w fun e w'=>e=.returned (.int .i64 (k+(mOne.n x:Nat)))∧Own kOne w' S (mOne.put x k) [.int .i64 x.plan.nodes,.int .i64 x.plan.secret,.int .i64 x.plan.fuel,.slice A1 x.plan.cells.length c1,.slice A2 x.plan.ways.length c2,.slice A3 x.plan.slots.length c3,.slice A4 x.plan.turns.length c4,.slice A5 x.up.length c5,.slice A6 x.cells.length c6,.slice A7 x.out.length c7,.slice A8 x.inn.length c8,.slice A9 x.air.length c9,.int .i64 x.now,.slice A10 x.seen.length c10]∧Kep S w w':=by
 obtain ⟨f,Q0,Q1,Q2,Q3,Q4,Q5,Q6,Q7,Q8,Q9,Q10,Q11,Q12,Q13,_⟩:=H
 have hn:mOne.n x=mPln.n x.plan+nL Zdz x.up+nL Zcy x.cells+nL mBox x.out+nL mBox x.inn+nL Zcx x.air+nL Zde x.seen:=rfl
 rw [hn] at h1
 have R1_0:Rw kCel 107 (w.alloc (.cells #[.int .i64 x.plan.nodes,.int .i64 x.plan.secret,.int .i64 x.plan.fuel,.slice A1 x.plan.cells.length c1,.slice A2 x.plan.ways.length c2,.slice A3 x.plan.slots.length c3,.slice A4 x.plan.turns.length c4,.slice A5 x.up.length c5,.slice A6 x.cells.length c6,.slice A7 x.out.length c7,.slice A8 x.inn.length c8,.slice A9 x.air.length c9,.int .i64 x.now,.slice A10 x.seen.length c10] 40)) (fun b=>(S b∧f b=3)∧b<w.heap.size) (.slice A1 x.plan.cells.length c1) x.plan.cells:=Zaj (Zaf (S:=fun b=>S b∧f b=3) Q3) ((brf_).alloc nlr_ _)
 have R2_0:Rw kWy 112 (w.alloc (.cells #[.int .i64 x.plan.nodes,.int .i64 x.plan.secret,.int .i64 x.plan.fuel,.slice A1 x.plan.cells.length c1,.slice A2 x.plan.ways.length c2,.slice A3 x.plan.slots.length c3,.slice A4 x.plan.turns.length c4,.slice A5 x.up.length c5,.slice A6 x.cells.length c6,.slice A7 x.out.length c7,.slice A8 x.inn.length c8,.slice A9 x.air.length c9,.int .i64 x.now,.slice A10 x.seen.length c10] 40)) (fun b=>(S b∧f b=4)∧b<w.heap.size) (.slice A2 x.plan.ways.length c2) x.plan.ways:=Zaj (Zaf (S:=fun b=>S b∧f b=4) Q4) ((brf_).alloc nlr_ _)
 have R3_0:Rw kSlt 121 (w.alloc (.cells #[.int .i64 x.plan.nodes,.int .i64 x.plan.secret,.int .i64 x.plan.fuel,.slice A1 x.plan.cells.length c1,.slice A2 x.plan.ways.length c2,.slice A3 x.plan.slots.length c3,.slice A4 x.plan.turns.length c4,.slice A5 x.up.length c5,.slice A6 x.cells.length c6,.slice A7 x.out.length c7,.slice A8 x.inn.length c8,.slice A9 x.air.length c9,.int .i64 x.now,.slice A10 x.seen.length c10] 40)) (fun b=>(S b∧f b=5)∧b<w.heap.size) (.slice A3 x.plan.slots.length c3) x.plan.slots:=Zaj (Zaf (S:=fun b=>S b∧f b=5) Q5) ((brf_).alloc nlr_ _)
 have R4_0:Rw Zda 90 (w.alloc (.cells #[.int .i64 x.plan.nodes,.int .i64 x.plan.secret,.int .i64 x.plan.fuel,.slice A1 x.plan.cells.length c1,.slice A2 x.plan.ways.length c2,.slice A3 x.plan.slots.length c3,.slice A4 x.plan.turns.length c4,.slice A5 x.up.length c5,.slice A6 x.cells.length c6,.slice A7 x.out.length c7,.slice A8 x.inn.length c8,.slice A9 x.air.length c9,.int .i64 x.now,.slice A10 x.seen.length c10] 40)) (fun b=>(S b∧f b=6)∧b<w.heap.size) (.slice A4 x.plan.turns.length c4) x.plan.turns:=Zaj (Zaf (S:=fun b=>S b∧f b=6) Q6) ((brf_).alloc nlr_ _)
 have R5_0:Rw Zgk 4 (w.alloc (.cells #[.int .i64 x.plan.nodes,.int .i64 x.plan.secret,.int .i64 x.plan.fuel,.slice A1 x.plan.cells.length c1,.slice A2 x.plan.ways.length c2,.slice A3 x.plan.slots.length c3,.slice A4 x.plan.turns.length c4,.slice A5 x.up.length c5,.slice A6 x.cells.length c6,.slice A7 x.out.length c7,.slice A8 x.inn.length c8,.slice A9 x.air.length c9,.int .i64 x.now,.slice A10 x.seen.length c10] 40)) (fun b=>(S b∧f b=7)∧b<w.heap.size) (.slice A5 x.up.length c5) x.up:=Zaj (Zaf (S:=fun b=>S b∧f b=7) Q7) ((brf_).alloc nlr_ _)
 have R6_0:Rw Zby 103 (w.alloc (.cells #[.int .i64 x.plan.nodes,.int .i64 x.plan.secret,.int .i64 x.plan.fuel,.slice A1 x.plan.cells.length c1,.slice A2 x.plan.ways.length c2,.slice A3 x.plan.slots.length c3,.slice A4 x.plan.turns.length c4,.slice A5 x.up.length c5,.slice A6 x.cells.length c6,.slice A7 x.out.length c7,.slice A8 x.inn.length c8,.slice A9 x.air.length c9,.int .i64 x.now,.slice A10 x.seen.length c10] 40)) (fun b=>(S b∧f b=8)∧b<w.heap.size) (.slice A6 x.cells.length c6) x.cells:=Zaj (Zaf (S:=fun b=>S b∧f b=8) Q8) ((brf_).alloc nlr_ _)
 have R7_0:Rw kBox 109 (w.alloc (.cells #[.int .i64 x.plan.nodes,.int .i64 x.plan.secret,.int .i64 x.plan.fuel,.slice A1 x.plan.cells.length c1,.slice A2 x.plan.ways.length c2,.slice A3 x.plan.slots.length c3,.slice A4 x.plan.turns.length c4,.slice A5 x.up.length c5,.slice A6 x.cells.length c6,.slice A7 x.out.length c7,.slice A8 x.inn.length c8,.slice A9 x.air.length c9,.int .i64 x.now,.slice A10 x.seen.length c10] 40)) (fun b=>(S b∧f b=9)∧b<w.heap.size) (.slice A7 x.out.length c7) x.out:=Zaj (Zaf (S:=fun b=>S b∧f b=9) Q9) ((brf_).alloc nlr_ _)
 have R8_0:Rw kBox 109 (w.alloc (.cells #[.int .i64 x.plan.nodes,.int .i64 x.plan.secret,.int .i64 x.plan.fuel,.slice A1 x.plan.cells.length c1,.slice A2 x.plan.ways.length c2,.slice A3 x.plan.slots.length c3,.slice A4 x.plan.turns.length c4,.slice A5 x.up.length c5,.slice A6 x.cells.length c6,.slice A7 x.out.length c7,.slice A8 x.inn.length c8,.slice A9 x.air.length c9,.int .i64 x.now,.slice A10 x.seen.length c10] 40)) (fun b=>(S b∧f b=10)∧b<w.heap.size) (.slice A8 x.inn.length c8) x.inn:=Zaj (Zaf (S:=fun b=>S b∧f b=10) Q10) ((brf_).alloc nlr_ _)
 have R9_0:Rw Zdd 54 (w.alloc (.cells #[.int .i64 x.plan.nodes,.int .i64 x.plan.secret,.int .i64 x.plan.fuel,.slice A1 x.plan.cells.length c1,.slice A2 x.plan.ways.length c2,.slice A3 x.plan.slots.length c3,.slice A4 x.plan.turns.length c4,.slice A5 x.up.length c5,.slice A6 x.cells.length c6,.slice A7 x.out.length c7,.slice A8 x.inn.length c8,.slice A9 x.air.length c9,.int .i64 x.now,.slice A10 x.seen.length c10] 40)) (fun b=>(S b∧f b=11)∧b<w.heap.size) (.slice A9 x.air.length c9) x.air:=Zaj (Zaf (S:=fun b=>S b∧f b=11) Q11) ((brf_).alloc nlr_ _)
 have R10_0:Rw Zbv 117 (w.alloc (.cells #[.int .i64 x.plan.nodes,.int .i64 x.plan.secret,.int .i64 x.plan.fuel,.slice A1 x.plan.cells.length c1,.slice A2 x.plan.ways.length c2,.slice A3 x.plan.slots.length c3,.slice A4 x.plan.turns.length c4,.slice A5 x.up.length c5,.slice A6 x.cells.length c6,.slice A7 x.out.length c7,.slice A8 x.inn.length c8,.slice A9 x.air.length c9,.int .i64 x.now,.slice A10 x.seen.length c10] 40)) (fun b=>(S b∧f b=13)∧b<w.heap.size) (.slice A10 x.seen.length c10) x.seen:=Zaj (Zaf (S:=fun b=>S b∧f b=13) Q13) ((brf_).alloc nlr_ _)
 have Na0:=Zas w (.cells #[.int .i64 x.plan.nodes,.int .i64 x.plan.secret,.int .i64 x.plan.fuel,.slice A1 x.plan.cells.length c1,.slice A2 x.plan.ways.length c2,.slice A3 x.plan.slots.length c3,.slice A4 x.plan.turns.length c4,.slice A5 x.up.length c5,.slice A6 x.cells.length c6,.slice A7 x.out.length c7,.slice A8 x.inn.length c8,.slice A9 x.air.length c9,.int .i64 x.now,.slice A10 x.seen.length c10] 40)
 have hc0:=Kep.refl (fun b=>S b∧b<w.heap.size) (w.alloc (.cells #[.int .i64 x.plan.nodes,.int .i64 x.plan.secret,.int .i64 x.plan.fuel,.slice A1 x.plan.cells.length c1,.slice A2 x.plan.ways.length c2,.slice A3 x.plan.slots.length c3,.slice A4 x.plan.turns.length c4,.slice A5 x.up.length c5,.slice A6 x.cells.length c6,.slice A7 x.out.length c7,.slice A8 x.inn.length c8,.slice A9 x.air.length c9,.int .i64 x.now,.slice A10 x.seen.length c10] 40))
 clear Q0
 clear Q1
 clear Q2
 clear Q3
 clear Q4
 clear Q5
 clear Q6
 clear Q7
 clear Q8
 clear Q9
 clear Q10
 clear Q11
 clear Q12
 clear Q13
 have RP_0:Own kPln (w.alloc (.cells #[.int .i64 x.plan.nodes,.int .i64 x.plan.secret,.int .i64 x.plan.fuel,.slice A1 x.plan.cells.length c1,.slice A2 x.plan.ways.length c2,.slice A3 x.plan.slots.length c3,.slice A4 x.plan.turns.length c4,.slice A5 x.up.length c5,.slice A6 x.cells.length c6,.slice A7 x.out.length c7,.slice A8 x.inn.length c8,.slice A9 x.air.length c9,.int .i64 x.now,.slice A10 x.seen.length c10] 40)) (fun b=>(S b∧f b<7)∧b<w.heap.size) x.plan [.int .i64 x.plan.nodes,.int .i64 x.plan.secret,.int .i64 x.plan.fuel,.slice A1 x.plan.cells.length c1,.slice A2 x.plan.ways.length c2,.slice A3 x.plan.slots.length c3,.slice A4 x.plan.turns.length c4]:=⟨f,rfl,rfl,rfl,Zae R1_0 (fun b h=>⟨⟨⟨h.1.1,by omega⟩,h.2⟩,h.1.2⟩),Zae R2_0 (fun b h=>⟨⟨⟨h.1.1,by omega⟩,h.2⟩,h.1.2⟩),Zae R3_0 (fun b h=>⟨⟨⟨h.1.1,by omega⟩,h.2⟩,h.1.2⟩),Zae R4_0 (fun b h=>⟨⟨⟨h.1.1,by omega⟩,h.2⟩,h.1.2⟩),trivial⟩
 go_enter Tryz.func11,Tryz.ntmps11
 go_wp2_with (first
  | (go_at_call 42;refine (Zik _ x.seen (k+(mPln.n x.plan:Nat)+(nL Zdz x.up:Nat)+(nL Zcy x.cells:Nat)+(nL mBox x.out:Nat)+(nL mBox x.inn:Nat)+(nL Zcx x.air:Nat)) _ _ R10_6 (by omega) (by omega)).mono ?_;rintro e w7 ⟨rfl,R10_7,hk7⟩;clear ea0 ea1 ea2 ea3 ea4 ea5 ea6 ea7 ea8 ea9 ea10 ea11 ea12 ea13;have RP_7:=Zdf RP_6 (fun b hb hlt=>hk7.block b hlt (fun h=>by have h3:=h.1.2;have h4:=hb.1.2;omega));have R5_7:=Zah R5_6 (fun b hb hlt=>hk7.block b hlt (fun h=>by have h3:=h.1.2;have h4:=hb.1.2;omega));have R6_7:=Zah R6_6 (fun b hb hlt=>hk7.block b hlt (fun h=>by have h3:=h.1.2;have h4:=hb.1.2;omega));have R7_7:=Zah R7_6 (fun b hb hlt=>hk7.block b hlt (fun h=>by have h3:=h.1.2;have h4:=hb.1.2;omega));have R8_7:=Zah R8_6 (fun b hb hlt=>hk7.block b hlt (fun h=>by have h3:=h.1.2;have h4:=hb.1.2;omega));have R9_7:=Zah R9_6 (fun b hb hlt=>hk7.block b hlt (fun h=>by have h3:=h.1.2;have h4:=hb.1.2;omega));have Na7:=(hk7.block w.heap.size (Zao Na6) (fun h=>by have h3:=h.2;omega)).trans Na6;have hc7:=hc6.trans hk7 (fun b _ h=>⟨h.1.1,h.2⟩);obtain ⟨ea0,ea1,ea2,ea3,ea4,ea5,ea6,ea7,ea8,ea9,ea10,ea11,ea12,ea13⟩:=cellsP14 Na7)
  | (go_at_call 41;refine (Zke _ x.air (k+(mPln.n x.plan:Nat)+(nL Zdz x.up:Nat)+(nL Zcy x.cells:Nat)+(nL mBox x.out:Nat)+(nL mBox x.inn:Nat)) _ _ R9_5 (by omega) (by omega)).mono ?_;rintro e w6 ⟨rfl,R9_6,hk6⟩;clear ea0 ea1 ea2 ea3 ea4 ea5 ea6 ea7 ea8 ea9 ea10 ea11 ea12 ea13;have RP_6:=Zdf RP_5 (fun b hb hlt=>hk6.block b hlt (fun h=>by have h3:=h.1.2;have h4:=hb.1.2;omega));have R5_6:=Zah R5_5 (fun b hb hlt=>hk6.block b hlt (fun h=>by have h3:=h.1.2;have h4:=hb.1.2;omega));have R6_6:=Zah R6_5 (fun b hb hlt=>hk6.block b hlt (fun h=>by have h3:=h.1.2;have h4:=hb.1.2;omega));have R7_6:=Zah R7_5 (fun b hb hlt=>hk6.block b hlt (fun h=>by have h3:=h.1.2;have h4:=hb.1.2;omega));have R8_6:=Zah R8_5 (fun b hb hlt=>hk6.block b hlt (fun h=>by have h3:=h.1.2;have h4:=hb.1.2;omega));have R10_6:=Zah R10_5 (fun b hb hlt=>hk6.block b hlt (fun h=>by have h3:=h.1.2;have h4:=hb.1.2;omega));have Na6:=(hk6.block w.heap.size (Zao Na5) (fun h=>by have h3:=h.2;omega)).trans Na5;have hc6:=hc5.trans hk6 (fun b _ h=>⟨h.1.1,h.2⟩);obtain ⟨ea0,ea1,ea2,ea3,ea4,ea5,ea6,ea7,ea8,ea9,ea10,ea11,ea12,ea13⟩:=cellsP14 Na6)
  | (go_at_call 40;refine (Zgt _ x.inn (k+(mPln.n x.plan:Nat)+(nL Zdz x.up:Nat)+(nL Zcy x.cells:Nat)+(nL mBox x.out:Nat)) _ _ R8_4 (by omega) (by omega)).mono ?_;rintro e w5 ⟨rfl,R8_5,hk5⟩;clear ea0 ea1 ea2 ea3 ea4 ea5 ea6 ea7 ea8 ea9 ea10 ea11 ea12 ea13;have RP_5:=Zdf RP_4 (fun b hb hlt=>hk5.block b hlt (fun h=>by have h3:=h.1.2;have h4:=hb.1.2;omega));have R5_5:=Zah R5_4 (fun b hb hlt=>hk5.block b hlt (fun h=>by have h3:=h.1.2;have h4:=hb.1.2;omega));have R6_5:=Zah R6_4 (fun b hb hlt=>hk5.block b hlt (fun h=>by have h3:=h.1.2;have h4:=hb.1.2;omega));have R7_5:=Zah R7_4 (fun b hb hlt=>hk5.block b hlt (fun h=>by have h3:=h.1.2;have h4:=hb.1.2;omega));have R9_5:=Zah R9_4 (fun b hb hlt=>hk5.block b hlt (fun h=>by have h3:=h.1.2;have h4:=hb.1.2;omega));have R10_5:=Zah R10_4 (fun b hb hlt=>hk5.block b hlt (fun h=>by have h3:=h.1.2;have h4:=hb.1.2;omega));have Na5:=(hk5.block w.heap.size (Zao Na4) (fun h=>by have h3:=h.2;omega)).trans Na4;have hc5:=hc4.trans hk5 (fun b _ h=>⟨h.1.1,h.2⟩);obtain ⟨ea0,ea1,ea2,ea3,ea4,ea5,ea6,ea7,ea8,ea9,ea10,ea11,ea12,ea13⟩:=cellsP14 Na5)
  | (go_at_call 40;refine (Zgt _ x.out (k+(mPln.n x.plan:Nat)+(nL Zdz x.up:Nat)+(nL Zcy x.cells:Nat)) _ _ R7_3 (by omega) (by omega)).mono ?_;rintro e w4 ⟨rfl,R7_4,hk4⟩;clear ea0 ea1 ea2 ea3 ea4 ea5 ea6 ea7 ea8 ea9 ea10 ea11 ea12 ea13;have RP_4:=Zdf RP_3 (fun b hb hlt=>hk4.block b hlt (fun h=>by have h3:=h.1.2;have h4:=hb.1.2;omega));have R5_4:=Zah R5_3 (fun b hb hlt=>hk4.block b hlt (fun h=>by have h3:=h.1.2;have h4:=hb.1.2;omega));have R6_4:=Zah R6_3 (fun b hb hlt=>hk4.block b hlt (fun h=>by have h3:=h.1.2;have h4:=hb.1.2;omega));have R8_4:=Zah R8_3 (fun b hb hlt=>hk4.block b hlt (fun h=>by have h3:=h.1.2;have h4:=hb.1.2;omega));have R9_4:=Zah R9_3 (fun b hb hlt=>hk4.block b hlt (fun h=>by have h3:=h.1.2;have h4:=hb.1.2;omega));have R10_4:=Zah R10_3 (fun b hb hlt=>hk4.block b hlt (fun h=>by have h3:=h.1.2;have h4:=hb.1.2;omega));have Na4:=(hk4.block w.heap.size (Zao Na3) (fun h=>by have h3:=h.2;omega)).trans Na3;have hc4:=hc3.trans hk4 (fun b _ h=>⟨h.1.1,h.2⟩);obtain ⟨ea0,ea1,ea2,ea3,ea4,ea5,ea6,ea7,ea8,ea9,ea10,ea11,ea12,ea13⟩:=cellsP14 Na4)
  | (go_at_call 39;refine (Zjh _ x.cells (k+(mPln.n x.plan:Nat)+(nL Zdz x.up:Nat)) _ _ R6_2 (by omega) (by omega)).mono ?_;rintro e w3 ⟨rfl,R6_3,hk3⟩;clear ea0 ea1 ea2 ea3 ea4 ea5 ea6 ea7 ea8 ea9 ea10 ea11 ea12 ea13;have RP_3:=Zdf RP_2 (fun b hb hlt=>hk3.block b hlt (fun h=>by have h3:=h.1.2;have h4:=hb.1.2;omega));have R5_3:=Zah R5_2 (fun b hb hlt=>hk3.block b hlt (fun h=>by have h3:=h.1.2;have h4:=hb.1.2;omega));have R7_3:=Zah R7_2 (fun b hb hlt=>hk3.block b hlt (fun h=>by have h3:=h.1.2;have h4:=hb.1.2;omega));have R8_3:=Zah R8_2 (fun b hb hlt=>hk3.block b hlt (fun h=>by have h3:=h.1.2;have h4:=hb.1.2;omega));have R9_3:=Zah R9_2 (fun b hb hlt=>hk3.block b hlt (fun h=>by have h3:=h.1.2;have h4:=hb.1.2;omega));have R10_3:=Zah R10_2 (fun b hb hlt=>hk3.block b hlt (fun h=>by have h3:=h.1.2;have h4:=hb.1.2;omega));have Na3:=(hk3.block w.heap.size (Zao Na2) (fun h=>by have h3:=h.2;omega)).trans Na2;have hc3:=hc2.trans hk3 (fun b _ h=>⟨h.1.1,h.2⟩);obtain ⟨ea0,ea1,ea2,ea3,ea4,ea5,ea6,ea7,ea8,ea9,ea10,ea11,ea12,ea13⟩:=cellsP14 Na3)
  | (go_at_call 38;refine (Zmq _ x.up (k+(mPln.n x.plan:Nat)) _ _ R5_1 (by omega) (by omega)).mono ?_;rintro e w2 ⟨rfl,R5_2,hk2⟩;clear ea0 ea1 ea2 ea3 ea4 ea5 ea6 ea7 ea8 ea9 ea10 ea11 ea12 ea13;have RP_2:=Zdf RP_1 (fun b hb hlt=>hk2.block b hlt (fun h=>by have h3:=h.1.2;have h4:=hb.1.2;omega));have R6_2:=Zah R6_1 (fun b hb hlt=>hk2.block b hlt (fun h=>by have h3:=h.1.2;have h4:=hb.1.2;omega));have R7_2:=Zah R7_1 (fun b hb hlt=>hk2.block b hlt (fun h=>by have h3:=h.1.2;have h4:=hb.1.2;omega));have R8_2:=Zah R8_1 (fun b hb hlt=>hk2.block b hlt (fun h=>by have h3:=h.1.2;have h4:=hb.1.2;omega));have R9_2:=Zah R9_1 (fun b hb hlt=>hk2.block b hlt (fun h=>by have h3:=h.1.2;have h4:=hb.1.2;omega));have R10_2:=Zah R10_1 (fun b hb hlt=>hk2.block b hlt (fun h=>by have h3:=h.1.2;have h4:=hb.1.2;omega));have Na2:=(hk2.block w.heap.size (Zao Na1) (fun h=>by have h3:=h.2;omega)).trans Na1;have hc2:=hc1.trans hk2 (fun b _ h=>⟨h.1.1,h.2⟩);obtain ⟨ea0,ea1,ea2,ea3,ea4,ea5,ea6,ea7,ea8,ea9,ea10,ea11,ea12,ea13⟩:=cellsP14 Na2)
  | (go_at_call 10;refine (Zgu x.plan A1 A2 A3 A4 c1 c2 c3 c4 (k) _ _ RP_0 (by omega) (by omega)).mono ?_;rintro e w1 ⟨rfl,RP_1,hk1⟩;have R5_1:=Zah R5_0 (fun b hb hlt=>hk1.block b hlt (fun h=>by have h3:=h.1.2;have h4:=hb.1.2;omega));have R6_1:=Zah R6_0 (fun b hb hlt=>hk1.block b hlt (fun h=>by have h3:=h.1.2;have h4:=hb.1.2;omega));have R7_1:=Zah R7_0 (fun b hb hlt=>hk1.block b hlt (fun h=>by have h3:=h.1.2;have h4:=hb.1.2;omega));have R8_1:=Zah R8_0 (fun b hb hlt=>hk1.block b hlt (fun h=>by have h3:=h.1.2;have h4:=hb.1.2;omega));have R9_1:=Zah R9_0 (fun b hb hlt=>hk1.block b hlt (fun h=>by have h3:=h.1.2;have h4:=hb.1.2;omega));have R10_1:=Zah R10_0 (fun b hb hlt=>hk1.block b hlt (fun h=>by have h3:=h.1.2;have h4:=hb.1.2;omega));have Na1:=(hk1.block w.heap.size (Zao Na0) (fun h=>by have h3:=h.2;omega)).trans Na0;have hc1:=hc0.trans hk1 (fun b _ h=>⟨h.1.1,h.2⟩);obtain ⟨ea0,ea1,ea2,ea3,ea4,ea5,ea6,ea7,ea8,ea9,ea10,ea11,ea12,ea13⟩:=cellsP14 Na1))
 go_ret
 obtain ⟨fp,p0,p1,p2,P1,P2,P3,P4,_⟩:=RP_7
 have P1':Rw kCel 107 _ (fun b=>((S b∧f b<7)∧b<w.heap.size)∧fp b=3) (.slice A1 x.plan.cells.length c1) (mPln.put x.plan k).cells:=P1
 have P2':Rw kWy 112 _ (fun b=>((S b∧f b<7)∧b<w.heap.size)∧fp b=4) (.slice A2 x.plan.ways.length c2) (mPln.put x.plan k).ways:=P2
 have P3':Rw kSlt 121 _ (fun b=>((S b∧f b<7)∧b<w.heap.size)∧fp b=5) (.slice A3 x.plan.slots.length c3) (mPln.put x.plan k).slots:=P3
 have P4':Rw Zda 90 _ (fun b=>((S b∧f b<7)∧b<w.heap.size)∧fp b=6) (.slice A4 x.plan.turns.length c4) (mPln.put x.plan k).turns:=P4
 exact ⟨congrArg (fun z=>Ending.returned (Value.int .i64 z)) (show k+(mPln.n x.plan:Nat)+(nL Zdz x.up:Nat)+(nL Zcy x.cells:Nat)+(nL mBox x.out:Nat)+(nL mBox x.inn:Nat)+(nL Zcx x.air:Nat)+(nL Zde x.seen:Nat)=k+(mOne.n x:Nat) by rw [hn];omega),⟨fun b=>if f b<7 then fp b else f b,rfl,rfl,rfl,Zae P1' (fun b h=>⟨h.1.1.1,(if_pos h.1.1.2).trans h.2⟩),Zae P2' (fun b h=>⟨h.1.1.1,(if_pos h.1.1.2).trans h.2⟩),Zae P3' (fun b h=>⟨h.1.1.1,(if_pos h.1.1.2).trans h.2⟩),Zae P4' (fun b h=>⟨h.1.1.1,(if_pos h.1.1.2).trans h.2⟩),Zae R5_7 (fun b h=>⟨h.1.1,(if_neg (by have h3:=h.1.2;omega)).trans h.1.2⟩),Zae R6_7 (fun b h=>⟨h.1.1,(if_neg (by have h3:=h.1.2;omega)).trans h.1.2⟩),Zae R7_7 (fun b h=>⟨h.1.1,(if_neg (by have h3:=h.1.2;omega)).trans h.1.2⟩),Zae R8_7 (fun b h=>⟨h.1.1,(if_neg (by have h3:=h.1.2;omega)).trans h.1.2⟩),Zae R9_7 (fun b h=>⟨h.1.1,(if_neg (by have h3:=h.1.2;omega)).trans h.1.2⟩),rfl,Zae R10_7 (fun b h=>⟨h.1.1,(if_neg (by have h3:=h.1.2;omega)).trans h.1.2⟩),trivial⟩,(Kep.of_below ((brf_).alloc nlr_ _)).trans hc7 (fun b _ h=>h.1)⟩
theorem Zgb (A:Option Addr) (c:Nat) (xs:List Int) (k:Int) (w:World) (hA:Rd kInt w A (mkL mInt xs k)) (h0:0≤k) (h1:k+(nL mInt xs:Nat)≤1099511627776) :
  Calls Tryz.prog 88 #[.slice A xs.length c,.int .i64 k] w fun e w'=>e=.returned (.int .i64 (k+(nL mInt xs:Nat)))∧Below w.heap.size w w':=by
 have hm:=Zax hA
 rw [Zbu] at hm
 go_enter Tryz.func88,Tryz.ntmps88
 go_wp2
 go_loopw [1,5] (fun kv i wr=>∃ (j:Nat) (K:Int),j≤xs.length∧kv=.int .i64 K∧i=.int .i64 j∧Aside0 (K=k+(nL mInt (xs.take j):Nat))∧Below w.heap.size w wr) (fun _ i _=>xs.length-(intOf i).toNat)
 case atStart=>exact ⟨0,_,Nat.zero_le _,rfl,rfl,⟨by simp [nL]⟩,brf_⟩
 case round =>
  obtain ⟨j,K,hj,rfl,rfl,hKa,hb⟩:=hrel
  have hK:=hKa.out
  by_cases hlt:j<xs.length
  ·obtain ⟨x,hx⟩:=Zar xs hlt
   have ht:=Zcw mInt xs j x hx
   have hle:=Zfg mInt xs (j+1)
   have hx2:=Zfh mInt xs k j x hx
   rw [← hK] at hx2
   have hn:mInt.n x=1:=rfl
   rw [hn] at ht
   have hK0:0≤K:=by omega
   have hmax:K+(1:Nat)≤1099511627776:=by omega
   have hta:=Aside0.mk ht
   clear ht hle hn
   have hb0:=hb
   obtain ⟨ad,rfl,a0⟩:=Zeq (Zac hA hb) hx2
   dsimp only [mInt] at a0
   clear hK hx2
   have hw0:=hb
   go_wp2
   have hK:=hKa.out
   have ht:=hta.out
   refine ⟨⟨j+1,_,by omega,rfl,rfl,⟨by omega⟩,hw0⟩, ?_⟩
   simp [intOf]
   omega
  ·have e:j=xs.length:=by omega
   subst e
   rw [List.take_length] at hK
   go_wp2
   go_ret
   exact ⟨by rw [hK];rfl,hb⟩
theorem Zfv (A:Option Addr) (c:Nat) (xs:List Int) (k:Int) (w:World) (hA:Rd Zdh w A (mkL Zer xs k)) (h0:0≤k) (h1:k+(nL Zer xs:Nat)≤1099511627776) :
  Calls Tryz.prog 89 #[.slice A xs.length c,.int .i64 k] w fun e w'=>e=.returned (.int .i64 (k+(nL Zer xs:Nat)))∧Below w.heap.size w w':=by
 have hm:=Zax hA
 rw [Zbu] at hm
 go_enter Tryz.func89,Tryz.ntmps89
 go_wp2
 go_loopw [1,5] (fun kv i wr=>∃ (j:Nat) (K:Int),j≤xs.length∧kv=.int .i64 K∧i=.int .i64 j∧Aside0 (K=k+(nL Zer (xs.take j):Nat))∧Below w.heap.size w wr) (fun _ i _=>xs.length-(intOf i).toNat)
 case atStart=>exact ⟨0,_,Nat.zero_le _,rfl,rfl,⟨by simp [nL]⟩,brf_⟩
 case round =>
  obtain ⟨j,K,hj,rfl,rfl,hKa,hb⟩:=hrel
  have hK:=hKa.out
  by_cases hlt:j<xs.length
  ·obtain ⟨x,hx⟩:=Zar xs hlt
   have ht:=Zcw Zer xs j x hx
   have hle:=Zfg Zer xs (j+1)
   have hx2:=Zfh Zer xs k j x hx
   rw [← hK] at hx2
   have hn:Zer.n x=1:=rfl
   rw [hn] at ht
   have hK0:0≤K:=by omega
   have hmax:K+(1:Nat)≤1099511627776:=by omega
   have hta:=Aside0.mk ht
   clear ht hle hn
   have hb0:=hb
   obtain ⟨ad,rfl,a0⟩:=Zuy (Zac hA hb) hx2
   dsimp only [Zer] at a0
   clear hK hx2
   have hw0:=hb
   go_wp2
   have hK:=hKa.out
   have ht:=hta.out
   refine ⟨⟨j+1,_,by omega,rfl,rfl,⟨by omega⟩,hw0⟩, ?_⟩
   simp [intOf]
   omega
  ·have e:j=xs.length:=by omega
   subst e
   rw [List.take_length] at hK
   go_wp2
   go_ret
   exact ⟨by rw [hK];rfl,hb⟩
theorem Zms (A:Option Addr) (c:Nat) (xs:List Bool) (k:Int) (w:World) (hA:Rd Zgk w A (mkL Zdz xs k)) (h0:0≤k) (h1:k+(nL Zdz xs:Nat)≤1099511627776) :
  Calls Tryz.prog 44 #[.slice A xs.length c,.int .i64 k] w fun e w'=>e=.returned (.int .i64 (k+(nL Zdz xs:Nat)))∧Below w.heap.size w w':=by
 have hm:=Zax hA
 rw [Zbu] at hm
 go_enter Tryz.func44,Tryz.ntmps44
 go_wp2
 go_loopw [1,5] (fun kv i wr=>∃ (j:Nat) (K:Int),j≤xs.length∧kv=.int .i64 K∧i=.int .i64 j∧Aside0 (K=k+(nL Zdz (xs.take j):Nat))∧Below w.heap.size w wr) (fun _ i _=>xs.length-(intOf i).toNat)
 case atStart=>exact ⟨0,_,Nat.zero_le _,rfl,rfl,⟨by simp [nL]⟩,brf_⟩
 case round =>
  obtain ⟨j,K,hj,rfl,rfl,hKa,hb⟩:=hrel
  have hK:=hKa.out
  by_cases hlt:j<xs.length
  ·obtain ⟨x,hx⟩:=Zar xs hlt
   have ht:=Zcw Zdz xs j x hx
   have hle:=Zfg Zdz xs (j+1)
   have hx2:=Zfh Zdz xs k j x hx
   rw [← hK] at hx2
   have hn:Zdz.n x=1:=rfl
   rw [hn] at ht
   have hK0:0≤K:=by omega
   have hmax:K+(1:Nat)≤1099511627776:=by omega
   have hta:=Aside0.mk ht
   clear ht hle hn
   have hb0:=hb
   obtain ⟨ad,rfl,a0⟩:=Zuz (Zac hA hb) hx2
   dsimp only [Zdz] at a0
   clear hK hx2
   have hw0:=hb
   go_wp2
   have hK:=hKa.out
   have ht:=hta.out
   refine ⟨⟨j+1,_,by omega,rfl,rfl,⟨by omega⟩,hw0⟩, ?_⟩
   simp [intOf]
   omega
  ·have e:j=xs.length:=by omega
   subst e
   rw [List.take_length] at hK
   go_wp2
   go_ret
   exact ⟨by rw [hK];rfl,hb⟩
end Go.Proofs.YtaeckoinpllpnaaGreat
