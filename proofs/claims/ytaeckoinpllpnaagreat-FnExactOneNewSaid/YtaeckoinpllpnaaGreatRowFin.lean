/- WHAT IS PROVED HERE: the statement of the claim (its row, for every argument), out of the law's walk. -/
import Derived.Test.YtaeckoinpllpnaaGreatTaa
import Derived.Test.YtaeckoinpllpnaaGreatTbg
import Derived.Test.YtaeckoinpllpnaaGreatTbh
import Derived.Test.YtaeckoinpllpnaaGreatTbi
import Derived.Test.YtaeckoinpllpnaaGreatTbj
import Derived.Test.YtaeckoinpllpnaaGreatTad
import Derived.Deep.Slices
import Derived.Lib.SmallJoins
import Derived.Test.YtaeckoinpllpnaaGreatRows
import Derived.WalkKit
import Derived.ProofKit
import Derived.OpenShut
import Derived.ShutString
import Derived.ChangeOld
import Derived.Below
import Derived.SizedLaws
set_option linter.unusedVariables false
set_option linter.unusedSimpArgs false
set_option maxHeartbeats 16000000
set_option maxRecDepth 100000
namespace Go.Proofs.YtaeckoinpllpnaaGreat
open Go.RowKit Go.Proofs.YtaeckoinpllpnaaGreatW.PrintWords Go.Proofs.YtaeckoinpllpnaaGreatW.PrintLast
theorem Zvk {α:Type} (z:α→Nat) {xs:List α} {j:Nat} {x:α} (h:xs[j]? = some x):z x≤sumL z xs:=by
 have h1:=Zlx z xs j x h
 have h2:=Zzq z xs (j+1)
 omega
theorem Zua {x:Pln} (h:x.size≤1048576):Zwl x:=by
 unfold Pln.size szL at h
 refine ⟨fun j z hz=>?_,fun j z hz=>?_,by omega,by omega,by omega,by omega,fun j z hz=>?_⟩
 ·have:=Zvk (fun x:Cel=>x.code.length) hz
  try dsimp only at this
  omega
 ·have:=Zvk (fun x:Wy=>x.guard.length) hz
  try dsimp only at this
  omega
 ·have:=Zvk (fun x:List Int=>x.length) hz
  try dsimp only at this
  omega
theorem Zju {α:Type} (m:Mk α) (c:Nat) (h:∀ x,m.n x=c):∀ xs:List α,nL m xs=c*xs.length
 | []=>rfl
 | x::r=>by rw [nL,Zju m c h r,h x,List.length_cons,Nat.mul_add];omega
theorem Zwb {α:Type} (m:Mk α) (z:α→Nat) (h:∀ x,m.n x≤7+7*z x):∀ xs:List α,nL m xs≤7*xs.length+7*sumL z xs
 | []=>Nat.zero_le _
 | x::r=>by
  have h1:=Zwb m z h r
  have h2:=h x
  have h3:sumL z (x::r)=z x+sumL z r:=rfl
  rw [nL,h3,List.length_cons]
  omega
theorem Zxs {α β:Type} (m:Mk α) (f:β→α) (c:Nat) (h:∀ x,m.n (f x)=c):∀ xs:List β,nL m (xs.map f)=c*xs.length
 | []=>rfl
 | x::r=>by rw [List.map_cons,nL,Zxs m f c h r,h x,List.length_cons,Nat.mul_add];omega
theorem Zxt (x:Pln):mPln.n x≤7*x.size:=by
 have h1:=Zwb mCel (fun x:Cel=>x.code.length) (fun x=>by show 4+nL mOrd x.code≤_;rw [Zju mOrd 4 (fun _=>rfl)];omega) x.cells
 have h2:=Zwb mWy (fun x:Wy=>x.guard.length) (fun x=>by show 4+nL mRul x.guard≤_;rw [Zju mRul 7 (fun _=>rfl)];omega) x.ways
 have h3:=Zju mSlt 2 (fun _=>rfl) x.slots
 have h4:=Zwb Zfx (fun x:List Int=>x.length) (fun x=>by show nL mInt x≤_;rw [Zju mInt 1 (fun _=>rfl)];omega) x.turns
 show nL mCel x.cells+nL mWy x.ways+nL mSlt x.slots+nL Zfx x.turns≤_
 unfold Pln.size szL
 omega
theorem Zzv (x:Pln):mOne.n (Zaw x)≤7*x.size+1000:=by
 unfold Zaw
 split
 ·rename_i hok
  obtain ⟨n,hx⟩:=Zvj hok
  have h0:=Zxt x
  have e:=hx.hn
  have e4:=hx.n4
  have hc:=hx.cel
  have hw:=hx.way
  have h1:nL Zdz (List.replicate x.nodes.toNat true)=_:=Zju Zdz 1 (fun _=>rfl) _
  have h2:nL Zcy (x.cells.map (fun _=>Zbt))=_:=Zxs Zcy (fun _=>Zbt) 14 (fun _=>rfl) _
  have h3:nL mBox (x.ways.map (fun y=>Zbd y.depth))=_:=Zxs mBox (fun y:Wy=>Zbd y.depth) 1 (fun _=>rfl) _
  have h4:nL Zcx (List.replicate x.ways.length [])=0:=by
   generalize x.ways.length=k
   induction k with
   | zero=>rfl
   | succ k ih=>rw [List.replicate_succ,nL,ih];rfl
  have h5:nL Zde (List.replicate x.cells.length [])=0:=by
   generalize x.cells.length=k
   induction k with
   | zero=>rfl
   | succ k ih=>rw [List.replicate_succ,nL,ih];rfl
  rw [List.length_replicate] at h1
  show mPln.n x+nL Zdz (List.replicate x.nodes.toNat true)+nL Zcy (x.cells.map (fun _=>Zbt))+nL mBox (x.ways.map (fun y=>Zbd y.depth))+nL mBox (x.ways.map (fun y=>Zbd y.depth))+nL Zcx (List.replicate x.ways.length [])+nL Zde (List.replicate x.cells.length [])≤_
  omega
 ·exact Nat.le_trans (Nat.le_refl 0) (Nat.zero_le _)
theorem Ztf {w:World} {y:One} {A1 A2 A3 A4 A5 A6 A7 A8 A9 A10:Option Addr} {c1 c2 c3 c4 c5 c6 c7 c8 c9 c10:Nat} (h:allK w y kOne [.int .i64 y.plan.nodes,.int .i64 y.plan.secret,.int .i64 y.plan.fuel,.slice A1 y.plan.cells.length c1,.slice A2 y.plan.ways.length c2,.slice A3 y.plan.slots.length c3,.slice A4 y.plan.turns.length c4,.slice A5 y.up.length c5,.slice A6 y.cells.length c6,.slice A7 y.out.length c7,.slice A8 y.inn.length c8,.slice A9 y.air.length c9,.int .i64 y.now,.slice A10 y.seen.length c10]):Rd kCel w A1 y.plan.cells∧Rd kWy w A2 y.plan.ways∧Rd kSlt w A3 y.plan.slots∧Rd Zda w A4 y.plan.turns∧Rd Zgk w A5 y.up∧Rd Zby w A6 y.cells∧Rd kBox w A7 y.out∧Rd kBox w A8 y.inn∧Rd Zdd w A9 y.air∧Rd Zbv w A10 y.seen:=by
 obtain ⟨B1,d1,B2,d2,B3,d3,B4,d4,B5,d5,B6,d6,B7,d7,B8,d8,B9,d9,B10,d10,e,-,r1,-,r2,-,r3,-,r4,-,r5,-,r6,-,r7,-,r8,-,r9,-,r10⟩:=Zwm h
 simp only [List.cons.injEq,Value.slice.injEq,true_and,and_true] at e
 obtain ⟨⟨rfl,rfl⟩,⟨rfl,rfl⟩,⟨rfl,rfl⟩,⟨rfl,rfl⟩,⟨rfl,rfl⟩,⟨rfl,rfl⟩,⟨rfl,rfl⟩,⟨rfl,rfl⟩,⟨rfl,rfl⟩,⟨rfl,rfl⟩⟩:=e
 exact ⟨r1,r2,r3,r4,r5,r6,r7,r8,r9,r10⟩
theorem Zxu {w:World} {x:Pln} {A1 A2 A3 A4 B1 B2 B3 B4:Option Addr} {c1 c2 c3 c4 d1 d2 d3 d4:Nat} (h1:allK w x kPln [.int .i64 x.nodes,.int .i64 x.secret,.int .i64 x.fuel,.slice A1 x.cells.length c1,.slice A2 x.ways.length c2,.slice A3 x.slots.length c3,.slice A4 x.turns.length c4]) (h2:allK w x kPln [.int .i64 x.nodes,.int .i64 x.secret,.int .i64 x.fuel,.slice B1 x.cells.length d1,.slice B2 x.ways.length d2,.slice B3 x.slots.length d3,.slice B4 x.turns.length d4]):Calls Tryz.prog 9 #[.agg #[.int .i64 x.nodes,.int .i64 x.secret,.int .i64 x.fuel,.slice A1 x.cells.length c1,.slice A2 x.ways.length c2,.slice A3 x.slots.length c3,.slice A4 x.turns.length c4],.agg #[.int .i64 x.nodes,.int .i64 x.secret,.int .i64 x.fuel,.slice B1 x.cells.length d1,.slice B2 x.ways.length d2,.slice B3 x.slots.length d3,.slice B4 x.turns.length d4]] w fun e w'=>e=.returned (.bool true)∧Below w.heap.size w w':=by
 obtain ⟨-,-,-,⟨_,_,e1,-,r1⟩,⟨_,_,e2,-,r2⟩,⟨_,_,e3,-,r3⟩,⟨_,_,e4,-,r4⟩,-⟩:=h1
 obtain ⟨-,-,-,⟨_,_,j1,-,t1⟩,⟨_,_,j2,-,t2⟩,⟨_,_,j3,-,t3⟩,⟨_,_,j4,-,t4⟩,-⟩:=h2
 cases e1;cases e2;cases e3;cases e4;cases j1;cases j2;cases j3;cases j4
 exact Zhw x _ _ _ _ _ _ _ _ _ _ _ _ _ _ _ _ w r1 t1 r2 t2 r3 t3 r4 t4
theorem Zrp {w:World} {y:One} {A1 A2 A3 A4 A5 A6 A7 A8 A9 A10 B1 B2 B3 B4 B5 B6 B7 B8 B9 B10:Option Addr} {c1 c2 c3 c4 c5 c6 c7 c8 c9 c10 d1 d2 d3 d4 d5 d6 d7 d8 d9 d10:Nat} (h1:allK w y kOne [.int .i64 y.plan.nodes,.int .i64 y.plan.secret,.int .i64 y.plan.fuel,.slice A1 y.plan.cells.length c1,.slice A2 y.plan.ways.length c2,.slice A3 y.plan.slots.length c3,.slice A4 y.plan.turns.length c4,.slice A5 y.up.length c5,.slice A6 y.cells.length c6,.slice A7 y.out.length c7,.slice A8 y.inn.length c8,.slice A9 y.air.length c9,.int .i64 y.now,.slice A10 y.seen.length c10]) (h2:allK w y kOne [.int .i64 y.plan.nodes,.int .i64 y.plan.secret,.int .i64 y.plan.fuel,.slice B1 y.plan.cells.length d1,.slice B2 y.plan.ways.length d2,.slice B3 y.plan.slots.length d3,.slice B4 y.plan.turns.length d4,.slice B5 y.up.length d5,.slice B6 y.cells.length d6,.slice B7 y.out.length d7,.slice B8 y.inn.length d8,.slice B9 y.air.length d9,.int .i64 y.now,.slice B10 y.seen.length d10]):Calls Tryz.prog 8 #[.agg #[.int .i64 y.plan.nodes,.int .i64 y.plan.secret,.int .i64 y.plan.fuel,.slice A1 y.plan.cells.length c1,.slice A2 y.plan.ways.length c2,.slice A3 y.plan.slots.length c3,.slice A4 y.plan.turns.length c4,.slice A5 y.up.length c5,.slice A6 y.cells.length c6,.slice A7 y.out.length c7,.slice A8 y.inn.length c8,.slice A9 y.air.length c9,.int .i64 y.now,.slice A10 y.seen.length c10],.agg #[.int .i64 y.plan.nodes,.int .i64 y.plan.secret,.int .i64 y.plan.fuel,.slice B1 y.plan.cells.length d1,.slice B2 y.plan.ways.length d2,.slice B3 y.plan.slots.length d3,.slice B4 y.plan.turns.length d4,.slice B5 y.up.length d5,.slice B6 y.cells.length d6,.slice B7 y.out.length d7,.slice B8 y.inn.length d8,.slice B9 y.air.length d9,.int .i64 y.now,.slice B10 y.seen.length d10]] w fun e w'=>e=.returned (.bool true)∧Below w.heap.size w w':=by
 obtain ⟨r1,r2,r3,r4,r5,r6,r7,r8,r9,r10⟩:=Ztf h1
 obtain ⟨t1,t2,t3,t4,t5,t6,t7,t8,t9,t10⟩:=Ztf h2
 exact Zlg y _ _ _ _ _ _ _ _ _ _ _ _ _ _ _ _ _ _ _ _ _ _ _ _ _ _ _ _ _ _ _ _ _ _ _ _ _ _ _ _ w r1 t1 r2 t2 r3 t3 r4 t4 r5 t5 r6 t6 r7 t7 r8 t8 r9 t9 r10 t10
theorem Zrq {w:World} {y:One} {A1 A2 A3 A4 A5 A6 A7 A8 A9 A10:Option Addr} {c1 c2 c3 c4 c5 c6 c7 c8 c9 c10:Nat} (h1:allK w (mOne.put y 1) kOne [.int .i64 y.plan.nodes,.int .i64 y.plan.secret,.int .i64 y.plan.fuel,.slice A1 y.plan.cells.length c1,.slice A2 y.plan.ways.length c2,.slice A3 y.plan.slots.length c3,.slice A4 y.plan.turns.length c4,.slice A5 y.up.length c5,.slice A6 y.cells.length c6,.slice A7 y.out.length c7,.slice A8 y.inn.length c8,.slice A9 y.air.length c9,.int .i64 y.now,.slice A10 y.seen.length c10]) (hk:(1:Int)+(mOne.n y:Nat)≤1099511627776):Calls Tryz.prog 12 #[.agg #[.int .i64 y.plan.nodes,.int .i64 y.plan.secret,.int .i64 y.plan.fuel,.slice A1 y.plan.cells.length c1,.slice A2 y.plan.ways.length c2,.slice A3 y.plan.slots.length c3,.slice A4 y.plan.turns.length c4,.slice A5 y.up.length c5,.slice A6 y.cells.length c6,.slice A7 y.out.length c7,.slice A8 y.inn.length c8,.slice A9 y.air.length c9,.int .i64 y.now,.slice A10 y.seen.length c10],.int .i64 1] w fun e w'=>e=.returned (.int .i64 (1+(mOne.n y:Nat)))∧Below w.heap.size w w':=by
 obtain ⟨-,-,-,⟨_,_,e1,-,r1⟩,⟨_,_,e2,-,r2⟩,⟨_,_,e3,-,r3⟩,⟨_,_,e4,-,r4⟩,⟨_,_,e5,-,r5⟩,⟨_,_,e6,-,r6⟩,⟨_,_,e7,-,r7⟩,⟨_,_,e8,-,r8⟩,⟨_,_,e9,-,r9⟩,-,⟨_,_,e10,-,r10⟩,-⟩:=h1
 injection e1 with e1a;subst e1a;injection e2 with e2a;subst e2a;injection e3 with e3a;subst e3a;injection e4 with e4a;subst e4a;injection e5 with e5a;subst e5a;injection e6 with e6a;subst e6a;injection e7 with e7a;subst e7a;injection e8 with e8a;subst e8a;injection e9 with e9a;subst e9a;injection e10 with e10a;subst e10a
 exact Zjo y _ _ _ _ _ _ _ _ _ _ _ _ _ _ _ _ _ _ _ _ 1 w r1 r2 r3 r4 r5 r6 r7 r8 r9 r10 (by omega) hk
theorem law_OneNew (x:Pln) (A1 A2 A3 A4:Option Addr) (c1 c2 c3 c4:Nat) (w:World) (hA1:Rd kCel w A1 x.cells) (hA2:Rd kWy w A2 x.ways) (hA3:Rd kSlt w A3 x.slots) (hA4:Rd Zda w A4 x.turns) :
  Calls Tryz.prog 3 #[.agg #[.int .i64 x.nodes,.int .i64 x.secret,.int .i64 x.fuel,.slice A1 x.cells.length c1,.slice A2 x.ways.length c2,.slice A3 x.slots.length c3,.slice A4 x.turns.length c4]] w fun e w'=>e=.returned (.bool true)∧Below w.heap.size w w':=by
 obtain ⟨W0,eW,hb0,Np0⟩:=new1 w (.cells #[.int .i64 x.nodes,.int .i64 x.secret,.int .i64 x.fuel,.slice A1 x.cells.length c1,.slice A2 x.ways.length c2,.slice A3 x.slots.length c3,.slice A4 x.turns.length c4] 27)
 go_enter Tryz.func3,Tryz.ntmps3
 go_upto_region 2 with (fail)
 refine wp_at eW ?_
 clear eW
 obtain ⟨p0,p1,p2,p3,p4,p5,p6⟩:=cellsP7 Np0
 go_upto_region 3 with (go_at_call 4;(with_reducible refine (Znk x A1 c1 A2 c2 A3 c3 A4 c4 1048576 W0 (Zac hA1 hb0) (Zac hA2 hb0) (Zac hA3 hb0) (Zac hA4 hb0) (by omega) (by omega)).mono ?_);rintro e w1 ⟨⟨r,rfl,hr⟩,hb1⟩;have HB1:=hb0.trans (hb1.mono hb0.size);have Np1:=Zab Np0 hb1;clear p0 p1 p2 p3 p4 p5 p6)
 rcases hr with rfl | ⟨hr0,hr1⟩
 ·go_wp2
  go_ret
  exact ⟨rfl,HB1⟩
 have hsz:x.size≤1048576:=by omega
 have hsm:=Zua hsz
 have hnp:=Zxt x;have hno:=Zzv x
 obtain ⟨m1,m2,m3,m4,m5,m6,m7⟩:=hsm
 have hsm:Zwl x:=⟨m1,m2,m3,m4,m5,m6,m7⟩
 have qS:=fun ps w1 h=>Zrm x hsm ps w1 h;have qI:=fun ps w1 h=>Zrl x hsm ps w1 h
 have qT:=fun w1 (h:Below w.heap.size w w1)=>Znh x A1 c1 A2 c2 A3 c3 A4 c4 w1 (Zac hA1 h) (Zac hA2 h) (Zac hA3 h) (Zac hA4 h) m3 m4 m5 m6 m1 m2 m7
 generalize Zaw x=y at *
 have hk1:(1:Int)+(mPln.n x:Nat)≤1099511627776:=by omega
 have hk2:(1:Int)+(mOne.n y:Nat)≤1099511627776:=by omega
 have hg1:decide ((1:Int)+(mPln.n x:Nat)<0)=false:=decide_eq_false (by omega)
 have hg2:decide ((1:Int)+(mOne.n y:Nat)<0)=false:=decide_eq_false (by omega)
 have hg3:¬r<0:=by omega
 have HM:=Zrj (And.intro m3 (And.intro m4 (And.intro m5 (And.intro m6 (And.intro m1 (And.intro m2 m7))))))
 clear m1 m2 m3 m4 m5 m6 m7 hsm hnp hno hsz hr0 hr1 hb1 Np0 hb0
 obtain ⟨p0,p1,p2,p3,p4,p5,p6⟩:=cellsP7 Np1
 go_upto_region 6 with (first
  | (go_at_call 6;with_reducible refine (qT _ HB1).mono ?_;rintro e w2 ⟨⟨B1,d1,B2,d2,B3,d3,B4,d4,rfl,hO2⟩,hb2⟩;have HB2:=HB1.trans (hb2.mono HB1.size);have Np2:=Zab Np1 hb2;clear p0 p1 p2 p3 p4 p5 p6)
  | (go_at_call 5;with_reducible refine (qS _ _ (Zbh hO2)).mono ?_;rintro e w3 ⟨⟨cs,rfl,hO3⟩,hb3⟩;have HB3:=HB2.trans (hb3.mono HB2.size);have Np3:=Zab Np2 hb3;obtain ⟨E1,e1,E2,e2,E3,e3,E4,e4,E5,e5,E6,e6,E7,e7,E8,e8,E9,e9,E10,e10,rfl,-⟩:=Zwm (Zbh hO3)))
 obtain ⟨W4,eW,hal,N4⟩:=new1 w3 (.cells #[.int .i64 y.plan.nodes,.int .i64 y.plan.secret,.int .i64 y.plan.fuel,.slice E1 y.plan.cells.length e1,.slice E2 y.plan.ways.length e2,.slice E3 y.plan.slots.length e3,.slice E4 y.plan.turns.length e4,.slice E5 y.up.length e5,.slice E6 y.cells.length e6,.slice E7 y.out.length e7,.slice E8 y.inn.length e8,.slice E9 y.air.length e9,.int .i64 y.now,.slice E10 y.seen.length e10] 40)
 refine wp_at eW ?_
 clear eW
 have Np4:=Zab Np3 hal;have HB4:=HB3.trans (hal.mono HB3.size)
 replace hO3:=Zbj (Zcj hO3) hal
 have s3:=hb3.size;have s2:=hb2.size;have s4:=Zao N4;have l1:=Zao Np1
 clear hal hb3 hb2 hO2 Np3 Np2 HB3 HB2 Np1 HB1 qS
 obtain ⟨p0,p1,p2,p3,p4,p5,p6⟩:=cellsP7 Np4
 go_upto_region 7 with (go_at_call 6;with_reducible refine (qT _ HB4).mono ?_;rintro e w5 ⟨⟨F1,f1,F2,f2,F3,f3,F4,f4,rfl,hO5⟩,hb5⟩;have HB5:=HB4.trans (hb5.mono HB4.size);clear p0 p1 p2 p3 p4 p5 p6)
 obtain ⟨W6,eW,hal,N6⟩:=new1 w5 (.cells #[.int .i64 x.nodes,.int .i64 x.secret,.int .i64 x.fuel,.slice F1 x.cells.length f1,.slice F2 x.ways.length f2,.slice F3 x.slots.length f3,.slice F4 x.turns.length f4] 33)
 refine wp_at eW ?_
 clear eW
 have h46:=hb5.trans (hal.mono hb5.size)
 have Np6:=Zab Np4 h46;have N46:=Zab N4 h46;have HB6:=HB5.trans (hal.mono HB5.size)
 replace hO3:=Zbj hO3 h46;replace hO5:=Zbj (Zcj hO5) hal
 have s5:=hb5.size;have s6:=Zao N6
 clear hal hb5 HB5 HB4 Np4 N4 h46
 obtain ⟨p0,p1,p2,p3,p4,p5,p6⟩:=cellsP7 N6
 go_upto_region 8 with (go_at_call 7;with_reducible refine (qI _ _ (Zbh hO5)).mono ?_;rintro e w7 ⟨⟨cs,rfl,hO7⟩,hb7⟩;have HB7:=HB6.trans (hb7.mono HB6.size);obtain ⟨G1,g1,G2,g2,G3,g3,G4,g4,G5,g5,G6,g6,G7,g7,G8,g8,G9,g9,G10,g10,rfl,-⟩:=Zwm (Zbh hO7);clear p0 p1 p2 p3 p4 p5 p6)
 obtain ⟨W8,eW,hal,N8⟩:=new1 w7 (.cells #[.int .i64 y.plan.nodes,.int .i64 y.plan.secret,.int .i64 y.plan.fuel,.slice G1 y.plan.cells.length g1,.slice G2 y.plan.ways.length g2,.slice G3 y.plan.slots.length g3,.slice G4 y.plan.turns.length g4,.slice G5 y.up.length g5,.slice G6 y.cells.length g6,.slice G7 y.out.length g7,.slice G8 y.inn.length g8,.slice G9 y.air.length g9,.int .i64 y.now,.slice G10 y.seen.length g10] 40)
 refine wp_at eW ?_
 clear eW
 have h68:=hb7.trans (hal.mono hb7.size)
 have Np8:=Zab Np6 h68;have N48:=Zab N46 h68;have N68:=Zab N6 h68;have HB8:=HB7.trans (hal.mono HB7.size)
 replace hO3:=Zbj hO3 h68;replace hO5:=Zbj hO5 h68;replace hO7:=Zbj (Zcj hO7) hal
 have s7:=hb7.size;have s8:=Zao N8
 clear hal hb7 HB7 HB6 Np6 N46 N6 h68
 obtain ⟨p0,p1,p2,p3,p4,p5,p6,p7,p8,p9,p10,p11,p12,p13⟩:=cellsP14 N8;obtain ⟨q0,q1,q2,q3,q4,q5,q6,q7,q8,q9,q10,q11,q12,q13⟩:=cellsP14 N48
 go_upto_region 10 with (go_at_call 8;with_reducible refine (Zrp (Zbh hO7) (Zbh hO3)).mono ?_;rintro e w9 ⟨rfl,hb9⟩;clear p0 q0 p1 q1 p2 q2 p3 q3 p4 q4 p5 q5 p6 q6 p7 q7 p8 q8 p9 q9 p10 q10 p11 q11 p12 q12 p13 q13)
 have HB9:=HB8.trans (hb9.mono HB8.size);have N49:=Zab N48 hb9;have N69:=Zab N68 hb9;have N89:=Zab N8 hb9;have Np9:=Zab Np8 hb9
 replace hO3:=Zbj hO3 hb9;replace hO5:=Zbj hO5 hb9;replace hO7:=Zbj hO7 hb9
 have s9:=hb9.size
 clear hb9 HB8 N48 N68 N8 Np8
 refine Zcf 5 none [] (by kernel_rfl) rfl rfl ?_
 intro Wd hd hs'
 have HBd:=HB9.trans (hd.mono HB9.size);have N4d:=Zab N49 hd;have N6d:=Zab N69 hd;have N8d:=Zab N89 hd;have Npd:=Zab Np9 hd
 replace hO3:=Zbj hO3 hd;replace hO5:=Zbj hO5 hd;replace hO7:=Zbj hO7 hd;have sd:=hd.size
 refine Zbz (i:=0) (N:=some 27) (v:=.agg #[.int .i64 x.nodes,.int .i64 x.secret,.int .i64 x.fuel,.slice F1 x.cells.length f1,.slice F2 x.ways.length f2,.slice F3 x.slots.length f3,.slice F4 x.turns.length f4]) (upB 5 1) rfl rfl (by kernel_rfl) (fun _ _ _ h=>h) (Or.inl ⟨by rfl,fun w1 hk=>by have y0:=hk.cell (i:=0) N6d (by simp) rfl;have y1:=hk.cell (i:=1) N6d (by simp) rfl;have y2:=hk.cell (i:=2) N6d (by simp) rfl;have y3:=hk.cell (i:=3) N6d (by simp) rfl;have y4:=hk.cell (i:=4) N6d (by simp) rfl;have y5:=hk.cell (i:=5) N6d (by simp) rfl;have y6:=hk.cell (i:=6) N6d (by simp) rfl;go_simp⟩) (Zbc.refl _ _) (by simp only [Act.put,pkA,pkB,pkC];rfl) ?_
 refine Zbz (i:=1) (N:=some 28) (v:=.agg #[.int .i64 x.nodes,.int .i64 x.secret,.int .i64 x.fuel,.slice A1 x.cells.length c1,.slice A2 x.ways.length c2,.slice A3 x.slots.length c3,.slice A4 x.turns.length c4]) (upB 5 2) rfl rfl (by kernel_rfl) (fun _ _ _ h=>h) (Or.inl ⟨by rfl,fun w1 hk=>by have y0:=hk.cell (i:=0) Npd (by simp) rfl;have y1:=hk.cell (i:=1) Npd (by simp) rfl;have y2:=hk.cell (i:=2) Npd (by simp) rfl;have y3:=hk.cell (i:=3) Npd (by simp) rfl;have y4:=hk.cell (i:=4) Npd (by simp) rfl;have y5:=hk.cell (i:=5) Npd (by simp) rfl;have y6:=hk.cell (i:=6) Npd (by simp) rfl;go_simp⟩) (Zbc.refl _ _) (by simp only [Act.put,pkA,pkB,pkC];rfl) ?_
 refine Zdt 5 2 29 (fun v w1=>∃ ps:List Value,v=.agg ps.toArray∧Own kPln w1 (fun k=>Wd.heap.size≤k) x ps∧Below Wd.heap.size Wd w1) rfl (by decide) (by kernel_rfl) rfl rfl rfl Tryz.func6 (by kernel_rfl) rfl #[.agg #[.int .i64 x.nodes,.int .i64 x.secret,.int .i64 x.fuel,.slice A1 x.cells.length c1,.slice A2 x.ways.length c2,.slice A3 x.slots.length c3,.slice A4 x.turns.length c4]] (by (try simp only [List.map_toArray,List.map_cons,List.map_nil]);first | done | rfl) ((qT Wd HBd).mono (fun e w9 h=>by obtain ⟨⟨J1,j1,J2,j2,J3,j3,J4,j4,rfl,ho⟩,hb⟩:=h;exact ⟨⟨_,rfl,_,rfl,ho,hb⟩,hb⟩)) (Zbc.refl _ _) nlr_ ?_
 rintro v w10 ⟨ps,rfl,hO10,-⟩ hb10 hk10
 obtain ⟨J1,j1,J2,j2,J3,j3,J4,j4,rfl,-⟩:=Zcs (Zbh hO10)
 refine Zbb (by simp only [Act.put,pkA,pkB,pkC];rfl) ?_
 refine Zdt 5 3 30 (fun v w1=>v=.bool true) rfl (by decide) (by kernel_rfl) rfl rfl rfl Tryz.func9 (by kernel_rfl) rfl #[.agg #[.int .i64 x.nodes,.int .i64 x.secret,.int .i64 x.fuel,.slice F1 x.cells.length f1,.slice F2 x.ways.length f2,.slice F3 x.slots.length f3,.slice F4 x.turns.length f4],.agg #[.int .i64 x.nodes,.int .i64 x.secret,.int .i64 x.fuel,.slice J1 x.cells.length j1,.slice J2 x.ways.length j2,.slice J3 x.slots.length j3,.slice J4 x.turns.length j4]] (by (try simp only [List.map_toArray,List.map_cons,List.map_nil]);first | done | rfl) ((Zxu (Zbh (Zbj hO5 hb10)) (Zbh hO10)).mono (fun e w9 h=>⟨⟨_,h.1,rfl⟩,h.2⟩)) hk10 hb10.size ?_
 rintro v w11 rfl hb11 hk11
 refine Zbb (by simp only [Act.put,pkA,pkB,pkC];rfl) ?_
 refine Zap (i:=4) (N:=some 31) (v:=.bool false) (upB 5 5) rfl rfl (by kernel_rfl) (fun _ _ _ h=>h) (Or.inl ⟨by rfl,fun w1=>by go_simp⟩) (by simp only [Act.put,pkA,pkB,pkC];rfl) ?_
 refine Zgw (by kernel_rfl) ?_
 try simp only [Act.put,pkA,pkB,pkC]
 have hb12:=hb10.trans (hb11.mono hb10.size)
 have HBe:=HBd.trans (hb12.mono HBd.size);have N4e:=Zab N4d hb12;have N6e:=Zab N6d hb12;have N8e:=Zab N8d hb12;have Npe:=Zab Npd hb12
 replace hO3:=Zbj hO3 hb12;replace hO5:=Zbj hO5 hb12;replace hO7:=Zbj hO7 hb12;have se:=hb12.size
 clear hb12 hb11 hb10 hk10 hk11 hO10 HBd N4d N6d N8d Npd hd hs' HB9 N49 N69 N89 Np9
 obtain ⟨p0,p1,p2,p3,p4,p5,p6⟩:=cellsP7 N6e
 go_upto_region 14 with (go_at_call 10;with_reducible refine (Zgu x F1 F2 F3 F4 f1 f2 f3 f4 1 _ w11 hO5 (by omega) hk1).mono ?_;rintro e w12 ⟨rfl,hO12,hk12⟩;clear p0 p1 p2 p3 p4 p5 p6)
 have HB12:Below w.heap.size w w12:=HBe.trans ⟨hk12.os,hk12.tape,hk12.output,hk12.size,fun k hk=>hk12.block k (by omega) (fun e=>by (try dsimp only at e);omega)⟩
 have N412:=(hk12.block _ (Zao N4e) (fun e=>by (try dsimp only at e);omega)).trans N4e;have N812:=(hk12.block _ (Zao N8e) (fun e=>by (try dsimp only at e);omega)).trans N8e;have Np12:=(hk12.block _ (Zao Npe) (fun e=>by (try dsimp only at e);omega)).trans Npe
 replace hO3:=Zdf hO3 (fun k hk hl=>hk12.block k hl (fun e=>by (try dsimp only at hk e);omega));replace hO7:=Zdf hO7 (fun k hk hl=>hk12.block k hl (fun e=>by (try dsimp only at hk e);omega))
 have s12:=hk12.size
 clear hk12 HBe N4e N6e N8e Npe hO5 hO12
 obtain ⟨p0,p1,p2,p3,p4,p5,p6,p7,p8,p9,p10,p11,p12,p13⟩:=cellsP14 N812;obtain ⟨q0,q1,q2,q3,q4,q5,q6,q7,q8,q9,q10,q11,q12,q13⟩:=cellsP14 N412
 go_upto_region 17 with (go_at_call 8;with_reducible refine (Zrp (Zbh hO7) (Zbh hO3)).mono ?_;rintro e w13 ⟨rfl,hb13⟩;clear p0 q0 p1 q1 p2 q2 p3 q3 p4 q4 p5 q5 p6 q6 p7 q7 p8 q8 p9 q9 p10 q10 p11 q11 p12 q12 p13 q13)
 have HB13:=HB12.trans (hb13.mono HB12.size);have N413:=Zab N412 hb13;have N813:=Zab N812 hb13;have Np13:=Zab Np12 hb13
 replace hO3:=Zbj hO3 hb13;replace hO7:=Zbj hO7 hb13;have s13:=hb13.size
 clear hb13 HB12 N412 N812 Np12
 obtain ⟨p0,p1,p2,p3,p4,p5,p6,p7,p8,p9,p10,p11,p12,p13⟩:=cellsP14 N813
 go_upto_region 19 with (go_at_call 11;with_reducible refine (Zji y G1 G2 G3 G4 G5 G6 G7 G8 G9 G10 g1 g2 g3 g4 g5 g6 g7 g8 g9 g10 1 _ w13 hO7 (by omega) hk2).mono ?_;rintro e w14 ⟨rfl,hO14,hk14⟩;clear p0 p1 p2 p3 p4 p5 p6 p7 p8 p9 p10 p11 p12 p13)
 have HB14:Below w.heap.size w w14:=HB13.trans ⟨hk14.os,hk14.tape,hk14.output,hk14.size,fun k hk=>hk14.block k (by omega) (fun e=>by (try dsimp only at e);omega)⟩
 have N414:=(hk14.block _ (Zao N413) (fun e=>by (try dsimp only at e);omega)).trans N413;have N814:=(hk14.block _ (Zao N813) (fun e=>by (try dsimp only at e);omega)).trans N813;have Np14:=(hk14.block _ (Zao Np13) (fun e=>by (try dsimp only at e);omega)).trans Np13
 replace hO3:=Zdf hO3 (fun k hk hl=>hk14.block k hl (fun e=>by (try dsimp only at hk e);omega))
 have s14:=hk14.size
 clear hk14 HB13 N413 N813 Np13 hO7
 obtain ⟨p0,p1,p2,p3,p4,p5,p6,p7,p8,p9,p10,p11,p12,p13⟩:=cellsP14 N814
 go_upto_region 24 with (go_at_call 12;with_reducible refine (Zrq (Zbh hO14) hk2).mono ?_;rintro e w15 ⟨rfl,hb15⟩;clear p0 p1 p2 p3 p4 p5 p6 p7 p8 p9 p10 p11 p12 p13)
 have HB15:=HB14.trans (hb15.mono HB14.size);have N415:=Zab N414 hb15;have N815:=Zab N814 hb15;have Np15:=Zab Np14 hb15
 replace hO3:=Zbj hO3 hb15;replace hO14:=Zbj hO14 hb15;have s15:=hb15.size
 clear hb15 HB14 N414 N814 Np14
 obtain ⟨p0,p1,p2,p3,p4,p5,p6⟩:=cellsP7 Np15
 go_upto_region 25 with (first
  | (go_at_call 6;with_reducible refine (qT _ HB15).mono ?_;rintro e w16 ⟨⟨M1,m1,M2,m2,M3,m3,M4,m4,rfl,hO16⟩,hb16⟩;have HB16:=HB15.trans (hb16.mono HB15.size);clear p0 p1 p2 p3 p4 p5 p6)
  | (go_at_call 7;with_reducible refine (qI _ _ (Zbh hO16)).mono ?_;rintro e w17 ⟨⟨cs,rfl,hO17⟩,hb17⟩;obtain ⟨K1,k1,K2,k2,K3,k3,K4,k4,K5,k5,K6,k6,K7,k7,K8,k8,K9,k9,K10,k10,rfl,-⟩:=Zwm (Zbh hO17)))
 obtain ⟨W18,eW,hal,N18⟩:=new1 w17 (.cells #[.int .i64 y.plan.nodes,.int .i64 y.plan.secret,.int .i64 y.plan.fuel,.slice K1 y.plan.cells.length k1,.slice K2 y.plan.ways.length k2,.slice K3 y.plan.slots.length k3,.slice K4 y.plan.turns.length k4,.slice K5 y.up.length k5,.slice K6 y.cells.length k6,.slice K7 y.out.length k7,.slice K8 y.inn.length k8,.slice K9 y.air.length k9,.int .i64 y.now,.slice K10 y.seen.length k10] 40)
 refine wp_at eW ?_
 clear eW
 have h1518:=hb16.trans ((hb17.trans (hal.mono hb17.size)).mono hb16.size)
 have HB18:=HB15.trans (h1518.mono HB15.size);have N418:=Zab N415 h1518;have N818:=Zab N815 h1518
 replace hO3:=Zbj hO3 h1518;replace hO14:=Zbj hO14 h1518;replace hO17:=Zbj hO17 hal;have s18:=h1518.size
 clear hal hb16 hb17 HB16 HB15 N415 N815 Np15 h1518 hO16
 obtain ⟨p0,p1,p2,p3,p4,p5,p6,p7,p8,p9,p10,p11,p12,p13⟩:=cellsP14 N18;obtain ⟨q0,q1,q2,q3,q4,q5,q6,q7,q8,q9,q10,q11,q12,q13⟩:=cellsP14 N418
 go_upto_region 28 with (go_at_call 8;with_reducible refine (Zrp (Zbh hO17) (Zbh hO3)).mono ?_;rintro e w19 ⟨rfl,hb19⟩;clear p0 q0 p1 q1 p2 q2 p3 q3 p4 q4 p5 q5 p6 q6 p7 q7 p8 q8 p9 q9 p10 q10 p11 q11 p12 q12 p13 q13)
 have HB19:=HB18.trans (hb19.mono HB18.size);have N819:=Zab N818 hb19;replace hO14:=Zbj hO14 hb19
 clear hb19 HB18 N418 N818 hO17 hO3
 obtain ⟨p0,p1,p2,p3,p4,p5,p6,p7,p8,p9,p10,p11,p12,p13⟩:=cellsP14 N819
 go_wp2_with (go_at_call 12;with_reducible refine (Zrq (Zbh hO14) hk2).mono ?_;rintro e w20 ⟨rfl,hb20⟩;clear p0 p1 p2 p3 p4 p5 p6 p7 p8 p9 p10 p11 p12 p13)
 go_ret
 exact ⟨rfl,HB19.trans (hb20.mono HB19.size)⟩
section
open Go.ChangeShapes Go.WideShapes Go.Deep
variable {H:Type} {enc:TypeId×Value→H} {P:Program} {w:World} {base:Nat} {spare:Nat→Bool} {held:Bool}
def Opens {α:Type} (enc:TypeId×Value→H) (P:Program) (w:World) (base:Nat) (spare:Nat→Bool) (held:Bool) (t:TypeId) (fs:List (Fd α)):Prop :=
 ∀ (fuel:Nat) (cs:List Value) (y:DataW H×List MemPlace),DataW.trod enc P w base spare held fuel t cs=some y→∃ x:α,allK w x fs cs
theorem Zut {α:Type} [Inhabited α] {t e:TypeId} {fs:List (Fd α)} (ht:P.underlying t=some (.slice e)) (hc:P.cellsOf e=fs.length) (ho:Opens enc P w base spare held e fs) {fuel:Nat} {cs:List Value} {y:DataW H×List MemPlace}
  (h:DataW.trod enc P w base spare held fuel t cs=some y):∃ (A:Option Addr) (c:Nat) (xs:List α),cs=[.slice A xs.length c]∧xs.length≤c∧Rd fs w A xs:=by
 rcases open_slice ht h with ⟨rfl,-⟩ | ⟨a,len,cap,m,n,D,Pl,rfl,-,hl,hm,hmm,-,hx⟩
 ·exact ⟨none,0,[],rfl,Nat.le_refl _,Zuc _ _ _⟩
 have hlm:len≤m:=by rw [hmm];split <;> omega
 obtain ⟨X,hX⟩:=choose_lt (α:=α) (p:=fun i x=>∃ cs',w.cells? base (a.add (i*P.cellsOf e)) (P.cellsOf e)=some cs'∧allK w x fs cs') (n:=len) (fun i hi=>by
  obtain ⟨cs',h1,h2⟩:=hx i (by omega)
  obtain ⟨x,hx⟩:=ho _ _ _ h2
  exact ⟨x,cs',h1,hx⟩)
 refine ⟨some a,cap,(List.range len).map X,by simp,by simpa using hl,⟨rfl, ?_,fun h0=>⟨a,rfl,fun j x hj=>?_⟩⟩⟩
 ·have hm9:=hm
  unfold maxLen at hm9
  simp
  omega
 ·rw [List.getElem?_map] at hj
  obtain ⟨i,hi,rfl⟩:=Option.map_eq_some_iff.1 hj
  obtain ⟨hil,hie⟩:=List.getElem?_eq_some_iff.1 hi
  rw [List.getElem_range] at hie
  subst hie
  rw [List.length_range] at hil
  obtain ⟨cs',h1,h2⟩:=hX j hil
  obtain ⟨-,hl9,hcell⟩:=World.cells?_some h1
  refine ⟨cs',by rw [hl9,hc],h2,fun q u hq=>?_⟩
  have hql:=(List.getElem?_eq_some_iff.1 hq).1
  have:=hcell q (by omega)
  rw [Deep.add_add,hc,hq] at this
  exact this
theorem Zxv {t:TypeId} (ht:P.underlying t=some (.int .i64)):Opens enc P w base spare held t kInt:=by
 intro fuel cs y h
 obtain ⟨n,rfl,-,-⟩:=DataW.trod_int ht h
 exact ⟨n,rfl,trivial⟩
theorem Zwn {t e:TypeId} (ht:P.underlying t=some (.slice e)) (he:P.underlying e=some (.int .i64)) (hc:P.cellsOf e=1):Opens enc P w base spare held t Zda:=by
 intro fuel cs y h
 obtain ⟨A,c,xs,rfl,hl,hr⟩:=Zut (fs:=kInt) ht hc (Zxv he) h
 exact ⟨xs,⟨A,c,rfl,hl,hr⟩,trivial⟩
theorem cut1 {cs:List Value} {i:Nat} {c:Value} (hc:cs[i]? = some c):(cs.drop i).take 1=[c]:=by
 obtain ⟨hl,he⟩:=List.getElem?_eq_some_iff.1 hc
 rw [List.drop_eq_getElem_cons hl]
 simp [he]
theorem cut2 {cs:List Value} {i:Nat} {c d:Value} (hc:cs[i]? = some c) (hd:cs[i+1]? = some d):(cs.drop i).take 2=[c,d]:=by
 obtain ⟨hl,he⟩:=List.getElem?_eq_some_iff.1 hc
 obtain ⟨hl2,he2⟩:=List.getElem?_eq_some_iff.1 hd
 rw [List.drop_eq_getElem_cons hl,List.drop_eq_getElem_cons hl2]
 simp [he,he2]
theorem Zfa {t:TypeId} {fs:Array Field} (ht:P.underlying t=some (.struct fs)) {fuel:Nat} {cs:List Value} {y:DataW H×List MemPlace}
  (h:DataW.trod enc P w base spare held fuel t cs=some y):cs.length=P.cellsOf t∧∀ (i:Nat) (f:Field),fs[i]? = some f→∃ (n:Nat) (z:DataW H×List MemPlace),DataW.trod enc P w base spare held n f.type ((cs.drop f.offset).take (P.cellsOf f.type))=some z:=by
 obtain ⟨xs,n,-,-,hl,hlen,hx⟩:=DataW.trod_struct ht h
 refine ⟨hl,fun i f hi=>⟨n, ?_⟩⟩
 have h1:=hx i f hi
 have hil:i<fs.size:=(Array.getElem?_eq_some_iff.1 hi).1
 rw [List.getElem?_eq_getElem (by omega)] at h1
 exact ⟨_,h1⟩
theorem Zxw {t:TypeId} (ht:P.underlying t=some .bool) (h1:P.cellsOf t=1) {fuel i:Nat} {cs:List Value} {c:Value} {y:DataW H×List MemPlace} (hc:cs[i]? = some c) (h:DataW.trod enc P w base spare held fuel t ((cs.drop i).take (P.cellsOf t))=some y):∃ n:Bool,c=.bool n:=by
 rw [h1,cut1 hc] at h
 obtain ⟨n,e,-⟩:=DataW.trod_bool ht h
 exact ⟨n,by simpa using e⟩
theorem Zdw {t:TypeId} (ht:P.underlying t=some (.int .i64)) (h1:P.cellsOf t=1) {fuel i:Nat} {cs:List Value} {c:Value} {y:DataW H×List MemPlace} (hc:cs[i]? = some c) (h:DataW.trod enc P w base spare held fuel t ((cs.drop i).take (P.cellsOf t))=some y):∃ n:Int,c=.int .i64 n:=by
 rw [h1,cut1 hc] at h
 obtain ⟨n,e,-,-⟩:=DataW.trod_int ht h
 exact ⟨n,by simpa using e⟩
theorem Zod {α:Type} [Inhabited α] {t e:TypeId} {fs:List (Fd α)} (ht:P.underlying t=some (.slice e)) (h1:P.cellsOf t=1) (hc:P.cellsOf e=fs.length) (ho:Opens enc P w base spare held e fs) {fuel i:Nat} {cs:List Value} {c:Value} {y:DataW H×List MemPlace}
  (hi:cs[i]? = some c) (h:DataW.trod enc P w base spare held fuel t ((cs.drop i).take (P.cellsOf t))=some y):∃ (A:Option Addr) (cp:Nat) (xs:List α),c=.slice A xs.length cp∧xs.length≤cp∧Rd fs w A xs:=by
 rw [h1,cut1 hi] at h
 obtain ⟨A,cp,xs,e,hl,hr⟩:=Zut ht hc ho h
 exact ⟨A,cp,xs,by simpa using e,hl,hr⟩
theorem Zyu {t u:TypeId} {f0 f1:Field} (ht:P.underlying t=some (.struct #[f0,f1])) (h2:P.cellsOf t=2) (g0:f0.type=u∧f0.offset=0) (g1:f1.type=u∧f1.offset=1) (hu:P.underlying u=some (.int .i64)) (hu1:P.cellsOf u=1) {fuel i:Nat} {cs:List Value} {c d:Value} {y:DataW H×List MemPlace}
  (hc:cs[i]? = some c) (hd:cs[i+1]? = some d) (h:DataW.trod enc P w base spare held fuel t ((cs.drop i).take (P.cellsOf t))=some y):(∃ n:Int,c=.int .i64 n)∧∃ n:Int,d=.int .i64 n:=by
 rw [h2,cut2 hc hd] at h
 obtain ⟨-,hx⟩:=Zfa ht h
 obtain ⟨n0,z0,k0⟩:=hx 0 f0 rfl
 obtain ⟨n1,z1,k1⟩:=hx 1 f1 rfl
 rw [g0.1,g0.2] at k0
 rw [g1.1,g1.2] at k1
 exact ⟨Zdw hu hu1 rfl k0,Zdw hu hu1 rfl k1⟩
end
theorem list2 {α:Type} {l:List α} (h:l.length=2):∃ c0 c1,l=[c0,c1]:=by
 match l,h with
 | [c0,c1],_=>exact ⟨c0,c1,rfl⟩
theorem list4 {α:Type} {l:List α} (h:l.length=4):∃ c0 c1 c2 c3,l=[c0,c1,c2,c3]:=by
 match l,h with
 | [c0,c1,c2,c3],_=>exact ⟨c0,c1,c2,c3,rfl⟩
theorem list5 {α:Type} {l:List α} (h:l.length=5):∃ c0 c1 c2 c3 c4,l=[c0,c1,c2,c3,c4]:=by
 match l,h with
 | [c0,c1,c2,c3,c4],_=>exact ⟨c0,c1,c2,c3,c4,rfl⟩
theorem list7 {α:Type} {l:List α} (h:l.length=7):∃ c0 c1 c2 c3 c4 c5 c6,l=[c0,c1,c2,c3,c4,c5,c6]:=by
 match l,h with
 | [c0,c1,c2,c3,c4,c5,c6],_=>exact ⟨c0,c1,c2,c3,c4,c5,c6,rfl⟩
instance:Inhabited Ord:=⟨⟨0,0,0,0⟩⟩
instance:Inhabited Rul:=⟨⟨0,0,0,0,0,0,0⟩⟩
instance:Inhabited Slt:=⟨⟨0,0⟩⟩
instance:Inhabited Cel:=⟨⟨0,0,0,false,[]⟩⟩
instance:Inhabited Wy:=⟨⟨0,0,0,false,[]⟩⟩
section
variable {H:Type} {enc:TypeId×Value→H} {w:World} {base:Nat} {spare:Nat→Bool} {held:Bool}
theorem Zxx:Opens enc Tryz.prog w base spare held 191 kOrd:=by
 intro fuel cs y h
 obtain ⟨hl,hx⟩:=Zfa Tryz.underlying191 h
 obtain ⟨c0,c1,c2,c3,rfl⟩:=list4 (hl.trans (by kernel_rfl))
 obtain ⟨n0,z0,h0⟩:=hx 0 _ rfl
 obtain ⟨x0,rfl⟩:=Zdw Tryz.underlying3 (by kernel_rfl) (i:=0) (c:=c0) rfl h0
 obtain ⟨n1,z1,h1⟩:=hx 1 _ rfl
 obtain ⟨x1,rfl⟩:=Zdw Tryz.underlying3 (by kernel_rfl) (i:=1) (c:=c1) rfl h1
 obtain ⟨n2,z2,h2⟩:=hx 2 _ rfl
 obtain ⟨x2,rfl⟩:=Zdw Tryz.underlying3 (by kernel_rfl) (i:=2) (c:=c2) rfl h2
 obtain ⟨n3,z3,h3⟩:=hx 3 _ rfl
 obtain ⟨x3,rfl⟩:=Zdw Tryz.underlying3 (by kernel_rfl) (i:=3) (c:=c3) rfl h3
 exact ⟨⟨x0,x1,x2,x3⟩,rfl,rfl,rfl,rfl,trivial⟩
theorem Zxy:Opens enc Tryz.prog w base spare held 193 kRul:=by
 intro fuel cs y h
 obtain ⟨hl,hx⟩:=Zfa Tryz.underlying193 h
 obtain ⟨c0,c1,c2,c3,c4,c5,c6,rfl⟩:=list7 (hl.trans (by kernel_rfl))
 obtain ⟨n0,z0,h0⟩:=hx 0 _ rfl
 obtain ⟨x0,rfl⟩:=Zdw Tryz.underlying3 (by kernel_rfl) (i:=0) (c:=c0) rfl h0
 obtain ⟨n1,z1,h1⟩:=hx 1 _ rfl
 obtain ⟨x1,rfl⟩:=Zdw Tryz.underlying3 (by kernel_rfl) (i:=1) (c:=c1) rfl h1
 obtain ⟨n2,z2,h2⟩:=hx 2 _ rfl
 obtain ⟨x2,rfl⟩:=Zdw Tryz.underlying3 (by kernel_rfl) (i:=2) (c:=c2) rfl h2
 obtain ⟨n3,z3,h3⟩:=hx 3 _ rfl
 obtain ⟨x3,rfl⟩:=Zdw Tryz.underlying3 (by kernel_rfl) (i:=3) (c:=c3) rfl h3
 obtain ⟨n4,z4,h4⟩:=hx 4 _ rfl
 obtain ⟨x4,rfl⟩:=Zdw Tryz.underlying3 (by kernel_rfl) (i:=4) (c:=c4) rfl h4
 obtain ⟨n5,z5,h5⟩:=hx 5 _ rfl
 obtain ⟨x5,rfl⟩:=Zdw Tryz.underlying3 (by kernel_rfl) (i:=5) (c:=c5) rfl h5
 obtain ⟨n6,z6,h6⟩:=hx 6 _ rfl
 obtain ⟨x6,rfl⟩:=Zdw Tryz.underlying3 (by kernel_rfl) (i:=6) (c:=c6) rfl h6
 exact ⟨⟨x0,x1,x2,x3,x4,x5,x6⟩,rfl,rfl,rfl,rfl,rfl,rfl,rfl,trivial⟩
theorem Zxz:Opens enc Tryz.prog w base spare held 123 kSlt:=by
 intro fuel cs y h
 obtain ⟨hl,hx⟩:=Zfa Tryz.underlying123 h
 obtain ⟨c0,c1,rfl⟩:=list2 (hl.trans (by kernel_rfl))
 obtain ⟨n0,z0,h0⟩:=hx 0 _ rfl
 obtain ⟨x0,rfl⟩:=Zdw Tryz.underlying3 (by kernel_rfl) (i:=0) (c:=c0) rfl h0
 obtain ⟨n1,z1,h1⟩:=hx 1 _ rfl
 obtain ⟨x1,rfl⟩:=Zdw Tryz.underlying3 (by kernel_rfl) (i:=1) (c:=c1) rfl h1
 exact ⟨⟨x0,x1⟩,rfl,rfl,trivial⟩
theorem Zya:Opens enc Tryz.prog w base spare held 84 kCel:=by
 intro fuel cs y h
 obtain ⟨hl,hx⟩:=Zfa Tryz.underlying84 h
 obtain ⟨c0,c1,c2,c3,c4,rfl⟩:=list5 (hl.trans (by kernel_rfl))
 obtain ⟨n0,z0,h0⟩:=hx 0 _ rfl
 obtain ⟨x0,rfl⟩:=Zdw Tryz.underlying3 (by kernel_rfl) (i:=0) (c:=c0) rfl h0
 obtain ⟨n1,z1,h1⟩:=hx 1 _ rfl
 obtain ⟨⟨x1,rfl⟩,⟨x2,rfl⟩⟩:=Zyu Tryz.underlying81 (by kernel_rfl) ⟨rfl,rfl⟩ ⟨rfl,rfl⟩ Tryz.underlying3 (by kernel_rfl) (i:=1) (c:=c1) (d:=c2) rfl rfl h1
 obtain ⟨n3,z3,h3⟩:=hx 2 _ rfl
 obtain ⟨x3,rfl⟩:=Zxw Tryz.underlying4 (by kernel_rfl) (i:=3) (c:=c3) rfl h3
 obtain ⟨n4,z4,h4⟩:=hx 3 _ rfl
 obtain ⟨A4,p4,x4,rfl,l4,r4⟩:=Zod Tryz.underlying82 (by kernel_rfl) (by kernel_rfl) Zxx (i:=4) (c:=c4) rfl h4
 exact ⟨⟨x0,x1,x2,x3,x4⟩,rfl,rfl,rfl,rfl,⟨A4,p4,rfl,l4,r4⟩,trivial⟩
theorem Zyv:Opens enc Tryz.prog w base spare held 88 kWy:=by
 intro fuel cs y h
 obtain ⟨hl,hx⟩:=Zfa Tryz.underlying88 h
 obtain ⟨c0,c1,c2,c3,c4,rfl⟩:=list5 (hl.trans (by kernel_rfl))
 obtain ⟨n0,z0,h0⟩:=hx 0 _ rfl
 obtain ⟨x0,rfl⟩:=Zdw Tryz.underlying3 (by kernel_rfl) (i:=0) (c:=c0) rfl h0
 obtain ⟨n1,z1,h1⟩:=hx 1 _ rfl
 obtain ⟨x1,rfl⟩:=Zdw Tryz.underlying3 (by kernel_rfl) (i:=1) (c:=c1) rfl h1
 obtain ⟨n2,z2,h2⟩:=hx 2 _ rfl
 obtain ⟨x2,rfl⟩:=Zdw Tryz.underlying3 (by kernel_rfl) (i:=2) (c:=c2) rfl h2
 obtain ⟨n3,z3,h3⟩:=hx 3 _ rfl
 obtain ⟨x3,rfl⟩:=Zxw Tryz.underlying4 (by kernel_rfl) (i:=3) (c:=c3) rfl h3
 obtain ⟨n4,z4,h4⟩:=hx 4 _ rfl
 obtain ⟨A4,p4,x4,rfl,l4,r4⟩:=Zod Tryz.underlying86 (by kernel_rfl) (by kernel_rfl) Zxy (i:=4) (c:=c4) rfl h4
 exact ⟨⟨x0,x1,x2,x3,x4⟩,rfl,rfl,rfl,rfl,⟨A4,p4,rfl,l4,r4⟩,trivial⟩
theorem Zyb:Opens enc Tryz.prog w base spare held 27 kPln:=by
 intro fuel cs y h
 obtain ⟨hl,hx⟩:=Zfa Tryz.underlying27 h
 obtain ⟨c0,c1,c2,c3,c4,c5,c6,rfl⟩:=list7 (hl.trans (by kernel_rfl))
 obtain ⟨n0,z0,h0⟩:=hx 0 _ rfl
 obtain ⟨x0,rfl⟩:=Zdw Tryz.underlying3 (by kernel_rfl) (i:=0) (c:=c0) rfl h0
 obtain ⟨n1,z1,h1⟩:=hx 1 _ rfl
 obtain ⟨x1,rfl⟩:=Zdw Tryz.underlying3 (by kernel_rfl) (i:=1) (c:=c1) rfl h1
 obtain ⟨n2,z2,h2⟩:=hx 2 _ rfl
 obtain ⟨x2,rfl⟩:=Zdw Tryz.underlying3 (by kernel_rfl) (i:=2) (c:=c2) rfl h2
 obtain ⟨n3,z3,h3⟩:=hx 3 _ rfl
 obtain ⟨A3,p3,x3,rfl,l3,r3⟩:=Zod Tryz.underlying22 (by kernel_rfl) (by kernel_rfl) Zya (i:=3) (c:=c3) rfl h3
 obtain ⟨n4,z4,h4⟩:=hx 4 _ rfl
 obtain ⟨A4,p4,x4,rfl,l4,r4⟩:=Zod Tryz.underlying23 (by kernel_rfl) (by kernel_rfl) Zyv (i:=4) (c:=c4) rfl h4
 obtain ⟨n5,z5,h5⟩:=hx 5 _ rfl
 obtain ⟨A5,p5,x5,rfl,l5,r5⟩:=Zod Tryz.underlying24 (by kernel_rfl) (by kernel_rfl) Zxz (i:=5) (c:=c5) rfl h5
 obtain ⟨n6,z6,h6⟩:=hx 6 _ rfl
 obtain ⟨A6,p6,x6,rfl,l6,r6⟩:=Zod Tryz.underlying25 (by kernel_rfl) (by kernel_rfl) (Zwn Tryz.underlying90 Tryz.underlying3 (by kernel_rfl)) (i:=6) (c:=c6) rfl h6
 exact ⟨⟨x0,x1,x2,x3,x4,x5,x6⟩,rfl,rfl,rfl,⟨A3,p3,rfl,l3,r3⟩,⟨A4,p4,rfl,l4,r4⟩,⟨A5,p5,rfl,l5,r5⟩,⟨A6,p6,rfl,l6,r6⟩,trivial⟩
end
end Go.Proofs.YtaeckoinpllpnaaGreat
namespace Go.Proofs.YtaeckoinpllpnaaGreat.oneNewRow
open Go.ChangeShapes Go.WideShapes Go.ChangeAt Go.RowKit
theorem own:ownKnob Tryz.prog.godebug=none:=by kernel_rfl
theorem Zzw:laidOutB Tryz.prog=true:=by kernel_rfl
theorem lifted (os:Os) (started:os.Started) (H:Type) (enc:TypeId×Value→H) :
  ReturnsInHanded {} Tryz.checked os 3 .any (Rows.fnExactOneNewSpec.pre6 enc Tryz.prog Tryz.f3 Rows.fnExactOneNewRow.domain false) (Rows.fnExactOneNewSpec.post enc Tryz.prog Tryz.f3 false true false false):=by
 refine returnsInHanded_of_change_sized (C:=Tryz.checked) own started (by kernel_rfl) Tryz.func3
  (ChangeSpec.witness6 (enc:=enc) (C:=Tryz.checked) false ⟨#[],#[.agg #[.int .i64 0,.int .i64 0,.int .i64 0,.slice none 0 0,.slice none 0 0,.slice none 0 0,.slice none 0 0]],[]⟩ 8 (by kernel_rfl) (by kernel_rfl) (by kernel_rfl) (by kernel_rfl)) ?_
 intro W base args ds gs before hval0 hW hcnd hsz0 _
 have hval:∀ (j:Nat) t v,Tryz.f3.params[j]? = some t→args[j]? = some v→Value.okWide Tryz.prog W .any base t v:=hval0
 have hW':=hW
 obtain ⟨p,q,hA0,hV,rfl,hfz,hnd⟩:=hW
 have hA:DataW.TrodAll enc Tryz.prog W 0 (fun _=>true) true Tryz.f3.params.toList args.toList ds p:=hA0
 rw [Tryz.params3] at hA hval
 obtain ⟨v0,vs0,d0,ds0,p0,q0,hargs,rfl,rfl,h0,r0⟩:=trodAll_cons hA
 obtain ⟨rfl,rfl,rfl⟩:=trodAll_nil r0
 obtain rfl:args=#[v0]:=by cases args;simp_all
 obtain ⟨rfl,rfl⟩:=trodVars_none hV
 have k0:=h0
 have lt0:∀ x∈p0,x.block<W.heap.size:=by obtain ⟨m,hm⟩:=k0;exact DataW.trod_lt m _ _ _ hm
 obtain ⟨cs,rfl,hcs⟩:=okWide_struct Tryz.underlying27 (hval 0 27 v0 rfl rfl)
 obtain ⟨fuel,hf⟩:=h0
 obtain ⟨x,hx⟩:=Zyb _ _ _ hf
 obtain ⟨A1,c1,A2,c2,A3,c3,A4,c4,e,l1,r1,l2,r2,l3,r3,l4,r4⟩:=Zcs hx
 obtain rfl:cs=#[.int .i64 x.nodes,.int .i64 x.secret,.int .i64 x.fuel,.slice A1 x.cells.length c1,.slice A2 x.ways.length c2,.slice A3 x.slots.length c3,.slice A4 x.turns.length c4]:=by
  cases cs
  simpa [Value.cells] using e
 clear hA0 hval0 hsz0
 refine (law_OneNew x A1 A2 A3 A4 c1 c2 c3 c4 W r1 r2 r3 r4).mono fun e W' ⟨he,bel⟩=>?_
 subst he
 exact ⟨_,rfl,_,_,_,[],_,[],hW',trodAll_mk1 (shut_bool Tryz.underlying4 _),trodAll_cons_mk (Below.trod Zzw (by kernel_rfl) (of_decide_eq_true (by kernel_rfl)) k0 bel lt0) trodAll_mk0,rfl,bel.frame _,fun h=>by cases h⟩
theorem said:Rows.FnExactOneNewSaid :=
 OpenClaim.holds_of_wide 3 Tryz.f3 rfl rfl rfl rfl rfl rfl rfl ⟨rfl,rfl,rfl,rfl,rfl⟩ rfl rfl rfl rfl rfl (by kernel_rfl) Tryz.func3 (by kernel_rfl)
  (of_decide_eq_true (by kernel_rfl)) (by unfold Func.isWrapper;first | (rw [if_pos (by decide +kernel)];kernel_rfl) | (rw [if_neg (by decide +kernel)];exact ⟨rfl,rfl⟩))
  (fun os started H enc _=>lifted os started H enc)
end Go.Proofs.YtaeckoinpllpnaaGreat.oneNewRow
