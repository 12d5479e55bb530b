/- Part 19 of the proof of its last text: this session's own texts, shortened and joined by a program of its own (wip/pack.py). -/
import Derived.Test.YtaeckoinpllpnaaGreatTaa
import Derived.Test.YtaeckoinpllpnaaGreatTal
import Derived.Test.YtaeckoinpllpnaaGreatTap
import Derived.Test.YtaeckoinpllpnaaGreatTar
import Derived.Test.YtaeckoinpllpnaaGreatTaf
import Derived.Test.YtaeckoinpllpnaaGreatTah
import Derived.Test.YtaeckoinpllpnaaGreatTai
set_option linter.unusedVariables false
set_option linter.unusedSimpArgs false
set_option maxHeartbeats 16000000
set_option maxRecDepth 100000
namespace Go.Proofs.YtaeckoinpllpnaaGreat
open Go.RowKit Go.Proofs.YtaeckoinpllpnaaGreatW.PrintWords Go.Proofs.YtaeckoinpllpnaaGreatW.PrintLast
theorem Zmm (x:Pln) (n:Nat) (hx:Sane x n) (ps:List Value) (w:World) (hP:allK w x kPln ps) (b:Int) (up:Bool) (hu:(b=0∧up=false)∨(b=1∧up=true)) (A1 A2 A3 A4 A5 A6 A7:Option Addr) (c1 c2 c3 c4 c5 c6 c7:Nat) (hR:NoR w x n A1 A2 A3 A4 A5 A6 A7) (at_:Nat) :
  Calls Tryz.prog 129 #[.agg ps.toArray,.agg #[.bool up,.int .i64 b,.int .i64 0,.slice A1 x.cells.length c1,.slice A2 x.ways.length c2,.slice A3 x.ways.length c3,.slice A4 x.ways.length c4,.slice A5 x.ways.length c5,.slice A6 n c6,.slice A7 n c7],.int .i64 at_] w fun e w'=>e=.returned (.bool true)∧Below w.heap.size w w':=by
 have hPP:=hP
 have hxx:=hx
 obtain ⟨B1,d1,B2,d2,B3,d3,B4,d4,rfl,l1,r1,l2,r2,l3,r3,l4,r4⟩:=Zcs hP
 obtain ⟨hn,n1,n4,hcel,hway,hdep,hend,hnod⟩:=hx
 clear hn
 have q:=fun (w1:World) (h:Below w.heap.size w w1) (k:Nat) (hk:k<x.ways.length)=>Zns x n hxx _ w1 (Zai h hPP) b up hu A1 A2 A3 A4 A5 A6 A7 c1 c2 c3 c4 c5 c6 c7 (hR.below h) at_ k hk
 clear hu
 obtain ⟨W,eW,hb0,Np,Nn⟩:=new2 w (.cells #[.int .i64 x.nodes,.int .i64 x.secret,.int .i64 x.fuel,.slice B1 x.cells.length d1,.slice B2 x.ways.length d2,.slice B3 x.slots.length d3,.slice B4 x.turns.length d4] 33) (.cells #[.bool up,.int .i64 b,.int .i64 0,.slice A1 x.cells.length c1,.slice A2 x.ways.length c2,.slice A3 x.ways.length c3,.slice A4 x.ways.length c4,.slice A5 x.ways.length c5,.slice A6 n c6,.slice A7 n c7] 98)
 go_enter Tryz.func129,Tryz.ntmps129
 go_upto_region 1 with (fail)
 refine wp_at eW ?_
 clear eW
 obtain ⟨-,-,-,-,p4⟩:=cellsP5 Np;obtain ⟨-,-,-,-,k4,k5,k6,k7⟩:=cellsP8 Nn
 go_wp2
 clear p4 k4 k5 k6 k7
 go_loopw [7] (fun i wr=>∃ k:Nat,k≤x.ways.length∧i=.int .i64 k∧Below W.heap.size W wr) (fun i _=>x.ways.length-(intOf i).toNat)
 case atStart=>exact ⟨0,Nat.zero_le _,rfl,brf_⟩
 case round =>
  obtain ⟨k,hk,rfl,hb⟩:=hrel
  have hbw:=hb0.trans (hb.mono hb0.size)
  have Np1:=Zab Np hb
  have Nn1:=Zab Nn hb
  obtain ⟨p0,p1,p2,p3,p4,p5,p6⟩:=cellsP7 Np1
  by_cases hlt:k<x.ways.length
  ·obtain ⟨k0,k1,k2,k3,k4,k5,k6,k7,k8,k9⟩:=cellsP10 Nn1
   go_wp2_with (go_at_call 174;with_reducible refine (q _ hbw k hlt).mono ?_;rintro e w1 ⟨rfl,hb1⟩)
   refine ⟨⟨k+1,by omega,rfl,hb.trans (hb1.mono hb.size)⟩, ?_⟩
   simp [intOf]
   omega
  ·have e:k=x.ways.length:=by omega
   subst e
   go_wp2
   go_ret
   exact ⟨rfl,hbw⟩
theorem Zkm (x:Pln) (n:Nat) (hx:Sane x n) (ps:List Value) (w:World) (hP:allK w x kPln ps) (b:Int) (up:Bool) (hu:(b=0∧up=false)∨(b=1∧up=true)) (A1 A2 A3 A4 A5 A6 A7:Option Addr) (c1 c2 c3 c4 c5 c6 c7:Nat) (hR:NoR w x n A1 A2 A3 A4 A5 A6 A7) (at_:Nat) (hat:at_<n) :
  Calls Tryz.prog 95 #[.agg ps.toArray,.agg #[.bool up,.int .i64 b,.int .i64 0,.slice A1 x.cells.length c1,.slice A2 x.ways.length c2,.slice A3 x.ways.length c3,.slice A4 x.ways.length c4,.slice A5 x.ways.length c5,.slice A6 n c6,.slice A7 n c7],.int .i64 at_] w fun e w'=>e=.returned (.bool true)∧Below w.heap.size w w':=by
 have hPP:=hP
 have hxx:=hx
 obtain ⟨B1,d1,B2,d2,B3,d3,B4,d4,rfl,l1,r1,l2,r2,l3,r3,l4,r4⟩:=Zcs hP
 obtain ⟨hn,n1,n4,hcel,hway,hdep,hend,hnod⟩:=hx
 have qC:=fun (w1:World) (h:Below w.heap.size w w1)=>Zkp x n hxx _ w1 (Zai h hPP) b up hu A1 A2 A3 A4 A5 A6 A7 c1 c2 c3 c4 c5 c6 c7 (hR.below h) at_
 have qW:=fun (w1:World) (h:Below w.heap.size w w1)=>Zmm x n hxx _ w1 (Zai h hPP) b up hu A1 A2 A3 A4 A5 A6 A7 c1 c2 c3 c4 c5 c6 c7 (hR.below h) at_
 have qH:=fun (w1:World) (h:Below w.heap.size w w1)=>Zsb A6 A7 c6 c7 n n1 n4 w1 (Zac hR.r6 h) (Zac hR.r7 h)
 have qD:=fun (w1:World) (h:Below w.heap.size w w1)=>Zok A6 A7 c6 c7 n n4 w1 (Zac hR.r6 h)
 have q0:=fun w=>Zaz 0 0 60000 w
 rw [show inB 0 0 60000=true from rfl] at q0
 have qb:=fun w=>Zaz b 0 60000 w
 rw [show inB b 0 60000=true by rcases hu with ⟨rfl,rfl⟩ | ⟨rfl,rfl⟩ <;> rfl] at qb
 have hne:((n:Int) != x.nodes)=false:=by rw [hn];simp
 clear hn
 have hg:(List.replicate n (0:Int))[at_]? = some 0:=by rw [List.getElem?_replicate,if_pos hat]
 obtain ⟨ad6,e6,g0⟩:=Zeq hR.r6 hg
 subst e6
 obtain ⟨W,eW,hb0,Np,Nn⟩:=new2 w (.cells #[.int .i64 x.nodes,.int .i64 x.secret,.int .i64 x.fuel,.slice B1 x.cells.length d1,.slice B2 x.ways.length d2,.slice B3 x.slots.length d3,.slice B4 x.turns.length d4] 33) (.cells #[.bool up,.int .i64 b,.int .i64 0,.slice A1 x.cells.length c1,.slice A2 x.ways.length c2,.slice A3 x.ways.length c3,.slice A4 x.ways.length c4,.slice A5 x.ways.length c5,.slice (some ad6) n c6,.slice A7 n c7] 98)
 go_enter Tryz.func95,Tryz.ntmps95
 go_upto_region 1 with (fail)
 refine wp_at eW ?_
 clear eW
 rcases hu with ⟨rfl,rfl⟩ | ⟨rfl,rfl⟩
 ·skip
  have p0:=cellsP1 Np;obtain ⟨k0,k1,k2,-,-,-,-,-,k8,k9⟩:=cellsP10 Nn
  go_wp2_with (first
   | (go_at_call 129;with_reducible refine (qW _ hb4).mono ?_;rintro e w5 ⟨rfl,hb5⟩;have hbF:=hb4.trans (hb5.mono hb4.size))
   | (go_at_call 128;with_reducible refine (qC _ hb2).mono ?_;rintro e w4 ⟨rfl,hb9⟩;have hb4:=hb2.trans (hb9.mono hb2.size);have Np4:=Zab Np2 hb9;have Nn4:=Zab Nn2 hb9;obtain ⟨p0,p1,p2,p3,p4,p5,p6⟩:=cellsP7 Np4;obtain ⟨k0,k1,k2,k3,k4,k5,k6,k7,k8,k9⟩:=cellsP10 Nn4)
   | (go_at_call 127;with_reducible refine (qD _ hb1).mono ?_;rintro e w3 ⟨rfl,hb8⟩;have hb2:=hb1.trans (hb8.mono hb1.size);have Np2:=Zab Np1 hb8;have Nn2:=Zab Nn1 hb8;obtain ⟨p0,p1,p2,p3,p4,p5,p6⟩:=cellsP7 Np2;obtain ⟨k0,k1,k2,k3,k4,k5,k6,k7,k8,k9⟩:=cellsP10 Nn2)
   | (go_at_call 126;with_reducible refine (qH _ hb0).mono ?_;rintro e w2 ⟨rfl,hb7⟩;have hb1:=hb0.trans (hb7.mono hb0.size);have Np1:=Zab Np hb7;have Nn1:=Zab Nn hb7;have g1:=Zaa hb1 g0;obtain ⟨p0,p1,p2,p3,p4,p5,p6⟩:=cellsP7 Np1;obtain ⟨k0,k1,k2,k3,k4,k5,k6,k7,k8,k9⟩:=cellsP10 Nn1)
   | (go_at_call 94;with_reducible refine (qb _).mono ?_;rintro e w9 ⟨rfl,hw9⟩;rw [hw9];clear hw9)
   | (go_at_call 94;with_reducible refine (q0 _).mono ?_;rintro e w9 ⟨rfl,hw9⟩;rw [hw9];clear hw9))
  go_ret
  exact ⟨rfl,hbF⟩
 ·skip
  have p0:=cellsP1 Np;obtain ⟨k0,k1,k2,-,-,-,-,-,k8,k9⟩:=cellsP10 Nn
  go_wp2_with (first
   | (go_at_call 129;with_reducible refine (qW _ hb4).mono ?_;rintro e w5 ⟨rfl,hb5⟩;have hbF:=hb4.trans (hb5.mono hb4.size))
   | (go_at_call 128;with_reducible refine (qC _ hb2).mono ?_;rintro e w4 ⟨rfl,hb9⟩;have hb4:=hb2.trans (hb9.mono hb2.size);have Np4:=Zab Np2 hb9;have Nn4:=Zab Nn2 hb9;obtain ⟨p0,p1,p2,p3,p4,p5,p6⟩:=cellsP7 Np4;obtain ⟨k0,k1,k2,k3,k4,k5,k6,k7,k8,k9⟩:=cellsP10 Nn4)
   | (go_at_call 127;with_reducible refine (qD _ hb1).mono ?_;rintro e w3 ⟨rfl,hb8⟩;have hb2:=hb1.trans (hb8.mono hb1.size);have Np2:=Zab Np1 hb8;have Nn2:=Zab Nn1 hb8;obtain ⟨p0,p1,p2,p3,p4,p5,p6⟩:=cellsP7 Np2;obtain ⟨k0,k1,k2,k3,k4,k5,k6,k7,k8,k9⟩:=cellsP10 Nn2)
   | (go_at_call 126;with_reducible refine (qH _ hb0).mono ?_;rintro e w2 ⟨rfl,hb7⟩;have hb1:=hb0.trans (hb7.mono hb0.size);have Np1:=Zab Np hb7;have Nn1:=Zab Nn hb7;have g1:=Zaa hb1 g0;obtain ⟨p0,p1,p2,p3,p4,p5,p6⟩:=cellsP7 Np1;obtain ⟨k0,k1,k2,k3,k4,k5,k6,k7,k8,k9⟩:=cellsP10 Nn1;have hb2:=hb1;have Np2:=Np1;have Nn2:=Nn1)
   | (go_at_call 94;with_reducible refine (qb _).mono ?_;rintro e w9 ⟨rfl,hw9⟩;rw [hw9];clear hw9)
   | (go_at_call 94;with_reducible refine (q0 _).mono ?_;rintro e w9 ⟨rfl,hw9⟩;rw [hw9];clear hw9))
  go_ret
  exact ⟨rfl,hbF⟩
theorem Zsm (x:Pln) (n:Nat) (hx:Sane x n) (ps:List Value) (w:World) (hP:allK w x kPln ps) (b:Int) (up:Bool) (hu:(b=0∧up=false)∨(b=1∧up=true)) (A1 A2 A3 A4 A5 A6 A7:Option Addr) (c1 c2 c3 c4 c5 c6 c7:Nat) (hR:NoR w x n A1 A2 A3 A4 A5 A6 A7) (hok:Zcz x=true) (at_:Nat) (hat:at_<n) :
  Calls Tryz.prog 101 #[.agg ps.toArray,.agg #[.bool up,.int .i64 b,.int .i64 0,.slice A1 x.cells.length c1,.slice A2 x.ways.length c2,.slice A3 x.ways.length c3,.slice A4 x.ways.length c4,.slice A5 x.ways.length c5,.slice A6 n c6,.slice A7 n c7],.int .i64 at_] w fun e w'=>e=.returned (.bool true)∧Below w.heap.size w w':=by
 have hPP:=hP
 have hxx:=hx
 obtain ⟨B1,d1,B2,d2,B3,d3,B4,d4,rfl,l1,r1,l2,r2,l3,r3,l4,r4⟩:=Zcs hP
 obtain ⟨hn,n1,n4,hcel,hway,hdep,hend,hnod⟩:=hx
 have qP:=fun (w1:World) (h:Below w.heap.size w w1)=>Zeu x _ w1 (Zai h hPP)
 rw [hok] at qP
 have qL:=fun (w1:World) (h:Below w.heap.size w w1)=>Zkm x n hxx _ w1 (Zai h hPP) b up hu A1 A2 A3 A4 A5 A6 A7 c1 c2 c3 c4 c5 c6 c7 (hR.below h) at_ hat
 have qb:=fun w=>Zaz at_ 0 (x.nodes-1) w
 rw [show inB (at_:Int) 0 (x.nodes-1)=true by simp [inB];omega] at qb
 have hwr:IntKind.i64.wrap (x.nodes-1)=x.nodes-1:=wr64 _ (by omega)
 clear hn hu
 obtain ⟨W,eW,hb0,Np,Nn⟩:=new2 w (.cells #[.int .i64 x.nodes,.int .i64 x.secret,.int .i64 x.fuel,.slice B1 x.cells.length d1,.slice B2 x.ways.length d2,.slice B3 x.slots.length d3,.slice B4 x.turns.length d4] 33) (.cells #[.bool up,.int .i64 b,.int .i64 0,.slice A1 x.cells.length c1,.slice A2 x.ways.length c2,.slice A3 x.ways.length c3,.slice A4 x.ways.length c4,.slice A5 x.ways.length c5,.slice A6 n c6,.slice A7 n c7] 98)
 go_enter Tryz.func101,Tryz.ntmps101
 go_upto_region 1 with (fail)
 refine wp_at eW ?_
 clear eW
 obtain ⟨p0,p1,p2,p3,p4,p5,p6⟩:=cellsP7 Np
 go_wp2_with (first
  | (go_at_call 95;with_reducible refine (qL _ hb1).mono ?_;rintro e w5 ⟨rfl,hb5⟩;have hbF:=hb1.trans (hb5.mono hb1.size))
  | (go_at_call 94;with_reducible refine (qb _).mono ?_;rintro e w9 ⟨rfl,hw9⟩;rw [hw9];clear hw9)
  | (go_at_call 54;with_reducible refine (qP _ hb0).mono ?_;rintro e w2 ⟨rfl,hb7⟩;have hb1:=hb0.trans (hb7.mono hb0.size);have Np1:=Zab Np hb7;have Nn1:=Zab Nn hb7;obtain ⟨p0,p1,p2,p3,p4,p5,p6⟩:=cellsP7 Np1;obtain ⟨k0,k1,k2,k3,k4,k5,k6,k7,k8,k9⟩:=cellsP10 Nn1))
 go_ret
 exact ⟨rfl,hbF⟩
theorem Zmn (A:Option Addr) (c:Nat) (w:World) :
  Calls Tryz.prog 96 #[.slice A 0 c] w fun e w'=>e=.returned (.bool true)∧Below w.heap.size w w':=by
 go_enter Tryz.func96,Tryz.ntmps96
 go_wp2
 go_loopw [3] (fun i wr=>i=.int .i64 0∧Below w.heap.size w wr) (fun _ _=>0)
 case atStart=>exact ⟨rfl,brf_⟩
 case round =>
  obtain ⟨rfl,hb⟩:=hrel
  go_wp2
  go_ret
  exact ⟨rfl,hb⟩
theorem Zsn (x:Pln) (n:Nat) (hx:Sane x n) (hok:Zcz x=true) (ws:List Value) (w:World) (hW:allK w (Zee x) kWld ws) :
  Calls Tryz.prog 52 #[.agg ws.toArray] w fun e w'=>e=.returned (.bool true)∧Below w.heap.size w w':=by
 obtain ⟨B1,d1,B2,d2,B3,d3,B4,d4,B5,d5,B6,d6,B7,d7,rfl,hP,r5,r6,r7⟩:=Zpx hx.hn hW
 have hm7:=Zax r7
 rw [List.length_replicate] at hm7
 obtain ⟨W,eW,hb0,Nw⟩:=new1 w (.cells #[.int .i64 x.nodes,.int .i64 x.secret,.int .i64 x.fuel,.slice B1 x.cells.length d1,.slice B2 x.ways.length d2,.slice B3 x.slots.length d3,.slice B4 x.turns.length d4,.slice B5 n d5,.int .i64 0,.slice B6 0 d6,.slice B7 x.cells.length d7] 56)
 have qP:=fun (w1:World) (h:Below w.heap.size w w1)=>Zeu x _ w1 (Zai h hP)
 rw [hok] at qP
 have q0:=fun w=>Zaz 0 0 20000 w
 rw [show inB 0 0 20000=true from rfl] at q0
 have hne:((n:Int) != x.nodes)=false:=by rw [hx.hn];simp
 have n4:=hx.n4
 go_enter Tryz.func52,Tryz.ntmps52
 go_upto_region 1 with (fail)
 refine wp_at eW ?_
 clear eW
 obtain ⟨g0,g1,g2,g3,g4,g5,g6,g7,g8,g9,g10⟩:=cellsP11 Nw
 go_wp2_with (first
  | (go_at_call 94;with_reducible refine (q0 _).mono ?_;rintro e w9 ⟨rfl,hw9⟩;rw [hw9];clear hw9)
  | (go_at_call 54;with_reducible refine (qP _ hb0).mono ?_;rintro e w1 ⟨rfl,hb7⟩;have hb1:=hb0.trans (hb7.mono hb0.size);have Nw1:=Zab Nw hb7;clear g0 g1 g2 g3 g4 g5 g6;obtain ⟨g0,g1,g2,g3,g4,g5,g6,g7,g8,g9,g10⟩:=cellsP11 Nw1))
 clear g0 g1 g2 g3 g4 g5 g6 g7 g8 g9 g10
 go_loopw [3] (fun i wr=>∃ k:Nat,k≤n∧i=.int .i64 k∧Below w.heap.size w wr∧wr.heap[w.heap.size]? = some (.cells #[.int .i64 x.nodes,.int .i64 x.secret,.int .i64 x.fuel,.slice B1 x.cells.length d1,.slice B2 x.ways.length d2,.slice B3 x.slots.length d3,.slice B4 x.turns.length d4,.slice B5 n d5,.int .i64 0,.slice B6 0 d6,.slice B7 x.cells.length d7] 56 (0,0))) (fun i _=>n-(intOf i).toNat)
 case atStart=>exact ⟨0,Nat.zero_le _,rfl,hb1,Nw1⟩
 case round =>
  obtain ⟨k,hk,rfl,hbw,Nr⟩:=hrel
  obtain ⟨g0,g1,g2,g3,g4,g5,g6,g7⟩:=cellsP8 Nr
  by_cases hlt:k<n
  ·have hg:(List.replicate n (Zbm x 1 true))[k]? = some (Zbm x 1 true):=by rw [List.getElem?_replicate,if_pos hlt]
   obtain ⟨ad,ns,eA,hk9,h0,hi⟩:=Zce r5 hg
   obtain ⟨A1,c1,A2,c2,A3,c3,A4,c4,A5,c5,A6,c6,A7,c7,rfl,hR⟩:=Zmb hx.hn hk9
   subst eA
   have qN:=fun (w1:World) (h:Below w.heap.size w w1)=>Zkm x n hx _ w1 (Zai h hP) 1 true (Or.inr ⟨rfl,rfl⟩) A1 A2 A3 A4 A5 A6 A7 c1 c2 c3 c4 c5 c6 c7 (hR.below h) k hlt
   replace h0:∀ u,_→w.cell? (ad.add (k*10))=some u:=h0
   replace hi:∀ (i:Nat) u,0<i→_→w.cell? ⟨(ad.add (k*10)).block,(ad.add (k*10)).off+i,none⟩=some u:=hi
   have k0:wr.cell? (ad.add (k*10))=some (.bool true):=Zaa hbw (h0 _ rfl)
   have k1:wr.cell? ⟨(ad.add (k*10)).block,(ad.add (k*10)).off+1,none⟩=some (.int .i64 1):=Zaa hbw (hi 1 _ (by decide) rfl)
   have k2:wr.cell? ⟨(ad.add (k*10)).block,(ad.add (k*10)).off+2,none⟩=some (.int .i64 0):=Zaa hbw (hi 2 _ (by decide) rfl)
   have k3:wr.cell? ⟨(ad.add (k*10)).block,(ad.add (k*10)).off+3,none⟩=some (.slice A1 x.cells.length c1):=Zaa hbw (hi 3 _ (by decide) rfl)
   have k4:wr.cell? ⟨(ad.add (k*10)).block,(ad.add (k*10)).off+4,none⟩=some (.slice A2 x.ways.length c2):=Zaa hbw (hi 4 _ (by decide) rfl)
   have k5:wr.cell? ⟨(ad.add (k*10)).block,(ad.add (k*10)).off+5,none⟩=some (.slice A3 x.ways.length c3):=Zaa hbw (hi 5 _ (by decide) rfl)
   have k6:wr.cell? ⟨(ad.add (k*10)).block,(ad.add (k*10)).off+6,none⟩=some (.slice A4 x.ways.length c4):=Zaa hbw (hi 6 _ (by decide) rfl)
   have k7:wr.cell? ⟨(ad.add (k*10)).block,(ad.add (k*10)).off+7,none⟩=some (.slice A5 x.ways.length c5):=Zaa hbw (hi 7 _ (by decide) rfl)
   have k8:wr.cell? ⟨(ad.add (k*10)).block,(ad.add (k*10)).off+8,none⟩=some (.slice A6 n c6):=Zaa hbw (hi 8 _ (by decide) rfl)
   have k9:wr.cell? ⟨(ad.add (k*10)).block,(ad.add (k*10)).off+9,none⟩=some (.slice A7 n c7):=Zaa hbw (hi 9 _ (by decide) rfl)
   clear h0 hi hk9 hg
   go_wp2_with (fail)
   refine Zan (by kernel_rfl) (by kernel_rfl) ?_
   have hx:=Zbg wr
   repeat (go_big_quiet_step (first | (go_at_call 95;with_reducible exact Calls.ext_of_below (qN _ (hbw.trans ((Zam _ _).mono hbw.size))))))
   refine wpQuiet_nil ?_
   rintro _ ⟨wt,rfl⟩
   have hby:=Zam wr wt
   clear hx
   go_wp2
   refine ⟨⟨k+1,by omega,rfl,hbw.trans (hby.mono hbw.size),Zab Nr hby⟩, ?_⟩
   simp [intOf]
   omega
  ·have e:n=k:=by omega
   subst e
   go_wp2
   clear g0 g1 g2 g3 g4 g5 g6 g7
   go_loopw [4] (fun i wr=>i=.int .i64 0∧Below w.heap.size w wr∧wr.heap[w.heap.size]? = some (.cells #[.int .i64 x.nodes,.int .i64 x.secret,.int .i64 x.fuel,.slice B1 x.cells.length d1,.slice B2 x.ways.length d2,.slice B3 x.slots.length d3,.slice B4 x.turns.length d4,.slice B5 n d5,.int .i64 0,.slice B6 0 d6,.slice B7 x.cells.length d7] 56 (0,0))) (fun _ _=>0)
   case atStart=>exact ⟨rfl,hbw,Nr⟩
   case round =>
    obtain ⟨rfl,hbw,Nr⟩:=hrel
    obtain ⟨-,-,-,g3,-,-,-,-,-,g9⟩:=cellsP10 Nr
    go_wp2
    clear g9
    go_loopw [5] (fun i wr=>∃ k:Nat,k≤x.cells.length∧i=.int .i64 k∧Below w.heap.size w wr∧wr.heap[w.heap.size]? = some (.cells #[.int .i64 x.nodes,.int .i64 x.secret,.int .i64 x.fuel,.slice B1 x.cells.length d1,.slice B2 x.ways.length d2,.slice B3 x.slots.length d3,.slice B4 x.turns.length d4,.slice B5 n d5,.int .i64 0,.slice B6 0 d6,.slice B7 x.cells.length d7] 56 (0,0))) (fun i _=>x.cells.length-(intOf i).toNat)
    case atStart=>exact ⟨0,Nat.zero_le _,rfl,hbw,Nr⟩
    case round =>
     obtain ⟨k,hk,rfl,hbw,Nr⟩:=hrel
     by_cases hlt:k<x.cells.length
     ·have hg:(List.replicate x.cells.length ([]:List Sight))[k]? = some []:=by rw [List.getElem?_replicate,if_pos hlt]
      obtain ⟨ad,B,d,e7,y0,-,-⟩:=Zhd (Zac r7 hbw) hg
      have y0:wr.cell? (ad.add k)=some (.slice B 0 d):=y0
      subst e7
      obtain ⟨-,-,-,-,-,-,-,-,-,-,g10⟩:=cellsP11 Nr
      have q:=Zmn B d wr
      go_wp2_with (go_at_call 96;with_reducible refine q.mono ?_;rintro e w2 ⟨rfl,hb2⟩)
      refine ⟨⟨k+1,by omega,rfl,hbw.trans (hb2.mono hbw.size),Zab Nr hb2⟩, ?_⟩
      simp [intOf]
      omega
     ·have e:k=x.cells.length:=by omega
      subst e
      obtain ⟨-,-,-,-,-,-,-,-,-,-,g10⟩:=cellsP11 Nr
      go_wp2
      go_ret
      exact ⟨rfl,hbw⟩
theorem Zpe (x:Pln) (n:Nat) (hx:Sane x n) (ps:List Value) (w:World) (gp:Nat) (hP:allK w x kPln ps) (hpk:Zio w gp ps) (gn:Nat) (cs:List Value) (hN:w.heap[gn]? = some (.cells cs.toArray 98 (0,0))) (hO:allK w (Zbm x 0 false) kNod cs) (hne:gp≠gn) (at_:Nat) (hat:at_<n) (hsep:∀ k,k<w.heap.size→k≠gn→True) (hprd:∀ {w1:World},Kep (fun q=>q=gn∨w.heap.size≤q) w w1→allK w1 x kPln ps∧Zio w1 gp ps) :
  Calls Tryz.prog 69 #[.pointer (some ⟨gp,0,none⟩),.pointer (some ⟨gn,0,none⟩),.int .i64 at_] w fun e w'=>(e=.returned (.tuple #[])∧∃ cs':List Value,w'.heap[gn]? = some (.cells cs'.toArray 98 (0,0))∧Own kNod w' (fun k=>w.heap.size≤k) (Zbm x 1 true) cs')∧Kep (fun q=>q=gn∨w.heap.size≤q) w w':=by
 have hxx:=hx
 obtain ⟨hn,n1,n4,hcel,hway,hdep,hend,hnod⟩:=hx
 obtain ⟨A1,c1,A2,c2,A3,c3,A4,c4,A5,c5,A6,c6,A7,c7,rfl,-⟩:=Zmb hn hO
 have hgl:=Zao hN
 obtain ⟨k0,k1⟩:=cellsP2 hN
 have hdm:∀ (j:Nat) (y:Wy),x.ways[j]? = some y→inB y.depth 1 4=true:=hdep
 have q:=Zim x ps w gp hP hpk 1 (by omega) (by omega) hdm hcel hway
 clear hn
 go_enter Tryz.func69,Tryz.ntmps69
 go_upto_region 1 with (fail)
 go_upto_region 2 with (first
  | (go_at_call 68;with_reducible refine q.mono ?_;rintro e w1 ⟨⟨cs1,rfl,hO1⟩,hb1⟩;have N1:=Zab hN hb1;obtain ⟨u1,u2,u3,u4,u5,u6,u7,ff,rfl,h1,h2,h3,h4,h5,h6,h7⟩:=Zgc hO1;obtain ⟨E1,L1,g1,rfl⟩:=Zba h1;obtain ⟨E2,L2,g2,rfl⟩:=Zba h2;obtain ⟨E3,L3,g3,rfl⟩:=Zba h3;obtain ⟨E4,L4,g4,rfl⟩:=Zba h4;obtain ⟨E5,L5,g5,rfl⟩:=Zba h5;obtain ⟨E6,L6,g6,rfl⟩:=Zba h6;obtain ⟨E7,L7,g7,rfl⟩:=Zba h7)
  | (refine Zey 98 (.tmp 26) (.tmp 25) ⟨rfl,rfl,rfl⟩ gn #[.bool false,.int .i64 1,.int .i64 0,.slice E1 L1 g1,.slice E2 L2 g2,.slice E3 L3 g3,.slice E4 L4 g4,.slice E5 L5 g5,.slice E6 L6 g6,.slice E7 L7 g7] rfl rfl 98 #[.bool false,.int .i64 0,.int .i64 0,.slice A1 x.cells.length c1,.slice A2 x.ways.length c2,.slice A3 x.ways.length c3,.slice A4 x.ways.length c4,.slice A5 x.ways.length c5,.slice A6 n c6,.slice A7 n c7] N1 (by kernel_rfl) rfl (by simp [Value.oneCell']) ?_;intro w2 N2 hk2))
 have z0:=cellsP1 N2
 have f0:=Zad N2 0
 have HR:NodR w2 (fun k=>w.heap.size≤k) (Zbm x 1 true) ff (.slice E1 L1 g1) (.slice E2 L2 g2) (.slice E3 L3 g3) (.slice E4 L4 g4) (.slice E5 L5 g5) (.slice E6 L6 g6) (.slice E7 L7 g7):=(show NodR w1 (fun k=>w.heap.size≤k) (Zbm x 1 true) ff (.slice E1 L1 g1) (.slice E2 L2 g2) (.slice E3 L3 g3) (.slice E4 L4 g4) (.slice E5 L5 g5) (.slice E6 L6 g6) (.slice E7 L7 g7) from ⟨h1,h2,h3,h4,h5,h6,h7⟩).step (fun k hk hl=>hk2.block k hl (fun e=>by omega))
 go_upto_region 3 with (fail)
 have N3:(w2.setCell ⟨gn,0,none⟩ (.bool true)).heap[gn]? = some (.cells #[.bool true,.int .i64 1,.int .i64 0,.slice E1 L1 g1,.slice E2 L2 g2,.slice E3 L3 g3,.slice E4 L4 g4,.slice E5 L5 g5,.slice E6 L6 g6,.slice E7 L7 g7] 98 (0,0)):=Zau N2 0 _
 have HR3:=HR.step (w1:=w2.setCell ⟨gn,0,none⟩ (.bool true)) (fun k hk hl=>Below.heap_setCell w2 ⟨gn,0,none⟩ _ k (by (try dsimp only at hk ⊢);omega))
 have HK:Kep (fun q=>q=gn∨w.heap.size≤q) w (w2.setCell ⟨gn,0,none⟩ (.bool true)):=(((Kep.of_below hb1).trans hk2 (fun i _ e=>e)).set rfl (.bool true)).trans (Kep.refl (fun q=>q=gn) _) (fun i _ e=>e) |> fun h=>⟨h.os,h.tape,h.output,h.size,fun k hk hn=>h.block k hk (fun e=>hn (Or.inl e))⟩
 clear z0 f0 HR N2 hk2 h1 h2 h3 h4 h5 h6 h7 hO1 N1 hb1 k0 k1 q
 generalize w2.setCell ⟨gn,0,none⟩ (.bool true)=W3 at *
 obtain ⟨hP3,hpk3⟩:=hprd HK
 obtain ⟨B1,d1,B2,d2,B3,d3,B4,d4,rfl,-⟩:=Zcs hP3
 have p4:W3.cell? ⟨gp,4,none⟩=some (.slice B2 x.ways.length d2):=hpk3 4 _ rfl
 go_wp2
 clear p4
 go_loopw [35] (fun i wr=>∃ k:Nat,k≤x.ways.length∧i=.int .i64 k∧wr.heap[gn]? = some (.cells #[.bool true,.int .i64 1,.int .i64 0,.slice E1 L1 g1,.slice E2 L2 g2,.slice E3 L3 g3,.slice E4 L4 g4,.slice E5 L5 g5,.slice E6 L6 g6,.slice E7 L7 g7] 98 (0,0))∧NodR wr (fun k=>w.heap.size≤k) (Zbm x 1 true) ff (.slice E1 L1 g1) (.slice E2 L2 g2) (.slice E3 L3 g3) (.slice E4 L4 g4) (.slice E5 L5 g5) (.slice E6 L6 g6) (.slice E7 L7 g7)∧Kep (fun q=>q=gn∨w.heap.size≤q) w wr) (fun i _=>x.ways.length-(intOf i).toNat)
 case atStart=>exact ⟨0,Nat.zero_le _,rfl,N3,HR3,HK⟩
 case round =>
  clear N3 HR3 HK hP3 hpk3
  obtain ⟨k,hk,rfl,Ng,HR,HK⟩:=hrel
  obtain ⟨hPr,hpr⟩:=hprd HK
  by_cases hlt:k<x.ways.length
  ·obtain ⟨y,hy⟩:=Zar x.ways hlt
   have qF:=Zkk x _ wr gp hPr hpr k at_ (by omega) (by omega) hend
   cases hF:Zul x k at_
   ·rw [hF] at qF
    go_wp2_with (go_at_call 117;with_reducible refine qF.mono ?_;rintro e w4 ⟨rfl,hb4⟩)
    refine ⟨⟨k+1,by omega,rfl,Zab Ng hb4,HR.step (fun k _ hl=>hb4.block k hl),HK.trans (Kep.of_below hb4) (fun i _ e=>e)⟩, ?_⟩
    simp [intOf]
    omega
   ·rw [hF] at qF
    go_upto_region 7 with (go_at_call 117;with_reducible refine qF.mono ?_;rintro e w4 ⟨rfl,hb4⟩)
    have Nu:=Zab Ng hb4
    have HNu:=HR.step (w1:=w4) (fun k _ hl=>hb4.block k hl)
    have HKu:=HK.trans (Kep.of_below hb4) (S:=fun q=>q=gn∨w.heap.size≤q) (fun i _ e=>e)
    obtain ⟨q4,cp4,e4⟩:=Zex HNu.r4 (by simp [Zbm];omega)
    injection e4 with e4 e4l e4c
    subst e4
    obtain ⟨T4,cur4,cs4,hc4,-,-,ho4,hi4,hl4,-⟩:=Zux HNu.r4 (Zgp (fun _=>Zdr) hy)
    obtain rfl:=Zxi (Zbh ho4)
    have hs0:cur4[k*4+0]? = some (.int .i64 1):=hi4 0 _ rfl
    have hs1:cur4[k*4+1]? = some (.int .i64 0):=hi4 1 _ rfl
    have hs2:cur4[k*4+2]? = some (.int .i64 0):=hi4 2 _ rfl
    have hs3:cur4[k*4+3]? = some (.int .i64 0):=hi4 3 _ rfl
    have qO:=fun w=>Zgn 1 w
    rw [show inB 1 1 60000=true from rfl] at qO
    simp only [cond_true] at qO
    obtain ⟨-,k1⟩:=cellsP2 Nu
    have e4n:L4=x.ways.length:=by rw [e4l];simp [Zbm]
    subst e4n
    clear e4l
    obtain ⟨-,-,-,-,-,-,k6⟩:=cellsP7 Nu
    have hdr:Below w4.heap.size w4 w4.drew:=Zat (brf_)
    refine Zfm (n:=12) (S:=fun w'=>w'.cell? ⟨gn,6,none⟩=some (.slice (some ⟨q4,0,none⟩) x.ways.length g4)∧w'.cell? ⟨gn,1,none⟩=some (.int .i64 1)) (ds:=[11]) (upB 12 0) (by kernel_rfl) rfl rfl ⟨k6,k1⟩ (fun hHeld=>?_)
    generalize w4.drew=Wd at *
    refine Zap (i:=0) (N:=some 42) (upB 12 1) rfl rfl (by kernel_rfl) (fun _ _ _ h=>h) (Or.inl ⟨by rfl,fun w'=>by go_simp;with_reducible rfl⟩) (by simp only [Act.put,pkA,pkB,pkC];rfl) ?_
    refine Zap (i:=1) (N:=some 43) (upB 12 2) rfl rfl (by kernel_rfl) (fun _ _ _ h=>h) (Or.inl ⟨by rfl,fun w'=>by go_simp;with_reducible rfl⟩) (by simp only [Act.put,pkA,pkB,pkC];rfl) ?_
    refine Zap (i:=2) (N:=some 44) (upB 12 3) rfl rfl (by kernel_rfl) (fun _ _ _ h=>h) (Or.inl ⟨by rfl,fun w'=>by go_simp;with_reducible rfl⟩) (by simp only [Act.put,pkA,pkB,pkC];rfl) ?_
    refine Zbz (i:=3) (N:=some 45) (upB 12 4) rfl rfl (by kernel_rfl) (fun _ _ _ h=>h) (Or.inl ⟨by rfl,by rintro w' ⟨s0,s1⟩;go_simp;with_reducible rfl⟩) hHeld (by simp only [Act.put,pkA,pkB,pkC];rfl) ?_
    refine Zap (i:=4) (N:=some 46) (upB 12 5) rfl rfl (by kernel_rfl) (fun _ _ _ h=>h) (Or.inl ⟨by rfl,fun w'=>by go_simp;with_reducible rfl⟩) (by simp only [Act.put,pkA,pkB,pkC];rfl) ?_
    refine Zap (i:=5) (N:=some 47) (upB 12 6) rfl rfl (by kernel_rfl) (fun _ _ _ h=>h) (Or.inl ⟨by rfl,fun w'=>by go_simp;with_reducible rfl⟩) (by simp only [Act.put,pkA,pkB,pkC];rfl) ?_
    refine Zap (i:=6) (N:=some 48) (upB 12 7) rfl rfl (by kernel_rfl) (fun _ _ _ h=>h) (Or.inl ⟨by rfl,fun w'=>by go_simp;with_reducible rfl⟩) (by simp only [Act.put,pkA,pkB,pkC];rfl) ?_
    refine Zap (i:=7) (N:=some 49) (upB 12 8) rfl rfl (by kernel_rfl) (fun _ _ _ h=>h) (Or.inl ⟨by rfl,fun w'=>by go_simp;with_reducible rfl⟩) (by simp only [Act.put,pkA,pkB,pkC];rfl) ?_
    refine Zbz (i:=8) (N:=some 50) (upB 12 9) rfl rfl (by kernel_rfl) (fun _ _ _ h=>h) (Or.inl ⟨by rfl,by rintro w' ⟨s0,s1⟩;go_simp;with_reducible rfl⟩) hHeld (by simp only [Act.put,pkA,pkB,pkC];rfl) ?_
    refine one_ (i:=9) (N:=some 51) (upB 12 10) rfl rfl (by kernel_rfl) (by decide) (fun K hK=>?_)
    refine Zfw Tryz.func116 (by kernel_rfl) rfl #[.int .i64 1] (by rfl) rfl rfl (by (try simp only [List.map_toArray,List.map_cons,List.map_nil]);first | done | rfl) ?_
    with_reducible refine (qO Wd).mono ?_
    rintro e w5 ⟨rfl,hb5⟩
    refine ⟨_,rfl, ?_⟩
    refine hK.out _ _ ⟨Zaa hb5 hHeld.1,Zaa hb5 hHeld.2⟩ (fun hHeld=>?_)
    clear hK K
    refine Zbb (a':=?_) ?_ ?_
    rotate_left
    ·show Act.put _ (some 51) _=_
     simp only [Act.put,pkA,pkB,pkC]
     rfl
    refine Zap (i:=10) (N:=some 52) (upB 12 11) rfl rfl (by kernel_rfl) (fun _ _ _ h=>h) (Or.inl ⟨by rfl,fun w'=>by go_simp;with_reducible rfl⟩) (by simp only [Act.put,pkA,pkB,pkC];rfl) ?_
    refine Znl (i:=11) (N:=none) (upB 12 12) rfl rfl (by kernel_rfl) (by decide) (fun K hK=>?_)
    have hb45:=hdr.trans (hb5.mono hdr.size)
    have hc5:=Zab hc4 hb45
    have f5:=fun i=>Zad hc5 i
    have s0:w5.cell? ⟨q4,k*4+0,none⟩=some (.int .i64 1):=Zag hc5 hs0
    have t0:w5.setCell ⟨q4,k*4+0,none⟩ (.int .i64 1)=w5:=Zek hc5 hs0
    have s1:w5.cell? ⟨q4,k*4+1,none⟩=some (.int .i64 0):=Zag hc5 hs1
    have t1:w5.setCell ⟨q4,k*4+1,none⟩ (.int .i64 0)=w5:=Zek hc5 hs1
    have s2:w5.cell? ⟨q4,k*4+2,none⟩=some (.int .i64 0):=Zag hc5 hs2
    have t2:w5.setCell ⟨q4,k*4+2,none⟩ (.int .i64 0)=w5:=Zek hc5 hs2
    have s3:w5.cell? ⟨q4,k*4+3,none⟩=some (.int .i64 0):=Zag hc5 hs3
    have t3:w5.setCell ⟨q4,k*4+3,none⟩ (.int .i64 0)=w5:=Zek hc5 hs3
    rw [Nat.add_zero] at s0 t0
    refine Zyc (w1:=w5) (by rfl) rfl ?_ ?_
    ·go_simp
    refine hK.out _ _ ?_
    clear hK K
    refine Zgw (by kernel_rfl) ?_
    go_wp2
    refine ⟨⟨k+1,by omega,rfl,Zab Nu hb45,HNu.step (fun k _ hl=>hb45.block k hl),HKu.trans (Kep.of_below hb45) (fun i _ e=>e)⟩, ?_⟩
    simp [intOf]
    omega
  ·have e:k=x.ways.length:=by omega
   subst e
   go_wp2
   refine bodyPost_end (results_none rfl _ _ _) rfl ?_
   exact ⟨⟨rfl,_,Ng,HR.own⟩,HK⟩
theorem Zre (x:Pln) (n:Nat) (hx:Sane x n) (hok:Zcz x=true) (ps:List Value) (w:World) (hP:allK w x kPln ps) (at_:Nat) (hat:at_<n) :
  Calls Tryz.prog 57 #[.agg ps.toArray,.int .i64 at_] w fun e w'=>(∃ cs:List Value,e=.returned (.agg cs.toArray)∧Own kNod w' (fun k=>w.heap.size≤k) (Zbm x 0 false) cs)∧Below w.heap.size w w':=by
 have hPP:=hP
 have hxx:=hx
 obtain ⟨B1,d1,B2,d2,B3,d3,B4,d4,rfl,l1,r1,l2,r2,l3,r3,l4,r4⟩:=Zcs hP
 obtain ⟨hn,n1,n4,hcel,hway,hdep,hend,hnod⟩:=hx
 have qP:=fun (w1:World) (h:Below w.heap.size w w1)=>Zeu x _ w1 (Zai h hPP)
 rw [hok] at qP
 have qB:=fun (w1:World) (h:Below w.heap.size w w1)=>Zic x _ w1 (Zai h hPP) 0 (by omega) (by omega) hdep hcel hway
 have qb:=fun w=>Zaz at_ 0 (x.nodes-1) w
 rw [show inB (at_:Int) 0 (x.nodes-1)=true by simp [inB];omega] at qb
 have hwr:IntKind.i64.wrap (x.nodes-1)=x.nodes-1:=wr64 _ (by omega)
 clear hn
 obtain ⟨W,eW,hb0,Np,Nr⟩:=new2 w (.cells #[.int .i64 x.nodes,.int .i64 x.secret,.int .i64 x.fuel,.slice B1 x.cells.length d1,.slice B2 x.ways.length d2,.slice B3 x.slots.length d3,.slice B4 x.turns.length d4] 33) (.cells #[.bool false,.int .i64 0,.int .i64 0,.slice none 0 0,.slice none 0 0,.slice none 0 0,.slice none 0 0,.slice none 0 0,.slice none 0 0,.slice none 0 0] 98)
 go_enter Tryz.func57,Tryz.ntmps57
 go_upto_region 1 with (fail)
 refine wp_at eW ?_
 clear eW
 obtain ⟨p0,p1,p2,p3,p4,p5,p6⟩:=cellsP7 Np
 go_upto_region 3 with (first
  | (go_at_call 94;with_reducible refine (qb _).mono ?_;rintro e w9 ⟨rfl,hw9⟩;rw [hw9];clear hw9)
  | (go_at_call 54;with_reducible refine (qP _ hb0).mono ?_;rintro e w2 ⟨rfl,hb7⟩;have hb1:=hb0.trans (hb7.mono hb0.size);have Np1:=Zab Np hb7;have Nr1:=Zab Nr hb7;clear p0 p1 p2 p3 p4 p5 p6;obtain ⟨p0,p1,p2,p3,p4,p5,p6⟩:=cellsP7 Np1))
 go_wp2_with (first
  | (go_at_call 103;with_reducible refine (qB _ hb1).mono ?_;rintro e w3 ⟨⟨cs1,rfl,hO1⟩,hb8⟩;have Nr2:=Zab Nr1 hb8;have hb2:=hb1.trans (hb8.mono hb1.size);obtain ⟨u1,u2,u3,u4,u5,u6,u7,ff,rfl,h1,h2,h3,h4,h5,h6,h7⟩:=Zgc hO1;obtain ⟨E1,L1,g1,rfl⟩:=Zba h1;obtain ⟨E2,L2,g2,rfl⟩:=Zba h2;obtain ⟨E3,L3,g3,rfl⟩:=Zba h3;obtain ⟨E4,L4,g4,rfl⟩:=Zba h4;obtain ⟨E5,L5,g5,rfl⟩:=Zba h5;obtain ⟨E6,L6,g6,rfl⟩:=Zba h6;obtain ⟨E7,L7,g7,rfl⟩:=Zba h7)
  | (refine Zey 98 (.tmp 4) (.tmp 18) ⟨rfl,rfl,rfl⟩ (w.heap.size+1) #[.bool false,.int .i64 0,.int .i64 0,.slice E1 L1 g1,.slice E2 L2 g2,.slice E3 L3 g3,.slice E4 L4 g4,.slice E5 L5 g5,.slice E6 L6 g6,.slice E7 L7 g7] rfl rfl 98 #[.bool false,.int .i64 0,.int .i64 0,.slice none 0 0,.slice none 0 0,.slice none 0 0,.slice none 0 0,.slice none 0 0,.slice none 0 0,.slice none 0 0] Nr2 (by kernel_rfl) rfl (by simp [Value.oneCell']) ?_;intro w4 N4 hk))
 refine bodyPost_ret (results_cell_row rfl _ _ (w.heap.size+1) 98 #[.bool false,.int .i64 0,.int .i64 0,.slice E1 L1 g1,.slice E2 L2 g2,.slice E3 L3 g3,.slice E4 L4 g4,.slice E5 L5 g5,.slice E6 L6 g6,.slice E7 L7 g7] (0,0) _ rfl N4 Tryz.underlying98 rfl (by kernel_rfl)) rfl ?_
 have hw1:=hb1.size
 have hW2:w.heap.size+1<w2.heap.size:=Zao Nr1
 have HR:NodR w4 (fun k=>w2.heap.size≤k) (Zbm x 0 false) ff (.slice E1 L1 g1) (.slice E2 L2 g2) (.slice E3 L3 g3) (.slice E4 L4 g4) (.slice E5 L5 g5) (.slice E6 L6 g6) (.slice E7 L7 g7):=(show NodR w3 (fun k=>w2.heap.size≤k) (Zbm x 0 false) ff (.slice E1 L1 g1) (.slice E2 L2 g2) (.slice E3 L3 g3) (.slice E4 L4 g4) (.slice E5 L5 g5) (.slice E6 L6 g6) (.slice E7 L7 g7) from ⟨h1,h2,h3,h4,h5,h6,h7⟩).step (fun k hk1 hl=>hk.block k hl (fun e=>by omega))
 exact ⟨⟨_,rfl,Zbx HR.own (fun k hk1=>by omega)⟩,hb2.trans ⟨hk.os,hk.tape,hk.output,hk.size,fun b_ hb=>hk.block b_ (by have:=hb2.size;omega) (fun e=>by omega)⟩⟩
theorem Zpf (x:Pln) (n:Nat) (hx:Sane x n) (ps:List Value) (w:World) (hP:allK w x kPln ps) (A1 A2 A3 A4 A5 A6 A7:Option Addr) (c1 c2 c3 c4 c5 c6 c7:Nat) (at_:Nat) (hat:at_<n) :
  Calls Tryz.prog 102 #[.agg ps.toArray,.agg #[.bool false,.int .i64 0,.int .i64 0,.slice A1 x.cells.length c1,.slice A2 x.ways.length c2,.slice A3 x.ways.length c3,.slice A4 x.ways.length c4,.slice A5 x.ways.length c5,.slice A6 n c6,.slice A7 n c7],.int .i64 at_] w fun e w'=>(∃ cs:List Value,e=.returned (.agg cs.toArray)∧Own kNod w' (fun k=>w.heap.size≤k) (Zbm x 1 true) cs)∧Below w.heap.size w w':=by
 have hPP:=hP
 have hxx:=hx
 obtain ⟨B1,d1,B2,d2,B3,d3,B4,d4,rfl,l1,r1,l2,r2,l3,r3,l4,r4⟩:=Zcs hP
 obtain ⟨hn,n1,n4,hcel,hway,hdep,hend,hnod⟩:=hx
 have qB:=fun (w1:World) (h:Below w.heap.size w w1)=>Zic x _ w1 (Zai h hPP) 1 (by omega) (by omega) hdep hcel hway
 clear hn
 have hb0:=(((Below.refl w.heap.size w).alloc nlr_ (.cells #[.int .i64 x.nodes,.int .i64 x.secret,.int .i64 x.fuel,.slice B1 x.cells.length d1,.slice B2 x.ways.length d2,.slice B3 x.slots.length d3,.slice B4 x.turns.length d4] 33)).alloc (by simp) (.cells #[.bool false,.int .i64 0,.int .i64 0,.slice A1 x.cells.length c1,.slice A2 x.ways.length c2,.slice A3 x.ways.length c3,.slice A4 x.ways.length c4,.slice A5 x.ways.length c5,.slice A6 n c6,.slice A7 n c7] 98)).alloc (by simp;omega) (.cells #[.bool false,.int .i64 0,.int .i64 0,.slice none 0 0,.slice none 0 0,.slice none 0 0,.slice none 0 0,.slice none 0 0,.slice none 0 0,.slice none 0 0] 98)
 have Np:=Zal (Zal (Zas w (.cells #[.int .i64 x.nodes,.int .i64 x.secret,.int .i64 x.fuel,.slice B1 x.cells.length d1,.slice B2 x.ways.length d2,.slice B3 x.slots.length d3,.slice B4 x.turns.length d4] 33)) (.cells #[.bool false,.int .i64 0,.int .i64 0,.slice A1 x.cells.length c1,.slice A2 x.ways.length c2,.slice A3 x.ways.length c3,.slice A4 x.ways.length c4,.slice A5 x.ways.length c5,.slice A6 n c6,.slice A7 n c7] 98)) (.cells #[.bool false,.int .i64 0,.int .i64 0,.slice none 0 0,.slice none 0 0,.slice none 0 0,.slice none 0 0,.slice none 0 0,.slice none 0 0,.slice none 0 0] 98)
 have Nn:(((w.alloc (.cells #[.int .i64 x.nodes,.int .i64 x.secret,.int .i64 x.fuel,.slice B1 x.cells.length d1,.slice B2 x.ways.length d2,.slice B3 x.slots.length d3,.slice B4 x.turns.length d4] 33)).alloc (.cells #[.bool false,.int .i64 0,.int .i64 0,.slice A1 x.cells.length c1,.slice A2 x.ways.length c2,.slice A3 x.ways.length c3,.slice A4 x.ways.length c4,.slice A5 x.ways.length c5,.slice A6 n c6,.slice A7 n c7] 98)).alloc (.cells #[.bool false,.int .i64 0,.int .i64 0,.slice none 0 0,.slice none 0 0,.slice none 0 0,.slice none 0 0,.slice none 0 0,.slice none 0 0,.slice none 0 0] 98)).heap[w.heap.size+1]? = _:=Zal (Zbs (w.alloc (.cells #[.int .i64 x.nodes,.int .i64 x.secret,.int .i64 x.fuel,.slice B1 x.cells.length d1,.slice B2 x.ways.length d2,.slice B3 x.slots.length d3,.slice B4 x.turns.length d4] 33)) (.cells #[.bool false,.int .i64 0,.int .i64 0,.slice A1 x.cells.length c1,.slice A2 x.ways.length c2,.slice A3 x.ways.length c3,.slice A4 x.ways.length c4,.slice A5 x.ways.length c5,.slice A6 n c6,.slice A7 n c7] 98) (by simp)) (.cells #[.bool false,.int .i64 0,.int .i64 0,.slice none 0 0,.slice none 0 0,.slice none 0 0,.slice none 0 0,.slice none 0 0,.slice none 0 0,.slice none 0 0] 98)
 have Nr:(((w.alloc (.cells #[.int .i64 x.nodes,.int .i64 x.secret,.int .i64 x.fuel,.slice B1 x.cells.length d1,.slice B2 x.ways.length d2,.slice B3 x.slots.length d3,.slice B4 x.turns.length d4] 33)).alloc (.cells #[.bool false,.int .i64 0,.int .i64 0,.slice A1 x.cells.length c1,.slice A2 x.ways.length c2,.slice A3 x.ways.length c3,.slice A4 x.ways.length c4,.slice A5 x.ways.length c5,.slice A6 n c6,.slice A7 n c7] 98)).alloc (.cells #[.bool false,.int .i64 0,.int .i64 0,.slice none 0 0,.slice none 0 0,.slice none 0 0,.slice none 0 0,.slice none 0 0,.slice none 0 0,.slice none 0 0] 98)).heap[w.heap.size+1+1]? = _:=Zbs ((w.alloc (.cells #[.int .i64 x.nodes,.int .i64 x.secret,.int .i64 x.fuel,.slice B1 x.cells.length d1,.slice B2 x.ways.length d2,.slice B3 x.slots.length d3,.slice B4 x.turns.length d4] 33)).alloc (.cells #[.bool false,.int .i64 0,.int .i64 0,.slice A1 x.cells.length c1,.slice A2 x.ways.length c2,.slice A3 x.ways.length c3,.slice A4 x.ways.length c4,.slice A5 x.ways.length c5,.slice A6 n c6,.slice A7 n c7] 98)) (.cells #[.bool false,.int .i64 0,.int .i64 0,.slice none 0 0,.slice none 0 0,.slice none 0 0,.slice none 0 0,.slice none 0 0,.slice none 0 0,.slice none 0 0] 98) (by simp)
 go_enter Tryz.func102,Tryz.ntmps102
 go_upto_region 1 with (fail)
 change Code.wp _ _ _ _ (((w.alloc (.cells #[.int .i64 x.nodes,.int .i64 x.secret,.int .i64 x.fuel,.slice B1 x.cells.length d1,.slice B2 x.ways.length d2,.slice B3 x.slots.length d3,.slice B4 x.turns.length d4] 33)).alloc (.cells #[.bool false,.int .i64 0,.int .i64 0,.slice A1 x.cells.length c1,.slice A2 x.ways.length c2,.slice A3 x.ways.length c3,.slice A4 x.ways.length c4,.slice A5 x.ways.length c5,.slice A6 n c6,.slice A7 n c7] 98)).alloc (.cells #[.bool false,.int .i64 0,.int .i64 0,.slice none 0 0,.slice none 0 0,.slice none 0 0,.slice none 0 0,.slice none 0 0,.slice none 0 0,.slice none 0 0] 98))
 generalize (((w.alloc (.cells #[.int .i64 x.nodes,.int .i64 x.secret,.int .i64 x.fuel,.slice B1 x.cells.length d1,.slice B2 x.ways.length d2,.slice B3 x.slots.length d3,.slice B4 x.turns.length d4] 33)).alloc (.cells #[.bool false,.int .i64 0,.int .i64 0,.slice A1 x.cells.length c1,.slice A2 x.ways.length c2,.slice A3 x.ways.length c3,.slice A4 x.ways.length c4,.slice A5 x.ways.length c5,.slice A6 n c6,.slice A7 n c7] 98)).alloc (.cells #[.bool false,.int .i64 0,.int .i64 0,.slice none 0 0,.slice none 0 0,.slice none 0 0,.slice none 0 0,.slice none 0 0,.slice none 0 0,.slice none 0 0] 98))=W at *
 obtain ⟨p0,p1,p2,p3,p4,p5,p6⟩:=cellsP7 Np;obtain ⟨k0,k1⟩:=cellsP2 Nn
 go_upto_region 3 with (fail)
 go_upto_region 4 with (go_at_call 103;with_reducible refine (qB _ hb0).mono ?_;rintro e w3 ⟨⟨cs1,rfl,hO1⟩,hb8⟩;have hb1:=hb0.trans (hb8.mono hb0.size);obtain ⟨u1,u2,u3,u4,u5,u6,u7,ff,rfl,h1,h2,h3,h4,h5,h6,h7⟩:=Zgc hO1;obtain ⟨E1,L1,g1,rfl⟩:=Zba h1;obtain ⟨E2,L2,g2,rfl⟩:=Zba h2;obtain ⟨E3,L3,g3,rfl⟩:=Zba h3;obtain ⟨E4,L4,g4,rfl⟩:=Zba h4;obtain ⟨E5,L5,g5,rfl⟩:=Zba h5;obtain ⟨E6,L6,g6,rfl⟩:=Zba h6;obtain ⟨E7,L7,g7,rfl⟩:=Zba h7)
 have hWs:w.heap.size+1+1<W.heap.size:=Zao Nr
 have Np1:=Zal (Zab Np hb8) (.cells #[.bool false,.int .i64 1,.int .i64 0,.slice E1 L1 g1,.slice E2 L2 g2,.slice E3 L3 g3,.slice E4 L4 g4,.slice E5 L5 g5,.slice E6 L6 g6,.slice E7 L7 g7] 98)
 have Nr1:=Zal (Zab Nr hb8) (.cells #[.bool false,.int .i64 1,.int .i64 0,.slice E1 L1 g1,.slice E2 L2 g2,.slice E3 L3 g3,.slice E4 L4 g4,.slice E5 L5 g5,.slice E6 L6 g6,.slice E7 L7 g7] 98)
 have Ng:=Zas w3 (.cells #[.bool false,.int .i64 1,.int .i64 0,.slice E1 L1 g1,.slice E2 L2 g2,.slice E3 L3 g3,.slice E4 L4 g4,.slice E5 L5 g5,.slice E6 L6 g6,.slice E7 L7 g7] 98)
 have HB:=hb1.alloc hb1.size (.cells #[.bool false,.int .i64 1,.int .i64 0,.slice E1 L1 g1,.slice E2 L2 g2,.slice E3 L3 g3,.slice E4 L4 g4,.slice E5 L5 g5,.slice E6 L6 g6,.slice E7 L7 g7] 98)
 have hs8:=hb8.size
 have HR:NodR (w3.alloc (.cells #[.bool false,.int .i64 1,.int .i64 0,.slice E1 L1 g1,.slice E2 L2 g2,.slice E3 L3 g3,.slice E4 L4 g4,.slice E5 L5 g5,.slice E6 L6 g6,.slice E7 L7 g7] 98)) (fun k=>w.heap.size+2<k∧k≠w3.heap.size) (Zbm x 1 true) ff (.slice E1 L1 g1) (.slice E2 L2 g2) (.slice E3 L3 g3) (.slice E4 L4 g4) (.slice E5 L5 g5) (.slice E6 L6 g6) (.slice E7 L7 g7):=(show NodR w3 (fun k=>W.heap.size≤k) (Zbm x 1 true) ff (.slice E1 L1 g1) (.slice E2 L2 g2) (.slice E3 L3 g3) (.slice E4 L4 g4) (.slice E5 L5 g5) (.slice E6 L6 g6) (.slice E7 L7 g7) from ⟨h1,h2,h3,h4,h5,h6,h7⟩).skip (fun k _ hl=>Below.heap_alloc _ _ _ hl) (fun k hk hl=>by (try dsimp only at hk ⊢);omega)
 change Code.wp _ _ _ _ (w3.alloc (.cells #[.bool false,.int .i64 1,.int .i64 0,.slice E1 L1 g1,.slice E2 L2 g2,.slice E3 L3 g3,.slice E4 L4 g4,.slice E5 L5 g5,.slice E6 L6 g6,.slice E7 L7 g7] 98))
 generalize w3.alloc (.cells #[.bool false,.int .i64 1,.int .i64 0,.slice E1 L1 g1,.slice E2 L2 g2,.slice E3 L3 g3,.slice E4 L4 g4,.slice E5 L5 g5,.slice E6 L6 g6,.slice E7 L7 g7] 98)=W4 at *
 generalize hgx:w3.heap.size=gx at *
 clear p0 p1 p2 p3 p4 p5 p6 k0 k1 h1 h2 h3 h4 h5 h6 h7 hO1 hb8 hb1 qB Np Nn Nr hb0
 have z0:=cellsP1 Ng
 have f0:=Zad Ng 0
 go_upto_region 5 with (fail)
 have Ng3:(W4.setCell ⟨gx,0,none⟩ (.bool true)).heap[gx]? = some (.cells #[.bool true,.int .i64 1,.int .i64 0,.slice E1 L1 g1,.slice E2 L2 g2,.slice E3 L3 g3,.slice E4 L4 g4,.slice E5 L5 g5,.slice E6 L6 g6,.slice E7 L7 g7] 98 (0,0)):=Zau Ng 0 _
 have Np3:=Zav (p:=⟨gx,0,none⟩) Np1 (show w.heap.size≠gx by omega) (.bool true)
 have Nr3:=Zav (p:=⟨gx,0,none⟩) Nr1 (show w.heap.size+1+1≠gx by omega) (.bool true)
 have HR3:=HR.step (w1:=W4.setCell ⟨gx,0,none⟩ (.bool true)) (fun k hk hl=>Below.heap_setCell W4 ⟨gx,0,none⟩ _ k (by (try dsimp only at hk ⊢);omega))
 have HB3:=Zak (j:=0) (v:=.bool true) HB (show w.heap.size≤gx by omega)
 clear z0 f0 HR HB Ng Np1 Nr1
 generalize W4.setCell ⟨gx,0,none⟩ (.bool true)=W5 at *
 go_wp2
 go_loopw [8] (fun i wr=>∃ k:Nat,k≤x.ways.length∧i=.int .i64 k∧wr.heap[gx]? = some (.cells #[.bool true,.int .i64 1,.int .i64 0,.slice E1 L1 g1,.slice E2 L2 g2,.slice E3 L3 g3,.slice E4 L4 g4,.slice E5 L5 g5,.slice E6 L6 g6,.slice E7 L7 g7] 98 (0,0))∧wr.heap[w.heap.size+1+1]? = some (.cells #[.bool false,.int .i64 0,.int .i64 0,.slice none 0 0,.slice none 0 0,.slice none 0 0,.slice none 0 0,.slice none 0 0,.slice none 0 0,.slice none 0 0] 98 (0,0))∧wr.heap[w.heap.size]? = some (.cells #[.int .i64 x.nodes,.int .i64 x.secret,.int .i64 x.fuel,.slice B1 x.cells.length d1,.slice B2 x.ways.length d2,.slice B3 x.slots.length d3,.slice B4 x.turns.length d4] 33 (0,0))∧NodR wr (fun k=>w.heap.size+2<k∧k≠gx) (Zbm x 1 true) ff (.slice E1 L1 g1) (.slice E2 L2 g2) (.slice E3 L3 g3) (.slice E4 L4 g4) (.slice E5 L5 g5) (.slice E6 L6 g6) (.slice E7 L7 g7)∧Below w.heap.size w wr) (fun i _=>x.ways.length-(intOf i).toNat)
 case atStart=>exact ⟨0,Nat.zero_le _,rfl,Ng3,Nr3,Np3,HR3,HB3⟩
 case round =>
  clear Ng3 Nr3 Np3 HR3 HB3
  obtain ⟨k,hk,rfl,Ng,Nr,Np,HR,HB⟩:=hrel
  obtain ⟨-,-,-,p3,p4⟩:=cellsP5 Np
  by_cases hlt:k<x.ways.length
  ·obtain ⟨y,hy⟩:=Zar x.ways hlt
   obtain ⟨j0,j1,j2,j3⟩:=hend _ _ hy
   obtain ⟨zf,hzf⟩:=Zar x.cells (show y.frm.toNat<x.cells.length by omega)
   obtain ⟨zt,hzt⟩:=Zar x.cells (show y.dst.toNat<x.cells.length by omega)
   obtain ⟨ad,Y1,e1,eA,y0,y1,y2,y3,y4,m1,s1⟩:=Zhc (Zac r2 HB) hy
   obtain ⟨fd,F1,F2,eF,f0,f1,f2,f3,f4,mf,sf⟩:=Zed (Zac r1 HB) hzf
   obtain ⟨td,G1,G2,eT,h0,h1,h2,h3,h4,mg,sg⟩:=Zed (Zac r1 HB) hzt
   subst eA
   subst eF
   obtain rfl:=Option.some.inj eT
   clear y2 y3 y4 f1 f2 f3 f4 h1 h2 h3 h4 s1 sf sg
   cases hB:(zf.node==(at_:Int)) <;> cases hE:(zt.node != (at_:Int))
   ·go_wp2_with (fail)
    refine Zan (by kernel_rfl) (by kernel_rfl) ?_
    have hx:=Zbg wr
    repeat (go_big_quiet_step (fail))
    refine wpQuiet_nil ?_
    rintro _ ⟨wt,rfl⟩
    have hbx:=Zam wr wt
    clear hx
    go_wp2
    refine ⟨⟨k+1,by omega,rfl,Zab Ng hbx,Zab Nr hbx,Zab Np hbx,HR.step (fun k _ hl=>hbx.block k hl),HB.trans (hbx.mono HB.size)⟩, ?_⟩
    simp [intOf]
    omega
   ·go_wp2_with (fail)
    refine Zan (by kernel_rfl) (by kernel_rfl) ?_
    have hx:=Zbg wr
    repeat (go_big_quiet_step (fail))
    refine wpQuiet_nil ?_
    rintro _ ⟨wt,rfl⟩
    have hbx:=Zam wr wt
    clear hx
    go_wp2
    refine ⟨⟨k+1,by omega,rfl,Zab Ng hbx,Zab Nr hbx,Zab Np hbx,HR.step (fun k _ hl=>hbx.block k hl),HB.trans (hbx.mono HB.size)⟩, ?_⟩
    simp [intOf]
    omega
   ·go_wp2_with (fail)
    refine Zan (by kernel_rfl) (by kernel_rfl) ?_
    have hx:=Zbg wr
    repeat (go_big_quiet_step (fail))
    refine wpQuiet_nil ?_
    rintro _ ⟨wt,rfl⟩
    have hbx:=Zam wr wt
    clear hx
    go_wp2
    refine ⟨⟨k+1,by omega,rfl,Zab Ng hbx,Zab Nr hbx,Zab Np hbx,HR.step (fun k _ hl=>hbx.block k hl),HB.trans (hbx.mono HB.size)⟩, ?_⟩
    simp [intOf]
    omega
   ·go_wp2_with (fail)
    refine Zan (by kernel_rfl) (by kernel_rfl) ?_
    have hx:=Zbg wr
    repeat (go_big_quiet_step (fail))
    refine wpQuiet_nil ?_
    rintro _ ⟨wt,rfl⟩
    have hbx:=Zam wr wt
    clear hx
    generalize ext wr wt=w4 at *
    have Nu:=Zab Ng hbx
    have Nru:=Zab Nr hbx
    have Npu:=Zab Np hbx
    have HNu:=HR.step (w1:=w4) (fun k _ hl=>hbx.block k hl)
    have HBu:=HB.trans (hbx.mono HB.size)
    obtain ⟨q4,cp4,e4⟩:=Zex HNu.r4 (by simp [Zbm];omega)
    injection e4 with e4 e4l e4c
    subst e4
    obtain ⟨T4,cur4,cs4,hc4,-,-,ho4,hi4,hl4,-⟩:=Zux HNu.r4 (Zgp (fun _=>Zdr) hy)
    obtain rfl:=Zxi (Zbh ho4)
    have hs0:cur4[k*4+0]? = some (.int .i64 1):=hi4 0 _ rfl
    have hs1:cur4[k*4+1]? = some (.int .i64 0):=hi4 1 _ rfl
    have hs2:cur4[k*4+2]? = some (.int .i64 0):=hi4 2 _ rfl
    have hs3:cur4[k*4+3]? = some (.int .i64 0):=hi4 3 _ rfl
    have qO:=fun w=>Zgo 1 w
    rw [show inB 1 1 60000=true from rfl] at qO
    simp only [cond_true] at qO
    obtain ⟨-,k1⟩:=cellsP2 Nu
    have e4n:L4=x.ways.length:=by rw [e4l];simp [Zbm]
    subst e4n
    clear e4l
    obtain ⟨-,-,-,-,-,-,k6⟩:=cellsP7 Nu
    clear y0 y1 f0 h0
    go_wp2_with (fail)
    have hdr:Below w4.heap.size w4 w4.drew:=Zat (brf_)
    refine Zfm (n:=8) (S:=fun w'=>w'.cell? ⟨gx,6,none⟩=some (.slice (some ⟨q4,0,none⟩) x.ways.length g4)∧w'.cell? ⟨gx,1,none⟩=some (.int .i64 1)) (ds:=[7]) (upB 8 0) (by kernel_rfl) rfl rfl ⟨k6,k1⟩ (fun hHeld=>?_)
    generalize w4.drew=Wd at *
    refine Zap (i:=0) (N:=some 59) (upB 8 1) rfl rfl (by kernel_rfl) (fun _ _ _ h=>h) (Or.inl ⟨by rfl,fun w'=>by go_simp;with_reducible rfl⟩) (by simp only [Act.put,pkA,pkB,pkC];rfl) ?_
    refine Zbz (i:=1) (N:=some 60) (upB 8 2) rfl rfl (by kernel_rfl) (fun _ _ _ h=>h) (Or.inl ⟨by rfl,by rintro w' ⟨s0,s1⟩;go_simp;with_reducible rfl⟩) hHeld (by simp only [Act.put,pkA,pkB,pkC];rfl) ?_
    refine Zap (i:=2) (N:=some 61) (upB 8 3) rfl rfl (by kernel_rfl) (fun _ _ _ h=>h) (Or.inl ⟨by rfl,fun w'=>by go_simp;with_reducible rfl⟩) (by simp only [Act.put,pkA,pkB,pkC];rfl) ?_
    refine Zap (i:=3) (N:=some 62) (upB 8 4) rfl rfl (by kernel_rfl) (fun _ _ _ h=>h) (Or.inl ⟨by rfl,fun w'=>by go_simp;with_reducible rfl⟩) (by simp only [Act.put,pkA,pkB,pkC];rfl) ?_
    refine Zbz (i:=4) (N:=some 63) (upB 8 5) rfl rfl (by kernel_rfl) (fun _ _ _ h=>h) (Or.inl ⟨by rfl,by rintro w' ⟨s0,s1⟩;go_simp;with_reducible rfl⟩) hHeld (by simp only [Act.put,pkA,pkB,pkC];rfl) ?_
    refine one_ (i:=5) (N:=some 64) (upB 8 6) rfl rfl (by kernel_rfl) (by decide) (fun K hK=>?_)
    refine Zfw Tryz.func143 (by kernel_rfl) rfl #[.int .i64 1] (by rfl) rfl rfl (by (try simp only [List.map_toArray,List.map_cons,List.map_nil]);first | done | rfl) ?_
    with_reducible refine (qO Wd).mono ?_
    rintro e w5 ⟨rfl,hb5⟩
    refine ⟨_,rfl, ?_⟩
    refine hK.out _ _ ⟨Zaa hb5 hHeld.1,Zaa hb5 hHeld.2⟩ (fun hHeld=>?_)
    clear hK K
    refine Zbb (a':=?_) ?_ ?_
    rotate_left
    ·show Act.put _ (some 64) _=_
     simp only [Act.put,pkA,pkB,pkC]
     rfl
    refine Zap (i:=6) (N:=some 65) (upB 8 7) rfl rfl (by kernel_rfl) (fun _ _ _ h=>h) (Or.inl ⟨by rfl,fun w'=>by go_simp;with_reducible rfl⟩) (by simp only [Act.put,pkA,pkB,pkC];rfl) ?_
    refine Znl (i:=7) (N:=none) (upB 8 8) rfl rfl (by kernel_rfl) (by decide) (fun K hK=>?_)
    have hb45:=hdr.trans (hb5.mono hdr.size)
    have hc5:=Zab hc4 hb45
    have f5:=fun i=>Zad hc5 i
    have s0:w5.cell? ⟨q4,k*4+0,none⟩=some (.int .i64 1):=Zag hc5 hs0
    have t0:w5.setCell ⟨q4,k*4+0,none⟩ (.int .i64 1)=w5:=Zek hc5 hs0
    have s1:w5.cell? ⟨q4,k*4+1,none⟩=some (.int .i64 0):=Zag hc5 hs1
    have t1:w5.setCell ⟨q4,k*4+1,none⟩ (.int .i64 0)=w5:=Zek hc5 hs1
    have s2:w5.cell? ⟨q4,k*4+2,none⟩=some (.int .i64 0):=Zag hc5 hs2
    have t2:w5.setCell ⟨q4,k*4+2,none⟩ (.int .i64 0)=w5:=Zek hc5 hs2
    have s3:w5.cell? ⟨q4,k*4+3,none⟩=some (.int .i64 0):=Zag hc5 hs3
    have t3:w5.setCell ⟨q4,k*4+3,none⟩ (.int .i64 0)=w5:=Zek hc5 hs3
    rw [Nat.add_zero] at s0 t0
    refine Zyc (w1:=w5) (by rfl) rfl ?_ ?_
    ·go_simp
    refine hK.out _ _ ?_
    clear hK K
    refine Zgw (by kernel_rfl) ?_
    go_wp2
    refine ⟨⟨k+1,by omega,rfl,Zab Nu hb45,Zab Nru hb45,Zab Npu hb45,HNu.step (fun k _ hl=>hb45.block k hl),HBu.trans (hb45.mono HBu.size)⟩, ?_⟩
    simp [intOf]
    omega
  ·have e:k=x.ways.length:=by omega
   subst e
   go_wp2_with (refine Zen 98 7 6 66 gx (w.heap.size+1+1) #[.bool true,.int .i64 1,.int .i64 0,.slice E1 L1 g1,.slice E2 L2 g2,.slice E3 L3 g3,.slice E4 L4 g4,.slice E5 L5 g5,.slice E6 L6 g6,.slice E7 L7 g7] #[.bool false,.int .i64 0,.int .i64 0,.slice none 0 0,.slice none 0 0,.slice none 0 0,.slice none 0 0,.slice none 0 0,.slice none 0 0,.slice none 0 0] 98 98 _ ⟨rfl,rfl,rfl⟩ ⟨rfl,rfl,rfl⟩ rfl rfl (by decide) (show 66<67 by decide) Ng Nr Tryz.underlying98 rfl (by kernel_rfl) rfl (by simp [Value.oneCell']) ?_;intro w9 N9 hk9)
   refine bodyPost_ret (results_cell_row rfl _ _ (w.heap.size+1+1) 98 #[.bool true,.int .i64 1,.int .i64 0,.slice E1 L1 g1,.slice E2 L2 g2,.slice E3 L3 g3,.slice E4 L4 g4,.slice E5 L5 g5,.slice E6 L6 g6,.slice E7 L7 g7] (0,0) _ rfl N9 Tryz.underlying98 rfl (by kernel_rfl)) rfl ?_
   exact ⟨⟨_,rfl,Zbx (HR.step (w1:=w9) (fun b_ h hl=>hk9.block b_ hl (fun e=>by omega))).own (fun k hk=>by omega)⟩,HB.trans ⟨hk9.os,hk9.tape,hk9.output,hk9.size,fun b_ hb=>hk9.block b_ (by have:=HB.size;omega) (fun e=>by omega)⟩⟩
end Go.Proofs.YtaeckoinpllpnaaGreat
