/- Part 35 of the proof of its last text: this session's own texts, shortened and joined by a program of its own (wip/pack.py). -/
import Derived.Test.YtaeckoinpllpnaaGreatTbh
import Derived.Test.YtaeckoinpllpnaaGreatTad
import Derived.Test.YtaeckoinpllpnaaGreatTbc
set_option linter.unusedVariables false
set_option linter.unusedSimpArgs false
set_option maxHeartbeats 16000000
set_option maxRecDepth 100000
namespace Go.Proofs.YtaeckoinpllpnaaGreat
open Go.RowKit Go.Proofs.YtaeckoinpllpnaaGreatW.PrintWords
theorem Zmy (x:Cel) (A1 B1:Option Addr) (c1 d1:Nat) (w:World) (hA1:Rd kOrd w A1 x.code) (hB1:Rd kOrd w B1 x.code) :
  Calls Tryz.prog 74 #[.agg #[.int .i64 x.node,.int .i64 x.lvl,.int .i64 x.marks,.bool x.again,.slice A1 x.code.length c1],.agg #[.int .i64 x.node,.int .i64 x.lvl,.int .i64 x.marks,.bool x.again,.slice B1 x.code.length d1]] w fun e w'=>e=.returned (.bool true)∧Below w.heap.size w w':=by
 have hw0:Below w.heap.size w ((w.alloc (.cells #[.int .i64 x.node,.int .i64 x.lvl,.int .i64 x.marks,.bool x.again,.slice A1 x.code.length c1] 107)).alloc (.cells #[.int .i64 x.node,.int .i64 x.lvl,.int .i64 x.marks,.bool x.again,.slice B1 x.code.length d1] 107)):=((brf_).alloc nlr_ _).alloc (by simp) _
 go_enter Tryz.func74,Tryz.ntmps74
 go_wp2_with (first
  | (go_at_call 122;refine (Zla A1 B1 c1 d1 _ _ (Zac hA1 hw1) (Zac hB1 hw1)).mono ?_;rintro e w2 ⟨rfl,hb2⟩;have hw2:=hw1.trans (hb2.mono hw1.size);clear ea1_0 eb1_0 ea1_1 eb1_1 ea1_2 eb1_2 ea1_3 eb1_3 ea1_4 eb1_4;have Na2:=Zab Na1 hb2;have Nb2:=Zab Nb1 hb2;obtain ⟨ea2_0,ea2_1,ea2_2,ea2_3,ea2_4⟩:=cellsP5 Na2;obtain ⟨eb2_0,eb2_1,eb2_2,eb2_3,eb2_4⟩:=cellsP5 Nb2)
  | (go_at_call 121;refine (Zkz ⟨x.lvl,x.marks⟩ _).mono ?_;rintro e w1 ⟨rfl,hb1⟩;have hw1:=hw0.trans (hb1.mono hw0.size);have Na1:=Zab (Zal (Zas w _) _) hb1;have Nb1:=Zab (Zbs (g:=w.heap.size+1) _ _ (by simp)) hb1;obtain ⟨ea1_0,ea1_1,ea1_2,ea1_3,ea1_4⟩:=cellsP5 Na1;obtain ⟨eb1_0,eb1_1,eb1_2,eb1_3,eb1_4⟩:=cellsP5 Nb1))
 go_ret
 exact ⟨rfl,hw2⟩
theorem Zld (A B:Option Addr) (c d:Nat) (xs:List Cel) (w:World) (hA:Rd kCel w A xs) (hB:Rd kCel w B xs) :
  Calls Tryz.prog 30 #[.slice A xs.length c,.slice B xs.length d] w fun e w'=>e=.returned (.bool true)∧Below w.heap.size w w':=by
 have hm:=Zax hA
 go_enter Tryz.func30,Tryz.ntmps30
 go_wp2
 go_loopw [5] (fun i wr=>∃ k:Nat,k≤xs.length∧i=.int .i64 k∧Below w.heap.size w wr) (fun i _=>xs.length-(intOf i).toNat)
 case atStart=>exact ⟨0,Nat.zero_le _,rfl,brf_⟩
 case round =>
  obtain ⟨k,hk,rfl,hb⟩:=hrel
  by_cases hlt:k<xs.length
  ·obtain ⟨x,hx⟩:=Zar xs hlt
   have hd:=Zat hb
   obtain ⟨ad,aA1,ac1,rfl,a0,a1,a2,a3,a4,al1,ar1⟩:=Zed (Zac hA hd) hx
   obtain ⟨bd,bA1,bc1,rfl,b0,b1,b2,b3,b4,bl1,br1⟩:=Zed (Zac hB hd) hx
   go_wp2_with fail
   go_region_with (go_at_call 74;refine (Zmy x _ _ _ _ _ ar1 br1).mono ?_;rintro e w1 ⟨rfl,hb1⟩)
   all_goals
    go_wp2
    refine ⟨⟨k+1,by omega,rfl,hd.trans (hb1.mono hd.size)⟩, ?_⟩
    simp [intOf]
    omega
  ·have e:k=xs.length:=by omega
   subst e
   go_wp2
   go_ret
   exact ⟨rfl,hb⟩
theorem Zpq (A B:Option Addr) (c d:Nat) (xs:List (List Int)) (w:World) (hA:Rd Zda w A xs) (hB:Rd Zda w B xs) :
  Calls Tryz.prog 33 #[.slice A xs.length c,.slice B xs.length d] w fun e w'=>e=.returned (.bool true)∧Below w.heap.size w w':=by
 have hm:=Zax hA
 go_enter Tryz.func33,Tryz.ntmps33
 go_wp2
 go_loopw [5] (fun i wr=>∃ k:Nat,k≤xs.length∧i=.int .i64 k∧Below w.heap.size w wr) (fun i _=>xs.length-(intOf i).toNat)
 case atStart=>exact ⟨0,Nat.zero_le _,rfl,brf_⟩
 case round =>
  obtain ⟨k,hk,rfl,hb⟩:=hrel
  by_cases hlt:k<xs.length
  ·obtain ⟨x,hx⟩:=Zar xs hlt
   have hd:=Zat hb
   obtain ⟨ad,aA1,ac1,rfl,a0,al1,ar1⟩:=Zhb (Zac hA hd) hx
   obtain ⟨bd,bA1,bc1,rfl,b0,bl1,br1⟩:=Zhb (Zac hB hd) hx
   go_wp2_with fail
   go_region_with (go_at_call 77;refine (Zhk _ _ _ _ x _ ar1 br1).mono ?_;rintro e w1 ⟨rfl,hb1⟩)
   all_goals
    go_wp2
    refine ⟨⟨k+1,by omega,rfl,hd.trans (hb1.mono hd.size)⟩, ?_⟩
    simp [intOf]
    omega
  ·have e:k=xs.length:=by omega
   subst e
   go_wp2
   go_ret
   exact ⟨rfl,hb⟩
theorem Zmz (x:Rul) (w:World) :
  Calls Tryz.prog 171 #[.agg #[.int .i64 x.mn,.int .i64 x.mx,.int .i64 x.at_,.int .i64 x.lw,.int .i64 x.hg,.int .i64 x.zr,.int .i64 x.ct],.agg #[.int .i64 x.mn,.int .i64 x.mx,.int .i64 x.at_,.int .i64 x.lw,.int .i64 x.hg,.int .i64 x.zr,.int .i64 x.ct]] w fun e w'=>e=.returned (.bool true)∧Below w.heap.size w w':=by
 have hw0:Below w.heap.size w ((w.alloc (.cells #[.int .i64 x.mn,.int .i64 x.mx,.int .i64 x.at_,.int .i64 x.lw,.int .i64 x.hg,.int .i64 x.zr,.int .i64 x.ct] 183)).alloc (.cells #[.int .i64 x.mn,.int .i64 x.mx,.int .i64 x.at_,.int .i64 x.lw,.int .i64 x.hg,.int .i64 x.zr,.int .i64 x.ct] 183)):=((brf_).alloc nlr_ _).alloc (by simp) _
 go_enter Tryz.func171,Tryz.ntmps171
 go_wp2
 go_ret
 exact ⟨rfl,hw0⟩
theorem Zle (A B:Option Addr) (c d:Nat) (xs:List Rul) (w:World) (hA:Rd kRul w A xs) (hB:Rd kRul w B xs) :
  Calls Tryz.prog 123 #[.slice A xs.length c,.slice B xs.length d] w fun e w'=>e=.returned (.bool true)∧Below w.heap.size w w':=by
 have hm:=Zax hA
 go_enter Tryz.func123,Tryz.ntmps123
 go_wp2
 go_loopw [5] (fun i wr=>∃ k:Nat,k≤xs.length∧i=.int .i64 k∧Below w.heap.size w wr) (fun i _=>xs.length-(intOf i).toNat)
 case atStart=>exact ⟨0,Nat.zero_le _,rfl,brf_⟩
 case round =>
  obtain ⟨k,hk,rfl,hb⟩:=hrel
  by_cases hlt:k<xs.length
  ·obtain ⟨x,hx⟩:=Zar xs hlt
   have hd:=Zat hb
   obtain ⟨ad,rfl,a0,a1,a2,a3,a4,a5,a6⟩:=Zst (Zac hA hd) hx
   obtain ⟨bd,rfl,b0,b1,b2,b3,b4,b5,b6⟩:=Zst (Zac hB hd) hx
   go_wp2_with fail
   go_region_with (go_at_call 171;refine (Zmz x _).mono ?_;rintro e w1 ⟨rfl,hb1⟩)
   all_goals
    go_wp2
    refine ⟨⟨k+1,by omega,rfl,hd.trans (hb1.mono hd.size)⟩, ?_⟩
    simp [intOf]
    omega
  ·have e:k=xs.length:=by omega
   subst e
   go_wp2
   go_ret
   exact ⟨rfl,hb⟩
theorem Zna (x:Slt) (w:World) :
  Calls Tryz.prog 76 #[.agg #[.int .i64 x.node,.int .i64 x.way],.agg #[.int .i64 x.node,.int .i64 x.way]] w fun e w'=>e=.returned (.bool true)∧Below w.heap.size w w':=by
 have hw0:Below w.heap.size w ((w.alloc (.cells #[.int .i64 x.node,.int .i64 x.way] 121)).alloc (.cells #[.int .i64 x.node,.int .i64 x.way] 121)):=((brf_).alloc nlr_ _).alloc (by simp) _
 go_enter Tryz.func76,Tryz.ntmps76
 go_wp2
 go_ret
 exact ⟨rfl,hw0⟩
theorem Zlf (A B:Option Addr) (c d:Nat) (xs:List Slt) (w:World) (hA:Rd kSlt w A xs) (hB:Rd kSlt w B xs) :
  Calls Tryz.prog 32 #[.slice A xs.length c,.slice B xs.length d] w fun e w'=>e=.returned (.bool true)∧Below w.heap.size w w':=by
 have hm:=Zax hA
 go_enter Tryz.func32,Tryz.ntmps32
 go_wp2
 go_loopw [5] (fun i wr=>∃ k:Nat,k≤xs.length∧i=.int .i64 k∧Below w.heap.size w wr) (fun i _=>xs.length-(intOf i).toNat)
 case atStart=>exact ⟨0,Nat.zero_le _,rfl,brf_⟩
 case round =>
  obtain ⟨k,hk,rfl,hb⟩:=hrel
  by_cases hlt:k<xs.length
  ·obtain ⟨x,hx⟩:=Zar xs hlt
   have hd:=Zat hb
   obtain ⟨ad,rfl,a0,a1⟩:=Zoh (Zac hA hd) hx
   obtain ⟨bd,rfl,b0,b1⟩:=Zoh (Zac hB hd) hx
   go_wp2_with fail
   go_region_with (go_at_call 76;refine (Zna x _).mono ?_;rintro e w1 ⟨rfl,hb1⟩)
   all_goals
    go_wp2
    refine ⟨⟨k+1,by omega,rfl,hd.trans (hb1.mono hd.size)⟩, ?_⟩
    simp [intOf]
    omega
  ·have e:k=xs.length:=by omega
   subst e
   go_wp2
   go_ret
   exact ⟨rfl,hb⟩
theorem Zoa (x:Wy) (A1 B1:Option Addr) (c1 d1:Nat) (w:World) (hA1:Rd kRul w A1 x.guard) (hB1:Rd kRul w B1 x.guard) :
  Calls Tryz.prog 75 #[.agg #[.int .i64 x.frm,.int .i64 x.dst,.int .i64 x.depth,.bool x.guarded,.slice A1 x.guard.length c1],.agg #[.int .i64 x.frm,.int .i64 x.dst,.int .i64 x.depth,.bool x.guarded,.slice B1 x.guard.length d1]] w fun e w'=>e=.returned (.bool true)∧Below w.heap.size w w':=by
 have hw0:Below w.heap.size w ((w.alloc (.cells #[.int .i64 x.frm,.int .i64 x.dst,.int .i64 x.depth,.bool x.guarded,.slice A1 x.guard.length c1] 112)).alloc (.cells #[.int .i64 x.frm,.int .i64 x.dst,.int .i64 x.depth,.bool x.guarded,.slice B1 x.guard.length d1] 112)):=((brf_).alloc nlr_ _).alloc (by simp) _
 go_enter Tryz.func75,Tryz.ntmps75
 go_wp2_with (first
  | (go_at_call 123;refine (Zle A1 B1 c1 d1 _ _ (Zac hA1 hw0) (Zac hB1 hw0)).mono ?_;rintro e w1 ⟨rfl,hb1⟩;have hw1:=hw0.trans (hb1.mono hw0.size);have Na1:=Zab (Zal (Zas w _) _) hb1;have Nb1:=Zab (Zbs (g:=w.heap.size+1) _ _ (by simp)) hb1;obtain ⟨ea1_0,ea1_1,ea1_2,ea1_3,ea1_4⟩:=cellsP5 Na1;obtain ⟨eb1_0,eb1_1,eb1_2,eb1_3,eb1_4⟩:=cellsP5 Nb1))
 go_ret
 exact ⟨rfl,hw1⟩
theorem Znb (A B:Option Addr) (c d:Nat) (xs:List Wy) (w:World) (hA:Rd kWy w A xs) (hB:Rd kWy w B xs) :
  Calls Tryz.prog 31 #[.slice A xs.length c,.slice B xs.length d] w fun e w'=>e=.returned (.bool true)∧Below w.heap.size w w':=by
 have hm:=Zax hA
 go_enter Tryz.func31,Tryz.ntmps31
 go_wp2
 go_loopw [5] (fun i wr=>∃ k:Nat,k≤xs.length∧i=.int .i64 k∧Below w.heap.size w wr) (fun i _=>xs.length-(intOf i).toNat)
 case atStart=>exact ⟨0,Nat.zero_le _,rfl,brf_⟩
 case round =>
  obtain ⟨k,hk,rfl,hb⟩:=hrel
  by_cases hlt:k<xs.length
  ·obtain ⟨x,hx⟩:=Zar xs hlt
   have hd:=Zat hb
   obtain ⟨ad,aA1,ac1,rfl,a0,a1,a2,a3,a4,al1,ar1⟩:=Zhc (Zac hA hd) hx
   obtain ⟨bd,bA1,bc1,rfl,b0,b1,b2,b3,b4,bl1,br1⟩:=Zhc (Zac hB hd) hx
   go_wp2_with fail
   go_region_with (go_at_call 75;refine (Zoa x _ _ _ _ _ ar1 br1).mono ?_;rintro e w1 ⟨rfl,hb1⟩)
   all_goals
    go_wp2
    refine ⟨⟨k+1,by omega,rfl,hd.trans (hb1.mono hd.size)⟩, ?_⟩
    simp [intOf]
    omega
  ·have e:k=xs.length:=by omega
   subst e
   go_wp2
   go_ret
   exact ⟨rfl,hb⟩
theorem Zhw (x:Pln) (A1 B1:Option Addr) (c1 d1:Nat) (A2 B2:Option Addr) (c2 d2:Nat) (A3 B3:Option Addr) (c3 d3:Nat) (A4 B4:Option Addr) (c4 d4:Nat) (w:World) (hA1:Rd kCel w A1 x.cells) (hB1:Rd kCel w B1 x.cells) (hA2:Rd kWy w A2 x.ways) (hB2:Rd kWy w B2 x.ways) (hA3:Rd kSlt w A3 x.slots) (hB3:Rd kSlt w B3 x.slots) (hA4:Rd Zda w A4 x.turns) (hB4:Rd Zda w B4 x.turns) :
  Calls Tryz.prog 9 #[.agg #[.int .i64 x.nodes,.int .i64 x.secret,.int .i64 x.fuel,.slice A1 x.cells.length c1,.slice A2 x.ways.length c2,.slice A3 x.slots.length c3,.slice A4 x.turns.length c4],.agg #[.int .i64 x.nodes,.int .i64 x.secret,.int .i64 x.fuel,.slice B1 x.cells.length d1,.slice B2 x.ways.length d2,.slice B3 x.slots.length d3,.slice B4 x.turns.length d4]] w fun e w'=>e=.returned (.bool true)∧Below w.heap.size w w':=by
 have hw0:Below w.heap.size w ((w.alloc (.cells #[.int .i64 x.nodes,.int .i64 x.secret,.int .i64 x.fuel,.slice A1 x.cells.length c1,.slice A2 x.ways.length c2,.slice A3 x.slots.length c3,.slice A4 x.turns.length c4] 33)).alloc (.cells #[.int .i64 x.nodes,.int .i64 x.secret,.int .i64 x.fuel,.slice B1 x.cells.length d1,.slice B2 x.ways.length d2,.slice B3 x.slots.length d3,.slice B4 x.turns.length d4] 33)):=((brf_).alloc nlr_ _).alloc (by simp) _
 go_enter Tryz.func9,Tryz.ntmps9
 go_wp2_with (first
  | (go_at_call 33;refine (Zpq A4 B4 c4 d4 _ _ (Zac hA4 hw3) (Zac hB4 hw3)).mono ?_;rintro e w4 ⟨rfl,hb4⟩;have hw4:=hw3.trans (hb4.mono hw3.size);clear ea3_0 eb3_0 ea3_1 eb3_1 ea3_2 eb3_2 ea3_3 eb3_3 ea3_4 eb3_4 ea3_5 eb3_5 ea3_6 eb3_6;have Na4:=Zab Na3 hb4;have Nb4:=Zab Nb3 hb4;obtain ⟨ea4_0,ea4_1,ea4_2,ea4_3,ea4_4,ea4_5,ea4_6⟩:=cellsP7 Na4;obtain ⟨eb4_0,eb4_1,eb4_2,eb4_3,eb4_4,eb4_5,eb4_6⟩:=cellsP7 Nb4)
  | (go_at_call 32;refine (Zlf A3 B3 c3 d3 _ _ (Zac hA3 hw2) (Zac hB3 hw2)).mono ?_;rintro e w3 ⟨rfl,hb3⟩;have hw3:=hw2.trans (hb3.mono hw2.size);clear ea2_0 eb2_0 ea2_1 eb2_1 ea2_2 eb2_2 ea2_3 eb2_3 ea2_4 eb2_4 ea2_5 eb2_5 ea2_6 eb2_6;have Na3:=Zab Na2 hb3;have Nb3:=Zab Nb2 hb3;obtain ⟨ea3_0,ea3_1,ea3_2,ea3_3,ea3_4,ea3_5,ea3_6⟩:=cellsP7 Na3;obtain ⟨eb3_0,eb3_1,eb3_2,eb3_3,eb3_4,eb3_5,eb3_6⟩:=cellsP7 Nb3)
  | (go_at_call 31;refine (Znb A2 B2 c2 d2 _ _ (Zac hA2 hw1) (Zac hB2 hw1)).mono ?_;rintro e w2 ⟨rfl,hb2⟩;have hw2:=hw1.trans (hb2.mono hw1.size);clear ea1_0 eb1_0 ea1_1 eb1_1 ea1_2 eb1_2 ea1_3 eb1_3 ea1_4 eb1_4 ea1_5 eb1_5 ea1_6 eb1_6;have Na2:=Zab Na1 hb2;have Nb2:=Zab Nb1 hb2;obtain ⟨ea2_0,ea2_1,ea2_2,ea2_3,ea2_4,ea2_5,ea2_6⟩:=cellsP7 Na2;obtain ⟨eb2_0,eb2_1,eb2_2,eb2_3,eb2_4,eb2_5,eb2_6⟩:=cellsP7 Nb2)
  | (go_at_call 30;refine (Zld A1 B1 c1 d1 _ _ (Zac hA1 hw0) (Zac hB1 hw0)).mono ?_;rintro e w1 ⟨rfl,hb1⟩;have hw1:=hw0.trans (hb1.mono hw0.size);have Na1:=Zab (Zal (Zas w _) _) hb1;have Nb1:=Zab (Zbs (g:=w.heap.size+1) _ _ (by simp)) hb1;obtain ⟨ea1_0,ea1_1,ea1_2,ea1_3,ea1_4,ea1_5,ea1_6⟩:=cellsP7 Na1;obtain ⟨eb1_0,eb1_1,eb1_2,eb1_3,eb1_4,eb1_5,eb1_6⟩:=cellsP7 Nb1))
 go_ret
 exact ⟨rfl,hw4⟩
theorem Zlg (x:One) (A1 B1:Option Addr) (c1 d1:Nat) (A2 B2:Option Addr) (c2 d2:Nat) (A3 B3:Option Addr) (c3 d3:Nat) (A4 B4:Option Addr) (c4 d4:Nat) (A5 B5:Option Addr) (c5 d5:Nat) (A6 B6:Option Addr) (c6 d6:Nat) (A7 B7:Option Addr) (c7 d7:Nat) (A8 B8:Option Addr) (c8 d8:Nat) (A9 B9:Option Addr) (c9 d9:Nat) (A10 B10:Option Addr) (c10 d10:Nat) (w:World) (hA1:Rd kCel w A1 x.plan.cells) (hB1:Rd kCel w B1 x.plan.cells) (hA2:Rd kWy w A2 x.plan.ways) (hB2:Rd kWy w B2 x.plan.ways) (hA3:Rd kSlt w A3 x.plan.slots) (hB3:Rd kSlt w B3 x.plan.slots) (hA4:Rd Zda w A4 x.plan.turns) (hB4:Rd Zda w B4 x.plan.turns) (hA5:Rd Zgk w A5 x.up) (hB5:Rd Zgk w B5 x.up) (hA6:Rd Zby w A6 x.cells) (hB6:Rd Zby w B6 x.cells) (hA7:Rd kBox w A7 x.out) (hB7:Rd kBox w B7 x.out) (hA8:Rd kBox w A8 x.inn) (hB8:Rd kBox w B8 x.inn) (hA9:Rd Zdd w A9 x.air) (hB9:Rd Zdd w B9 x.air) (hA10:Rd Zbv w A10 x.seen) (hB10:Rd Zbv w B10 x.seen) :
  Calls Tryz.prog 8 #[.agg #[.int .i64 x.plan.nodes,.int .i64 x.plan.secret,.int .i64 x.plan.fuel,.slice A1 x.plan.cells.length c1,.slice A2 x.plan.ways.length c2,.slice A3 x.plan.slots.length c3,.slice A4 x.plan.turns.length c4,.slice A5 x.up.length c5,.slice A6 x.cells.length c6,.slice A7 x.out.length c7,.slice A8 x.inn.length c8,.slice A9 x.air.length c9,.int .i64 x.now,.slice A10 x.seen.length c10],.agg #[.int .i64 x.plan.nodes,.int .i64 x.plan.secret,.int .i64 x.plan.fuel,.slice B1 x.plan.cells.length d1,.slice B2 x.plan.ways.length d2,.slice B3 x.plan.slots.length d3,.slice B4 x.plan.turns.length d4,.slice B5 x.up.length d5,.slice B6 x.cells.length d6,.slice B7 x.out.length d7,.slice B8 x.inn.length d8,.slice B9 x.air.length d9,.int .i64 x.now,.slice B10 x.seen.length d10]] w fun e w'=>e=.returned (.bool true)∧Below w.heap.size w w':=by
 have hw0:Below w.heap.size w ((w.alloc (.cells #[.int .i64 x.plan.nodes,.int .i64 x.plan.secret,.int .i64 x.plan.fuel,.slice A1 x.plan.cells.length c1,.slice A2 x.plan.ways.length c2,.slice A3 x.plan.slots.length c3,.slice A4 x.plan.turns.length c4,.slice A5 x.up.length c5,.slice A6 x.cells.length c6,.slice A7 x.out.length c7,.slice A8 x.inn.length c8,.slice A9 x.air.length c9,.int .i64 x.now,.slice A10 x.seen.length c10] 40)).alloc (.cells #[.int .i64 x.plan.nodes,.int .i64 x.plan.secret,.int .i64 x.plan.fuel,.slice B1 x.plan.cells.length d1,.slice B2 x.plan.ways.length d2,.slice B3 x.plan.slots.length d3,.slice B4 x.plan.turns.length d4,.slice B5 x.up.length d5,.slice B6 x.cells.length d6,.slice B7 x.out.length d7,.slice B8 x.inn.length d8,.slice B9 x.air.length d9,.int .i64 x.now,.slice B10 x.seen.length d10] 40)):=((brf_).alloc nlr_ _).alloc (by simp) _
 go_enter Tryz.func8,Tryz.ntmps8
 go_wp2_with (first
  | (go_at_call 29;refine (Zjp A10 B10 c10 d10 _ _ (Zac hA10 hw6) (Zac hB10 hw6)).mono ?_;rintro e w7 ⟨rfl,hb7⟩;have hw7:=hw6.trans (hb7.mono hw6.size);clear ea6_0 eb6_0 ea6_1 eb6_1 ea6_2 eb6_2 ea6_3 eb6_3 ea6_4 eb6_4 ea6_5 eb6_5 ea6_6 eb6_6 ea6_7 eb6_7 ea6_8 eb6_8 ea6_9 eb6_9 ea6_10 eb6_10 ea6_11 eb6_11 ea6_12 eb6_12 ea6_13 eb6_13;have Na7:=Zab Na6 hb7;have Nb7:=Zab Nb6 hb7;obtain ⟨ea7_0,ea7_1,ea7_2,ea7_3,ea7_4,ea7_5,ea7_6,ea7_7,ea7_8,ea7_9,ea7_10,ea7_11,ea7_12,ea7_13⟩:=cellsP14 Na7;obtain ⟨eb7_0,eb7_1,eb7_2,eb7_3,eb7_4,eb7_5,eb7_6,eb7_7,eb7_8,eb7_9,eb7_10,eb7_11,eb7_12,eb7_13⟩:=cellsP14 Nb7)
  | (go_at_call 28;refine (Zmx A9 B9 c9 d9 _ _ (Zac hA9 hw5) (Zac hB9 hw5)).mono ?_;rintro e w6 ⟨rfl,hb6⟩;have hw6:=hw5.trans (hb6.mono hw5.size);clear ea5_0 eb5_0 ea5_1 eb5_1 ea5_2 eb5_2 ea5_3 eb5_3 ea5_4 eb5_4 ea5_5 eb5_5 ea5_6 eb5_6 ea5_7 eb5_7 ea5_8 eb5_8 ea5_9 eb5_9 ea5_10 eb5_10 ea5_11 eb5_11 ea5_12 eb5_12 ea5_13 eb5_13;have Na6:=Zab Na5 hb6;have Nb6:=Zab Nb5 hb6;obtain ⟨ea6_0,ea6_1,ea6_2,ea6_3,ea6_4,ea6_5,ea6_6,ea6_7,ea6_8,ea6_9,ea6_10,ea6_11,ea6_12,ea6_13⟩:=cellsP14 Na6;obtain ⟨eb6_0,eb6_1,eb6_2,eb6_3,eb6_4,eb6_5,eb6_6,eb6_7,eb6_8,eb6_9,eb6_10,eb6_11,eb6_12,eb6_13⟩:=cellsP14 Nb6)
  | (go_at_call 27;refine (Zhv A8 B8 c8 d8 _ _ (Zac hA8 hw4) (Zac hB8 hw4)).mono ?_;rintro e w5 ⟨rfl,hb5⟩;have hw5:=hw4.trans (hb5.mono hw4.size);clear ea4_0 eb4_0 ea4_1 eb4_1 ea4_2 eb4_2 ea4_3 eb4_3 ea4_4 eb4_4 ea4_5 eb4_5 ea4_6 eb4_6 ea4_7 eb4_7 ea4_8 eb4_8 ea4_9 eb4_9 ea4_10 eb4_10 ea4_11 eb4_11 ea4_12 eb4_12 ea4_13 eb4_13;have Na5:=Zab Na4 hb5;have Nb5:=Zab Nb4 hb5;obtain ⟨ea5_0,ea5_1,ea5_2,ea5_3,ea5_4,ea5_5,ea5_6,ea5_7,ea5_8,ea5_9,ea5_10,ea5_11,ea5_12,ea5_13⟩:=cellsP14 Na5;obtain ⟨eb5_0,eb5_1,eb5_2,eb5_3,eb5_4,eb5_5,eb5_6,eb5_7,eb5_8,eb5_9,eb5_10,eb5_11,eb5_12,eb5_13⟩:=cellsP14 Nb5)
  | (go_at_call 27;refine (Zhv A7 B7 c7 d7 _ _ (Zac hA7 hw3) (Zac hB7 hw3)).mono ?_;rintro e w4 ⟨rfl,hb4⟩;have hw4:=hw3.trans (hb4.mono hw3.size);clear ea3_0 eb3_0 ea3_1 eb3_1 ea3_2 eb3_2 ea3_3 eb3_3 ea3_4 eb3_4 ea3_5 eb3_5 ea3_6 eb3_6 ea3_7 eb3_7 ea3_8 eb3_8 ea3_9 eb3_9 ea3_10 eb3_10 ea3_11 eb3_11 ea3_12 eb3_12 ea3_13 eb3_13;have Na4:=Zab Na3 hb4;have Nb4:=Zab Nb3 hb4;obtain ⟨ea4_0,ea4_1,ea4_2,ea4_3,ea4_4,ea4_5,ea4_6,ea4_7,ea4_8,ea4_9,ea4_10,ea4_11,ea4_12,ea4_13⟩:=cellsP14 Na4;obtain ⟨eb4_0,eb4_1,eb4_2,eb4_3,eb4_4,eb4_5,eb4_6,eb4_7,eb4_8,eb4_9,eb4_10,eb4_11,eb4_12,eb4_13⟩:=cellsP14 Nb4)
  | (go_at_call 26;refine (Zlb A6 B6 c6 d6 _ _ (Zac hA6 hw2) (Zac hB6 hw2)).mono ?_;rintro e w3 ⟨rfl,hb3⟩;have hw3:=hw2.trans (hb3.mono hw2.size);clear ea2_0 eb2_0 ea2_1 eb2_1 ea2_2 eb2_2 ea2_3 eb2_3 ea2_4 eb2_4 ea2_5 eb2_5 ea2_6 eb2_6 ea2_7 eb2_7 ea2_8 eb2_8 ea2_9 eb2_9 ea2_10 eb2_10 ea2_11 eb2_11 ea2_12 eb2_12 ea2_13 eb2_13;have Na3:=Zab Na2 hb3;have Nb3:=Zab Nb2 hb3;obtain ⟨ea3_0,ea3_1,ea3_2,ea3_3,ea3_4,ea3_5,ea3_6,ea3_7,ea3_8,ea3_9,ea3_10,ea3_11,ea3_12,ea3_13⟩:=cellsP14 Na3;obtain ⟨eb3_0,eb3_1,eb3_2,eb3_3,eb3_4,eb3_5,eb3_6,eb3_7,eb3_8,eb3_9,eb3_10,eb3_11,eb3_12,eb3_13⟩:=cellsP14 Nb3)
  | (go_at_call 25;refine (Zpp A5 B5 c5 d5 _ _ (Zac hA5 hw1) (Zac hB5 hw1)).mono ?_;rintro e w2 ⟨rfl,hb2⟩;have hw2:=hw1.trans (hb2.mono hw1.size);clear ea1_0 eb1_0 ea1_1 eb1_1 ea1_2 eb1_2 ea1_3 eb1_3 ea1_4 eb1_4 ea1_5 eb1_5 ea1_6 eb1_6 ea1_7 eb1_7 ea1_8 eb1_8 ea1_9 eb1_9 ea1_10 eb1_10 ea1_11 eb1_11 ea1_12 eb1_12 ea1_13 eb1_13;have Na2:=Zab Na1 hb2;have Nb2:=Zab Nb1 hb2;obtain ⟨ea2_0,ea2_1,ea2_2,ea2_3,ea2_4,ea2_5,ea2_6,ea2_7,ea2_8,ea2_9,ea2_10,ea2_11,ea2_12,ea2_13⟩:=cellsP14 Na2;obtain ⟨eb2_0,eb2_1,eb2_2,eb2_3,eb2_4,eb2_5,eb2_6,eb2_7,eb2_8,eb2_9,eb2_10,eb2_11,eb2_12,eb2_13⟩:=cellsP14 Nb2)
  | (go_at_call 9;refine (Zhw x.plan A1 B1 c1 d1 A2 B2 c2 d2 A3 B3 c3 d3 A4 B4 c4 d4 _ (Zac hA1 hw0) (Zac hB1 hw0) (Zac hA2 hw0) (Zac hB2 hw0) (Zac hA3 hw0) (Zac hB3 hw0) (Zac hA4 hw0) (Zac hB4 hw0)).mono ?_;rintro e w1 ⟨rfl,hb1⟩;have hw1:=hw0.trans (hb1.mono hw0.size);have Na1:=Zab (Zal (Zas w _) _) hb1;have Nb1:=Zab (Zbs (g:=w.heap.size+1) _ _ (by simp)) hb1;obtain ⟨ea1_0,ea1_1,ea1_2,ea1_3,ea1_4,ea1_5,ea1_6,ea1_7,ea1_8,ea1_9,ea1_10,ea1_11,ea1_12,ea1_13⟩:=cellsP14 Na1;obtain ⟨eb1_0,eb1_1,eb1_2,eb1_3,eb1_4,eb1_5,eb1_6,eb1_7,eb1_8,eb1_9,eb1_10,eb1_11,eb1_12,eb1_13⟩:=cellsP14 Nb1))
 go_ret
 exact ⟨rfl,hw7⟩
theorem Znc (x:Ord) (w:World) :
  Calls Tryz.prog 147 #[.agg #[.int .i64 x.op,.int .i64 x.a,.int .i64 x.b,.int .i64 x.c]] w fun e w'=>e=.returned (.agg #[.int .i64 x.op,.int .i64 x.a,.int .i64 x.b,.int .i64 x.c])∧Below w.heap.size w w':=by
 go_enter Tryz.func147,Tryz.ntmps147
 go_wp2
 refine bodyPost_ret (results_cell_row rfl _ _ (w.heap.size+1) 181 #[.int .i64 x.op,.int .i64 x.a,.int .i64 x.b,.int .i64 x.c] (0,0) _ rfl (by rw [← Zcq w];exact Zal (Zas _ _) _) Tryz.underlying181 rfl (by kernel_rfl)) rfl ?_
 exact ⟨rfl,((brf_).alloc nlr_ _ |>.alloc (by simp) _).alloc (by simp;omega) _⟩
theorem Zlh (A:Option Addr) (c:Nat) (xs:List Ord) (w:World) (hA:Rd kOrd w A xs) (hl:xs.length≤1048576)  :
  Calls Tryz.prog 105 #[.slice A xs.length c] w fun e w'=>(∃ v,e=.returned v∧Rw kOrd 181 w' (fun k=>w.heap.size≤k) v xs)∧Below w.heap.size w w':=by
 obtain ⟨i0,hi,hzz⟩:=Option.map_eq_some_iff.1 iOrd
 simp only [Prod.mk.injEq] at hzz
 obtain ⟨hz0,hz1,hz2⟩:=hzz
 have hmk:=run_make (P:=Tryz.prog) w 105 181 i0 _ Tryz.underlying105 hi hz0 .i64 .i64 (xs.length:Int) (xs.length:Int) (by omega) (by omega) (by rw [hz2];omega) (by omega)
 simp only [Int.toNat_natCast] at hmk
 rw [hz1] at hmk
 have R0:=Zgl (fs:=kOrd) (e:=181) (S:=fun k=>w.heap.size≤k) w (.agg #[.int .i64 0,.int .i64 0,.int .i64 0,.int .i64 0]) xs.length zOrd rfl (by decide) Zyh (by omega) nlr_
 have B0:Below w.heap.size w (w.alloc (.cells (madeCells (Value.cells (.agg #[.int .i64 0,.int .i64 0,.int .i64 0,.int .i64 0])) (xs.length*4)) 181)):=(brf_).alloc nlr_ _
 rw [← Zgf xs zOrd] at R0
 clear hi hz0 hz1 hz2
 go_enter Tryz.func105,Tryz.ntmps105
 go_wp2
 go_loopw [4] (fun i wr=>∃ k:Nat,k≤xs.length∧i=.int .i64 k∧Rw kOrd 181 wr (fun k=>w.heap.size≤k) (.slice (some ⟨w.heap.size,0,none⟩) xs.length xs.length) (filI xs zOrd k)∧Below w.heap.size w wr) (fun i _=>xs.length-(intOf i).toNat)
 case atStart=>exact ⟨0,Nat.zero_le _,rfl,R0,B0⟩
 case round =>
  clear R0 B0 hmk
  obtain ⟨k,hk,rfl,hR,hb⟩:=hrel
  by_cases hlt:k<xs.length
  ·obtain ⟨x,hx⟩:=Zar xs hlt
   obtain ⟨ad,rfl,a0,a1,a2,a3⟩:=Zog (Zac hA hb) hx
   have hset:=Aside0.mk (Zhr xs zOrd k x hx)
   have hsz:=hb.size
   obtain ⟨T,cur,cs,hS,hSg,hg,hT,hO,hback⟩:=Zcp hR (Zhq xs zOrd k hlt)
   obtain rfl:=Yaa (Zbh hO)
   have hS0:Seg wr w.heap.size 181 cur (k*4) 4 [.int .i64 zOrd.op,.int .i64 zOrd.a,.int .i64 zOrd.b,.int .i64 zOrd.c]:=hS
   have hback0:=hback
   go_wp2_with (go_at_call 147;refine (Znc x _).mono ?_;rintro e w1 ⟨rfl,hb1⟩;have hS1:=hS0.move (hb1.block _ hg);have c0:w1.cell? ⟨w.heap.size,k*4,none⟩=some (.int .i64 zOrd.op):=hS1.cell 0 _ rfl;have f0:w1.frozen? ⟨w.heap.size,k*4,none⟩=false:=hS1.froz _;have c1:w1.cell? ⟨w.heap.size,k*4+1,none⟩=some (.int .i64 zOrd.a):=hS1.cell 1 _ rfl;have f1:w1.frozen? ⟨w.heap.size,k*4+1,none⟩=false:=hS1.froz _;have c2:w1.cell? ⟨w.heap.size,k*4+2,none⟩=some (.int .i64 zOrd.b):=hS1.cell 2 _ rfl;have f2:w1.frozen? ⟨w.heap.size,k*4+2,none⟩=false:=hS1.froz _;have c3:w1.cell? ⟨w.heap.size,k*4+3,none⟩=some (.int .i64 zOrd.c):=hS1.cell 3 _ rfl;have f3:w1.frozen? ⟨w.heap.size,k*4+3,none⟩=false:=hS1.froz _)
   have hfin:=hback0 _ _ x (fun _=>False) ((((hS1.set 0 (by decide) (.int .i64 x.op)).set 1 (by decide) (.int .i64 x.a)).set 2 (by decide) (.int .i64 x.b)).set 3 (by decide) (.int .i64 x.c)) (((((Kep.of_below (S:=fun b=>b=w.heap.size∨T b) hb1).set (i:=k*4) (.inl rfl) (.int .i64 x.op)).set (i:=k*4+1) (.inl rfl) (.int .i64 x.a)).set (i:=k*4+2) (.inl rfl) (.int .i64 x.b)).set (i:=k*4+3) (.inl rfl) (.int .i64 x.c)) (Zwv x _ (fun _=>False)) (fun _ h=>h.elim)
   rw [hset.out] at hfin
   refine ⟨⟨k+1,by omega,rfl,hfin,(Zak (g:=w.heap.size) (j:=k*4+3) (v:=.int .i64 x.c) (Zak (g:=w.heap.size) (j:=k*4+2) (v:=.int .i64 x.b) (Zak (g:=w.heap.size) (j:=k*4+1) (v:=.int .i64 x.a) (Zak (g:=w.heap.size) (j:=k*4) (v:=.int .i64 x.op) (hb.trans (hb1.mono hb.size)) nlr_) nlr_) nlr_) nlr_)⟩, ?_⟩
   simp [intOf]
   omega
  ·have e:k=xs.length:=by omega
   subst e
   rw [Zhp] at hR
   go_wp2
   go_ret
   exact ⟨⟨_,rfl,hR⟩,hb⟩
theorem Zli (x:Lbl) (w:World) :
  Calls Tryz.prog 104 #[.agg #[.int .i64 x.lvl,.int .i64 x.marks]] w fun e w'=>e=.returned (.agg #[.int .i64 x.lvl,.int .i64 x.marks])∧Below w.heap.size w w':=by
 go_enter Tryz.func104,Tryz.ntmps104
 go_wp2
 refine bodyPost_ret (results_cell_row rfl _ _ (w.heap.size+1) 104 #[.int .i64 x.lvl,.int .i64 x.marks] (0,0) _ rfl (by rw [← Zcq w];exact Zal (Zas _ _) _) Tryz.underlying104 rfl (by kernel_rfl)) rfl ?_
 exact ⟨rfl,((brf_).alloc nlr_ _ |>.alloc (by simp) _).alloc (by simp;omega) _⟩
theorem Znd (x:Cel) (A1:Option Addr) (c1:Nat) (w:World) (hA1:Rd kOrd w A1 x.code) (hl1:x.code.length≤1048576) :
  Calls Tryz.prog 58 #[.agg #[.int .i64 x.node,.int .i64 x.lvl,.int .i64 x.marks,.bool x.again,.slice A1 x.code.length c1]] w fun e w'=>(∃ B1 d1,e=.returned (.agg #[.int .i64 x.node,.int .i64 x.lvl,.int .i64 x.marks,.bool x.again,.slice B1 x.code.length d1])∧Own kCel w' (fun k=>w.heap.size≤k) x [.int .i64 x.node,.int .i64 x.lvl,.int .i64 x.marks,.bool x.again,.slice B1 x.code.length d1])∧Below w.heap.size w w':=by
 go_enter Tryz.func58,Tryz.ntmps58
 go_wp2_with (first
  | (go_at_call 105;have hx2:=(Zak (g:=w.heap.size+1+1) (j:=3) (v:=.bool x.again) (Zak (g:=w.heap.size+1+1) (j:=2) (v:=.int .i64 x.marks) (Zak (g:=w.heap.size+1+1) (j:=1) (v:=.int .i64 x.lvl) hw1 (by omega)) (by omega)) (by omega));refine (Zlh A1 c1 _ _ (Zac hA1 hx2) hl1).mono ?_;rintro e w2 ⟨⟨t1,rfl,hr1⟩,hb2⟩;obtain ⟨B1,d1,rfl,_,_⟩:=Zbl hr1;clear ea0 eo0 fo0 er0 fr0 ea1 eo1 fo1 er1 fr1 ea2 eo2 fo2 er2 fr2 ea3 eo3 fo3 er3 fr3 ea4 eo4 fo4 er4 fr4;have hw2:=hx2.trans (hb2.mono hx2.size);have hs2:=hb2.size;have hs2':w1.heap.size≤w2.heap.size:=Nat.le_trans ((((Kep.refl (fun b=>b=w.heap.size+1+1) w1).set (i:=1) rfl (.int .i64 x.lvl)).set (i:=2) rfl (.int .i64 x.marks)).set (i:=3) rfl (.bool x.again)).size hb2.size;have Na2:=Zab (Zav (p:=⟨w.heap.size+1+1,3,none⟩) (Zav (p:=⟨w.heap.size+1+1,2,none⟩) (Zav (p:=⟨w.heap.size+1+1,1,none⟩) Na1 (show w.heap.size≠w.heap.size+1+1 by omega) (.int .i64 x.lvl)) (show w.heap.size≠w.heap.size+1+1 by omega) (.int .i64 x.marks)) (show w.heap.size≠w.heap.size+1+1 by omega) (.bool x.again)) hb2;have Nr2:=Zab (Zav (p:=⟨w.heap.size+1+1,3,none⟩) (Zav (p:=⟨w.heap.size+1+1,2,none⟩) (Zav (p:=⟨w.heap.size+1+1,1,none⟩) Nr1 (show w.heap.size+1≠w.heap.size+1+1 by omega) (.int .i64 x.lvl)) (show w.heap.size+1≠w.heap.size+1+1 by omega) (.int .i64 x.marks)) (show w.heap.size+1≠w.heap.size+1+1 by omega) (.bool x.again)) hb2;have No2:w2.heap[w.heap.size+1+1]? = some (.cells #[.int .i64 x.node,.int .i64 x.lvl,.int .i64 x.marks,.bool x.again,.slice none 0 0] 107 (0,0)):=Zab (Zau (Zau (Zau No1 1 (.int .i64 x.lvl)) 2 (.int .i64 x.marks)) 3 (.bool x.again)) hb2;have R1_2:=Zae (T:=fun b=>w1.heap.size≤b∧b<w2.heap.size) (Zaf hr1) (fun b h2=>⟨(Nat.le_trans ((((Kep.refl (fun b=>b=w.heap.size+1+1) w1).set (i:=1) rfl (.int .i64 x.lvl)).set (i:=2) rfl (.int .i64 x.marks)).set (i:=3) rfl (.bool x.again)).size h2.1),h2.2⟩);obtain ⟨ea0,ea1,ea2,ea3,ea4⟩:=cellsP5 Na2;obtain ⟨eo0,eo1,eo2,eo3,eo4⟩:=cellsP5 No2;have fo0:=Zad No2 0;have fo1:=Zad No2 1;have fo2:=Zad No2 2;have fo3:=Zad No2 3;have fo4:=Zad No2 4;obtain ⟨er0,er1,er2,er3,er4⟩:=cellsP5 Nr2;have fr0:=Zad Nr2 0;have fr1:=Zad Nr2 1;have fr2:=Zad Nr2 2;have fr3:=Zad Nr2 3;have fr4:=Zad Nr2 4)
  | (go_at_call 104;have hx1:=(((Below.refl w.heap.size w).alloc nlr_ (.cells #[.int .i64 x.node,.int .i64 x.lvl,.int .i64 x.marks,.bool x.again,.slice A1 x.code.length c1] 84)).alloc (by simp) (.cells #[.int .i64 0,.int .i64 0,.int .i64 0,.bool false,.slice none 0 0] 107)).alloc (by simp;omega) (.cells #[.int .i64 x.node,.int .i64 0,.int .i64 0,.bool false,.slice none 0 0] 107);refine (Zli ⟨x.lvl,x.marks⟩ _).mono ?_;rintro e w1 ⟨rfl,hb1⟩;have hw1:=hx1.trans (hb1.mono hx1.size);have hs1:=hb1.size;simp only [Zcq] at hs1;have Na1:=Zab (Zal (Zal (Zas w (.cells #[.int .i64 x.node,.int .i64 x.lvl,.int .i64 x.marks,.bool x.again,.slice A1 x.code.length c1] 84)) _) _) hb1;have Nr1:=Zab (Zal (Zbs (g:=w.heap.size+1) _ (.cells #[.int .i64 0,.int .i64 0,.int .i64 0,.bool false,.slice none 0 0] 107) (by simp)) _) hb1;have No1:=Zab (Zbs (g:=w.heap.size+1+1) _ (.cells #[.int .i64 x.node,.int .i64 0,.int .i64 0,.bool false,.slice none 0 0] 107) (by simp)) hb1;obtain ⟨ea0,ea1,ea2,ea3,ea4⟩:=cellsP5 Na1;obtain ⟨eo0,eo1,eo2,eo3,eo4⟩:=cellsP5 No1;have fo0:=Zad No1 0;have fo1:=Zad No1 1;have fo2:=Zad No1 2;have fo3:=Zad No1 3;have fo4:=Zad No1 4;obtain ⟨er0,er1,er2,er3,er4⟩:=cellsP5 Nr1;have fr0:=Zad Nr1 0;have fr1:=Zad Nr1 1;have fr2:=Zad Nr1 2;have fr3:=Zad Nr1 3;have fr4:=Zad Nr1 4))
 refine bodyPost_ret (results_cell_row rfl _ _ (w.heap.size+1) 107 #[.int .i64 x.node,.int .i64 x.lvl,.int .i64 x.marks,.bool x.again,.slice B1 x.code.length d1] (0,0) _ rfl (by exact (Zau (Zau (Zau (Zau (Zau (Zav (p:=⟨w.heap.size+1+1,4,none⟩) Nr2 (show w.heap.size+1≠w.heap.size+1+1 by omega) (.slice B1 x.code.length d1)) 0 (.int .i64 x.node)) 1 (.int .i64 x.lvl)) 2 (.int .i64 x.marks)) 3 (.bool x.again)) 4 (.slice B1 x.code.length d1))) Tryz.underlying107 rfl (by kernel_rfl)) rfl ?_
 have kF:=(((((((Kep.refl (fun b=>b=w.heap.size+1+1∨b=w.heap.size+1) w2).set (i:=4) (.inl rfl) (.slice B1 x.code.length d1)).set (i:=0) (.inr rfl) (.int .i64 x.node)).set (i:=1) (.inr rfl) (.int .i64 x.lvl)).set (i:=2) (.inr rfl) (.int .i64 x.marks)).set (i:=3) (.inr rfl) (.bool x.again)).set (i:=4) (.inr rfl) (.slice B1 x.code.length d1))
 have R1:=Zah R1_2 (fun b h2 hlt=>kF.block b hlt (fun e=>by omega))
 exact ⟨⟨B1,d1,rfl,(Zva (Zae R1 (fun b h2=>by omega)))⟩,(Zak (g:=w.heap.size+1) (j:=4) (v:=.slice B1 x.code.length d1) (Zak (g:=w.heap.size+1) (j:=3) (v:=.bool x.again) (Zak (g:=w.heap.size+1) (j:=2) (v:=.int .i64 x.marks) (Zak (g:=w.heap.size+1) (j:=1) (v:=.int .i64 x.lvl) (Zak (g:=w.heap.size+1) (j:=0) (v:=.int .i64 x.node) (Zak (g:=w.heap.size+1+1) (j:=4) (v:=.slice B1 x.code.length d1) hw2 (by omega)) (by omega)) (by omega)) (by omega)) (by omega)) (by omega))⟩
theorem Zlj (A:Option Addr) (c:Nat) (xs:List Cel) (w:World) (hA:Rd kCel w A xs) (hl:xs.length≤1048576) (hz:∀ (j:Nat) (x:Cel),xs[j]? = some x→x.code.length≤1048576) :
  Calls Tryz.prog 19 #[.slice A xs.length c] w fun e w'=>(∃ v,e=.returned v∧Rw kCel 107 w' (fun k=>w.heap.size≤k) v xs)∧Below w.heap.size w w':=by
 obtain ⟨i0,hi,hzz⟩:=Option.map_eq_some_iff.1 iCel
 simp only [Prod.mk.injEq] at hzz
 obtain ⟨hz0,hz1,hz2⟩:=hzz
 have hmk:=run_make (P:=Tryz.prog) w 29 107 i0 _ Tryz.underlying29 hi hz0 .i64 .i64 (xs.length:Int) (xs.length:Int) (by omega) (by omega) (by rw [hz2];omega) (by omega)
 simp only [Int.toNat_natCast] at hmk
 rw [hz1] at hmk
 have R0:=Zgl (fs:=kCel) (e:=107) (S:=fun k=>w.heap.size≤k) w (.agg #[.int .i64 0,.int .i64 0,.int .i64 0,.bool false,.slice none 0 0]) xs.length zCel rfl (by decide) Zyk (by omega) nlr_
 have B0:Below w.heap.size w (w.alloc (.cells (madeCells (Value.cells (.agg #[.int .i64 0,.int .i64 0,.int .i64 0,.bool false,.slice none 0 0])) (xs.length*5)) 107)):=(brf_).alloc nlr_ _
 rw [← Zgf xs zCel] at R0
 clear hi hz0 hz1 hz2
 go_enter Tryz.func19,Tryz.ntmps19
 go_wp2
 go_loopw [4] (fun i wr=>∃ k:Nat,k≤xs.length∧i=.int .i64 k∧Rw kCel 107 wr (fun k=>w.heap.size≤k) (.slice (some ⟨w.heap.size,0,none⟩) xs.length xs.length) (filI xs zCel k)∧Below w.heap.size w wr) (fun i _=>xs.length-(intOf i).toNat)
 case atStart=>exact ⟨0,Nat.zero_le _,rfl,R0,B0⟩
 case round =>
  clear R0 B0 hmk
  obtain ⟨k,hk,rfl,hR,hb⟩:=hrel
  by_cases hlt:k<xs.length
  ·obtain ⟨x,hx⟩:=Zar xs hlt
   obtain ⟨ad,A1,c1,rfl,a0,a1,a2,a3,a4,l1,r1⟩:=Zed (Zac hA hb) hx
   have hset:=Aside0.mk (Zhr xs zCel k x hx)
   have hsz:=hb.size
   obtain ⟨T,cur,cs,hS,hSg,hg,hT,hO,hback⟩:=Zcp hR (Zhq xs zCel k hlt)
   obtain ⟨u1,f,rfl,_⟩:=Zvs hO
   have hS0:Seg wr w.heap.size 107 cur (k*5) 5 [.int .i64 zCel.node,.int .i64 zCel.lvl,.int .i64 zCel.marks,.bool zCel.again,u1]:=hS
   have hback0:=hback
   go_wp2_with (go_at_call 58;refine (Znd x A1 c1 _ r1 (hz k x hx)).mono ?_;rintro e w1 ⟨⟨B1,d1,rfl,hw⟩,hb1⟩;have hS1:=hS0.move (hb1.block _ hg);have c0:w1.cell? ⟨w.heap.size,k*5,none⟩=some (.int .i64 zCel.node):=hS1.cell 0 _ rfl;have f0:w1.frozen? ⟨w.heap.size,k*5,none⟩=false:=hS1.froz _;have c1:w1.cell? ⟨w.heap.size,k*5+1,none⟩=some (.int .i64 zCel.lvl):=hS1.cell 1 _ rfl;have f1:w1.frozen? ⟨w.heap.size,k*5+1,none⟩=false:=hS1.froz _;have c2:w1.cell? ⟨w.heap.size,k*5+2,none⟩=some (.int .i64 zCel.marks):=hS1.cell 2 _ rfl;have f2:w1.frozen? ⟨w.heap.size,k*5+2,none⟩=false:=hS1.froz _;have c3:w1.cell? ⟨w.heap.size,k*5+3,none⟩=some (.bool zCel.again):=hS1.cell 3 _ rfl;have f3:w1.frozen? ⟨w.heap.size,k*5+3,none⟩=false:=hS1.froz _;have c4:w1.cell? ⟨w.heap.size,k*5+4,none⟩=some (u1):=hS1.cell 4 _ rfl;have f4:w1.frozen? ⟨w.heap.size,k*5+4,none⟩=false:=hS1.froz _)
   have hfin:=hback0 _ _ x (fun b=>wr.heap.size≤b) (((((hS1.set 0 (by decide) (.int .i64 x.node)).set 1 (by decide) (.int .i64 x.lvl)).set 2 (by decide) (.int .i64 x.marks)).set 3 (by decide) (.bool x.again)).set 4 (by decide) (.slice B1 x.code.length d1)) ((((((Kep.of_below (S:=fun b=>b=w.heap.size∨T b) hb1).set (i:=k*5) (.inl rfl) (.int .i64 x.node)).set (i:=k*5+1) (.inl rfl) (.int .i64 x.lvl)).set (i:=k*5+2) (.inl rfl) (.int .i64 x.marks)).set (i:=k*5+3) (.inl rfl) (.bool x.again)).set (i:=k*5+4) (.inl rfl) (.slice B1 x.code.length d1)) (Zdf hw (fun b hb2 hlt2=>((((((Kep.refl (fun b=>b=w.heap.size) w1).set (i:=k*5) rfl (.int .i64 x.node)).set (i:=k*5+1) rfl (.int .i64 x.lvl)).set (i:=k*5+2) rfl (.int .i64 x.marks)).set (i:=k*5+3) rfl (.bool x.again)).set (i:=k*5+4) rfl (.slice B1 x.code.length d1)).block b hlt2 (fun e=>by omega))) (fun b h=>.inr ⟨Nat.le_trans hsz h,h⟩)
   rw [hset.out] at hfin
   refine ⟨⟨k+1,by omega,rfl,hfin,(Zak (g:=w.heap.size) (j:=k*5+4) (v:=.slice B1 x.code.length d1) (Zak (g:=w.heap.size) (j:=k*5+3) (v:=.bool x.again) (Zak (g:=w.heap.size) (j:=k*5+2) (v:=.int .i64 x.marks) (Zak (g:=w.heap.size) (j:=k*5+1) (v:=.int .i64 x.lvl) (Zak (g:=w.heap.size) (j:=k*5) (v:=.int .i64 x.node) (hb.trans (hb1.mono hb.size)) nlr_) nlr_) nlr_) nlr_) nlr_)⟩, ?_⟩
   simp [intOf]
   omega
  ·have e:k=xs.length:=by omega
   subst e
   rw [Zhp] at hR
   go_wp2
   go_ret
   exact ⟨⟨_,rfl,hR⟩,hb⟩
theorem Zne (x:Rul) (w:World) :
  Calls Tryz.prog 148 #[.agg #[.int .i64 x.mn,.int .i64 x.mx,.int .i64 x.at_,.int .i64 x.lw,.int .i64 x.hg,.int .i64 x.zr,.int .i64 x.ct]] w fun e w'=>e=.returned (.agg #[.int .i64 x.mn,.int .i64 x.mx,.int .i64 x.at_,.int .i64 x.lw,.int .i64 x.hg,.int .i64 x.zr,.int .i64 x.ct])∧Below w.heap.size w w':=by
 go_enter Tryz.func148,Tryz.ntmps148
 go_wp2
 refine bodyPost_ret (results_cell_row rfl _ _ (w.heap.size+1) 183 #[.int .i64 x.mn,.int .i64 x.mx,.int .i64 x.at_,.int .i64 x.lw,.int .i64 x.hg,.int .i64 x.zr,.int .i64 x.ct] (0,0) _ rfl (by rw [← Zcq w];exact Zal (Zas _ _) _) Tryz.underlying183 rfl (by kernel_rfl)) rfl ?_
 exact ⟨rfl,((brf_).alloc nlr_ _ |>.alloc (by simp) _).alloc (by simp;omega) _⟩
theorem Zlk (A:Option Addr) (c:Nat) (xs:List Rul) (w:World) (hA:Rd kRul w A xs) (hl:xs.length≤1048576)  :
  Calls Tryz.prog 106 #[.slice A xs.length c] w fun e w'=>(∃ v,e=.returned v∧Rw kRul 183 w' (fun k=>w.heap.size≤k) v xs)∧Below w.heap.size w w':=by
 obtain ⟨i0,hi,hzz⟩:=Option.map_eq_some_iff.1 iRul
 simp only [Prod.mk.injEq] at hzz
 obtain ⟨hz0,hz1,hz2⟩:=hzz
 have hmk:=run_make (P:=Tryz.prog) w 110 183 i0 _ Tryz.underlying110 hi hz0 .i64 .i64 (xs.length:Int) (xs.length:Int) (by omega) (by omega) (by rw [hz2];omega) (by omega)
 simp only [Int.toNat_natCast] at hmk
 rw [hz1] at hmk
 have R0:=Zgl (fs:=kRul) (e:=183) (S:=fun k=>w.heap.size≤k) w (.agg #[.int .i64 0,.int .i64 0,.int .i64 0,.int .i64 0,.int .i64 0,.int .i64 0,.int .i64 0]) xs.length zRul rfl (by decide) Zyi (by omega) nlr_
 have B0:Below w.heap.size w (w.alloc (.cells (madeCells (Value.cells (.agg #[.int .i64 0,.int .i64 0,.int .i64 0,.int .i64 0,.int .i64 0,.int .i64 0,.int .i64 0])) (xs.length*7)) 183)):=(brf_).alloc nlr_ _
 rw [← Zgf xs zRul] at R0
 clear hi hz0 hz1 hz2
 go_enter Tryz.func106,Tryz.ntmps106
 go_wp2
 go_loopw [4] (fun i wr=>∃ k:Nat,k≤xs.length∧i=.int .i64 k∧Rw kRul 183 wr (fun k=>w.heap.size≤k) (.slice (some ⟨w.heap.size,0,none⟩) xs.length xs.length) (filI xs zRul k)∧Below w.heap.size w wr) (fun i _=>xs.length-(intOf i).toNat)
 case atStart=>exact ⟨0,Nat.zero_le _,rfl,R0,B0⟩
 case round =>
  clear R0 B0 hmk
  obtain ⟨k,hk,rfl,hR,hb⟩:=hrel
  by_cases hlt:k<xs.length
  ·obtain ⟨x,hx⟩:=Zar xs hlt
   obtain ⟨ad,rfl,a0,a1,a2,a3,a4,a5,a6⟩:=Zst (Zac hA hb) hx
   have hset:=Aside0.mk (Zhr xs zRul k x hx)
   have hsz:=hb.size
   obtain ⟨T,cur,cs,hS,hSg,hg,hT,hO,hback⟩:=Zcp hR (Zhq xs zRul k hlt)
   obtain rfl:=Zzi (Zbh hO)
   have hS0:Seg wr w.heap.size 183 cur (k*7) 7 [.int .i64 zRul.mn,.int .i64 zRul.mx,.int .i64 zRul.at_,.int .i64 zRul.lw,.int .i64 zRul.hg,.int .i64 zRul.zr,.int .i64 zRul.ct]:=hS
   have hback0:=hback
   go_wp2_with (go_at_call 148;refine (Zne x _).mono ?_;rintro e w1 ⟨rfl,hb1⟩;have hS1:=hS0.move (hb1.block _ hg);have c0:w1.cell? ⟨w.heap.size,k*7,none⟩=some (.int .i64 zRul.mn):=hS1.cell 0 _ rfl;have f0:w1.frozen? ⟨w.heap.size,k*7,none⟩=false:=hS1.froz _;have c1:w1.cell? ⟨w.heap.size,k*7+1,none⟩=some (.int .i64 zRul.mx):=hS1.cell 1 _ rfl;have f1:w1.frozen? ⟨w.heap.size,k*7+1,none⟩=false:=hS1.froz _;have c2:w1.cell? ⟨w.heap.size,k*7+2,none⟩=some (.int .i64 zRul.at_):=hS1.cell 2 _ rfl;have f2:w1.frozen? ⟨w.heap.size,k*7+2,none⟩=false:=hS1.froz _;have c3:w1.cell? ⟨w.heap.size,k*7+3,none⟩=some (.int .i64 zRul.lw):=hS1.cell 3 _ rfl;have f3:w1.frozen? ⟨w.heap.size,k*7+3,none⟩=false:=hS1.froz _;have c4:w1.cell? ⟨w.heap.size,k*7+4,none⟩=some (.int .i64 zRul.hg):=hS1.cell 4 _ rfl;have f4:w1.frozen? ⟨w.heap.size,k*7+4,none⟩=false:=hS1.froz _;have c5:w1.cell? ⟨w.heap.size,k*7+5,none⟩=some (.int .i64 zRul.zr):=hS1.cell 5 _ rfl;have f5:w1.frozen? ⟨w.heap.size,k*7+5,none⟩=false:=hS1.froz _;have c6:w1.cell? ⟨w.heap.size,k*7+6,none⟩=some (.int .i64 zRul.ct):=hS1.cell 6 _ rfl;have f6:w1.frozen? ⟨w.heap.size,k*7+6,none⟩=false:=hS1.froz _)
   have hfin:=hback0 _ _ x (fun _=>False) (((((((hS1.set 0 (by decide) (.int .i64 x.mn)).set 1 (by decide) (.int .i64 x.mx)).set 2 (by decide) (.int .i64 x.at_)).set 3 (by decide) (.int .i64 x.lw)).set 4 (by decide) (.int .i64 x.hg)).set 5 (by decide) (.int .i64 x.zr)).set 6 (by decide) (.int .i64 x.ct)) ((((((((Kep.of_below (S:=fun b=>b=w.heap.size∨T b) hb1).set (i:=k*7) (.inl rfl) (.int .i64 x.mn)).set (i:=k*7+1) (.inl rfl) (.int .i64 x.mx)).set (i:=k*7+2) (.inl rfl) (.int .i64 x.at_)).set (i:=k*7+3) (.inl rfl) (.int .i64 x.lw)).set (i:=k*7+4) (.inl rfl) (.int .i64 x.hg)).set (i:=k*7+5) (.inl rfl) (.int .i64 x.zr)).set (i:=k*7+6) (.inl rfl) (.int .i64 x.ct)) (Zww x _ (fun _=>False)) (fun _ h=>h.elim)
   rw [hset.out] at hfin
   refine ⟨⟨k+1,by omega,rfl,hfin,(Zak (g:=w.heap.size) (j:=k*7+6) (v:=.int .i64 x.ct) (Zak (g:=w.heap.size) (j:=k*7+5) (v:=.int .i64 x.zr) (Zak (g:=w.heap.size) (j:=k*7+4) (v:=.int .i64 x.hg) (Zak (g:=w.heap.size) (j:=k*7+3) (v:=.int .i64 x.lw) (Zak (g:=w.heap.size) (j:=k*7+2) (v:=.int .i64 x.at_) (Zak (g:=w.heap.size) (j:=k*7+1) (v:=.int .i64 x.mx) (Zak (g:=w.heap.size) (j:=k*7) (v:=.int .i64 x.mn) (hb.trans (hb1.mono hb.size)) nlr_) nlr_) nlr_) nlr_) nlr_) nlr_) nlr_)⟩, ?_⟩
   simp [intOf]
   omega
  ·have e:k=xs.length:=by omega
   subst e
   rw [Zhp] at hR
   go_wp2
   go_ret
   exact ⟨⟨_,rfl,hR⟩,hb⟩
theorem Znf (x:Slt) (w:World) :
  Calls Tryz.prog 60 #[.agg #[.int .i64 x.node,.int .i64 x.way]] w fun e w'=>e=.returned (.agg #[.int .i64 x.node,.int .i64 x.way])∧Below w.heap.size w w':=by
 go_enter Tryz.func60,Tryz.ntmps60
 go_wp2
 refine bodyPost_ret (results_cell_row rfl _ _ (w.heap.size+1) 121 #[.int .i64 x.node,.int .i64 x.way] (0,0) _ rfl (by rw [← Zcq w];exact Zal (Zas _ _) _) Tryz.underlying121 rfl (by kernel_rfl)) rfl ?_
 exact ⟨rfl,((brf_).alloc nlr_ _ |>.alloc (by simp) _).alloc (by simp;omega) _⟩
theorem Zll (A:Option Addr) (c:Nat) (xs:List Slt) (w:World) (hA:Rd kSlt w A xs) (hl:xs.length≤1048576)  :
  Calls Tryz.prog 21 #[.slice A xs.length c] w fun e w'=>(∃ v,e=.returned v∧Rw kSlt 121 w' (fun k=>w.heap.size≤k) v xs)∧Below w.heap.size w w':=by
 obtain ⟨i0,hi,hzz⟩:=Option.map_eq_some_iff.1 iSlt
 simp only [Prod.mk.injEq] at hzz
 obtain ⟨hz0,hz1,hz2⟩:=hzz
 have hmk:=run_make (P:=Tryz.prog) w 31 121 i0 _ Tryz.underlying31 hi hz0 .i64 .i64 (xs.length:Int) (xs.length:Int) (by omega) (by omega) (by rw [hz2];omega) (by omega)
 simp only [Int.toNat_natCast] at hmk
 rw [hz1] at hmk
 have R0:=Zgl (fs:=kSlt) (e:=121) (S:=fun k=>w.heap.size≤k) w (.agg #[.int .i64 0,.int .i64 0]) xs.length zSlt rfl (by decide) Zyj (by omega) nlr_
 have B0:Below w.heap.size w (w.alloc (.cells (madeCells (Value.cells (.agg #[.int .i64 0,.int .i64 0])) (xs.length*2)) 121)):=(brf_).alloc nlr_ _
 rw [← Zgf xs zSlt] at R0
 clear hi hz0 hz1 hz2
 go_enter Tryz.func21,Tryz.ntmps21
 go_wp2
 go_loopw [4] (fun i wr=>∃ k:Nat,k≤xs.length∧i=.int .i64 k∧Rw kSlt 121 wr (fun k=>w.heap.size≤k) (.slice (some ⟨w.heap.size,0,none⟩) xs.length xs.length) (filI xs zSlt k)∧Below w.heap.size w wr) (fun i _=>xs.length-(intOf i).toNat)
 case atStart=>exact ⟨0,Nat.zero_le _,rfl,R0,B0⟩
 case round =>
  clear R0 B0 hmk
  obtain ⟨k,hk,rfl,hR,hb⟩:=hrel
  by_cases hlt:k<xs.length
  ·obtain ⟨x,hx⟩:=Zar xs hlt
   obtain ⟨ad,rfl,a0,a1⟩:=Zoh (Zac hA hb) hx
   have hset:=Aside0.mk (Zhr xs zSlt k x hx)
   have hsz:=hb.size
   obtain ⟨T,cur,cs,hS,hSg,hg,hT,hO,hback⟩:=Zcp hR (Zhq xs zSlt k hlt)
   obtain rfl:=Zzj (Zbh hO)
   have hS0:Seg wr w.heap.size 121 cur (k*2) 2 [.int .i64 zSlt.node,.int .i64 zSlt.way]:=hS
   have hback0:=hback
   go_wp2_with (go_at_call 60;refine (Znf x _).mono ?_;rintro e w1 ⟨rfl,hb1⟩;have hS1:=hS0.move (hb1.block _ hg);have c0:w1.cell? ⟨w.heap.size,k*2,none⟩=some (.int .i64 zSlt.node):=hS1.cell 0 _ rfl;have f0:w1.frozen? ⟨w.heap.size,k*2,none⟩=false:=hS1.froz _;have c1:w1.cell? ⟨w.heap.size,k*2+1,none⟩=some (.int .i64 zSlt.way):=hS1.cell 1 _ rfl;have f1:w1.frozen? ⟨w.heap.size,k*2+1,none⟩=false:=hS1.froz _)
   have hfin:=hback0 _ _ x (fun _=>False) ((hS1.set 0 (by decide) (.int .i64 x.node)).set 1 (by decide) (.int .i64 x.way)) (((Kep.of_below (S:=fun b=>b=w.heap.size∨T b) hb1).set (i:=k*2) (.inl rfl) (.int .i64 x.node)).set (i:=k*2+1) (.inl rfl) (.int .i64 x.way)) (Zwx x _ (fun _=>False)) (fun _ h=>h.elim)
   rw [hset.out] at hfin
   refine ⟨⟨k+1,by omega,rfl,hfin,(Zak (g:=w.heap.size) (j:=k*2+1) (v:=.int .i64 x.way) (Zak (g:=w.heap.size) (j:=k*2) (v:=.int .i64 x.node) (hb.trans (hb1.mono hb.size)) nlr_) nlr_)⟩, ?_⟩
   simp [intOf]
   omega
  ·have e:k=xs.length:=by omega
   subst e
   rw [Zhp] at hR
   go_wp2
   go_ret
   exact ⟨⟨_,rfl,hR⟩,hb⟩
theorem Zrn (A:Option Addr) (c:Nat) (xs:List Int) (w:World) (hA:Rd kInt w A xs) (hl:xs.length≤1048576)  :
  Calls Tryz.prog 61 #[.slice A xs.length c] w fun e w'=>(∃ v,e=.returned v∧Rw kInt 3 w' (fun k=>w.heap.size≤k) v xs)∧Below w.heap.size w w':=by
 obtain ⟨i0,hi,hzz⟩:=Option.map_eq_some_iff.1 iInt
 simp only [Prod.mk.injEq] at hzz
 obtain ⟨hz0,hz1,hz2⟩:=hzz
 have hmk:=run_make (P:=Tryz.prog) w 90 3 i0 _ Tryz.underlying90 hi hz0 .i64 .i64 (xs.length:Int) (xs.length:Int) (by omega) (by omega) (by rw [hz2];omega) (by omega)
 simp only [Int.toNat_natCast] at hmk
 rw [hz1] at hmk
 have R0:=Zgl (fs:=kInt) (e:=3) (S:=fun k=>w.heap.size≤k) w (.int .i64 0) xs.length zInt rfl (by decide) Ztk (by omega) nlr_
 rw [Nat.mul_one] at hmk
 rw [show xs.length*kInt.length=xs.length from Nat.mul_one _] at R0
 have B0:Below w.heap.size w (w.alloc (.cells (madeCells (Value.cells (.int .i64 0)) (xs.length)) 3)):=(brf_).alloc nlr_ _
 rw [← Zgf xs zInt] at R0
 clear hi hz0 hz1 hz2
 go_enter Tryz.func61,Tryz.ntmps61
 go_wp2
 go_loopw [4] (fun i wr=>∃ k:Nat,k≤xs.length∧i=.int .i64 k∧Rw kInt 3 wr (fun k=>w.heap.size≤k) (.slice (some ⟨w.heap.size,0,none⟩) xs.length xs.length) (filI xs zInt k)∧Below w.heap.size w wr) (fun i _=>xs.length-(intOf i).toNat)
 case atStart=>exact ⟨0,Nat.zero_le _,rfl,R0,B0⟩
 case round =>
  clear R0 B0 hmk
  obtain ⟨k,hk,rfl,hR,hb⟩:=hrel
  by_cases hlt:k<xs.length
  ·obtain ⟨x,hx⟩:=Zar xs hlt
   obtain ⟨ad,rfl,a0⟩:=Zeq (Zac hA hb) hx
   have hset:=Aside0.mk (Zhr xs zInt k x hx)
   have hsz:=hb.size
   obtain ⟨T,cur,cs,hS,hSg,hg,hT,hO,hback⟩:=Zcp hR (Zhq xs zInt k hlt)
   obtain rfl:=Zwt (Zbh hO)
   have hS0:Seg wr w.heap.size 3 cur (k*1) 1 [.int .i64 zInt]:=hS
   rw [Nat.mul_one] at hS0
   have hback0:=hback
   rw [show k*kInt.length=k from Nat.mul_one k] at hback0
   have c0:wr.cell? ⟨w.heap.size,k,none⟩=some (.int .i64 zInt):=hS0.cell 0 _ rfl
   have f0:wr.frozen? ⟨w.heap.size,k,none⟩=false:=hS0.froz _
   go_wp2
   have hfin:=hback0 _ _ x (fun _=>False) (hS0.set 0 (by decide) (.int .i64 x)) ((Kep.refl (fun b=>b=w.heap.size∨T b) wr).set (i:=k) (.inl rfl) (.int .i64 x)) (Ztl x _ (fun _=>False)) (fun _ h=>h.elim)
   rw [hset.out] at hfin
   refine ⟨⟨k+1,by omega,rfl,hfin,(Zak (g:=w.heap.size) (j:=k) (v:=.int .i64 x) hb nlr_)⟩, ?_⟩
   simp [intOf]
   omega
  ·have e:k=xs.length:=by omega
   subst e
   rw [Zhp] at hR
   go_wp2
   go_ret
   exact ⟨⟨_,rfl,hR⟩,hb⟩
end Go.Proofs.YtaeckoinpllpnaaGreat
