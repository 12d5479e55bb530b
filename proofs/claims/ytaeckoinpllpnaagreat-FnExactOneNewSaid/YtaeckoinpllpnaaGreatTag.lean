/- Part 7 of the proof of its last text: this session's own texts, shortened and joined by a program of its own (wip/pack.py). -/
import Derived.Test.YtaeckoinpllpnaaGreatTaf
import Derived.Test.YtaeckoinpllpnaaGreatTae
import Derived.Test.YtaeckoinpllpnaaGreatTab
import Derived.Test.YtaeckoinpllpnaaGreatTad
import Derived.Deep.QuietTactic
import Derived.BigQuiet
set_option linter.unusedVariables false
set_option linter.unusedSimpArgs false
set_option maxHeartbeats 16000000
set_option maxRecDepth 100000
namespace Go.Proofs.YtaeckoinpllpnaaGreat
open Go.RowKit Go.Proofs.YtaeckoinpllpnaaGreatW.PrintWords
def Zbd (d:Int):Box:=⟨d,[]⟩
def Zdr:OutO:=⟨1,0,0,0⟩
def Zez:InI:=⟨0,0,0⟩
def Zbm (x:Pln) (b:Int) (up:Bool):Nod:=⟨up,b,0,x.cells.map (fun _=>Zbt),x.ways.map (fun y=>Zbd y.depth),x.ways.map (fun y=>Zbd y.depth),x.ways.map (fun _=>Zdr),x.ways.map (fun _=>Zez),List.replicate x.nodes.toNat 0,List.replicate x.nodes.toNat 0⟩
theorem Zpv {α β:Type} (f:α→β) {xs:List α} {k:Nat} {x:α} (hx:xs[k]? = some x):(xs.take k).map f++[f x] = (xs.take (k+1)).map f:=by
 obtain ⟨hl,hx⟩:=List.getElem?_eq_some_iff.1 hx
 rw [List.take_succ_eq_append_getElem hl,hx,List.map_append]
 rfl
theorem Zjt {α β:Type} (b:β) (xs:List α) (k:Nat) (hk:k<xs.length):(xs.take k).map (fun _=>b)++[b] = (xs.take (k+1)).map (fun _=>b):=by
 rw [List.take_succ_eq_append_getElem hk,List.map_append]
 rfl
def most (op:Int):Int×Int×Int:=if op=1 then (3,255,0) else if op=5 then (3,3,3) else if op=8 then (24,3,0) else if op=9∨op=10 then (9,3,3) else if op=12 then (3,0,0) else if op=13∨op=14 then (0,0,0) else (3,3,0)
def Zeb (o:Ord):Bool:=inB o.op 1 14&&(inB o.a 0 (most o.op).1&&inB o.b 0 (most o.op).2.1&&inB o.c 0 (most o.op).2.2)
def Zib (n:Nat) (x:Ord):Bool:=Zeb x&&!(x.op==8&&decide ((n:Int)<x.a))
def Zkn (xs:List Ord):Bool:=decide (xs.length≤24)&&xs.all (Zib xs.length)
structure Rule where
 min:Int
 max:Int
 at_:Int
 low:Int
 high:Int
 zero:Int
 cut:Int
def Rule.cs (r:Rule):Array Value:=#[.int .i64 r.min,.int .i64 r.max,.int .i64 r.at_,.int .i64 r.low,.int .i64 r.high,.int .i64 r.zero,.int .i64 r.cut]
def Rule.ok (r:Rule):Bool:=inB r.min 0 8&&inB r.max r.min 8&&inB r.at_ (-1) 7&&inB r.zero (-1) 7&&inB r.low 0 255&&inB r.high r.low 255&&inB r.cut 0 8
theorem Zhs (r:Rule) (w:World) :
  Calls Tryz.prog 231 #[.agg r.cs] w fun e w'=>e=.returned (.bool r.ok)∧Below w.heap.size w w':=by
 obtain ⟨a,b,c,d,e,f,g⟩:=r
 unfold Rule.cs
 dsimp only
 have hb0:Below w.heap.size w (w.alloc (.cells #[.int .i64 a,.int .i64 b,.int .i64 c,.int .i64 d,.int .i64 e,.int .i64 f,.int .i64 g] 183)):=(brf_).alloc nlr_ _
 go_enter Tryz.func231,Tryz.ntmps231
 go_upto_region 1 with (fail)
 have N:=Zas w (.cells #[.int .i64 a,.int .i64 b,.int .i64 c,.int .i64 d,.int .i64 e,.int .i64 f,.int .i64 g] 183)
 generalize w.alloc (.cells #[.int .i64 a,.int .i64 b,.int .i64 c,.int .i64 d,.int .i64 e,.int .i64 f,.int .i64 g] 183)=W at *
 obtain ⟨c0,c1,c2,c3,c4,c5,c6⟩:=cellsP7 N
 clear N
 go_wp2
 all_goals go_ret
 all_goals exact ⟨by simp [Rule.ok,inB, *] <;> omega,hb0⟩
def Ztr (x:Rul):Bool:=Rule.ok ⟨x.mn,x.mx,x.at_,x.lw,x.hg,x.zr,x.ct⟩
theorem Zht (x:Rul) (w:World) :
  Calls Tryz.prog 235 #[.agg #[.int .i64 x.mn,.int .i64 x.mx,.int .i64 x.at_,.int .i64 x.lw,.int .i64 x.hg,.int .i64 x.zr,.int .i64 x.ct]] w fun e w'=>e=.returned (.bool (Ztr x))∧Below w.heap.size w w':=by
 have hb0:Below w.heap.size w (w.alloc (.cells #[.int .i64 x.mn,.int .i64 x.mx,.int .i64 x.at_,.int .i64 x.lw,.int .i64 x.hg,.int .i64 x.zr,.int .i64 x.ct] 183)):=(brf_).alloc nlr_ _
 go_enter Tryz.func235,Tryz.ntmps235
 go_wp2_with (go_at_call 94;refine (Zaz _ _ _ _).mono ?_;rintro e w1 ⟨rfl,rfl⟩)
 all_goals go_ret
 all_goals exact ⟨by
  simp only [Ztr,Rule.ok]
  simp [*]
  try (intros;simp_all),hb0⟩
def Zoj (xs:List Rul):Bool:=decide (xs.length≤4)&&xs.all Ztr
theorem Zrx (A:Option Addr) (c:Nat) (xs:List Rul) (w:World) (hA:Rd kRul w A xs) :
  Calls Tryz.prog 218 #[.slice A xs.length c] w fun e w'=>e=.returned (.bool (Zoj xs))∧Below w.heap.size w w':=by
 have hm:=Zax hA
 by_cases h4:xs.length≤4
 ·have hg4:decide (xs.length≤4)=true:=decide_eq_true h4
  go_enter Tryz.func218,Tryz.ntmps218
  go_wp2
  go_loopw [3] (fun i wr=>∃ k:Nat,k≤xs.length∧i=.int .i64 k∧Aside0 ((xs.take k).all Ztr=true)∧Below w.heap.size w wr) (fun i _=>xs.length-(intOf i).toNat)
  case atStart=>exact ⟨0,Nat.zero_le _,rfl,⟨rfl⟩,brf_⟩
  case round =>
   obtain ⟨k,hk,rfl,hall,hb⟩:=hrel
   by_cases hlt:k<xs.length
   ·obtain ⟨x,hx⟩:=Zar xs hlt
    obtain ⟨ad,rfl,a0,a1,a2,a3,a4,a5,a6⟩:=Zst (Zac hA hb) hx
    cases h1:Ztr x
    ·have hbad:=Aside0.mk (Zcg hx h1)
     go_wp2_with (go_at_call 235;have hcon:=Zht x;refine (hcon _).mono ?_;rintro e w1 ⟨rfl,hb1⟩;rw [show Ztr x=false from h1];have hb2:=hb.trans (hb1.mono hb.size))
     go_ret
     exact ⟨by rw [Zoj,hbad.out,Bool.and_false];rfl,hb2⟩
    ·have hmore:=Aside0.mk (Zbi hx hall.out h1)
     go_wp2_with (go_at_call 235;have hcon:=Zht x;refine (hcon _).mono ?_;rintro e w1 ⟨rfl,hb1⟩;rw [show Ztr x=true from h1];have hb2:=hb.trans (hb1.mono hb.size))
     refine ⟨⟨k+1,by omega,rfl,hmore,hb2⟩, ?_⟩
     simp [intOf]
     omega
   ·have e:k=xs.length:=by omega
    subst e
    have hall:=hall.out
    rw [List.take_length] at hall
    go_wp2
    go_ret
    exact ⟨by rw [Zoj,hall,hg4];rfl,hb⟩
 ·have hg4:decide (xs.length≤4)=false:=decide_eq_false h4
  have h5:(4:Int)<(xs.length:Int):=by omega
  go_enter Tryz.func218,Tryz.ntmps218
  go_wp2
  go_ret
  exact ⟨by rw [Zoj,hg4];rfl,brf_⟩
theorem Zry (A:Option Addr) (c:Nat) (xs:List Rul) (w:World) (hA:Rd kRul w A xs) :
  Calls Tryz.prog 200 #[.slice A xs.length c] w fun e w'=>e=.returned (.bool (Zoj xs))∧Below w.heap.size w w':=by
 have hm:=Zax hA
 by_cases h4:xs.length≤4
 ·have hg4:decide (xs.length≤4)=true:=decide_eq_true h4
  go_enter Tryz.func200,Tryz.ntmps200
  go_wp2
  go_loopw [10] (fun i wr=>∃ k:Nat,k≤xs.length∧i=.int .i64 k∧Aside0 ((xs.take k).all Ztr=true)∧Below w.heap.size w wr) (fun i _=>xs.length-(intOf i).toNat)
  case atStart=>exact ⟨0,Nat.zero_le _,rfl,⟨rfl⟩,brf_⟩
  case round =>
   obtain ⟨k,hk,rfl,hall,hb⟩:=hrel
   by_cases hlt:k<xs.length
   ·obtain ⟨x,hx⟩:=Zar xs hlt
    obtain ⟨ad,rfl,a0,a1,a2,a3,a4,a5,a6⟩:=Zst (Zac hA hb) hx
    cases h1:Ztr x
    ·have hbad:=Aside0.mk (Zcg hx h1)
     go_wp2_with (go_at_call 231;have hcon:=Zhs ⟨x.mn,x.mx,x.at_,x.lw,x.hg,x.zr,x.ct⟩;refine (hcon _).mono ?_;rintro e w1 ⟨rfl,hb1⟩;rw [show Rule.ok ⟨x.mn,x.mx,x.at_,x.lw,x.hg,x.zr,x.ct⟩=false from h1];have hb2:=(hb.alloc hb.size (.cells #[.int .i64 x.mn,.int .i64 x.mx,.int .i64 x.at_,.int .i64 x.lw,.int .i64 x.hg,.int .i64 x.zr,.int .i64 x.ct] 183)).trans (hb1.mono (hb.alloc hb.size _).size))
     go_ret
     exact ⟨by rw [Zoj,hbad.out,Bool.and_false];rfl,hb2⟩
    ·have hmore:=Aside0.mk (Zbi hx hall.out h1)
     go_wp2_with (go_at_call 231;have hcon:=Zhs ⟨x.mn,x.mx,x.at_,x.lw,x.hg,x.zr,x.ct⟩;refine (hcon _).mono ?_;rintro e w1 ⟨rfl,hb1⟩;rw [show Rule.ok ⟨x.mn,x.mx,x.at_,x.lw,x.hg,x.zr,x.ct⟩=true from h1];have hb2:=(hb.alloc hb.size (.cells #[.int .i64 x.mn,.int .i64 x.mx,.int .i64 x.at_,.int .i64 x.lw,.int .i64 x.hg,.int .i64 x.zr,.int .i64 x.ct] 183)).trans (hb1.mono (hb.alloc hb.size _).size))
     refine ⟨⟨k+1,by omega,rfl,hmore,hb2⟩, ?_⟩
     simp [intOf]
     omega
   ·have e:k=xs.length:=by omega
    subst e
    have hall:=hall.out
    rw [List.take_length] at hall
    go_wp2
    go_ret
    exact ⟨by rw [Zoj,hall,hg4];rfl,hb⟩
 ·have hg4:decide (xs.length≤4)=false:=decide_eq_false h4
  have h5:(4:Int)<(xs.length:Int):=by omega
  go_enter Tryz.func200,Tryz.ntmps200
  go_wp2
  go_ret
  exact ⟨by rw [Zoj,hg4];rfl,brf_⟩
def Zcm {α:Type} (p:α→Bool):List α→Nat
 | []=>0
 | x::r=>if p x then Zcm p r+1 else 0
theorem Zcc {α:Type} {p:α→Bool}:∀ {xs:List α},xs.all p=true→Zcm p xs=xs.length
 | [],_=>rfl
 | x::r,h=>by
  simp only [List.all_cons,Bool.and_eq_true] at h
  simp [Zcm,h.1,Zcc h.2]
theorem Zec {α:Type} {p:α→Bool}:∀ {xs:List α} {k:Nat} {x:α},(xs.take k).all p=true→xs[k]? = some x→p x=false→Zcm p xs=k
 | [],k,x,_,hx,_=>by simp at hx
 | y::r,0,x,_,hx,h=>by
  simp at hx
  subst hx
  simp [Zcm,h]
 | y::r,k+1,x,hall,hx,h=>by
  simp only [List.take_succ_cons,List.all_cons,Bool.and_eq_true] at hall
  simp at hx
  simp [Zcm,hall.1,Zec hall.2 hx h]
theorem Zvg {α:Type} (p:α→Bool):∀ xs:List α,Zcm p xs≤xs.length
 | []=>Nat.le_refl _
 | x::r=>by
  unfold Zcm
  split
  ·have:=Zvg p r;simp;omega
  ·simp
theorem Zqj {α:Type} (p:α→Bool):∀ xs:List α,decide (Zcm p xs<xs.length)=!(xs.all p)
 | []=>rfl
 | x::r=>by
  unfold Zcm
  by_cases h:p x=true
  ·have:=Zqj p r
   simp only [h,if_true,List.all_cons,Bool.true_and,← this]
   simp
  ·simp [h]
theorem Zbe {n k:Nat} (h:k<n):(List.range n)[k]? = some k:=by rw [List.getElem?_range h]
def Zfc (nodes:Int) (y:Cel):Bool:=inB y.node 0 (nodes-1)&&(Zhl y.lvl y.marks&&Zkn y.code)
def wyOk (n:Nat) (y:Wy):Bool:=inB y.frm 0 ((n:Int)-1)&&(inB y.dst 0 ((n:Int)-1)&&(decide (y.frm≠y.dst)&&(inB y.depth 1 4&&(Zoj y.guard&&(y.guarded||decide (y.guard.length=0))))))
def Zeo (a m b n:Int):Bool:=Zhl a m&&Zhl b n&&decide (a≤b)&&Zuw m n
theorem Znp (a m b n:Int) (w:World) :
  Calls Tryz.prog 179 #[.agg #[.int .i64 a,.int .i64 m],.agg #[.int .i64 b,.int .i64 n]] w fun e w'=>e=.returned (.bool (Zeo a m b n))∧Below w.heap.size w w':=by
 have hw0:Below w.heap.size w ((w.alloc (.cells #[.int .i64 a,.int .i64 m] 104)).alloc (.cells #[.int .i64 b,.int .i64 n] 104)):=((brf_).alloc nlr_ _).alloc (by simp) _
 cases h1:Zhl a m
 ·go_enter Tryz.func179,Tryz.ntmps179
  go_wp2_with (go_at_call 216;refine ((Zdp a m _).mono ?_);rintro e w1 ⟨rfl,hb1⟩;rw [h1];have hw1:=hw0.trans (hb1.mono hw0.size);have Na1:=Zab (Zal (Zas w _) _) hb1;have Nb1:=Zab (Zbs (g:=w.heap.size+1) _ _ (by simp)) hb1;have ea1_0:w1.cell? ⟨w.heap.size,0,none⟩=some (.int .i64 a):=Zag Na1 rfl;have ea1_1:w1.cell? ⟨w.heap.size,1,none⟩=some (.int .i64 m):=Zag Na1 rfl;have eb1_0:w1.cell? ⟨w.heap.size+1,0,none⟩=some (.int .i64 b):=Zag Nb1 rfl;have eb1_1:w1.cell? ⟨w.heap.size+1,1,none⟩=some (.int .i64 n):=Zag Nb1 rfl)
  go_ret
  exact ⟨by rw [Zeo,h1];rfl,hw1⟩
 ·cases h2:Zhl b n
  ·go_enter Tryz.func179,Tryz.ntmps179
   go_wp2_with (first
    | (go_at_call 216;have hw1':=hw1;refine ((Zdp b n _).mono ?_);rintro e w2 ⟨rfl,hb2⟩;rw [h2];have hw2:=hw1.trans (hb2.mono hw1.size);have Na2:=Zab Na1 hb2;have Nb2:=Zab Nb1 hb2;have ea2_0:w2.cell? ⟨w.heap.size,0,none⟩=some (.int .i64 a):=Zag Na2 rfl;have ea2_1:w2.cell? ⟨w.heap.size,1,none⟩=some (.int .i64 m):=Zag Na2 rfl;have eb2_0:w2.cell? ⟨w.heap.size+1,0,none⟩=some (.int .i64 b):=Zag Nb2 rfl;have eb2_1:w2.cell? ⟨w.heap.size+1,1,none⟩=some (.int .i64 n):=Zag Nb2 rfl)
    | (go_at_call 216;refine ((Zdp a m _).mono ?_);rintro e w1 ⟨rfl,hb1⟩;rw [h1];have hw1:=hw0.trans (hb1.mono hw0.size);have Na1:=Zab (Zal (Zas w _) _) hb1;have Nb1:=Zab (Zbs (g:=w.heap.size+1) _ _ (by simp)) hb1;have ea1_0:w1.cell? ⟨w.heap.size,0,none⟩=some (.int .i64 a):=Zag Na1 rfl;have ea1_1:w1.cell? ⟨w.heap.size,1,none⟩=some (.int .i64 m):=Zag Na1 rfl;have eb1_0:w1.cell? ⟨w.heap.size+1,0,none⟩=some (.int .i64 b):=Zag Nb1 rfl;have eb1_1:w1.cell? ⟨w.heap.size+1,1,none⟩=some (.int .i64 n):=Zag Nb1 rfl))
   go_ret
   exact ⟨by rw [Zeo,h1,h2];rfl,hw2⟩
  ·by_cases hab:a≤b
   ·have hd:decide (a≤b)=true:=decide_eq_true hab
    go_enter Tryz.func179,Tryz.ntmps179
    go_wp2_with (first
     | (go_at_call 216;have hw1':=hw1;refine ((Zdp b n _).mono ?_);rintro e w2 ⟨rfl,hb2⟩;rw [h2];have hw2:=hw1.trans (hb2.mono hw1.size);have Na2:=Zab Na1 hb2;have Nb2:=Zab Nb1 hb2;have ea2_0:w2.cell? ⟨w.heap.size,0,none⟩=some (.int .i64 a):=Zag Na2 rfl;have ea2_1:w2.cell? ⟨w.heap.size,1,none⟩=some (.int .i64 m):=Zag Na2 rfl;have eb2_0:w2.cell? ⟨w.heap.size+1,0,none⟩=some (.int .i64 b):=Zag Nb2 rfl;have eb2_1:w2.cell? ⟨w.heap.size+1,1,none⟩=some (.int .i64 n):=Zag Nb2 rfl)
     | (go_at_call 216;refine ((Zdp a m _).mono ?_);rintro e w1 ⟨rfl,hb1⟩;rw [h1];have hw1:=hw0.trans (hb1.mono hw0.size);have Na1:=Zab (Zal (Zas w _) _) hb1;have Nb1:=Zab (Zbs (g:=w.heap.size+1) _ _ (by simp)) hb1;have ea1_0:w1.cell? ⟨w.heap.size,0,none⟩=some (.int .i64 a):=Zag Na1 rfl;have ea1_1:w1.cell? ⟨w.heap.size,1,none⟩=some (.int .i64 m):=Zag Na1 rfl;have eb1_0:w1.cell? ⟨w.heap.size+1,0,none⟩=some (.int .i64 b):=Zag Nb1 rfl;have eb1_1:w1.cell? ⟨w.heap.size+1,1,none⟩=some (.int .i64 n):=Zag Nb1 rfl))
    go_ret
    exact ⟨by rw [Zeo,h1,h2,hd];rfl,hw2⟩
   ·have hd:decide (a≤b)=false:=decide_eq_false hab
    go_enter Tryz.func179,Tryz.ntmps179
    go_wp2_with (first
     | (go_at_call 216;have hw1':=hw1;refine ((Zdp b n _).mono ?_);rintro e w2 ⟨rfl,hb2⟩;rw [h2];have hw2:=hw1.trans (hb2.mono hw1.size);have Na2:=Zab Na1 hb2;have Nb2:=Zab Nb1 hb2;have ea2_0:w2.cell? ⟨w.heap.size,0,none⟩=some (.int .i64 a):=Zag Na2 rfl;have ea2_1:w2.cell? ⟨w.heap.size,1,none⟩=some (.int .i64 m):=Zag Na2 rfl;have eb2_0:w2.cell? ⟨w.heap.size+1,0,none⟩=some (.int .i64 b):=Zag Nb2 rfl;have eb2_1:w2.cell? ⟨w.heap.size+1,1,none⟩=some (.int .i64 n):=Zag Nb2 rfl)
     | (go_at_call 216;refine ((Zdp a m _).mono ?_);rintro e w1 ⟨rfl,hb1⟩;rw [h1];have hw1:=hw0.trans (hb1.mono hw0.size);have Na1:=Zab (Zal (Zas w _) _) hb1;have Nb1:=Zab (Zbs (g:=w.heap.size+1) _ _ (by simp)) hb1;have ea1_0:w1.cell? ⟨w.heap.size,0,none⟩=some (.int .i64 a):=Zag Na1 rfl;have ea1_1:w1.cell? ⟨w.heap.size,1,none⟩=some (.int .i64 m):=Zag Na1 rfl;have eb1_0:w1.cell? ⟨w.heap.size+1,0,none⟩=some (.int .i64 b):=Zag Nb1 rfl;have eb1_1:w1.cell? ⟨w.heap.size+1,1,none⟩=some (.int .i64 n):=Zag Nb1 rfl))
    go_ret
    exact ⟨by rw [Zeo,h1,h2,hd];rfl,hw2⟩
theorem Znq (a m b n:Int) (w:World) :
  Calls Tryz.prog 202 #[.agg #[.int .i64 a,.int .i64 m],.agg #[.int .i64 b,.int .i64 n]] w fun e w'=>e=.returned (.bool (Zeo a m b n))∧Below w.heap.size w w':=by
 have hw0:Below w.heap.size w ((w.alloc (.cells #[.int .i64 a,.int .i64 m] 104)).alloc (.cells #[.int .i64 b,.int .i64 n] 104)):=((brf_).alloc nlr_ _).alloc (by simp) _
 cases h1:Zhl a m
 ·go_enter Tryz.func202,Tryz.ntmps202
  go_wp2_with (go_at_call 197;refine ((Zdo a m _).mono ?_);rintro e w1 ⟨rfl,hb1⟩;rw [h1];have hw1:=hw0.trans (hb1.mono hw0.size);have Na1:=Zab (Zal (Zas w _) _) hb1;have Nb1:=Zab (Zbs (g:=w.heap.size+1) _ _ (by simp)) hb1;have ea1_0:w1.cell? ⟨w.heap.size,0,none⟩=some (.int .i64 a):=Zag Na1 rfl;have ea1_1:w1.cell? ⟨w.heap.size,1,none⟩=some (.int .i64 m):=Zag Na1 rfl;have eb1_0:w1.cell? ⟨w.heap.size+1,0,none⟩=some (.int .i64 b):=Zag Nb1 rfl;have eb1_1:w1.cell? ⟨w.heap.size+1,1,none⟩=some (.int .i64 n):=Zag Nb1 rfl)
  go_ret
  exact ⟨by rw [Zeo,h1];rfl,hw1⟩
 ·cases h2:Zhl b n
  ·go_enter Tryz.func202,Tryz.ntmps202
   go_wp2_with (first
    | (go_at_call 232;refine (Zha m n _ (by simp [Zhl,inB] at h1;omega) (by simp [Zhl,inB] at h2;omega)).mono ?_;rintro e w3 ⟨rfl,hb3⟩;have hw3:=hw2.trans (hb3.mono hw2.size))
    | (go_at_call 197;have hw1':=hw1;refine ((Zdo b n _).mono ?_);rintro e w2 ⟨rfl,hb2⟩;rw [h2];have hw2:=hw1.trans (hb2.mono hw1.size);have Na2:=Zab Na1 hb2;have Nb2:=Zab Nb1 hb2;have ea2_0:w2.cell? ⟨w.heap.size,0,none⟩=some (.int .i64 a):=Zag Na2 rfl;have ea2_1:w2.cell? ⟨w.heap.size,1,none⟩=some (.int .i64 m):=Zag Na2 rfl;have eb2_0:w2.cell? ⟨w.heap.size+1,0,none⟩=some (.int .i64 b):=Zag Nb2 rfl;have eb2_1:w2.cell? ⟨w.heap.size+1,1,none⟩=some (.int .i64 n):=Zag Nb2 rfl)
    | (go_at_call 197;refine ((Zdo a m _).mono ?_);rintro e w1 ⟨rfl,hb1⟩;rw [h1];have hw1:=hw0.trans (hb1.mono hw0.size);have Na1:=Zab (Zal (Zas w _) _) hb1;have Nb1:=Zab (Zbs (g:=w.heap.size+1) _ _ (by simp)) hb1;have ea1_0:w1.cell? ⟨w.heap.size,0,none⟩=some (.int .i64 a):=Zag Na1 rfl;have ea1_1:w1.cell? ⟨w.heap.size,1,none⟩=some (.int .i64 m):=Zag Na1 rfl;have eb1_0:w1.cell? ⟨w.heap.size+1,0,none⟩=some (.int .i64 b):=Zag Nb1 rfl;have eb1_1:w1.cell? ⟨w.heap.size+1,1,none⟩=some (.int .i64 n):=Zag Nb1 rfl))
   go_ret
   exact ⟨by rw [Zeo,h1,h2];rfl,hw2⟩
  ·by_cases hab:a≤b
   ·have hd:decide (a≤b)=true:=decide_eq_true hab
    go_enter Tryz.func202,Tryz.ntmps202
    go_wp2_with (first
     | (go_at_call 232;refine (Zha m n _ (by simp [Zhl,inB] at h1;omega) (by simp [Zhl,inB] at h2;omega)).mono ?_;rintro e w3 ⟨rfl,hb3⟩;have hw3:=hw2.trans (hb3.mono hw2.size))
     | (go_at_call 197;have hw1':=hw1;refine ((Zdo b n _).mono ?_);rintro e w2 ⟨rfl,hb2⟩;rw [h2];have hw2:=hw1.trans (hb2.mono hw1.size);have Na2:=Zab Na1 hb2;have Nb2:=Zab Nb1 hb2;have ea2_0:w2.cell? ⟨w.heap.size,0,none⟩=some (.int .i64 a):=Zag Na2 rfl;have ea2_1:w2.cell? ⟨w.heap.size,1,none⟩=some (.int .i64 m):=Zag Na2 rfl;have eb2_0:w2.cell? ⟨w.heap.size+1,0,none⟩=some (.int .i64 b):=Zag Nb2 rfl;have eb2_1:w2.cell? ⟨w.heap.size+1,1,none⟩=some (.int .i64 n):=Zag Nb2 rfl)
     | (go_at_call 197;refine ((Zdo a m _).mono ?_);rintro e w1 ⟨rfl,hb1⟩;rw [h1];have hw1:=hw0.trans (hb1.mono hw0.size);have Na1:=Zab (Zal (Zas w _) _) hb1;have Nb1:=Zab (Zbs (g:=w.heap.size+1) _ _ (by simp)) hb1;have ea1_0:w1.cell? ⟨w.heap.size,0,none⟩=some (.int .i64 a):=Zag Na1 rfl;have ea1_1:w1.cell? ⟨w.heap.size,1,none⟩=some (.int .i64 m):=Zag Na1 rfl;have eb1_0:w1.cell? ⟨w.heap.size+1,0,none⟩=some (.int .i64 b):=Zag Nb1 rfl;have eb1_1:w1.cell? ⟨w.heap.size+1,1,none⟩=some (.int .i64 n):=Zag Nb1 rfl))
    go_ret
    exact ⟨by rw [Zeo,h1,h2,hd];rfl,hw3⟩
   ·have hd:decide (a≤b)=false:=decide_eq_false hab
    go_enter Tryz.func202,Tryz.ntmps202
    go_wp2_with (first
     | (go_at_call 232;refine (Zha m n _ (by simp [Zhl,inB] at h1;omega) (by simp [Zhl,inB] at h2;omega)).mono ?_;rintro e w3 ⟨rfl,hb3⟩;have hw3:=hw2.trans (hb3.mono hw2.size))
     | (go_at_call 197;have hw1':=hw1;refine ((Zdo b n _).mono ?_);rintro e w2 ⟨rfl,hb2⟩;rw [h2];have hw2:=hw1.trans (hb2.mono hw1.size);have Na2:=Zab Na1 hb2;have Nb2:=Zab Nb1 hb2;have ea2_0:w2.cell? ⟨w.heap.size,0,none⟩=some (.int .i64 a):=Zag Na2 rfl;have ea2_1:w2.cell? ⟨w.heap.size,1,none⟩=some (.int .i64 m):=Zag Na2 rfl;have eb2_0:w2.cell? ⟨w.heap.size+1,0,none⟩=some (.int .i64 b):=Zag Nb2 rfl;have eb2_1:w2.cell? ⟨w.heap.size+1,1,none⟩=some (.int .i64 n):=Zag Nb2 rfl)
     | (go_at_call 197;refine ((Zdo a m _).mono ?_);rintro e w1 ⟨rfl,hb1⟩;rw [h1];have hw1:=hw0.trans (hb1.mono hw0.size);have Na1:=Zab (Zal (Zas w _) _) hb1;have Nb1:=Zab (Zbs (g:=w.heap.size+1) _ _ (by simp)) hb1;have ea1_0:w1.cell? ⟨w.heap.size,0,none⟩=some (.int .i64 a):=Zag Na1 rfl;have ea1_1:w1.cell? ⟨w.heap.size,1,none⟩=some (.int .i64 m):=Zag Na1 rfl;have eb1_0:w1.cell? ⟨w.heap.size+1,0,none⟩=some (.int .i64 b):=Zag Nb1 rfl;have eb1_1:w1.cell? ⟨w.heap.size+1,1,none⟩=some (.int .i64 n):=Zag Nb1 rfl))
    go_ret
    exact ⟨by rw [Zeo,h1,h2,hd];rfl,hw2⟩
def Zci (sl:List Slt) (node way:Int):Bool:=sl.any fun s=>s.way==way&&(decide (node<0)||s.node==node)
theorem Zlz {α:Type} {p:α→Bool} {xs:List α} {k:Nat} {x:α} (hx:xs[k]? = some x) (h0:(xs.take k).any p=false) (h:p x=false):(xs.take (k+1)).any p=false:=by
 obtain ⟨hl,hx⟩:=List.getElem?_eq_some_iff.1 hx
 rw [List.take_succ_eq_append_getElem hl,List.any_append,h0,hx]
 simp [h]
theorem Zpw {α:Type} {p:α→Bool} {xs:List α} {k:Nat} {x:α} (hx:xs[k]? = some x) (h:p x=true):xs.any p=true:=by
 rw [List.any_eq_true]
 obtain ⟨hl,hx⟩:=List.getElem?_eq_some_iff.1 hx
 exact ⟨x,hx▸List.getElem_mem hl,h⟩
theorem Zkj (x:Pln) (cs:List Value) (w:World) (hP:allK w x kPln cs) (node way:Int) :
  Calls Tryz.prog 181 #[.agg cs.toArray,.int .i64 node,.int .i64 way] w fun e w'=>e=.returned (.bool (Zci x.slots node way))∧Below w.heap.size w w':=by
 obtain ⟨A1,c1,A2,c2,A3,c3,A4,c4,rfl,l1,r1,l2,r2,l3,r3,l4,r4⟩:=Zcs hP
 have hm:=Zax r3
 obtain ⟨W,eW,hw0,N0⟩:=new1 w (.cells #[.int .i64 x.nodes,.int .i64 x.secret,.int .i64 x.fuel,.slice A1 x.cells.length c1,.slice A2 x.ways.length c2,.slice A3 x.slots.length c3,.slice A4 x.turns.length c4] 33)
 go_enter Tryz.func181,Tryz.ntmps181
 go_wp2
 refine wp_at eW ?_
 clear eW
 go_loopw [7] (fun i wr=>∃ k:Nat,k≤x.slots.length∧i=.int .i64 k∧Aside0 ((x.slots.take k).any (fun s:Slt=>s.way==way&&(decide (node<0)||s.node==node))=false)∧Below W.heap.size W wr) (fun i _=>x.slots.length-(intOf i).toNat)
 case atStart=>exact ⟨0,Nat.zero_le _,rfl,⟨rfl⟩,brf_⟩
 case round =>
  obtain ⟨k,hk,rfl,hall,hb⟩:=hrel
  have hwr:=hw0.trans (hb.mono hw0.size)
  have Nr:=Zab N0 hb
  obtain ⟨p0,p1,p2,p3,p4,p5,p6⟩:=cellsP7 Nr
  by_cases hlt:k<x.slots.length
  ·obtain ⟨y,hy⟩:=Zar x.slots hlt
   obtain ⟨ad,rfl,y0,y1⟩:=Zoh (Zac r3 hwr) hy
   cases t1:(y.way==way)
   ·have hr:=Aside0.mk (Zlz (p:=(fun s:Slt=>s.way==way&&(decide (node<0)||s.node==node))) hy hall.out (by (try dsimp only);rw [t1];rfl))
    go_wp2
    refine ⟨⟨k+1,by omega,rfl,hr,hb⟩, ?_⟩
    simp [intOf]
    omega
   ·by_cases t2:node<0
    ·have hr:=Aside0.mk (Zpw (p:=(fun s:Slt=>s.way==way&&(decide (node<0)||s.node==node))) hy (by (try dsimp only);rw [t1,decide_eq_true t2];rfl))
     go_wp2
     go_ret
     exact ⟨by rw [Zci,hr.out];rfl,hwr⟩
    ·cases t3:(y.node==node)
     ·have hr:=Aside0.mk (Zlz (p:=(fun s:Slt=>s.way==way&&(decide (node<0)||s.node==node))) hy hall.out (by (try dsimp only);rw [t1,decide_eq_false t2,t3];rfl))
      go_wp2
      refine ⟨⟨k+1,by omega,rfl,hr,hb⟩, ?_⟩
      simp [intOf]
      omega
     ·have hr:=Aside0.mk (Zpw (p:=(fun s:Slt=>s.way==way&&(decide (node<0)||s.node==node))) hy (by (try dsimp only);rw [t1,decide_eq_false t2,t3];rfl))
      go_wp2
      go_ret
      exact ⟨by rw [Zci,hr.out];rfl,hwr⟩
  ·have e:k=x.slots.length:=by omega
   have hr:=hall.out
   rw [e,List.take_length] at hr
   have hr:=Aside0.mk hr
   clear hall
   go_wp2
   go_ret
   exact ⟨by rw [Zci,hr.out];rfl,hwr⟩
def Zel (x:Pln) (c:Int):Int:=match x.cells[c.toNat]? with
 | some z=>z.node
 | none=>0
def begins (x:Pln) (way:Int):Int:=match x.ways[way.toNat]? with
 | some y=>Zel x y.frm
 | none=>0
def ends (x:Pln) (way:Int):Int:=match x.ways[way.toNat]? with
 | some y=>Zel x y.dst
 | none=>0
def Zhg (x:Pln):Prop:=∀ (j:Nat) (y:Wy),x.ways[j]? = some y→0≤y.frm∧y.frm<x.cells.length∧0≤y.dst∧y.dst<x.cells.length
theorem Zdl {x:Pln} {c:Int} {z:Cel} (h:x.cells[c.toNat]? = some z):Zel x c=z.node:=by rw [Zel,h]
theorem Ziz {x:Pln} {c:Int} {y:Wy} (h:x.ways[c.toNat]? = some y):begins x c=Zel x y.frm:=by rw [begins,h]
theorem Zqk {x:Pln} {c:Int} {y:Wy} (h:x.ways[c.toNat]? = some y):ends x c=Zel x y.dst:=by rw [ends,h]
def Zfe (x:Pln) (s:Slt):Bool:=inB s.node 0 (x.nodes-1)&&(inB s.way (-1) ((x.ways.length:Int)-1)&&(s.way == -1||begins x s.way==s.node))
def Zfn (x:Pln) (k:Nat):Bool:=match x.turns[k]? with
 | some t=>decide (t.length=x.slots.length)&&t.all fun c=>inB c (-1) ((x.cells.length:Int)-1)&&(decide (c<0)||Zel x c==(k:Int))
 | none=>false
def Zgg (x:Pln) (k:Nat):Bool:=match x.turns[(Zel x (k:Int)).toNat]? with
 | some t=>t.any fun c=>c==(k:Int)
 | none=>false
def Zdm (x:Pln) (k:Nat) (o:Ord):Bool:=if o.op=9 then decide (o.a<x.ways.length)&&(match x.ways[o.a.toNat]? with | some y=>y.frm==(k:Int) | none=>false) else if o.op=10 then decide (o.a<x.ways.length)&&(match x.ways[o.a.toNat]? with | some y=>y.dst==(k:Int) | none=>false) else true
def Zfs (x:Pln) (k:Nat):Bool:=match x.cells[k]? with
 | some z=>z.code.all (Zdm x k)
 | none=>false
def Zfy (x:Pln) (y:Wy):Bool:=y.guarded||(match x.cells[y.frm.toNat]?,x.cells[y.dst.toNat]? with | some a,some b=>Zeo a.lvl a.marks b.lvl b.marks | _,_=>false)
def hasP (p c:Int):Bool:=decide (0≤p)&&decide (p<c)
theorem Zma (p c:Int):hasP p c=inB p 0 (c-1):=by
 unfold hasP inB
 by_cases h:p<c
 ·rw [decide_eq_true h,decide_eq_true (show p≤c-1 by omega)]
 ·rw [decide_eq_false h,decide_eq_false (show ¬p≤c-1 by omega)]
theorem Zcv (p c:Int) (w:World) :
  Calls Tryz.prog 186 #[.int .i64 p,.int .i64 c] w fun e w'=>e=.returned (.bool (hasP p c))∧w'=w:=by
 go_enter Tryz.func186,Tryz.ntmps186
 go_wp2
 all_goals go_ret
 all_goals exact ⟨by simp [hasP, *] <;> omega,rfl⟩
theorem Zei (x:Pln) (cs:List Value) (w:World) (gp:Nat) (hP:allK w x kPln cs) (hN:∀ (i:Nat) (u:Value),cs[i]? = some u→w.cell? ⟨gp,i,none⟩=some u) (way:Int) (i0:0≤way) (i1:way<(x.ways.length:Int)) (hW:Zhg x) :
  Calls Tryz.prog 64 #[.pointer (some ⟨gp,0,none⟩),.int .i64 way] w fun e w'=>e=.returned (.int .i64 (begins x way))∧Below w.heap.size w w':=by
 obtain ⟨A1,c1,A2,c2,A3,c3,A4,c4,rfl,l1,r1,l2,r2,l3,r3,l4,r4⟩:=Zcs hP
 have hm1:=Zax r1
 have hm2:=Zax r2
 obtain ⟨y,hy⟩:=Zar x.ways (show way.toNat<x.ways.length by omega)
 obtain ⟨j0,j1,j2,j3⟩:=hW _ _ hy
 obtain ⟨z,hz⟩:=Zar x.cells (show y.frm.toNat<x.cells.length by omega)
 have hr:Aside0 (begins x way=z.node):=⟨by rw [Ziz hy,Zdl hz]⟩
 obtain ⟨ad,B1,d1,rfl,y0,y1,y2,y3,y4,m1,s1⟩:=Zhc r2 hy
 obtain ⟨bd,B2,d2,rfl,z0,z1,z2,z3,z4,m2,s2⟩:=Zed r1 hz
 have p3:w.cell? ⟨gp,3,none⟩=some (.slice (some bd) x.cells.length c1):=hN _ _ rfl
 have p4:w.cell? ⟨gp,4,none⟩=some (.slice (some ad) x.ways.length c2):=hN _ _ rfl
 clear hW s1 s2 hy hz hN
 go_enter Tryz.func64,Tryz.ntmps64
 go_upto_region 1 with (fail)
 go_quiet (fail)
 rename_i nq
 go_wp2
 go_ret
 exact ⟨by rw [hr.out];rfl,Zay brf_ nq⟩
theorem Zhu (x:Pln) (cs:List Value) (w:World) (gp:Nat) (hP:allK w x kPln cs) (hN:w.heap[gp]? = some (.cells cs.toArray 33 (0,0))) (way:Int) (i0:0≤way) (i1:way<(x.ways.length:Int)) (hW:Zhg x) :
  Calls Tryz.prog 64 #[.pointer (some ⟨gp,0,none⟩),.int .i64 way] w fun e w'=>e=.returned (.int .i64 (begins x way))∧Below w.heap.size w w':=Zei x cs w gp hP (fun i u h=>Zag hN (by simpa using h)) way i0 i1 hW
theorem Zft (x:Pln) (cs:List Value) (w:World) (gp:Nat) (hP:allK w x kPln cs) (hN:∀ (i:Nat) (u:Value),cs[i]? = some u→w.cell? ⟨gp,i,none⟩=some u) (way:Int) (i0:0≤way) (i1:way<(x.ways.length:Int)) (hW:Zhg x) :
  Calls Tryz.prog 65 #[.pointer (some ⟨gp,0,none⟩),.int .i64 way] w fun e w'=>e=.returned (.int .i64 (ends x way))∧Below w.heap.size w w':=by
 obtain ⟨A1,c1,A2,c2,A3,c3,A4,c4,rfl,l1,r1,l2,r2,l3,r3,l4,r4⟩:=Zcs hP
 have hm1:=Zax r1
 have hm2:=Zax r2
 obtain ⟨y,hy⟩:=Zar x.ways (show way.toNat<x.ways.length by omega)
 obtain ⟨j0,j1,j2,j3⟩:=hW _ _ hy
 obtain ⟨z,hz⟩:=Zar x.cells (show y.dst.toNat<x.cells.length by omega)
 have hr:Aside0 (ends x way=z.node):=⟨by rw [Zqk hy,Zdl hz]⟩
 obtain ⟨ad,B1,d1,rfl,y0,y1,y2,y3,y4,m1,s1⟩:=Zhc r2 hy
 obtain ⟨bd,B2,d2,rfl,z0,z1,z2,z3,z4,m2,s2⟩:=Zed r1 hz
 have p3:w.cell? ⟨gp,3,none⟩=some (.slice (some bd) x.cells.length c1):=hN _ _ rfl
 have p4:w.cell? ⟨gp,4,none⟩=some (.slice (some ad) x.ways.length c2):=hN _ _ rfl
 clear hW s1 s2 hy hz hN
 go_enter Tryz.func65,Tryz.ntmps65
 go_upto_region 1 with (fail)
 go_quiet (fail)
 rename_i nq
 go_wp2
 go_ret
 exact ⟨by rw [hr.out];rfl,Zay brf_ nq⟩
end Go.Proofs.YtaeckoinpllpnaaGreat
