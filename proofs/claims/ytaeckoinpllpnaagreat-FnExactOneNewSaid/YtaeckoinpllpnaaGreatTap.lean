/- Part 16 of the proof of its last text: this session's own texts, shortened and joined by a program of its own (wip/pack.py). -/
import Derived.Test.YtaeckoinpllpnaaGreatTal
import Derived.Test.YtaeckoinpllpnaaGreatTao
import Derived.Laws.EntriesVeiled
import Derived.Test.YtaeckoinpllpnaaGreatTaf
import Derived.Deep.QuietTactic
import Derived.BigQuiet
import Derived.Test.YtaeckoinpllpnaaGreatTag
set_option linter.unusedVariables false
set_option linter.unusedSimpArgs false
set_option maxHeartbeats 16000000
set_option maxRecDepth 100000
namespace Go.Proofs.YtaeckoinpllpnaaGreat
open Go.RowKit Go.Proofs.YtaeckoinpllpnaaGreatW.PrintWords
def chk (x:Pln):Nat→Bool
 | 0=>inB x.nodes 1 4
 | 1=>inB x.secret 0 4294967295
 | 2=>inB x.fuel 1 16
 | 3=>inB x.cells.length 1 8
 | 4=>x.cells.all (Zfc x.nodes)
 | 5=>decide (x.ways.length≤10)
 | 6=>x.ways.all (wyOk x.cells.length)
 | 7=>x.ways.all (Zfy x)
 | 8=>inB x.slots.length 1 12
 | 9=>x.slots.all (Zfe x)
 | 10=>(List.range x.nodes.toNat).all (fun k:Nat=>Zci x.slots (k:Int) (-1))
 | 11=>(List.range x.ways.length).all (fun k:Nat=>Zci x.slots (-1) (k:Int))
 | 12=>plan13 x
 | 13=>(List.range x.cells.length).all (fun k:Nat=>Zgg x k)
 | 14=>(List.range x.cells.length).all (fun k:Nat=>Zfs x k)
 | _=>true
theorem Zdc (x:Pln):Zcz x=(List.range 15).all (chk x):=by
 rw [show List.range 15=[0,1,2,3,4,5,6,7,8,9,10,11,12,13,14] from rfl]
 simp only [List.all_cons,List.all_nil,Bool.and_true,chk,Zcz]
theorem Zgi (c k:Int):errV false c k=.iface 228 (.agg #[.int .i64 c,.int .i64 k]):=rfl
theorem Zgj (c k:Int):errV true c k=.nilIface:=rfl
theorem Zkl {x:Pln} {k:Nat} (h:((List.range 15).take k).all (chk x)=true) (i:Nat) (hi:i<k) (hk:k≤15):chk x i=true:=by
 rw [List.all_eq_true] at h
 refine h i ?_
 rw [List.mem_iff_getElem]
 exact ⟨i,by simp;omega,by simp⟩
theorem Zot (x:Pln) (cs:List Value) (w:World) (gp:Nat) (hP:allK w x kPln cs) (hN:w.heap[gp]? = some (.cells cs.toArray 33 (0,0))) :
  Calls Tryz.prog 111 #[.pointer (some ⟨gp,0,none⟩)] w fun e w'=>(∃ (c:Int) (k:Nat),e=.returned (errV (Zcz x) c k))∧Below w.heap.size w w':=by
 have hw0:Below w.heap.size w (w.alloc (.cells #[.func (.func 154) #[] #[],.func (.func 155) #[] #[],.func (.func 156) #[] #[],.func (.func 157) #[] #[],.func (.func 158) #[] #[],.func (.func 159) #[] #[],.func (.func 160) #[] #[],.func (.func 161) #[] #[],.func (.func 162) #[] #[],.func (.func 163) #[] #[],.func (.func 164) #[] #[],.func (.func 165) #[] #[],.func (.func 166) #[] #[],.func (.func 167) #[] #[],.func (.func 168) #[] #[]] 202)):=(brf_).alloc nlr_ _
 go_enter Tryz.func111,Tryz.ntmps111
 go_wp2
 go_loopw [9] (fun i wr=>∃ k:Nat,k≤15∧i=.int .i64 k∧Aside0 (((List.range 15).take k).all (chk x)=true)∧Below w.heap.size w wr) (fun i _=>15-(intOf i).toNat)
 case atStart=>exact ⟨0,Nat.zero_le _,rfl,⟨rfl⟩,hw0⟩
 case round =>
  obtain ⟨k,hk,rfl,hall,hb⟩:=hrel
  have hall0:=hall.out
  rcases (show k=0∨k=1∨k=2∨k=3∨k=4∨k=5∨k=6∨k=7∨k=8∨k=9∨k=10∨k=11∨k=12∨k=13∨k=14∨k=15 by omega) with rfl | rfl | rfl | rfl | rfl | rfl | rfl | rfl | rfl | rfl | rfl | rfl | rfl | rfl | rfl | rfl
  ·have q:=Zon x _ wr gp (Zai hb hP) (Zab hN hb)
   clear hall0
   have hi:∀ w:World,(Instr.index 202 (.agg #[.func (.func 154) #[] #[],.func (.func 155) #[] #[],.func (.func 156) #[] #[],.func (.func 157) #[] #[],.func (.func 158) #[] #[],.func (.func 159) #[] #[],.func (.func 160) #[] #[],.func (.func 161) #[] #[],.func (.func 162) #[] #[],.func (.func 163) #[] #[],.func (.func 164) #[] #[],.func (.func 165) #[] #[],.func (.func 166) #[] #[],.func (.func 167) #[] #[],.func (.func 168) #[] #[]]) (.int .i64 0)).run Tryz.prog w=.ok (.func (.func 154) #[] #[]) w:=by intro w;kernel_rfl
   cases h:chk x 0
   ·rw [show inB x.nodes 1 4=false from h] at q
    simp only [Zgi] at q
    have hr:=Aside0.mk (Zcg (p:=chk x) (Zbe (show 0<15 by omega)) h)
    clear h hall
    go_wp2_with (go_at_call 154;with_reducible refine q.mono ?_;rintro e w1 ⟨⟨kk,rfl⟩,hb1⟩)
    go_ret
    exact ⟨⟨_,kk,by rw [Zdc,hr.out];rfl⟩,hb.trans (hb1.mono hb.size)⟩
   ·rw [show inB x.nodes 1 4=true from h] at q
    simp only [Zgj] at q
    have hr:=Aside0.mk (Zbi (p:=chk x) (Zbe (show 0<15 by omega)) hall.out h)
    clear h hall
    go_wp2_with (go_at_call 154;with_reducible refine q.mono ?_;rintro e w1 ⟨⟨kk,rfl⟩,hb1⟩)
    refine ⟨⟨1,by omega,rfl,hr,hb.trans (hb1.mono hb.size)⟩, ?_⟩
    simp [intOf]
  ·have q:=Znt x _ wr gp (Zai hb hP) (Zab hN hb)
   clear hall0
   have hi:∀ w:World,(Instr.index 202 (.agg #[.func (.func 154) #[] #[],.func (.func 155) #[] #[],.func (.func 156) #[] #[],.func (.func 157) #[] #[],.func (.func 158) #[] #[],.func (.func 159) #[] #[],.func (.func 160) #[] #[],.func (.func 161) #[] #[],.func (.func 162) #[] #[],.func (.func 163) #[] #[],.func (.func 164) #[] #[],.func (.func 165) #[] #[],.func (.func 166) #[] #[],.func (.func 167) #[] #[],.func (.func 168) #[] #[]]) (.int .i64 1)).run Tryz.prog w=.ok (.func (.func 155) #[] #[]) w:=by intro w;kernel_rfl
   cases h:chk x 1
   ·rw [show inB x.secret 0 4294967295=false from h] at q
    simp only [Zgi] at q
    have hr:=Aside0.mk (Zcg (p:=chk x) (Zbe (show 1<15 by omega)) h)
    clear h hall
    go_wp2_with (go_at_call 155;with_reducible refine q.mono ?_;rintro e w1 ⟨⟨kk,rfl⟩,hb1⟩)
    go_ret
    exact ⟨⟨_,kk,by rw [Zdc,hr.out];rfl⟩,hb.trans (hb1.mono hb.size)⟩
   ·rw [show inB x.secret 0 4294967295=true from h] at q
    simp only [Zgj] at q
    have hr:=Aside0.mk (Zbi (p:=chk x) (Zbe (show 1<15 by omega)) hall.out h)
    clear h hall
    go_wp2_with (go_at_call 155;with_reducible refine q.mono ?_;rintro e w1 ⟨⟨kk,rfl⟩,hb1⟩)
    refine ⟨⟨2,by omega,rfl,hr,hb.trans (hb1.mono hb.size)⟩, ?_⟩
    simp [intOf]
  ·have q:=Zqp x _ wr gp (Zai hb hP) (Zab hN hb)
   clear hall0
   have hi:∀ w:World,(Instr.index 202 (.agg #[.func (.func 154) #[] #[],.func (.func 155) #[] #[],.func (.func 156) #[] #[],.func (.func 157) #[] #[],.func (.func 158) #[] #[],.func (.func 159) #[] #[],.func (.func 160) #[] #[],.func (.func 161) #[] #[],.func (.func 162) #[] #[],.func (.func 163) #[] #[],.func (.func 164) #[] #[],.func (.func 165) #[] #[],.func (.func 166) #[] #[],.func (.func 167) #[] #[],.func (.func 168) #[] #[]]) (.int .i64 2)).run Tryz.prog w=.ok (.func (.func 156) #[] #[]) w:=by intro w;kernel_rfl
   cases h:chk x 2
   ·rw [show inB x.fuel 1 16=false from h] at q
    simp only [Zgi] at q
    have hr:=Aside0.mk (Zcg (p:=chk x) (Zbe (show 2<15 by omega)) h)
    clear h hall
    go_wp2_with (go_at_call 156;with_reducible refine q.mono ?_;rintro e w1 ⟨⟨kk,rfl⟩,hb1⟩)
    go_ret
    exact ⟨⟨_,kk,by rw [Zdc,hr.out];rfl⟩,hb.trans (hb1.mono hb.size)⟩
   ·rw [show inB x.fuel 1 16=true from h] at q
    simp only [Zgj] at q
    have hr:=Aside0.mk (Zbi (p:=chk x) (Zbe (show 2<15 by omega)) hall.out h)
    clear h hall
    go_wp2_with (go_at_call 156;with_reducible refine q.mono ?_;rintro e w1 ⟨⟨kk,rfl⟩,hb1⟩)
    refine ⟨⟨3,by omega,rfl,hr,hb.trans (hb1.mono hb.size)⟩, ?_⟩
    simp [intOf]
  ·have q:=Zka x _ wr gp (Zai hb hP) (Zab hN hb)
   clear hall0
   have hi:∀ w:World,(Instr.index 202 (.agg #[.func (.func 154) #[] #[],.func (.func 155) #[] #[],.func (.func 156) #[] #[],.func (.func 157) #[] #[],.func (.func 158) #[] #[],.func (.func 159) #[] #[],.func (.func 160) #[] #[],.func (.func 161) #[] #[],.func (.func 162) #[] #[],.func (.func 163) #[] #[],.func (.func 164) #[] #[],.func (.func 165) #[] #[],.func (.func 166) #[] #[],.func (.func 167) #[] #[],.func (.func 168) #[] #[]]) (.int .i64 3)).run Tryz.prog w=.ok (.func (.func 157) #[] #[]) w:=by intro w;kernel_rfl
   cases h:chk x 3
   ·rw [show inB x.cells.length 1 8=false from h] at q
    simp only [Zgi] at q
    have hr:=Aside0.mk (Zcg (p:=chk x) (Zbe (show 3<15 by omega)) h)
    clear h hall
    go_wp2_with (go_at_call 157;with_reducible refine q.mono ?_;rintro e w1 ⟨⟨kk,rfl⟩,hb1⟩)
    go_ret
    exact ⟨⟨_,kk,by rw [Zdc,hr.out];rfl⟩,hb.trans (hb1.mono hb.size)⟩
   ·rw [show inB x.cells.length 1 8=true from h] at q
    simp only [Zgj] at q
    have hr:=Aside0.mk (Zbi (p:=chk x) (Zbe (show 3<15 by omega)) hall.out h)
    clear h hall
    go_wp2_with (go_at_call 157;with_reducible refine q.mono ?_;rintro e w1 ⟨⟨kk,rfl⟩,hb1⟩)
    refine ⟨⟨4,by omega,rfl,hr,hb.trans (hb1.mono hb.size)⟩, ?_⟩
    simp [intOf]
  ·have q:=Zoo x _ wr gp (Zai hb hP) (Zab hN hb)
   clear hall0
   have hi:∀ w:World,(Instr.index 202 (.agg #[.func (.func 154) #[] #[],.func (.func 155) #[] #[],.func (.func 156) #[] #[],.func (.func 157) #[] #[],.func (.func 158) #[] #[],.func (.func 159) #[] #[],.func (.func 160) #[] #[],.func (.func 161) #[] #[],.func (.func 162) #[] #[],.func (.func 163) #[] #[],.func (.func 164) #[] #[],.func (.func 165) #[] #[],.func (.func 166) #[] #[],.func (.func 167) #[] #[],.func (.func 168) #[] #[]]) (.int .i64 4)).run Tryz.prog w=.ok (.func (.func 158) #[] #[]) w:=by intro w;kernel_rfl
   cases h:chk x 4
   ·rw [show x.cells.all (Zfc x.nodes)=false from h] at q
    simp only [Zgi] at q
    have hr:=Aside0.mk (Zcg (p:=chk x) (Zbe (show 4<15 by omega)) h)
    clear h hall
    go_wp2_with (go_at_call 158;with_reducible refine q.mono ?_;rintro e w1 ⟨⟨kk,rfl⟩,hb1⟩)
    go_ret
    exact ⟨⟨_,kk,by rw [Zdc,hr.out];rfl⟩,hb.trans (hb1.mono hb.size)⟩
   ·rw [show x.cells.all (Zfc x.nodes)=true from h] at q
    simp only [Zgj] at q
    have hr:=Aside0.mk (Zbi (p:=chk x) (Zbe (show 4<15 by omega)) hall.out h)
    clear h hall
    go_wp2_with (go_at_call 158;with_reducible refine q.mono ?_;rintro e w1 ⟨⟨kk,rfl⟩,hb1⟩)
    refine ⟨⟨5,by omega,rfl,hr,hb.trans (hb1.mono hb.size)⟩, ?_⟩
    simp [intOf]
  ·have q:=Zku x _ wr gp (Zai hb hP) (Zab hN hb)
   clear hall0
   have hi:∀ w:World,(Instr.index 202 (.agg #[.func (.func 154) #[] #[],.func (.func 155) #[] #[],.func (.func 156) #[] #[],.func (.func 157) #[] #[],.func (.func 158) #[] #[],.func (.func 159) #[] #[],.func (.func 160) #[] #[],.func (.func 161) #[] #[],.func (.func 162) #[] #[],.func (.func 163) #[] #[],.func (.func 164) #[] #[],.func (.func 165) #[] #[],.func (.func 166) #[] #[],.func (.func 167) #[] #[],.func (.func 168) #[] #[]]) (.int .i64 5)).run Tryz.prog w=.ok (.func (.func 159) #[] #[]) w:=by intro w;kernel_rfl
   cases h:chk x 5
   ·rw [show decide (x.ways.length≤10)=false from h] at q
    simp only [Zgi] at q
    have hr:=Aside0.mk (Zcg (p:=chk x) (Zbe (show 5<15 by omega)) h)
    clear h hall
    go_wp2_with (go_at_call 159;with_reducible refine q.mono ?_;rintro e w1 ⟨⟨kk,rfl⟩,hb1⟩)
    go_ret
    exact ⟨⟨_,kk,by rw [Zdc,hr.out];rfl⟩,hb.trans (hb1.mono hb.size)⟩
   ·rw [show decide (x.ways.length≤10)=true from h] at q
    simp only [Zgj] at q
    have hr:=Aside0.mk (Zbi (p:=chk x) (Zbe (show 5<15 by omega)) hall.out h)
    clear h hall
    go_wp2_with (go_at_call 159;with_reducible refine q.mono ?_;rintro e w1 ⟨⟨kk,rfl⟩,hb1⟩)
    refine ⟨⟨6,by omega,rfl,hr,hb.trans (hb1.mono hb.size)⟩, ?_⟩
    simp [intOf]
  ·have q:=Zqt x _ wr gp (Zai hb hP) (Zab hN hb)
   clear hall0
   have hi:∀ w:World,(Instr.index 202 (.agg #[.func (.func 154) #[] #[],.func (.func 155) #[] #[],.func (.func 156) #[] #[],.func (.func 157) #[] #[],.func (.func 158) #[] #[],.func (.func 159) #[] #[],.func (.func 160) #[] #[],.func (.func 161) #[] #[],.func (.func 162) #[] #[],.func (.func 163) #[] #[],.func (.func 164) #[] #[],.func (.func 165) #[] #[],.func (.func 166) #[] #[],.func (.func 167) #[] #[],.func (.func 168) #[] #[]]) (.int .i64 6)).run Tryz.prog w=.ok (.func (.func 160) #[] #[]) w:=by intro w;kernel_rfl
   cases h:chk x 6
   ·rw [show x.ways.all (wyOk x.cells.length)=false from h] at q
    simp only [Zgi] at q
    have hr:=Aside0.mk (Zcg (p:=chk x) (Zbe (show 6<15 by omega)) h)
    clear h hall
    go_wp2_with (go_at_call 160;with_reducible refine q.mono ?_;rintro e w1 ⟨⟨kk,rfl⟩,hb1⟩)
    go_ret
    exact ⟨⟨_,kk,by rw [Zdc,hr.out];rfl⟩,hb.trans (hb1.mono hb.size)⟩
   ·rw [show x.ways.all (wyOk x.cells.length)=true from h] at q
    simp only [Zgj] at q
    have hr:=Aside0.mk (Zbi (p:=chk x) (Zbe (show 6<15 by omega)) hall.out h)
    clear h hall
    go_wp2_with (go_at_call 160;with_reducible refine q.mono ?_;rintro e w1 ⟨⟨kk,rfl⟩,hb1⟩)
    refine ⟨⟨7,by omega,rfl,hr,hb.trans (hb1.mono hb.size)⟩, ?_⟩
    simp [intOf]
  ·have h6:=Zkl hall0 6 (by omega) (by omega)
   have q:=Zop x _ wr gp (Zai hb hP) (Zab hN hb) (Zja h6)
   clear hall0
   have hi:∀ w:World,(Instr.index 202 (.agg #[.func (.func 154) #[] #[],.func (.func 155) #[] #[],.func (.func 156) #[] #[],.func (.func 157) #[] #[],.func (.func 158) #[] #[],.func (.func 159) #[] #[],.func (.func 160) #[] #[],.func (.func 161) #[] #[],.func (.func 162) #[] #[],.func (.func 163) #[] #[],.func (.func 164) #[] #[],.func (.func 165) #[] #[],.func (.func 166) #[] #[],.func (.func 167) #[] #[],.func (.func 168) #[] #[]]) (.int .i64 7)).run Tryz.prog w=.ok (.func (.func 161) #[] #[]) w:=by intro w;kernel_rfl
   cases h:chk x 7
   ·rw [show x.ways.all (Zfy x)=false from h] at q
    simp only [Zgi] at q
    have hr:=Aside0.mk (Zcg (p:=chk x) (Zbe (show 7<15 by omega)) h)
    clear h hall
    go_wp2_with (go_at_call 161;with_reducible refine q.mono ?_;rintro e w1 ⟨⟨kk,rfl⟩,hb1⟩)
    go_ret
    exact ⟨⟨_,kk,by rw [Zdc,hr.out];rfl⟩,hb.trans (hb1.mono hb.size)⟩
   ·rw [show x.ways.all (Zfy x)=true from h] at q
    simp only [Zgj] at q
    have hr:=Aside0.mk (Zbi (p:=chk x) (Zbe (show 7<15 by omega)) hall.out h)
    clear h hall
    go_wp2_with (go_at_call 161;with_reducible refine q.mono ?_;rintro e w1 ⟨⟨kk,rfl⟩,hb1⟩)
    refine ⟨⟨8,by omega,rfl,hr,hb.trans (hb1.mono hb.size)⟩, ?_⟩
    simp [intOf]
  ·have q:=Zkb x _ wr gp (Zai hb hP) (Zab hN hb)
   clear hall0
   have hi:∀ w:World,(Instr.index 202 (.agg #[.func (.func 154) #[] #[],.func (.func 155) #[] #[],.func (.func 156) #[] #[],.func (.func 157) #[] #[],.func (.func 158) #[] #[],.func (.func 159) #[] #[],.func (.func 160) #[] #[],.func (.func 161) #[] #[],.func (.func 162) #[] #[],.func (.func 163) #[] #[],.func (.func 164) #[] #[],.func (.func 165) #[] #[],.func (.func 166) #[] #[],.func (.func 167) #[] #[],.func (.func 168) #[] #[]]) (.int .i64 8)).run Tryz.prog w=.ok (.func (.func 162) #[] #[]) w:=by intro w;kernel_rfl
   cases h:chk x 8
   ·rw [show inB x.slots.length 1 12=false from h] at q
    simp only [Zgi] at q
    have hr:=Aside0.mk (Zcg (p:=chk x) (Zbe (show 8<15 by omega)) h)
    clear h hall
    go_wp2_with (go_at_call 162;with_reducible refine q.mono ?_;rintro e w1 ⟨⟨kk,rfl⟩,hb1⟩)
    go_ret
    exact ⟨⟨_,kk,by rw [Zdc,hr.out];rfl⟩,hb.trans (hb1.mono hb.size)⟩
   ·rw [show inB x.slots.length 1 12=true from h] at q
    simp only [Zgj] at q
    have hr:=Aside0.mk (Zbi (p:=chk x) (Zbe (show 8<15 by omega)) hall.out h)
    clear h hall
    go_wp2_with (go_at_call 162;with_reducible refine q.mono ?_;rintro e w1 ⟨⟨kk,rfl⟩,hb1⟩)
    refine ⟨⟨9,by omega,rfl,hr,hb.trans (hb1.mono hb.size)⟩, ?_⟩
    simp [intOf]
  ·have h6:=Zkl hall0 6 (by omega) (by omega)
   have q:=Zoq x _ wr gp (Zai hb hP) (Zab hN hb) (Zja h6)
   clear hall0
   have hi:∀ w:World,(Instr.index 202 (.agg #[.func (.func 154) #[] #[],.func (.func 155) #[] #[],.func (.func 156) #[] #[],.func (.func 157) #[] #[],.func (.func 158) #[] #[],.func (.func 159) #[] #[],.func (.func 160) #[] #[],.func (.func 161) #[] #[],.func (.func 162) #[] #[],.func (.func 163) #[] #[],.func (.func 164) #[] #[],.func (.func 165) #[] #[],.func (.func 166) #[] #[],.func (.func 167) #[] #[],.func (.func 168) #[] #[]]) (.int .i64 9)).run Tryz.prog w=.ok (.func (.func 163) #[] #[]) w:=by intro w;kernel_rfl
   cases h:chk x 9
   ·rw [show x.slots.all (Zfe x)=false from h] at q
    simp only [Zgi] at q
    have hr:=Aside0.mk (Zcg (p:=chk x) (Zbe (show 9<15 by omega)) h)
    clear h hall
    go_wp2_with (go_at_call 163;with_reducible refine q.mono ?_;rintro e w1 ⟨⟨kk,rfl⟩,hb1⟩)
    go_ret
    exact ⟨⟨_,kk,by rw [Zdc,hr.out];rfl⟩,hb.trans (hb1.mono hb.size)⟩
   ·rw [show x.slots.all (Zfe x)=true from h] at q
    simp only [Zgj] at q
    have hr:=Aside0.mk (Zbi (p:=chk x) (Zbe (show 9<15 by omega)) hall.out h)
    clear h hall
    go_wp2_with (go_at_call 163;with_reducible refine q.mono ?_;rintro e w1 ⟨⟨kk,rfl⟩,hb1⟩)
    refine ⟨⟨10,by omega,rfl,hr,hb.trans (hb1.mono hb.size)⟩, ?_⟩
    simp [intOf]
  ·have h0:=Zkl hall0 0 (by omega) (by omega)
   have q:=Znv x _ wr gp (Zai hb hP) (Zab hN hb) (by have:=Zeg h0;omega) (by have:=Zeg h0;omega)
   clear hall0
   have hi:∀ w:World,(Instr.index 202 (.agg #[.func (.func 154) #[] #[],.func (.func 155) #[] #[],.func (.func 156) #[] #[],.func (.func 157) #[] #[],.func (.func 158) #[] #[],.func (.func 159) #[] #[],.func (.func 160) #[] #[],.func (.func 161) #[] #[],.func (.func 162) #[] #[],.func (.func 163) #[] #[],.func (.func 164) #[] #[],.func (.func 165) #[] #[],.func (.func 166) #[] #[],.func (.func 167) #[] #[],.func (.func 168) #[] #[]]) (.int .i64 10)).run Tryz.prog w=.ok (.func (.func 164) #[] #[]) w:=by intro w;kernel_rfl
   cases h:chk x 10
   ·rw [show (List.range x.nodes.toNat).all (fun k:Nat=>Zci x.slots (k:Int) (-1))=false from h] at q
    simp only [Zgi] at q
    have hr:=Aside0.mk (Zcg (p:=chk x) (Zbe (show 10<15 by omega)) h)
    clear h hall
    go_wp2_with (go_at_call 164;with_reducible refine q.mono ?_;rintro e w1 ⟨⟨kk,rfl⟩,hb1⟩)
    go_ret
    exact ⟨⟨_,kk,by rw [Zdc,hr.out];rfl⟩,hb.trans (hb1.mono hb.size)⟩
   ·rw [show (List.range x.nodes.toNat).all (fun k:Nat=>Zci x.slots (k:Int) (-1))=true from h] at q
    simp only [Zgj] at q
    have hr:=Aside0.mk (Zbi (p:=chk x) (Zbe (show 10<15 by omega)) hall.out h)
    clear h hall
    go_wp2_with (go_at_call 164;with_reducible refine q.mono ?_;rintro e w1 ⟨⟨kk,rfl⟩,hb1⟩)
    refine ⟨⟨11,by omega,rfl,hr,hb.trans (hb1.mono hb.size)⟩, ?_⟩
    simp [intOf]
  ·have h4:=Zkl hall0 4 (by omega) (by omega)
   have h6:=Zkl hall0 6 (by omega) (by omega)
   have h9:=Zkl hall0 9 (by omega) (by omega)
   have q:=Zkx x _ wr gp (Zai hb hP) (Zab hN hb) (Zja h6) h4 h9
   clear hall0
   have hi:∀ w:World,(Instr.index 202 (.agg #[.func (.func 154) #[] #[],.func (.func 155) #[] #[],.func (.func 156) #[] #[],.func (.func 157) #[] #[],.func (.func 158) #[] #[],.func (.func 159) #[] #[],.func (.func 160) #[] #[],.func (.func 161) #[] #[],.func (.func 162) #[] #[],.func (.func 163) #[] #[],.func (.func 164) #[] #[],.func (.func 165) #[] #[],.func (.func 166) #[] #[],.func (.func 167) #[] #[],.func (.func 168) #[] #[]]) (.int .i64 11)).run Tryz.prog w=.ok (.func (.func 165) #[] #[]) w:=by intro w;kernel_rfl
   cases h:chk x 11
   ·rw [show (List.range x.ways.length).all (fun k:Nat=>Zci x.slots (-1) (k:Int))=false from h] at q
    simp only [Zgi] at q
    have hr:=Aside0.mk (Zcg (p:=chk x) (Zbe (show 11<15 by omega)) h)
    clear h hall
    go_wp2_with (go_at_call 165;with_reducible refine q.mono ?_;rintro e w1 ⟨⟨kk,rfl⟩,hb1⟩)
    go_ret
    exact ⟨⟨_,kk,by rw [Zdc,hr.out];rfl⟩,hb.trans (hb1.mono hb.size)⟩
   ·rw [show (List.range x.ways.length).all (fun k:Nat=>Zci x.slots (-1) (k:Int))=true from h] at q
    simp only [Zgj] at q
    have hr:=Aside0.mk (Zbi (p:=chk x) (Zbe (show 11<15 by omega)) hall.out h)
    clear h hall
    go_wp2_with (go_at_call 165;with_reducible refine q.mono ?_;rintro e w1 ⟨⟨kk,rfl⟩,hb1⟩)
    refine ⟨⟨12,by omega,rfl,hr,hb.trans (hb1.mono hb.size)⟩, ?_⟩
    simp [intOf]
  ·have h0:=Zkl hall0 0 (by omega) (by omega)
   have q:=Zos x _ wr gp (Zai hb hP) (Zab hN hb) (by have:=Zeg h0;omega) (by have:=Zeg h0;omega)
   clear hall0
   have hi:∀ w:World,(Instr.index 202 (.agg #[.func (.func 154) #[] #[],.func (.func 155) #[] #[],.func (.func 156) #[] #[],.func (.func 157) #[] #[],.func (.func 158) #[] #[],.func (.func 159) #[] #[],.func (.func 160) #[] #[],.func (.func 161) #[] #[],.func (.func 162) #[] #[],.func (.func 163) #[] #[],.func (.func 164) #[] #[],.func (.func 165) #[] #[],.func (.func 166) #[] #[],.func (.func 167) #[] #[],.func (.func 168) #[] #[]]) (.int .i64 12)).run Tryz.prog w=.ok (.func (.func 166) #[] #[]) w:=by intro w;kernel_rfl
   cases h:chk x 12
   ·rw [show plan13 x=false from h] at q
    simp only [Zgi] at q
    have hr:=Aside0.mk (Zcg (p:=chk x) (Zbe (show 12<15 by omega)) h)
    clear h hall
    go_wp2_with (go_at_call 166;with_reducible refine q.mono ?_;rintro e w1 ⟨⟨kk,rfl⟩,hb1⟩)
    go_ret
    exact ⟨⟨_,kk,by rw [Zdc,hr.out];rfl⟩,hb.trans (hb1.mono hb.size)⟩
   ·rw [show plan13 x=true from h] at q
    simp only [Zgj] at q
    have hr:=Aside0.mk (Zbi (p:=chk x) (Zbe (show 12<15 by omega)) hall.out h)
    clear h hall
    go_wp2_with (go_at_call 166;with_reducible refine q.mono ?_;rintro e w1 ⟨⟨kk,rfl⟩,hb1⟩)
    refine ⟨⟨13,by omega,rfl,hr,hb.trans (hb1.mono hb.size)⟩, ?_⟩
    simp [intOf]
  ·have h4:=Zkl hall0 4 (by omega) (by omega)
   have h12:=Zkl hall0 12 (by omega) (by omega)
   have q:=Zkc x _ wr gp (Zai hb hP) (Zab hN hb) (Zxq h12 h4)
   clear hall0
   have hi:∀ w:World,(Instr.index 202 (.agg #[.func (.func 154) #[] #[],.func (.func 155) #[] #[],.func (.func 156) #[] #[],.func (.func 157) #[] #[],.func (.func 158) #[] #[],.func (.func 159) #[] #[],.func (.func 160) #[] #[],.func (.func 161) #[] #[],.func (.func 162) #[] #[],.func (.func 163) #[] #[],.func (.func 164) #[] #[],.func (.func 165) #[] #[],.func (.func 166) #[] #[],.func (.func 167) #[] #[],.func (.func 168) #[] #[]]) (.int .i64 13)).run Tryz.prog w=.ok (.func (.func 167) #[] #[]) w:=by intro w;kernel_rfl
   cases h:chk x 13
   ·rw [show (List.range x.cells.length).all (fun k:Nat=>Zgg x k)=false from h] at q
    simp only [Zgi] at q
    have hr:=Aside0.mk (Zcg (p:=chk x) (Zbe (show 13<15 by omega)) h)
    clear h hall
    go_wp2_with (go_at_call 167;with_reducible refine q.mono ?_;rintro e w1 ⟨⟨kk,rfl⟩,hb1⟩)
    go_ret
    exact ⟨⟨_,kk,by rw [Zdc,hr.out];rfl⟩,hb.trans (hb1.mono hb.size)⟩
   ·rw [show (List.range x.cells.length).all (fun k:Nat=>Zgg x k)=true from h] at q
    simp only [Zgj] at q
    have hr:=Aside0.mk (Zbi (p:=chk x) (Zbe (show 13<15 by omega)) hall.out h)
    clear h hall
    go_wp2_with (go_at_call 167;with_reducible refine q.mono ?_;rintro e w1 ⟨⟨kk,rfl⟩,hb1⟩)
    refine ⟨⟨14,by omega,rfl,hr,hb.trans (hb1.mono hb.size)⟩, ?_⟩
    simp [intOf]
  ·have h4:=Zkl hall0 4 (by omega) (by omega)
   have q:=Zky x _ wr gp (Zai hb hP) (Zab hN hb) (Zxp h4)
   clear hall0
   have hi:∀ w:World,(Instr.index 202 (.agg #[.func (.func 154) #[] #[],.func (.func 155) #[] #[],.func (.func 156) #[] #[],.func (.func 157) #[] #[],.func (.func 158) #[] #[],.func (.func 159) #[] #[],.func (.func 160) #[] #[],.func (.func 161) #[] #[],.func (.func 162) #[] #[],.func (.func 163) #[] #[],.func (.func 164) #[] #[],.func (.func 165) #[] #[],.func (.func 166) #[] #[],.func (.func 167) #[] #[],.func (.func 168) #[] #[]]) (.int .i64 14)).run Tryz.prog w=.ok (.func (.func 168) #[] #[]) w:=by intro w;kernel_rfl
   cases h:chk x 14
   ·rw [show (List.range x.cells.length).all (fun k:Nat=>Zfs x k)=false from h] at q
    simp only [Zgi] at q
    have hr:=Aside0.mk (Zcg (p:=chk x) (Zbe (show 14<15 by omega)) h)
    clear h hall
    go_wp2_with (go_at_call 168;with_reducible refine q.mono ?_;rintro e w1 ⟨⟨kk,rfl⟩,hb1⟩)
    go_ret
    exact ⟨⟨_,kk,by rw [Zdc,hr.out];rfl⟩,hb.trans (hb1.mono hb.size)⟩
   ·rw [show (List.range x.cells.length).all (fun k:Nat=>Zfs x k)=true from h] at q
    simp only [Zgj] at q
    have hr:=Aside0.mk (Zbi (p:=chk x) (Zbe (show 14<15 by omega)) hall.out h)
    clear h hall
    go_wp2_with (go_at_call 168;with_reducible refine q.mono ?_;rintro e w1 ⟨⟨kk,rfl⟩,hb1⟩)
    refine ⟨⟨15,by omega,rfl,hr,hb.trans (hb1.mono hb.size)⟩, ?_⟩
    simp [intOf]
  ·have hr:=Aside0.mk (hall0.symm.trans (by rfl):true=(List.range 15).all (chk x))
   clear hall hall0
   go_wp2
   go_ret
   exact ⟨⟨0,0,by rw [Zdc,← hr.out];rfl⟩,hb⟩
theorem Zge (x:Pln) (cs:List Value) (w:World) (hP:allK w x kPln cs) :
  Calls Tryz.prog 66 #[.agg cs.toArray] w fun e w'=>e=.returned (.bool (Zcz x))∧Below w.heap.size w w':=by
 obtain ⟨A1,c1,A2,c2,A3,c3,A4,c4,rfl,l1,r1,l2,r2,l3,r3,l4,r4⟩:=Zcs hP
 have hw0:Below w.heap.size w (w.alloc (.cells #[.int .i64 x.nodes,.int .i64 x.secret,.int .i64 x.fuel,.slice A1 x.cells.length c1,.slice A2 x.ways.length c2,.slice A3 x.slots.length c3,.slice A4 x.turns.length c4] 33)):=(brf_).alloc nlr_ _
 have q:=Zot x _ (w.alloc (.cells #[.int .i64 x.nodes,.int .i64 x.secret,.int .i64 x.fuel,.slice A1 x.cells.length c1,.slice A2 x.ways.length c2,.slice A3 x.slots.length c3,.slice A4 x.turns.length c4] 33)) w.heap.size (Zai hw0 hP) (Zas w _)
 clear hP r1 r2 r3 r4
 cases hp:Zcz x
 ·rw [hp] at q
  simp only [Zgi,Zgj] at q
  go_enter Tryz.func66,Tryz.ntmps66
  go_wp2_with (go_at_call 111;with_reducible refine q.mono ?_;rintro e w1 ⟨⟨cc,kk,rfl⟩,hb1⟩)
  go_ret
  exact ⟨rfl,hw0.trans (hb1.mono hw0.size)⟩
 ·rw [hp] at q
  simp only [Zgi,Zgj] at q
  go_enter Tryz.func66,Tryz.ntmps66
  go_wp2_with (go_at_call 111;with_reducible refine q.mono ?_;rintro e w1 ⟨⟨cc,kk,rfl⟩,hb1⟩)
  go_ret
  exact ⟨rfl,hw0.trans (hb1.mono hw0.size)⟩
def Zee (x:Pln):Wld:=⟨x,List.replicate x.nodes.toNat (Zbm x 1 true),0,[],List.replicate x.cells.length []⟩
theorem Zqv {w:World} {g:Nat} {ps rest:List Value} {t:TypeId} {fr:Nat×Nat} (h:w.heap[g]? = some (.cells (ps++rest).toArray t fr)):Zio w g ps:=fun i u hu=>Zag h (by
 have hl:=(List.getElem?_eq_some_iff.1 hu).1
 simpa [List.getElem?_append_left hl] using hu)
theorem Zmk (A:Option Addr) (c m:Nat) (w:World) (hA:Rd Zbv w A (List.replicate m [])) :
  Calls Tryz.prog 150 #[.slice A m c,.int .i64 m] w fun e w'=>e=.returned (.bool true)∧Below w.heap.size w w':=by
 have hm:=Zax hA
 rw [List.length_replicate] at hm
 go_enter Tryz.func150,Tryz.ntmps150
 go_wp2
 go_loopw [15] (fun i wr=>∃ k:Nat,k≤m∧i=.int .i64 k∧Below w.heap.size w wr) (fun i _=>m-(intOf i).toNat)
 case atStart=>exact ⟨0,Nat.zero_le _,rfl,brf_⟩
 case round =>
  obtain ⟨k,hk,rfl,hb⟩:=hrel
  by_cases hlt:k<m
  ·have hg:(List.replicate m ([]:List Sight))[k]? = some []:=by rw [List.getElem?_replicate,if_pos hlt]
   obtain ⟨ad,B,d,rfl,y0,-,-⟩:=Zhd (Zac hA hb) hg
   have y0:wr.cell? (ad.add k)=some (.slice B 0 d):=y0
   go_wp2
   go_loopw [24] (fun i w2=>i=.int .i64 0∧Below w.heap.size w w2) (fun _ _=>0)
   case atStart=>exact ⟨rfl,hb⟩
   case round =>
    obtain ⟨rfl,hb2⟩:=hrel
    go_wp2
    refine ⟨⟨k+1,by omega,rfl,hb2⟩, ?_⟩
    simp [intOf]
    omega
  ·have e:k=m:=by omega
   subst e
   go_wp2
   go_ret
   exact ⟨rfl,hb⟩
theorem Zpx {w:World} {x:Pln} {n:Nat} {cs:List Value} (hn:x.nodes=(n:Int)) (h:allK w (Zee x) kWld cs) :
  ∃ B1 d1 B2 d2 B3 d3 B4 d4 B5 d5 B6 d6 B7 d7,cs=[.int .i64 x.nodes,.int .i64 x.secret,.int .i64 x.fuel,.slice B1 x.cells.length d1,.slice B2 x.ways.length d2,.slice B3 x.slots.length d3,.slice B4 x.turns.length d4,.slice B5 n d5,.int .i64 0,.slice B6 0 d6,.slice B7 x.cells.length d7]∧allK w x kPln [.int .i64 x.nodes,.int .i64 x.secret,.int .i64 x.fuel,.slice B1 x.cells.length d1,.slice B2 x.ways.length d2,.slice B3 x.slots.length d3,.slice B4 x.turns.length d4]∧Rd kNod w B5 (List.replicate n (Zbm x 1 true))∧Rd Zck w B6 []∧Rd Zbv w B7 (List.replicate x.cells.length []):=by
 obtain ⟨B1,d1,B2,d2,B3,d3,B4,d4,B5,d5,B6,d6,B7,d7,rfl,l1,r1,l2,r2,l3,r3,l4,r4,l5,r5,l6,r6,l7,r7⟩:=Zzr h
 have e:x.nodes.toNat=n:=by omega
 simp only [Zee,List.length_replicate,e,List.length_nil] at *
 exact ⟨B1,d1,B2,d2,B3,d3,B4,d4,B5,d5,B6,d6,B7,d7,rfl,⟨rfl,rfl,rfl,⟨_,_,rfl,l1,r1⟩,⟨_,_,rfl,l2,r2⟩,⟨_,_,rfl,l3,r3⟩,⟨_,_,rfl,l4,r4⟩,trivial⟩,r5,r6,r7⟩
theorem Zou (x:Pln) (n:Nat) (hx:Sane x n) (hok:Zcz x=true) (ws:List Value) (w:World) (gw:Nat) (hW:allK w (Zee x) kWld ws) (hN:w.heap[gw]? = some (.cells ws.toArray 56 (0,0))) :
  Calls Tryz.prog 107 #[.pointer (some ⟨gw,0,none⟩)] w fun e w'=>e=.returned (.bool true)∧Below w.heap.size w w':=by
 obtain ⟨B1,d1,B2,d2,B3,d3,B4,d4,B5,d5,B6,d6,B7,d7,rfl,hP,r5,r6,r7⟩:=Zpx hx.hn hW
 have hpk:Zio w gw [.int .i64 x.nodes,.int .i64 x.secret,.int .i64 x.fuel,.slice B1 x.cells.length d1,.slice B2 x.ways.length d2,.slice B3 x.slots.length d3,.slice B4 x.turns.length d4]:=Zqv (rest:=[.slice B5 n d5,.int .i64 0,.slice B6 0 d6,.slice B7 x.cells.length d7]) hN
 have hxx:=hx
 obtain ⟨hn,n1,n4,hcel,hway,hdep,hend,hnod⟩:=hx
 have qP:=fun (w1:World) (h:Below w.heap.size w w1)=>Zge x _ w1 (Zai h hP)
 rw [hok] at qP
 have qS:=fun (w1:World) (h:Below w.heap.size w w1)=>Zmk B7 d7 x.cells.length w1 (Zac r7 h)
 have hne:((n:Int) != x.nodes)=false:=by rw [hn];simp
 clear hn
 obtain ⟨g0,g1,g2,g3,g4,g5,g6,g7,g8,g9,g10⟩:=cellsP11 hN
 go_enter Tryz.func107,Tryz.ntmps107
 go_wp2_with (fail)
 refine Zan (by kernel_rfl) (by kernel_rfl) ?_
 have hx:=Zbg w
 repeat (go_big_quiet_step (first | (go_at_call 66;with_reducible exact Calls.ext_of_below (qP _ (Zam _ _)))))
 refine wpQuiet_nil ?_
 rintro _ ⟨wt,rfl⟩
 have hbx:=Zam w wt
 clear hx
 clear g0 g1 g2 g3 g4 g5 g6 g7 g8 g9 g10
 have N1:=Zab hN hbx
 generalize ext w wt=U at *
 obtain ⟨-,-,-,-,-,-,-,g7⟩:=cellsP8 N1
 go_wp2
 clear g7
 go_loopw [52] (fun i wr=>∃ k:Nat,k≤n∧i=.int .i64 k∧Below w.heap.size w wr) (fun i _=>n-(intOf i).toNat)
 case atStart=>exact ⟨0,Nat.zero_le _,rfl,hbx⟩
 case round =>
  obtain ⟨k,hk,rfl,hb⟩:=hrel
  have N2:=Zab hN hb
  by_cases hlt:k<n
  ·have hg:(List.replicate n (Zbm x 1 true))[k]? = some (Zbm x 1 true):=by rw [List.getElem?_replicate,if_pos hlt]
   obtain ⟨ad,ns,eA,hk9,h0,hi⟩:=Zce r5 hg
   obtain ⟨A1,c1,A2,c2,A3,c3,A4,c4,A5,c5,A6,c6,A7,c7,rfl,hR⟩:=Zmb hxx.hn hk9
   subst eA
   have hNo:Zqo w (ad.add (k*10)) _:=⟨h0,hi⟩
   have qN:=fun (w1:World) (h:Below w.heap.size w w1)=>Zom x n hxx _ w1 gw (Zai h hP) (hpk.below h) (ad.add (k*10)) A1 A2 A3 A4 A5 A6 A7 c1 c2 c3 c4 c5 c6 c7 (hR.below h) (hNo.below h) k hlt
   clear h0 hi hk9 hg
   obtain ⟨-,-,-,-,-,-,-,g7⟩:=cellsP8 N2
   go_wp2_with (fail)
   refine Zan (by kernel_rfl) (by kernel_rfl) ?_
   have hx:=Zbg wr
   repeat (go_big_quiet_step (first | (go_at_call 149;with_reducible exact Calls.ext_of_below (qN _ (hb.trans ((Zam _ _).mono hb.size))))))
   refine wpQuiet_nil ?_
   rintro _ ⟨wt,rfl⟩
   have hby:=Zam wr wt
   clear hx
   go_wp2
   refine ⟨⟨k+1,by omega,rfl,hb.trans (hby.mono hb.size)⟩, ?_⟩
   simp [intOf]
   omega
  ·have e:k=n:=by omega
   subst e
   obtain ⟨-,-,-,-,-,-,-,-,-,g9⟩:=cellsP10 N2
   go_wp2
   clear g9
   go_loopw [73] (fun i wr=>i=.int .i64 0∧Below w.heap.size w wr) (fun _ _=>0)
   case atStart=>exact ⟨rfl,hb⟩
   case round =>
    obtain ⟨rfl,hb2⟩:=hrel
    have N3:=Zab hN hb2
    obtain ⟨-,-,-,g3,-,-,-,-,-,-,g10⟩:=cellsP11 N3
    go_wp2_with (fail)
    refine Zan (by kernel_rfl) (by kernel_rfl) ?_
    have hx:=Zbg wr
    repeat (go_big_quiet_step (first | (go_at_call 150;with_reducible exact Calls.ext_of_below (qS _ (hb2.trans ((Zam _ _).mono hb2.size))))))
    refine wpQuiet_nil ?_
    rintro _ ⟨wt,rfl⟩
    have hby:=Zam wr wt
    clear hx
    go_wp2
    go_ret
    exact ⟨rfl,hb2.trans (hby.mono hb2.size)⟩
theorem Zsj (x:Pln) (n:Nat) (hx:Sane x n) (hok:Zcz x=true) (ws:List Value) (w:World) (hW:allK w (Zee x) kWld ws) :
  Calls Tryz.prog 62 #[.agg ws.toArray] w fun e w'=>e=.returned (.bool true)∧Below w.heap.size w w':=by
 have hb0:=(Below.refl w.heap.size w).alloc nlr_ (.cells ws.toArray 56)
 have q:=Zou x n hx hok ws (w.alloc (.cells ws.toArray 56)) w.heap.size (Zai hb0 hW) (Zas w _)
 go_enter Tryz.func62,Tryz.ntmps62
 go_wp2_with (go_at_call 107;with_reducible refine q.mono ?_;rintro e w1 ⟨rfl,hb1⟩)
 go_ret
 exact ⟨rfl,hb0.trans (hb1.mono hb0.size)⟩
theorem Zov (o:Ord) (w:World) (s:ByteArray) (k1 k2 k3:Int) (hs:Zdu o.op=s) (hz:s.size=3) (hx0:∀ h:0<s.size,((s[0]'h).toNat:Int)=k1) (hx1:∀ h:1<s.size,((s[1]'h).toNat:Int)=k2) (hx2:∀ h:2<s.size,((s[2]'h).toNat:Int)=k3) (h1:fits k1 o.a=false) :
  Calls Tryz.prog 234 #[.agg #[.int .i64 o.op,.int .i64 o.a,.int .i64 o.b,.int .i64 o.c]] w fun e w'=>e=.returned (.bool (false))∧Below w.heap.size w w':=by
 have hsh:=Zfb o.op (w.alloc (.cells #[.int .i64 o.op,.int .i64 o.a,.int .i64 o.b,.int .i64 o.c] 181))
 rw [hs] at hsh
 have hb0:Below w.heap.size w (w.alloc (.cells #[.int .i64 o.op,.int .i64 o.a,.int .i64 o.b,.int .i64 o.c] 181)):=(brf_).alloc nlr_ _
 have N0:=Zas w (.cells #[.int .i64 o.op,.int .i64 o.a,.int .i64 o.b,.int .i64 o.c] 181)
 have q1:=fun w=>Zdx k1 o.a w
 rw [h1] at q1
 clear h1
 clear hs
 have z0:0<s.size:=by omega
 have z1:1<s.size:=by omega
 have z2:2<s.size:=by omega
 have hz':(s.size:Int)=3:=by omega
 have b3:((s.size:Int)==3)=true:=by rw [hz'];rfl
 have p0:(0<(s.size:Int))=True:=eq_true (by omega)
 have p1:(1<(s.size:Int))=True:=eq_true (by omega)
 have p2:(2<(s.size:Int))=True:=eq_true (by omega)
 replace z0:=eq_true z0
 replace z1:=eq_true z1
 replace z2:=eq_true z2
 clear hz hz'
 go_enter Tryz.func234,Tryz.ntmps234
 go_upto_region 2 with (go_at_call 242;refine hsh.mono ?_;rintro e w1 ⟨rfl,rfl⟩)
 generalize w.alloc (.cells #[.int .i64 o.op,.int .i64 o.a,.int .i64 o.b,.int .i64 o.c] 181)=W at *
 obtain ⟨-,g1,g2,g3⟩:=cellsP4 N0
 clear N0 hsh
 go_quiet (first
  | (go_at_call 243;with_reducible exact Calls.quiet_of_same (q1 _)))
 go_wp2
 go_ret
 exact ⟨rfl,Zay hb0 _⟩
theorem Zow (o:Ord) (w:World) (s:ByteArray) (k1 k2 k3:Int) (hs:Zdu o.op=s) (hz:s.size=3) (hx0:∀ h:0<s.size,((s[0]'h).toNat:Int)=k1) (hx1:∀ h:1<s.size,((s[1]'h).toNat:Int)=k2) (hx2:∀ h:2<s.size,((s[2]'h).toNat:Int)=k3) (h1:fits k1 o.a=true) (h2:fits k2 o.b=false) :
  Calls Tryz.prog 234 #[.agg #[.int .i64 o.op,.int .i64 o.a,.int .i64 o.b,.int .i64 o.c]] w fun e w'=>e=.returned (.bool (false))∧Below w.heap.size w w':=by
 have hsh:=Zfb o.op (w.alloc (.cells #[.int .i64 o.op,.int .i64 o.a,.int .i64 o.b,.int .i64 o.c] 181))
 rw [hs] at hsh
 have hb0:Below w.heap.size w (w.alloc (.cells #[.int .i64 o.op,.int .i64 o.a,.int .i64 o.b,.int .i64 o.c] 181)):=(brf_).alloc nlr_ _
 have N0:=Zas w (.cells #[.int .i64 o.op,.int .i64 o.a,.int .i64 o.b,.int .i64 o.c] 181)
 have q1:=fun w=>Zdx k1 o.a w
 rw [h1] at q1
 clear h1
 have q2:=fun w=>Zdx k2 o.b w
 rw [h2] at q2
 clear h2
 clear hs
 have z0:0<s.size:=by omega
 have z1:1<s.size:=by omega
 have z2:2<s.size:=by omega
 have hz':(s.size:Int)=3:=by omega
 have b3:((s.size:Int)==3)=true:=by rw [hz'];rfl
 have p0:(0<(s.size:Int))=True:=eq_true (by omega)
 have p1:(1<(s.size:Int))=True:=eq_true (by omega)
 have p2:(2<(s.size:Int))=True:=eq_true (by omega)
 replace z0:=eq_true z0
 replace z1:=eq_true z1
 replace z2:=eq_true z2
 clear hz hz'
 go_enter Tryz.func234,Tryz.ntmps234
 go_upto_region 2 with (go_at_call 242;refine hsh.mono ?_;rintro e w1 ⟨rfl,rfl⟩)
 generalize w.alloc (.cells #[.int .i64 o.op,.int .i64 o.a,.int .i64 o.b,.int .i64 o.c] 181)=W at *
 obtain ⟨-,g1,g2,g3⟩:=cellsP4 N0
 clear N0 hsh
 go_quiet (first
  | (go_at_call 243;with_reducible exact Calls.quiet_of_same (q1 _))
  | (go_at_call 243;with_reducible exact Calls.quiet_of_same (q2 _)))
 go_wp2
 go_ret
 exact ⟨rfl,Zay hb0 _⟩
theorem Zml (o:Ord) (w:World) (s:ByteArray) (k1 k2 k3:Int) (hs:Zdu o.op=s) (hz:s.size=3) (hx0:∀ h:0<s.size,((s[0]'h).toNat:Int)=k1) (hx1:∀ h:1<s.size,((s[1]'h).toNat:Int)=k2) (hx2:∀ h:2<s.size,((s[2]'h).toNat:Int)=k3) (h1:fits k1 o.a=true) (h2:fits k2 o.b=true) :
  Calls Tryz.prog 234 #[.agg #[.int .i64 o.op,.int .i64 o.a,.int .i64 o.b,.int .i64 o.c]] w fun e w'=>e=.returned (.bool (fits k3 o.c))∧Below w.heap.size w w':=by
 have hsh:=Zfb o.op (w.alloc (.cells #[.int .i64 o.op,.int .i64 o.a,.int .i64 o.b,.int .i64 o.c] 181))
 rw [hs] at hsh
 have hb0:Below w.heap.size w (w.alloc (.cells #[.int .i64 o.op,.int .i64 o.a,.int .i64 o.b,.int .i64 o.c] 181)):=(brf_).alloc nlr_ _
 have N0:=Zas w (.cells #[.int .i64 o.op,.int .i64 o.a,.int .i64 o.b,.int .i64 o.c] 181)
 have q1:=fun w=>Zdx k1 o.a w
 rw [h1] at q1
 clear h1
 have q2:=fun w=>Zdx k2 o.b w
 rw [h2] at q2
 clear h2
 have q3:=fun w=>Zdx k3 o.c w
 generalize fits k3 o.c=b3' at *
 clear hs
 have z0:0<s.size:=by omega
 have z1:1<s.size:=by omega
 have z2:2<s.size:=by omega
 have hz':(s.size:Int)=3:=by omega
 have b3:((s.size:Int)==3)=true:=by rw [hz'];rfl
 have p0:(0<(s.size:Int))=True:=eq_true (by omega)
 have p1:(1<(s.size:Int))=True:=eq_true (by omega)
 have p2:(2<(s.size:Int))=True:=eq_true (by omega)
 replace z0:=eq_true z0
 replace z1:=eq_true z1
 replace z2:=eq_true z2
 clear hz hz'
 go_enter Tryz.func234,Tryz.ntmps234
 go_upto_region 2 with (go_at_call 242;refine hsh.mono ?_;rintro e w1 ⟨rfl,rfl⟩)
 generalize w.alloc (.cells #[.int .i64 o.op,.int .i64 o.a,.int .i64 o.b,.int .i64 o.c] 181)=W at *
 obtain ⟨-,g1,g2,g3⟩:=cellsP4 N0
 clear N0 hsh
 go_quiet (first
  | (go_at_call 243;with_reducible exact Calls.quiet_of_same (q1 _))
  | (go_at_call 243;with_reducible exact Calls.quiet_of_same (q2 _))
  | (go_at_call 243;with_reducible exact Calls.quiet_of_same (q3 _)))
 go_wp2
 go_ret
 exact ⟨rfl,Zay hb0 _⟩
theorem Znw (o:Ord) (w:World) (hs:Zdu o.op=⟨#[]⟩) :
  Calls Tryz.prog 234 #[.agg #[.int .i64 o.op,.int .i64 o.a,.int .i64 o.b,.int .i64 o.c]] w fun e w'=>e=.returned (.bool false)∧Below w.heap.size w w':=by
 have hsh:=Zfb o.op (w.alloc (.cells #[.int .i64 o.op,.int .i64 o.a,.int .i64 o.b,.int .i64 o.c] 181))
 rw [hs] at hsh
 have hb0:Below w.heap.size w (w.alloc (.cells #[.int .i64 o.op,.int .i64 o.a,.int .i64 o.b,.int .i64 o.c] 181)):=(brf_).alloc nlr_ _
 obtain ⟨s,hse⟩:∃ s:ByteArray,s=⟨#[]⟩:=⟨_,rfl⟩
 rw [← hse] at hsh
 have b3:((s.size:Int)==3)=false:=by rw [hse];rfl
 clear hse hs
 go_enter Tryz.func234,Tryz.ntmps234
 go_upto_region 2 with (go_at_call 242;refine hsh.mono ?_;rintro e w1 ⟨rfl,rfl⟩)
 generalize w.alloc (.cells #[.int .i64 o.op,.int .i64 o.a,.int .i64 o.b,.int .i64 o.c] 181)=W at *
 go_quiet (fail)
 go_wp2
 go_ret
 exact ⟨rfl,Zay hb0 _⟩
theorem Zys (n:Int):(n==0)=inB n 0 0:=by
 by_cases h:n=0
 ·subst h;rfl
 ·rw [beq_eq_false_iff_ne.2 h]
  symm
  simp [inB]
  omega
theorem Zbo (o:Ord) (w:World) (s:ByteArray) (k1 k2 k3:Int) (hs:Zdu o.op=s) (hz:s.size=3) (hx0:∀ h:0<s.size,((s[0]'h).toNat:Int)=k1) (hx1:∀ h:1<s.size,((s[1]'h).toNat:Int)=k2) (hx2:∀ h:2<s.size,((s[2]'h).toNat:Int)=k3) :
  Calls Tryz.prog 234 #[.agg #[.int .i64 o.op,.int .i64 o.a,.int .i64 o.b,.int .i64 o.c]] w fun e w'=>e=.returned (.bool (fits k1 o.a&&(fits k2 o.b&&fits k3 o.c)))∧Below w.heap.size w w':=by
 cases h1:fits k1 o.a
 ·exact Zov o w s k1 k2 k3 hs hz hx0 hx1 hx2 h1
 ·cases h2:fits k2 o.b
  ·exact Zow o w s k1 k2 k3 hs hz hx0 hx1 hx2 h1 h2
  ·exact Zml o w s k1 k2 k3 hs hz hx0 hx1 hx2 h1 h2
theorem Zff (o:Ord) (w:World) :
  Calls Tryz.prog 234 #[.agg #[.int .i64 o.op,.int .i64 o.a,.int .i64 o.b,.int .i64 o.c]] w fun e w'=>e=.returned (.bool (Zeb o))∧Below w.heap.size w w':=by
 by_cases hc:1≤o.op∧o.op≤14
 ·have hin:inB o.op 1 14=true:=by simp [inB];omega
  have hc:o.op=1∨o.op=2∨o.op=3∨o.op=4∨o.op=5∨o.op=6∨o.op=7∨o.op=8∨o.op=9∨o.op=10∨o.op=11∨o.op=12∨o.op=13∨o.op=14:=by omega
  have f1:∀ n,fits 114 n=inB n 0 3:=fun n=>rfl
  have f2:∀ n,fits 118 n=inB n 0 255:=fun n=>rfl
  have f3:∀ n,fits 112 n=inB n 0 24:=fun n=>rfl
  have f4:∀ n,fits 119 n=inB n 0 9:=fun n=>rfl
  have f5:∀ n,fits 45 n=inB n 0 0:=fun n=>(show fits 45 n=(n==0) from rfl).trans (Zys n)
  rcases hc with h | h | h | h | h | h | h | h | h | h | h | h | h | h
  ·refine (Zbo o w ⟨#[114,118,45]⟩ 114 118 45 (by simp [Zdu,h]) rfl (fun _=>rfl) (fun _=>rfl) (fun _=>rfl)).mono ?_
   rintro e w1 ⟨rfl,hb⟩
   exact ⟨by rw [Zeb,hin,h,Bool.and_assoc];simp only [f1,f2,f3,f4,f5];rfl,hb⟩
  ·refine (Zbo o w ⟨#[114,114,45]⟩ 114 114 45 (by simp [Zdu,h]) rfl (fun _=>rfl) (fun _=>rfl) (fun _=>rfl)).mono ?_
   rintro e w1 ⟨rfl,hb⟩
   exact ⟨by rw [Zeb,hin,h,Bool.and_assoc];simp only [f1,f2,f3,f4,f5];rfl,hb⟩
  ·refine (Zbo o w ⟨#[114,114,45]⟩ 114 114 45 (by simp [Zdu,h]) rfl (fun _=>rfl) (fun _=>rfl) (fun _=>rfl)).mono ?_
   rintro e w1 ⟨rfl,hb⟩
   exact ⟨by rw [Zeb,hin,h,Bool.and_assoc];simp only [f1,f2,f3,f4,f5];rfl,hb⟩
  ·refine (Zbo o w ⟨#[114,114,45]⟩ 114 114 45 (by simp [Zdu,h]) rfl (fun _=>rfl) (fun _=>rfl) (fun _=>rfl)).mono ?_
   rintro e w1 ⟨rfl,hb⟩
   exact ⟨by rw [Zeb,hin,h,Bool.and_assoc];simp only [f1,f2,f3,f4,f5];rfl,hb⟩
  ·refine (Zbo o w ⟨#[114,114,114]⟩ 114 114 114 (by simp [Zdu,h]) rfl (fun _=>rfl) (fun _=>rfl) (fun _=>rfl)).mono ?_
   rintro e w1 ⟨rfl,hb⟩
   exact ⟨by rw [Zeb,hin,h,Bool.and_assoc];simp only [f1,f2,f3,f4,f5];rfl,hb⟩
  ·refine (Zbo o w ⟨#[114,114,45]⟩ 114 114 45 (by simp [Zdu,h]) rfl (fun _=>rfl) (fun _=>rfl) (fun _=>rfl)).mono ?_
   rintro e w1 ⟨rfl,hb⟩
   exact ⟨by rw [Zeb,hin,h,Bool.and_assoc];simp only [f1,f2,f3,f4,f5];rfl,hb⟩
  ·refine (Zbo o w ⟨#[114,114,45]⟩ 114 114 45 (by simp [Zdu,h]) rfl (fun _=>rfl) (fun _=>rfl) (fun _=>rfl)).mono ?_
   rintro e w1 ⟨rfl,hb⟩
   exact ⟨by rw [Zeb,hin,h,Bool.and_assoc];simp only [f1,f2,f3,f4,f5];rfl,hb⟩
  ·refine (Zbo o w ⟨#[112,114,45]⟩ 112 114 45 (by simp [Zdu,h]) rfl (fun _=>rfl) (fun _=>rfl) (fun _=>rfl)).mono ?_
   rintro e w1 ⟨rfl,hb⟩
   exact ⟨by rw [Zeb,hin,h,Bool.and_assoc];simp only [f1,f2,f3,f4,f5];rfl,hb⟩
  ·refine (Zbo o w ⟨#[119,114,114]⟩ 119 114 114 (by simp [Zdu,h]) rfl (fun _=>rfl) (fun _=>rfl) (fun _=>rfl)).mono ?_
   rintro e w1 ⟨rfl,hb⟩
   exact ⟨by rw [Zeb,hin,h,Bool.and_assoc];simp only [f1,f2,f3,f4,f5];rfl,hb⟩
  ·refine (Zbo o w ⟨#[119,114,114]⟩ 119 114 114 (by simp [Zdu,h]) rfl (fun _=>rfl) (fun _=>rfl) (fun _=>rfl)).mono ?_
   rintro e w1 ⟨rfl,hb⟩
   exact ⟨by rw [Zeb,hin,h,Bool.and_assoc];simp only [f1,f2,f3,f4,f5];rfl,hb⟩
  ·refine (Zbo o w ⟨#[114,114,45]⟩ 114 114 45 (by simp [Zdu,h]) rfl (fun _=>rfl) (fun _=>rfl) (fun _=>rfl)).mono ?_
   rintro e w1 ⟨rfl,hb⟩
   exact ⟨by rw [Zeb,hin,h,Bool.and_assoc];simp only [f1,f2,f3,f4,f5];rfl,hb⟩
  ·refine (Zbo o w ⟨#[114,45,45]⟩ 114 45 45 (by simp [Zdu,h]) rfl (fun _=>rfl) (fun _=>rfl) (fun _=>rfl)).mono ?_
   rintro e w1 ⟨rfl,hb⟩
   exact ⟨by rw [Zeb,hin,h,Bool.and_assoc];simp only [f1,f2,f3,f4,f5];rfl,hb⟩
  ·refine (Zbo o w ⟨#[45,45,45]⟩ 45 45 45 (by simp [Zdu,h]) rfl (fun _=>rfl) (fun _=>rfl) (fun _=>rfl)).mono ?_
   rintro e w1 ⟨rfl,hb⟩
   exact ⟨by rw [Zeb,hin,h,Bool.and_assoc];simp only [f1,f2,f3,f4,f5];rfl,hb⟩
  ·refine (Zbo o w ⟨#[45,45,45]⟩ 45 45 45 (by simp [Zdu,h]) rfl (fun _=>rfl) (fun _=>rfl) (fun _=>rfl)).mono ?_
   rintro e w1 ⟨rfl,hb⟩
   exact ⟨by rw [Zeb,hin,h,Bool.and_assoc];simp only [f1,f2,f3,f4,f5];rfl,hb⟩
 ·have hin:inB o.op 1 14=false:=by simp [inB];omega
  refine (Znw o w ?_).mono ?_
  ·unfold Zdu
   rw [if_neg (by omega),if_neg (by omega),if_neg (by omega),if_neg (by omega),if_neg (by omega),if_neg (by omega),if_neg (by omega)]
  ·rintro e w1 ⟨rfl,hb⟩
   exact ⟨by rw [Zeb,hin];rfl,hb⟩
theorem Zsk (A:Option Addr) (c:Nat) (xs:List Ord) (w:World) (hA:Rd kOrd w A xs) :
  Calls Tryz.prog 217 #[.slice A xs.length c] w fun e w'=>e=.returned (.bool (Zkn xs))∧Below w.heap.size w w':=by
 have hm:=Zax hA
 by_cases h4:xs.length≤24
 ·have hg4:decide (xs.length≤24)=true:=decide_eq_true h4
  go_enter Tryz.func217,Tryz.ntmps217
  go_wp2
  go_loopw [3] (fun i wr=>∃ k:Nat,k≤xs.length∧i=.int .i64 k∧Aside0 ((xs.take k).all (Zib xs.length)=true)∧Below w.heap.size w wr) (fun i _=>xs.length-(intOf i).toNat)
  case atStart=>exact ⟨0,Nat.zero_le _,rfl,⟨rfl⟩,brf_⟩
  case round =>
   obtain ⟨k,hk,rfl,hall,hb⟩:=hrel
   by_cases hlt:k<xs.length
   ·obtain ⟨x,hx⟩:=Zar xs hlt
    obtain ⟨ad,rfl,a0,a1,a2,a3⟩:=Zog (Zac hA hb) hx
    cases h1:Zeb x
    ·have hin:Aside0 (Zib xs.length x=false):=⟨by rw [Zib,h1];rfl⟩
     go_wp2_with (go_at_call 234;have hcon:=Zff x;refine (hcon _).mono ?_;rintro e w1 ⟨rfl,hb1⟩;rw [show Zeb x=false from h1];have hb2:=hb.trans (hb1.mono hb.size);have y0:=Zaa hb1 a0;have y1:=Zaa hb1 a1)
     go_ret
     exact ⟨by rw [Zkn,Zcg hx hin.out,Bool.and_false];rfl,hb2⟩
    ·by_cases h2:x.op=8
     ·by_cases h3:(xs.length:Int)<x.a
      ·have hin:Aside0 (Zib xs.length x=false):=⟨by rw [Zib,h1,decide_eq_true h3,h2];rfl⟩
       have d2:(x.op==8)=true:=by rw [h2];rfl
       have d3:=decide_eq_true h3
       clear h2
       go_wp2_with (go_at_call 234;have hcon:=Zff x;refine (hcon _).mono ?_;rintro e w1 ⟨rfl,hb1⟩;rw [show Zeb x=true from h1];have hb2:=hb.trans (hb1.mono hb.size);have y0:=Zaa hb1 a0;have y1:=Zaa hb1 a1)
       go_ret
       exact ⟨by rw [Zkn,Zcg hx hin.out,Bool.and_false];rfl,hb2⟩
      ·have hin:Aside0 (Zib xs.length x=true):=⟨by rw [Zib,h1,decide_eq_false h3,h2];rfl⟩
       have d2:(x.op==8)=true:=by rw [h2];rfl
       have d3:=decide_eq_false h3
       clear h2
       go_wp2_with (go_at_call 234;have hcon:=Zff x;refine (hcon _).mono ?_;rintro e w1 ⟨rfl,hb1⟩;rw [show Zeb x=true from h1];have hb2:=hb.trans (hb1.mono hb.size);have y0:=Zaa hb1 a0;have y1:=Zaa hb1 a1)
       refine ⟨⟨k+1,by omega,rfl,⟨Zbi hx hall.out hin.out⟩,hb2⟩, ?_⟩
       simp [intOf]
       omega
     ·have d2:(x.op==8)=false:=beq_eq_false_iff_ne.2 h2
      have hin:Aside0 (Zib xs.length x=true):=⟨by rw [Zib,h1,d2];rfl⟩
      clear h2
      go_wp2_with (go_at_call 234;have hcon:=Zff x;refine (hcon _).mono ?_;rintro e w1 ⟨rfl,hb1⟩;rw [show Zeb x=true from h1];have hb2:=hb.trans (hb1.mono hb.size);have y0:=Zaa hb1 a0;have y1:=Zaa hb1 a1)
      refine ⟨⟨k+1,by omega,rfl,⟨Zbi hx hall.out hin.out⟩,hb2⟩, ?_⟩
      simp [intOf]
      omega
   ·have e:k=xs.length:=by omega
    subst e
    have hall:=hall.out
    rw [List.take_length] at hall
    have hall:=Aside0.mk hall
    go_wp2
    go_ret
    exact ⟨by rw [Zkn,hall.out,hg4];rfl,hb⟩
 ·have hg4:decide (xs.length≤24)=false:=decide_eq_false h4
  have h5:(24:Int)<(xs.length:Int):=by omega
  go_enter Tryz.func217,Tryz.ntmps217
  go_wp2
  go_ret
  exact ⟨by rw [Zkn,hg4];rfl,brf_⟩
theorem Zqw (x:Pln) (cs:List Value) (w:World) (hP:allK w x kPln cs) (y:Cel) (B1:Option Addr) (d1:Nat) (hn:1≤x.nodes∧x.nodes≤4) (hB1:Rd kOrd w B1 y.code) :
  Calls Tryz.prog 177 #[.agg cs.toArray,.agg #[.int .i64 y.node,.int .i64 y.lvl,.int .i64 y.marks,.bool y.again,.slice B1 y.code.length d1]] w fun e w'=>e=.returned (.bool (Zfc x.nodes y))∧Below w.heap.size w w':=by
 obtain ⟨A1,c1,A2,c2,A3,c3,A4,c4,rfl,l1,r1,l2,r2,l3,r3,l4,r4⟩:=Zcs hP
 have hw0:Below w.heap.size w ((w.alloc (.cells #[.int .i64 x.nodes,.int .i64 x.secret,.int .i64 x.fuel,.slice A1 x.cells.length c1,.slice A2 x.ways.length c2,.slice A3 x.slots.length c3,.slice A4 x.turns.length c4] 33)).alloc (.cells #[.int .i64 y.node,.int .i64 y.lvl,.int .i64 y.marks,.bool y.again,.slice B1 y.code.length d1] 107)):=((brf_).alloc nlr_ _).alloc (by simp) _
 have q1:=fun w=>Zaz y.node 0 (x.nodes-1) w
 have q2:=fun w=>Zdp y.lvl y.marks w
 have q3:=fun w h=>Zsk B1 d1 y.code w h
 cases h1:inB y.node 0 (x.nodes-1)
 ·rw [h1] at q1
  have hr:Aside0 (Zfc x.nodes y=false):=⟨by rw [Zfc,h1];rfl⟩
  clear h1
  go_enter Tryz.func177,Tryz.ntmps177
  go_wp2_with (go_at_call 94;with_reducible refine (q1 _).mono ?_;rintro e w1 ⟨rfl,rfl⟩)
  go_ret
  exact ⟨by rw [hr.out];rfl,hw0⟩
 ·rw [h1] at q1
  cases h2:Zhl y.lvl y.marks
  ·rw [h2] at q2
   have hr:Aside0 (Zfc x.nodes y=false):=⟨by rw [Zfc,h1,h2];rfl⟩
   clear h1 h2
   go_enter Tryz.func177,Tryz.ntmps177
   go_wp2_with (first
    | (go_at_call 94;with_reducible refine (q1 _).mono ?_;rintro e w1 ⟨rfl,rfl⟩)
    | (go_at_call 216;with_reducible refine (q2 _).mono ?_;rintro e w2 ⟨rfl,hb2⟩;have hw2:=hw0.trans (hb2.mono hw0.size)))
   go_ret
   exact ⟨by rw [hr.out];rfl,hw2⟩
  ·rw [h2] at q2
   have hr:Aside0 (Zfc x.nodes y=Zkn y.code):=⟨by rw [Zfc,h1,h2];rfl⟩
   clear h1 h2
   go_enter Tryz.func177,Tryz.ntmps177
   go_wp2_with (first
    | (go_at_call 94;with_reducible refine (q1 _).mono ?_;rintro e w1 ⟨rfl,rfl⟩)
    | (go_at_call 216;with_reducible refine (q2 _).mono ?_;rintro e w2 ⟨rfl,hb2⟩;have hw2:=hw0.trans (hb2.mono hw0.size);have Ny:=Zab (Zbs (g:=w.heap.size+1) _ (.cells #[.int .i64 y.node,.int .i64 y.lvl,.int .i64 y.marks,.bool y.again,.slice B1 y.code.length d1] 107) (by simp)) hb2;have e4:w2.cell? ⟨w.heap.size+1,4,none⟩=some (.slice B1 y.code.length d1):=Zag Ny rfl)
    | (go_at_call 217;with_reducible refine (q3 _ (Zac hB1 hw2)).mono ?_;rintro e w3 ⟨rfl,hb3⟩;have hw3:=hw2.trans (hb3.mono hw2.size)))
   go_ret
   exact ⟨by rw [hr.out];rfl,hw3⟩
end Go.Proofs.YtaeckoinpllpnaaGreat
