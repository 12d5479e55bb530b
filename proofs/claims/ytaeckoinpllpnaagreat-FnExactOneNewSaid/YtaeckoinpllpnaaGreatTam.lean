/- Part 13 of the proof of its last text: this session's own texts, shortened and joined by a program of its own (wip/pack.py). -/
import Derived.Test.YtaeckoinpllpnaaGreatTad
set_option linter.unusedVariables false
set_option linter.unusedSimpArgs false
set_option maxHeartbeats 16000000
set_option maxRecDepth 100000
namespace Go.Proofs.YtaeckoinpllpnaaGreat
open Go.RowKit Go.Proofs.YtaeckoinpllpnaaGreatW.PrintWords
theorem Zcn (op:Int) (w:World) :
  Calls Tryz.prog 239 #[.int .i64 op] w fun e w'=>e=.returned (.bool (inB op 1 14))∧w'=w:=by
 go_enter Tryz.func239,Tryz.ntmps239
 go_wp2
 all_goals go_ret
 all_goals exact ⟨by simp [inB, *] <;> omega,rfl⟩
def Zdv (op:Int):ByteArray:=if op=1 then ⟨#[114,118]⟩ else if op=5 then ⟨#[114,114,114]⟩ else if op=8 then ⟨#[112,114]⟩ else if op=9∨op=10 then ⟨#[119,114,114]⟩ else if op=12 then ⟨#[114]⟩ else if op=13∨op=14 then ⟨#[]⟩ else ⟨#[114,114]⟩
theorem Zds (op:Int) (w:World) (h0:1≤op) (h1:op≤14) :
  Calls Tryz.prog 240 #[.int .i64 op] w fun e w'=>e=.returned (.string (Zdv op))∧w'=w:=by
 have hok:=Zcn op w
 rw [show inB op 1 14=true by simp [inB];omega] at hok
 have hc:op=1∨op=2∨op=3∨op=4∨op=5∨op=6∨op=7∨op=8∨op=9∨op=10∨op=11∨op=12∨op=13∨op=14:=by omega
 rcases hc with rfl | rfl | rfl | rfl | rfl | rfl | rfl | rfl | rfl | rfl | rfl | rfl | rfl | rfl
 ·have hi:∀ w:World,(Instr.index 256 (.agg #[.string ⟨#[]⟩,.string ⟨#[114,118]⟩,.string ⟨#[114,114]⟩,.string ⟨#[114,114]⟩,.string ⟨#[114,114]⟩,.string ⟨#[114,114,114]⟩,.string ⟨#[114,114]⟩,.string ⟨#[114,114]⟩,.string ⟨#[112,114]⟩,.string ⟨#[119,114,114]⟩,.string ⟨#[119,114,114]⟩,.string ⟨#[114,114]⟩,.string ⟨#[114]⟩,.string ⟨#[]⟩,.string ⟨#[]⟩]) (.int .i64 1)).run Tryz.prog w=.ok (.string ⟨#[114,118]⟩) w:=by intro w;kernel_rfl
  go_enter Tryz.func240,Tryz.ntmps240
  go_wp2_with (go_at_call 239;refine hok.mono ?_;rintro e w1 ⟨rfl,rfl⟩;replace hi:=hi w1)
  go_ret
  exact ⟨rfl,rfl⟩
 ·have hi:∀ w:World,(Instr.index 256 (.agg #[.string ⟨#[]⟩,.string ⟨#[114,118]⟩,.string ⟨#[114,114]⟩,.string ⟨#[114,114]⟩,.string ⟨#[114,114]⟩,.string ⟨#[114,114,114]⟩,.string ⟨#[114,114]⟩,.string ⟨#[114,114]⟩,.string ⟨#[112,114]⟩,.string ⟨#[119,114,114]⟩,.string ⟨#[119,114,114]⟩,.string ⟨#[114,114]⟩,.string ⟨#[114]⟩,.string ⟨#[]⟩,.string ⟨#[]⟩]) (.int .i64 2)).run Tryz.prog w=.ok (.string ⟨#[114,114]⟩) w:=by intro w;kernel_rfl
  go_enter Tryz.func240,Tryz.ntmps240
  go_wp2_with (go_at_call 239;refine hok.mono ?_;rintro e w1 ⟨rfl,rfl⟩;replace hi:=hi w1)
  go_ret
  exact ⟨rfl,rfl⟩
 ·have hi:∀ w:World,(Instr.index 256 (.agg #[.string ⟨#[]⟩,.string ⟨#[114,118]⟩,.string ⟨#[114,114]⟩,.string ⟨#[114,114]⟩,.string ⟨#[114,114]⟩,.string ⟨#[114,114,114]⟩,.string ⟨#[114,114]⟩,.string ⟨#[114,114]⟩,.string ⟨#[112,114]⟩,.string ⟨#[119,114,114]⟩,.string ⟨#[119,114,114]⟩,.string ⟨#[114,114]⟩,.string ⟨#[114]⟩,.string ⟨#[]⟩,.string ⟨#[]⟩]) (.int .i64 3)).run Tryz.prog w=.ok (.string ⟨#[114,114]⟩) w:=by intro w;kernel_rfl
  go_enter Tryz.func240,Tryz.ntmps240
  go_wp2_with (go_at_call 239;refine hok.mono ?_;rintro e w1 ⟨rfl,rfl⟩;replace hi:=hi w1)
  go_ret
  exact ⟨rfl,rfl⟩
 ·have hi:∀ w:World,(Instr.index 256 (.agg #[.string ⟨#[]⟩,.string ⟨#[114,118]⟩,.string ⟨#[114,114]⟩,.string ⟨#[114,114]⟩,.string ⟨#[114,114]⟩,.string ⟨#[114,114,114]⟩,.string ⟨#[114,114]⟩,.string ⟨#[114,114]⟩,.string ⟨#[112,114]⟩,.string ⟨#[119,114,114]⟩,.string ⟨#[119,114,114]⟩,.string ⟨#[114,114]⟩,.string ⟨#[114]⟩,.string ⟨#[]⟩,.string ⟨#[]⟩]) (.int .i64 4)).run Tryz.prog w=.ok (.string ⟨#[114,114]⟩) w:=by intro w;kernel_rfl
  go_enter Tryz.func240,Tryz.ntmps240
  go_wp2_with (go_at_call 239;refine hok.mono ?_;rintro e w1 ⟨rfl,rfl⟩;replace hi:=hi w1)
  go_ret
  exact ⟨rfl,rfl⟩
 ·have hi:∀ w:World,(Instr.index 256 (.agg #[.string ⟨#[]⟩,.string ⟨#[114,118]⟩,.string ⟨#[114,114]⟩,.string ⟨#[114,114]⟩,.string ⟨#[114,114]⟩,.string ⟨#[114,114,114]⟩,.string ⟨#[114,114]⟩,.string ⟨#[114,114]⟩,.string ⟨#[112,114]⟩,.string ⟨#[119,114,114]⟩,.string ⟨#[119,114,114]⟩,.string ⟨#[114,114]⟩,.string ⟨#[114]⟩,.string ⟨#[]⟩,.string ⟨#[]⟩]) (.int .i64 5)).run Tryz.prog w=.ok (.string ⟨#[114,114,114]⟩) w:=by intro w;kernel_rfl
  go_enter Tryz.func240,Tryz.ntmps240
  go_wp2_with (go_at_call 239;refine hok.mono ?_;rintro e w1 ⟨rfl,rfl⟩;replace hi:=hi w1)
  go_ret
  exact ⟨rfl,rfl⟩
 ·have hi:∀ w:World,(Instr.index 256 (.agg #[.string ⟨#[]⟩,.string ⟨#[114,118]⟩,.string ⟨#[114,114]⟩,.string ⟨#[114,114]⟩,.string ⟨#[114,114]⟩,.string ⟨#[114,114,114]⟩,.string ⟨#[114,114]⟩,.string ⟨#[114,114]⟩,.string ⟨#[112,114]⟩,.string ⟨#[119,114,114]⟩,.string ⟨#[119,114,114]⟩,.string ⟨#[114,114]⟩,.string ⟨#[114]⟩,.string ⟨#[]⟩,.string ⟨#[]⟩]) (.int .i64 6)).run Tryz.prog w=.ok (.string ⟨#[114,114]⟩) w:=by intro w;kernel_rfl
  go_enter Tryz.func240,Tryz.ntmps240
  go_wp2_with (go_at_call 239;refine hok.mono ?_;rintro e w1 ⟨rfl,rfl⟩;replace hi:=hi w1)
  go_ret
  exact ⟨rfl,rfl⟩
 ·have hi:∀ w:World,(Instr.index 256 (.agg #[.string ⟨#[]⟩,.string ⟨#[114,118]⟩,.string ⟨#[114,114]⟩,.string ⟨#[114,114]⟩,.string ⟨#[114,114]⟩,.string ⟨#[114,114,114]⟩,.string ⟨#[114,114]⟩,.string ⟨#[114,114]⟩,.string ⟨#[112,114]⟩,.string ⟨#[119,114,114]⟩,.string ⟨#[119,114,114]⟩,.string ⟨#[114,114]⟩,.string ⟨#[114]⟩,.string ⟨#[]⟩,.string ⟨#[]⟩]) (.int .i64 7)).run Tryz.prog w=.ok (.string ⟨#[114,114]⟩) w:=by intro w;kernel_rfl
  go_enter Tryz.func240,Tryz.ntmps240
  go_wp2_with (go_at_call 239;refine hok.mono ?_;rintro e w1 ⟨rfl,rfl⟩;replace hi:=hi w1)
  go_ret
  exact ⟨rfl,rfl⟩
 ·have hi:∀ w:World,(Instr.index 256 (.agg #[.string ⟨#[]⟩,.string ⟨#[114,118]⟩,.string ⟨#[114,114]⟩,.string ⟨#[114,114]⟩,.string ⟨#[114,114]⟩,.string ⟨#[114,114,114]⟩,.string ⟨#[114,114]⟩,.string ⟨#[114,114]⟩,.string ⟨#[112,114]⟩,.string ⟨#[119,114,114]⟩,.string ⟨#[119,114,114]⟩,.string ⟨#[114,114]⟩,.string ⟨#[114]⟩,.string ⟨#[]⟩,.string ⟨#[]⟩]) (.int .i64 8)).run Tryz.prog w=.ok (.string ⟨#[112,114]⟩) w:=by intro w;kernel_rfl
  go_enter Tryz.func240,Tryz.ntmps240
  go_wp2_with (go_at_call 239;refine hok.mono ?_;rintro e w1 ⟨rfl,rfl⟩;replace hi:=hi w1)
  go_ret
  exact ⟨rfl,rfl⟩
 ·have hi:∀ w:World,(Instr.index 256 (.agg #[.string ⟨#[]⟩,.string ⟨#[114,118]⟩,.string ⟨#[114,114]⟩,.string ⟨#[114,114]⟩,.string ⟨#[114,114]⟩,.string ⟨#[114,114,114]⟩,.string ⟨#[114,114]⟩,.string ⟨#[114,114]⟩,.string ⟨#[112,114]⟩,.string ⟨#[119,114,114]⟩,.string ⟨#[119,114,114]⟩,.string ⟨#[114,114]⟩,.string ⟨#[114]⟩,.string ⟨#[]⟩,.string ⟨#[]⟩]) (.int .i64 9)).run Tryz.prog w=.ok (.string ⟨#[119,114,114]⟩) w:=by intro w;kernel_rfl
  go_enter Tryz.func240,Tryz.ntmps240
  go_wp2_with (go_at_call 239;refine hok.mono ?_;rintro e w1 ⟨rfl,rfl⟩;replace hi:=hi w1)
  go_ret
  exact ⟨rfl,rfl⟩
 ·have hi:∀ w:World,(Instr.index 256 (.agg #[.string ⟨#[]⟩,.string ⟨#[114,118]⟩,.string ⟨#[114,114]⟩,.string ⟨#[114,114]⟩,.string ⟨#[114,114]⟩,.string ⟨#[114,114,114]⟩,.string ⟨#[114,114]⟩,.string ⟨#[114,114]⟩,.string ⟨#[112,114]⟩,.string ⟨#[119,114,114]⟩,.string ⟨#[119,114,114]⟩,.string ⟨#[114,114]⟩,.string ⟨#[114]⟩,.string ⟨#[]⟩,.string ⟨#[]⟩]) (.int .i64 10)).run Tryz.prog w=.ok (.string ⟨#[119,114,114]⟩) w:=by intro w;kernel_rfl
  go_enter Tryz.func240,Tryz.ntmps240
  go_wp2_with (go_at_call 239;refine hok.mono ?_;rintro e w1 ⟨rfl,rfl⟩;replace hi:=hi w1)
  go_ret
  exact ⟨rfl,rfl⟩
 ·have hi:∀ w:World,(Instr.index 256 (.agg #[.string ⟨#[]⟩,.string ⟨#[114,118]⟩,.string ⟨#[114,114]⟩,.string ⟨#[114,114]⟩,.string ⟨#[114,114]⟩,.string ⟨#[114,114,114]⟩,.string ⟨#[114,114]⟩,.string ⟨#[114,114]⟩,.string ⟨#[112,114]⟩,.string ⟨#[119,114,114]⟩,.string ⟨#[119,114,114]⟩,.string ⟨#[114,114]⟩,.string ⟨#[114]⟩,.string ⟨#[]⟩,.string ⟨#[]⟩]) (.int .i64 11)).run Tryz.prog w=.ok (.string ⟨#[114,114]⟩) w:=by intro w;kernel_rfl
  go_enter Tryz.func240,Tryz.ntmps240
  go_wp2_with (go_at_call 239;refine hok.mono ?_;rintro e w1 ⟨rfl,rfl⟩;replace hi:=hi w1)
  go_ret
  exact ⟨rfl,rfl⟩
 ·have hi:∀ w:World,(Instr.index 256 (.agg #[.string ⟨#[]⟩,.string ⟨#[114,118]⟩,.string ⟨#[114,114]⟩,.string ⟨#[114,114]⟩,.string ⟨#[114,114]⟩,.string ⟨#[114,114,114]⟩,.string ⟨#[114,114]⟩,.string ⟨#[114,114]⟩,.string ⟨#[112,114]⟩,.string ⟨#[119,114,114]⟩,.string ⟨#[119,114,114]⟩,.string ⟨#[114,114]⟩,.string ⟨#[114]⟩,.string ⟨#[]⟩,.string ⟨#[]⟩]) (.int .i64 12)).run Tryz.prog w=.ok (.string ⟨#[114]⟩) w:=by intro w;kernel_rfl
  go_enter Tryz.func240,Tryz.ntmps240
  go_wp2_with (go_at_call 239;refine hok.mono ?_;rintro e w1 ⟨rfl,rfl⟩;replace hi:=hi w1)
  go_ret
  exact ⟨rfl,rfl⟩
 ·have hi:∀ w:World,(Instr.index 256 (.agg #[.string ⟨#[]⟩,.string ⟨#[114,118]⟩,.string ⟨#[114,114]⟩,.string ⟨#[114,114]⟩,.string ⟨#[114,114]⟩,.string ⟨#[114,114,114]⟩,.string ⟨#[114,114]⟩,.string ⟨#[114,114]⟩,.string ⟨#[112,114]⟩,.string ⟨#[119,114,114]⟩,.string ⟨#[119,114,114]⟩,.string ⟨#[114,114]⟩,.string ⟨#[114]⟩,.string ⟨#[]⟩,.string ⟨#[]⟩]) (.int .i64 13)).run Tryz.prog w=.ok (.string ⟨#[]⟩) w:=by intro w;kernel_rfl
  go_enter Tryz.func240,Tryz.ntmps240
  go_wp2_with (go_at_call 239;refine hok.mono ?_;rintro e w1 ⟨rfl,rfl⟩;replace hi:=hi w1)
  go_ret
  exact ⟨rfl,rfl⟩
 ·have hi:∀ w:World,(Instr.index 256 (.agg #[.string ⟨#[]⟩,.string ⟨#[114,118]⟩,.string ⟨#[114,114]⟩,.string ⟨#[114,114]⟩,.string ⟨#[114,114]⟩,.string ⟨#[114,114,114]⟩,.string ⟨#[114,114]⟩,.string ⟨#[114,114]⟩,.string ⟨#[112,114]⟩,.string ⟨#[119,114,114]⟩,.string ⟨#[119,114,114]⟩,.string ⟨#[114,114]⟩,.string ⟨#[114]⟩,.string ⟨#[]⟩,.string ⟨#[]⟩]) (.int .i64 14)).run Tryz.prog w=.ok (.string ⟨#[]⟩) w:=by intro w;kernel_rfl
  go_enter Tryz.func240,Tryz.ntmps240
  go_wp2_with (go_at_call 239;refine hok.mono ?_;rintro e w1 ⟨rfl,rfl⟩;replace hi:=hi w1)
  go_ret
  exact ⟨rfl,rfl⟩
def cmost (k:Int):Int:=if k=114 then 3 else if k=118 then 255 else if k=112 then 24 else if k=119 then 9 else 0
theorem Zcr (k:Int) (w:World) :
  Calls Tryz.prog 241 #[.int .u8 k] w fun e w'=>e=.returned (.int .i64 (cmost k))∧w'=w:=by
 go_enter Tryz.func241,Tryz.ntmps241
 go_wp2
 all_goals go_ret
 all_goals simp only [beq_iff_eq,beq_eq_false_iff_ne,ne_eq] at *
 all_goals exact ⟨by simp [cmost, *],by first | rfl | trivial⟩
theorem Zmg (o:Ord) (w:World) (h0:1≤o.op) (h1:o.op≤14) (hs:Zdv o.op=⟨#[114,118]⟩) :
  Calls Tryz.prog 230 #[.agg #[.int .i64 o.op,.int .i64 o.a,.int .i64 o.b,.int .i64 o.c]] w fun e w'=>e=.returned (.bool (inB o.a 0 3&&inB o.b 0 255&&inB o.c 0 0))∧Below w.heap.size w w':=by
 have hb0:Below w.heap.size w (w.alloc (.cells #[.int .i64 o.op,.int .i64 o.a,.int .i64 o.b,.int .i64 o.c] 181)):=(brf_).alloc nlr_ _
 have hok:=fun w=>Zcn o.op w
 rw [show inB o.op 1 14=true by simp [inB];omega] at hok
 have hki:=fun w=>Zds o.op w h0 h1
 rw [hs] at hki
 clear h0 h1 hs
 have hi0:∀ w:World,(Instr.index 251 (.agg #[.int .i64 o.a,.int .i64 o.b,.int .i64 o.c]) (.int .i64 0)).run Tryz.prog w=.ok (.int .i64 o.a) w:=by intro w;kernel_rfl
 have hi1:∀ w:World,(Instr.index 251 (.agg #[.int .i64 o.a,.int .i64 o.b,.int .i64 o.c]) (.int .i64 1)).run Tryz.prog w=.ok (.int .i64 o.b) w:=by intro w;kernel_rfl
 have hi2:∀ w:World,(Instr.index 251 (.agg #[.int .i64 o.a,.int .i64 o.b,.int .i64 o.c]) (.int .i64 2)).run Tryz.prog w=.ok (.int .i64 o.c) w:=by intro w;kernel_rfl
 have hj0:∀ w:World,(Instr.index 9 (.string ⟨#[114,118]⟩) (.int .i64 0)).run Tryz.prog w=.ok (.int .u8 114) w:=by intro w;kernel_rfl
 have hj1:∀ w:World,(Instr.index 9 (.string ⟨#[114,118]⟩) (.int .i64 1)).run Tryz.prog w=.ok (.int .u8 118) w:=by intro w;kernel_rfl
 have qr:∀ w:World,Calls Tryz.prog 241 #[.int .u8 114] w fun e w'=>e=.returned (.int .i64 3)∧w'=w:=fun w=>Zcr 114 w
 have qv:∀ w:World,Calls Tryz.prog 241 #[.int .u8 118] w fun e w'=>e=.returned (.int .i64 255)∧w'=w:=fun w=>Zcr 118 w
 go_enter Tryz.func230,Tryz.ntmps230
 go_wp2_with (first
  | (go_at_call 239;refine (hok _).mono ?_;rintro e w1 ⟨rfl,rfl⟩)
  | (go_at_call 240;refine (hki _).mono ?_;rintro e w1 ⟨rfl,rfl⟩))
 go_loopw [22] (fun i wr=>∃ k:Nat,k≤3∧i=.int .i64 k∧Aside0 ((0<k→inB o.a 0 3=true)∧(1<k→inB o.b 0 255=true)∧(2<k→inB o.c 0 0=true))∧wr=w.alloc (.cells #[.int .i64 o.op,.int .i64 o.a,.int .i64 o.b,.int .i64 o.c] 181)) (fun i _=>3-(intOf i).toNat)
 case atStart=>exact ⟨0,by omega,rfl,⟨by omega,by omega,by omega⟩,rfl⟩
 case round =>
  obtain ⟨k,hk,rfl,hin,rfl⟩:=hrel
  generalize w.alloc (.cells #[.int .i64 o.op,.int .i64 o.a,.int .i64 o.b,.int .i64 o.c] 181)=W at *
  have hk4:k=0∨k=1∨k=2∨k=3:=by omega
  rcases hk4 with rfl | rfl | rfl | rfl
  ·replace hi0:=hi0 W
   replace hj0:=hj0 W
   have hin:=hin.out
   by_cases hx0:o.a<0
   ·have hxb:inB o.a 0 3=false:=by simp [inB];omega
    have hxb:=Aside0.mk hxb
    go_wp2_with (go_at_call 241;refine (qr _).mono ?_;rintro e w1 ⟨rfl,rfl⟩)
    go_ret
    exact ⟨by first | rfl | (rw [hxb.out];simp),hb0⟩
   ·by_cases hx1:3<o.a
    ·have hxb:inB o.a 0 3=false:=by simp [inB];omega
     have hxb:=Aside0.mk hxb
     go_wp2_with (go_at_call 241;refine (qr _).mono ?_;rintro e w1 ⟨rfl,rfl⟩)
     go_ret
     exact ⟨by first | rfl | (rw [hxb.out];simp),hb0⟩
    ·have hxb:inB o.a 0 3=true:=by simp [inB];omega
     have hxb:=Aside0.mk hxb
     have hin:=Aside0.mk hin
     go_wp2_with (go_at_call 241;refine (qr _).mono ?_;rintro e w1 ⟨rfl,rfl⟩)
     refine ⟨⟨1,by omega,rfl,⟨fun _=>hxb.out,by omega,by omega⟩,by first | rfl | trivial⟩, ?_⟩
     simp [intOf]
  ·replace hi1:=hi1 W
   replace hj1:=hj1 W
   have hin:=hin.out
   by_cases hx0:o.b<0
   ·have hxb:inB o.b 0 255=false:=by simp [inB];omega
    have hxb:=Aside0.mk hxb
    go_wp2_with (go_at_call 241;refine (qv _).mono ?_;rintro e w1 ⟨rfl,rfl⟩)
    go_ret
    exact ⟨by first | rfl | (rw [hxb.out];simp),hb0⟩
   ·by_cases hx1:255<o.b
    ·have hxb:inB o.b 0 255=false:=by simp [inB];omega
     have hxb:=Aside0.mk hxb
     go_wp2_with (go_at_call 241;refine (qv _).mono ?_;rintro e w1 ⟨rfl,rfl⟩)
     go_ret
     exact ⟨by first | rfl | (rw [hxb.out];simp),hb0⟩
    ·have hxb:inB o.b 0 255=true:=by simp [inB];omega
     have hxb:=Aside0.mk hxb
     have hin:=Aside0.mk hin
     go_wp2_with (go_at_call 241;refine (qv _).mono ?_;rintro e w1 ⟨rfl,rfl⟩)
     refine ⟨⟨2,by omega,rfl,⟨fun _=>hin.out.1 (by omega),fun _=>hxb.out,by omega⟩,by first | rfl | trivial⟩, ?_⟩
     simp [intOf]
  ·replace hi2:=hi2 W
   have hin:=hin.out
   by_cases hx0:o.c<0
   ·have hxb:inB o.c 0 0=false:=by simp [inB];omega
    have hxb:=Aside0.mk hxb
    go_wp2
    go_ret
    exact ⟨by first | rfl | (rw [hxb.out];simp),hb0⟩
   ·by_cases hx1:0<o.c
    ·have hxb:inB o.c 0 0=false:=by simp [inB];omega
     have hxb:=Aside0.mk hxb
     go_wp2
     go_ret
     exact ⟨by first | rfl | (rw [hxb.out];simp),hb0⟩
    ·have hxb:inB o.c 0 0=true:=by simp [inB];omega
     have hxb:=Aside0.mk hxb
     have hin:=Aside0.mk hin
     go_wp2
     refine ⟨⟨3,by omega,rfl,⟨fun _=>hin.out.1 (by omega),fun _=>hin.out.2.1 (by omega),fun _=>hxb.out⟩,by first | rfl | trivial⟩, ?_⟩
     simp [intOf]
  ·have hin:=hin.out
   have e1:=hin.1 (by omega)
   have e2:=hin.2.1 (by omega)
   have e3:=hin.2.2 (by omega)
   have ee:=Aside0.mk (And.intro e1 (And.intro e2 e3))
   clear hin e1 e2 e3
   go_wp2
   go_ret
   exact ⟨by rw [ee.out.1,ee.out.2.1,ee.out.2.2];rfl,hb0⟩
theorem Zdk (o:Ord) (w:World) (h0:1≤o.op) (h1:o.op≤14) (hs:Zdv o.op=⟨#[114,114]⟩) :
  Calls Tryz.prog 230 #[.agg #[.int .i64 o.op,.int .i64 o.a,.int .i64 o.b,.int .i64 o.c]] w fun e w'=>e=.returned (.bool (inB o.a 0 3&&inB o.b 0 3&&inB o.c 0 0))∧Below w.heap.size w w':=by
 have hb0:Below w.heap.size w (w.alloc (.cells #[.int .i64 o.op,.int .i64 o.a,.int .i64 o.b,.int .i64 o.c] 181)):=(brf_).alloc nlr_ _
 have hok:=fun w=>Zcn o.op w
 rw [show inB o.op 1 14=true by simp [inB];omega] at hok
 have hki:=fun w=>Zds o.op w h0 h1
 rw [hs] at hki
 clear h0 h1 hs
 have hi0:∀ w:World,(Instr.index 251 (.agg #[.int .i64 o.a,.int .i64 o.b,.int .i64 o.c]) (.int .i64 0)).run Tryz.prog w=.ok (.int .i64 o.a) w:=by intro w;kernel_rfl
 have hi1:∀ w:World,(Instr.index 251 (.agg #[.int .i64 o.a,.int .i64 o.b,.int .i64 o.c]) (.int .i64 1)).run Tryz.prog w=.ok (.int .i64 o.b) w:=by intro w;kernel_rfl
 have hi2:∀ w:World,(Instr.index 251 (.agg #[.int .i64 o.a,.int .i64 o.b,.int .i64 o.c]) (.int .i64 2)).run Tryz.prog w=.ok (.int .i64 o.c) w:=by intro w;kernel_rfl
 have hj0:∀ w:World,(Instr.index 9 (.string ⟨#[114,114]⟩) (.int .i64 0)).run Tryz.prog w=.ok (.int .u8 114) w:=by intro w;kernel_rfl
 have hj1:∀ w:World,(Instr.index 9 (.string ⟨#[114,114]⟩) (.int .i64 1)).run Tryz.prog w=.ok (.int .u8 114) w:=by intro w;kernel_rfl
 have qr:∀ w:World,Calls Tryz.prog 241 #[.int .u8 114] w fun e w'=>e=.returned (.int .i64 3)∧w'=w:=fun w=>Zcr 114 w
 go_enter Tryz.func230,Tryz.ntmps230
 go_wp2_with (first
  | (go_at_call 239;refine (hok _).mono ?_;rintro e w1 ⟨rfl,rfl⟩)
  | (go_at_call 240;refine (hki _).mono ?_;rintro e w1 ⟨rfl,rfl⟩))
 go_loopw [22] (fun i wr=>∃ k:Nat,k≤3∧i=.int .i64 k∧Aside0 ((0<k→inB o.a 0 3=true)∧(1<k→inB o.b 0 3=true)∧(2<k→inB o.c 0 0=true))∧wr=w.alloc (.cells #[.int .i64 o.op,.int .i64 o.a,.int .i64 o.b,.int .i64 o.c] 181)) (fun i _=>3-(intOf i).toNat)
 case atStart=>exact ⟨0,by omega,rfl,⟨by omega,by omega,by omega⟩,rfl⟩
 case round =>
  obtain ⟨k,hk,rfl,hin,rfl⟩:=hrel
  generalize w.alloc (.cells #[.int .i64 o.op,.int .i64 o.a,.int .i64 o.b,.int .i64 o.c] 181)=W at *
  have hk4:k=0∨k=1∨k=2∨k=3:=by omega
  rcases hk4 with rfl | rfl | rfl | rfl
  ·replace hi0:=hi0 W
   replace hj0:=hj0 W
   have hin:=hin.out
   by_cases hx0:o.a<0
   ·have hxb:inB o.a 0 3=false:=by simp [inB];omega
    have hxb:=Aside0.mk hxb
    go_wp2_with (go_at_call 241;refine (qr _).mono ?_;rintro e w1 ⟨rfl,rfl⟩)
    go_ret
    exact ⟨by first | rfl | (rw [hxb.out];simp),hb0⟩
   ·by_cases hx1:3<o.a
    ·have hxb:inB o.a 0 3=false:=by simp [inB];omega
     have hxb:=Aside0.mk hxb
     go_wp2_with (go_at_call 241;refine (qr _).mono ?_;rintro e w1 ⟨rfl,rfl⟩)
     go_ret
     exact ⟨by first | rfl | (rw [hxb.out];simp),hb0⟩
    ·have hxb:inB o.a 0 3=true:=by simp [inB];omega
     have hxb:=Aside0.mk hxb
     have hin:=Aside0.mk hin
     go_wp2_with (go_at_call 241;refine (qr _).mono ?_;rintro e w1 ⟨rfl,rfl⟩)
     refine ⟨⟨1,by omega,rfl,⟨fun _=>hxb.out,by omega,by omega⟩,by first | rfl | trivial⟩, ?_⟩
     simp [intOf]
  ·replace hi1:=hi1 W
   replace hj1:=hj1 W
   have hin:=hin.out
   by_cases hx0:o.b<0
   ·have hxb:inB o.b 0 3=false:=by simp [inB];omega
    have hxb:=Aside0.mk hxb
    go_wp2_with (go_at_call 241;refine (qr _).mono ?_;rintro e w1 ⟨rfl,rfl⟩)
    go_ret
    exact ⟨by first | rfl | (rw [hxb.out];simp),hb0⟩
   ·by_cases hx1:3<o.b
    ·have hxb:inB o.b 0 3=false:=by simp [inB];omega
     have hxb:=Aside0.mk hxb
     go_wp2_with (go_at_call 241;refine (qr _).mono ?_;rintro e w1 ⟨rfl,rfl⟩)
     go_ret
     exact ⟨by first | rfl | (rw [hxb.out];simp),hb0⟩
    ·have hxb:inB o.b 0 3=true:=by simp [inB];omega
     have hxb:=Aside0.mk hxb
     have hin:=Aside0.mk hin
     go_wp2_with (go_at_call 241;refine (qr _).mono ?_;rintro e w1 ⟨rfl,rfl⟩)
     refine ⟨⟨2,by omega,rfl,⟨fun _=>hin.out.1 (by omega),fun _=>hxb.out,by omega⟩,by first | rfl | trivial⟩, ?_⟩
     simp [intOf]
  ·replace hi2:=hi2 W
   have hin:=hin.out
   by_cases hx0:o.c<0
   ·have hxb:inB o.c 0 0=false:=by simp [inB];omega
    have hxb:=Aside0.mk hxb
    go_wp2
    go_ret
    exact ⟨by first | rfl | (rw [hxb.out];simp),hb0⟩
   ·by_cases hx1:0<o.c
    ·have hxb:inB o.c 0 0=false:=by simp [inB];omega
     have hxb:=Aside0.mk hxb
     go_wp2
     go_ret
     exact ⟨by first | rfl | (rw [hxb.out];simp),hb0⟩
    ·have hxb:inB o.c 0 0=true:=by simp [inB];omega
     have hxb:=Aside0.mk hxb
     have hin:=Aside0.mk hin
     go_wp2
     refine ⟨⟨3,by omega,rfl,⟨fun _=>hin.out.1 (by omega),fun _=>hin.out.2.1 (by omega),fun _=>hxb.out⟩,by first | rfl | trivial⟩, ?_⟩
     simp [intOf]
  ·have hin:=hin.out
   have e1:=hin.1 (by omega)
   have e2:=hin.2.1 (by omega)
   have e3:=hin.2.2 (by omega)
   have ee:=Aside0.mk (And.intro e1 (And.intro e2 e3))
   clear hin e1 e2 e3
   go_wp2
   go_ret
   exact ⟨by rw [ee.out.1,ee.out.2.1,ee.out.2.2];rfl,hb0⟩
theorem Zkv (o:Ord) (w:World) (h0:1≤o.op) (h1:o.op≤14) (hs:Zdv o.op=⟨#[114,114,114]⟩) :
  Calls Tryz.prog 230 #[.agg #[.int .i64 o.op,.int .i64 o.a,.int .i64 o.b,.int .i64 o.c]] w fun e w'=>e=.returned (.bool (inB o.a 0 3&&inB o.b 0 3&&inB o.c 0 3))∧Below w.heap.size w w':=by
 have hb0:Below w.heap.size w (w.alloc (.cells #[.int .i64 o.op,.int .i64 o.a,.int .i64 o.b,.int .i64 o.c] 181)):=(brf_).alloc nlr_ _
 have hok:=fun w=>Zcn o.op w
 rw [show inB o.op 1 14=true by simp [inB];omega] at hok
 have hki:=fun w=>Zds o.op w h0 h1
 rw [hs] at hki
 clear h0 h1 hs
 have hi0:∀ w:World,(Instr.index 251 (.agg #[.int .i64 o.a,.int .i64 o.b,.int .i64 o.c]) (.int .i64 0)).run Tryz.prog w=.ok (.int .i64 o.a) w:=by intro w;kernel_rfl
 have hi1:∀ w:World,(Instr.index 251 (.agg #[.int .i64 o.a,.int .i64 o.b,.int .i64 o.c]) (.int .i64 1)).run Tryz.prog w=.ok (.int .i64 o.b) w:=by intro w;kernel_rfl
 have hi2:∀ w:World,(Instr.index 251 (.agg #[.int .i64 o.a,.int .i64 o.b,.int .i64 o.c]) (.int .i64 2)).run Tryz.prog w=.ok (.int .i64 o.c) w:=by intro w;kernel_rfl
 have hj0:∀ w:World,(Instr.index 9 (.string ⟨#[114,114,114]⟩) (.int .i64 0)).run Tryz.prog w=.ok (.int .u8 114) w:=by intro w;kernel_rfl
 have hj1:∀ w:World,(Instr.index 9 (.string ⟨#[114,114,114]⟩) (.int .i64 1)).run Tryz.prog w=.ok (.int .u8 114) w:=by intro w;kernel_rfl
 have hj2:∀ w:World,(Instr.index 9 (.string ⟨#[114,114,114]⟩) (.int .i64 2)).run Tryz.prog w=.ok (.int .u8 114) w:=by intro w;kernel_rfl
 have qr:∀ w:World,Calls Tryz.prog 241 #[.int .u8 114] w fun e w'=>e=.returned (.int .i64 3)∧w'=w:=fun w=>Zcr 114 w
 go_enter Tryz.func230,Tryz.ntmps230
 go_wp2_with (first
  | (go_at_call 239;refine (hok _).mono ?_;rintro e w1 ⟨rfl,rfl⟩)
  | (go_at_call 240;refine (hki _).mono ?_;rintro e w1 ⟨rfl,rfl⟩))
 go_loopw [22] (fun i wr=>∃ k:Nat,k≤3∧i=.int .i64 k∧Aside0 ((0<k→inB o.a 0 3=true)∧(1<k→inB o.b 0 3=true)∧(2<k→inB o.c 0 3=true))∧wr=w.alloc (.cells #[.int .i64 o.op,.int .i64 o.a,.int .i64 o.b,.int .i64 o.c] 181)) (fun i _=>3-(intOf i).toNat)
 case atStart=>exact ⟨0,by omega,rfl,⟨by omega,by omega,by omega⟩,rfl⟩
 case round =>
  obtain ⟨k,hk,rfl,hin,rfl⟩:=hrel
  generalize w.alloc (.cells #[.int .i64 o.op,.int .i64 o.a,.int .i64 o.b,.int .i64 o.c] 181)=W at *
  have hk4:k=0∨k=1∨k=2∨k=3:=by omega
  rcases hk4 with rfl | rfl | rfl | rfl
  ·replace hi0:=hi0 W
   replace hj0:=hj0 W
   have hin:=hin.out
   by_cases hx0:o.a<0
   ·have hxb:inB o.a 0 3=false:=by simp [inB];omega
    have hxb:=Aside0.mk hxb
    go_wp2_with (go_at_call 241;refine (qr _).mono ?_;rintro e w1 ⟨rfl,rfl⟩)
    go_ret
    exact ⟨by first | rfl | (rw [hxb.out];simp),hb0⟩
   ·by_cases hx1:3<o.a
    ·have hxb:inB o.a 0 3=false:=by simp [inB];omega
     have hxb:=Aside0.mk hxb
     go_wp2_with (go_at_call 241;refine (qr _).mono ?_;rintro e w1 ⟨rfl,rfl⟩)
     go_ret
     exact ⟨by first | rfl | (rw [hxb.out];simp),hb0⟩
    ·have hxb:inB o.a 0 3=true:=by simp [inB];omega
     have hxb:=Aside0.mk hxb
     have hin:=Aside0.mk hin
     go_wp2_with (go_at_call 241;refine (qr _).mono ?_;rintro e w1 ⟨rfl,rfl⟩)
     refine ⟨⟨1,by omega,rfl,⟨fun _=>hxb.out,by omega,by omega⟩,by first | rfl | trivial⟩, ?_⟩
     simp [intOf]
  ·replace hi1:=hi1 W
   replace hj1:=hj1 W
   have hin:=hin.out
   by_cases hx0:o.b<0
   ·have hxb:inB o.b 0 3=false:=by simp [inB];omega
    have hxb:=Aside0.mk hxb
    go_wp2_with (go_at_call 241;refine (qr _).mono ?_;rintro e w1 ⟨rfl,rfl⟩)
    go_ret
    exact ⟨by first | rfl | (rw [hxb.out];simp),hb0⟩
   ·by_cases hx1:3<o.b
    ·have hxb:inB o.b 0 3=false:=by simp [inB];omega
     have hxb:=Aside0.mk hxb
     go_wp2_with (go_at_call 241;refine (qr _).mono ?_;rintro e w1 ⟨rfl,rfl⟩)
     go_ret
     exact ⟨by first | rfl | (rw [hxb.out];simp),hb0⟩
    ·have hxb:inB o.b 0 3=true:=by simp [inB];omega
     have hxb:=Aside0.mk hxb
     have hin:=Aside0.mk hin
     go_wp2_with (go_at_call 241;refine (qr _).mono ?_;rintro e w1 ⟨rfl,rfl⟩)
     refine ⟨⟨2,by omega,rfl,⟨fun _=>hin.out.1 (by omega),fun _=>hxb.out,by omega⟩,by first | rfl | trivial⟩, ?_⟩
     simp [intOf]
  ·replace hi2:=hi2 W
   replace hj2:=hj2 W
   have hin:=hin.out
   by_cases hx0:o.c<0
   ·have hxb:inB o.c 0 3=false:=by simp [inB];omega
    have hxb:=Aside0.mk hxb
    go_wp2_with (go_at_call 241;refine (qr _).mono ?_;rintro e w1 ⟨rfl,rfl⟩)
    go_ret
    exact ⟨by first | rfl | (rw [hxb.out];simp),hb0⟩
   ·by_cases hx1:3<o.c
    ·have hxb:inB o.c 0 3=false:=by simp [inB];omega
     have hxb:=Aside0.mk hxb
     go_wp2_with (go_at_call 241;refine (qr _).mono ?_;rintro e w1 ⟨rfl,rfl⟩)
     go_ret
     exact ⟨by first | rfl | (rw [hxb.out];simp),hb0⟩
    ·have hxb:inB o.c 0 3=true:=by simp [inB];omega
     have hxb:=Aside0.mk hxb
     have hin:=Aside0.mk hin
     go_wp2_with (go_at_call 241;refine (qr _).mono ?_;rintro e w1 ⟨rfl,rfl⟩)
     refine ⟨⟨3,by omega,rfl,⟨fun _=>hin.out.1 (by omega),fun _=>hin.out.2.1 (by omega),fun _=>hxb.out⟩,by first | rfl | trivial⟩, ?_⟩
     simp [intOf]
  ·have hin:=hin.out
   have e1:=hin.1 (by omega)
   have e2:=hin.2.1 (by omega)
   have e3:=hin.2.2 (by omega)
   have ee:=Aside0.mk (And.intro e1 (And.intro e2 e3))
   clear hin e1 e2 e3
   go_wp2
   go_ret
   exact ⟨by rw [ee.out.1,ee.out.2.1,ee.out.2.2];rfl,hb0⟩
theorem Zmh (o:Ord) (w:World) (h0:1≤o.op) (h1:o.op≤14) (hs:Zdv o.op=⟨#[112,114]⟩) :
  Calls Tryz.prog 230 #[.agg #[.int .i64 o.op,.int .i64 o.a,.int .i64 o.b,.int .i64 o.c]] w fun e w'=>e=.returned (.bool (inB o.a 0 24&&inB o.b 0 3&&inB o.c 0 0))∧Below w.heap.size w w':=by
 have hb0:Below w.heap.size w (w.alloc (.cells #[.int .i64 o.op,.int .i64 o.a,.int .i64 o.b,.int .i64 o.c] 181)):=(brf_).alloc nlr_ _
 have hok:=fun w=>Zcn o.op w
 rw [show inB o.op 1 14=true by simp [inB];omega] at hok
 have hki:=fun w=>Zds o.op w h0 h1
 rw [hs] at hki
 clear h0 h1 hs
 have hi0:∀ w:World,(Instr.index 251 (.agg #[.int .i64 o.a,.int .i64 o.b,.int .i64 o.c]) (.int .i64 0)).run Tryz.prog w=.ok (.int .i64 o.a) w:=by intro w;kernel_rfl
 have hi1:∀ w:World,(Instr.index 251 (.agg #[.int .i64 o.a,.int .i64 o.b,.int .i64 o.c]) (.int .i64 1)).run Tryz.prog w=.ok (.int .i64 o.b) w:=by intro w;kernel_rfl
 have hi2:∀ w:World,(Instr.index 251 (.agg #[.int .i64 o.a,.int .i64 o.b,.int .i64 o.c]) (.int .i64 2)).run Tryz.prog w=.ok (.int .i64 o.c) w:=by intro w;kernel_rfl
 have hj0:∀ w:World,(Instr.index 9 (.string ⟨#[112,114]⟩) (.int .i64 0)).run Tryz.prog w=.ok (.int .u8 112) w:=by intro w;kernel_rfl
 have hj1:∀ w:World,(Instr.index 9 (.string ⟨#[112,114]⟩) (.int .i64 1)).run Tryz.prog w=.ok (.int .u8 114) w:=by intro w;kernel_rfl
 have qp:∀ w:World,Calls Tryz.prog 241 #[.int .u8 112] w fun e w'=>e=.returned (.int .i64 24)∧w'=w:=fun w=>Zcr 112 w
 have qr:∀ w:World,Calls Tryz.prog 241 #[.int .u8 114] w fun e w'=>e=.returned (.int .i64 3)∧w'=w:=fun w=>Zcr 114 w
 go_enter Tryz.func230,Tryz.ntmps230
 go_wp2_with (first
  | (go_at_call 239;refine (hok _).mono ?_;rintro e w1 ⟨rfl,rfl⟩)
  | (go_at_call 240;refine (hki _).mono ?_;rintro e w1 ⟨rfl,rfl⟩))
 go_loopw [22] (fun i wr=>∃ k:Nat,k≤3∧i=.int .i64 k∧Aside0 ((0<k→inB o.a 0 24=true)∧(1<k→inB o.b 0 3=true)∧(2<k→inB o.c 0 0=true))∧wr=w.alloc (.cells #[.int .i64 o.op,.int .i64 o.a,.int .i64 o.b,.int .i64 o.c] 181)) (fun i _=>3-(intOf i).toNat)
 case atStart=>exact ⟨0,by omega,rfl,⟨by omega,by omega,by omega⟩,rfl⟩
 case round =>
  obtain ⟨k,hk,rfl,hin,rfl⟩:=hrel
  generalize w.alloc (.cells #[.int .i64 o.op,.int .i64 o.a,.int .i64 o.b,.int .i64 o.c] 181)=W at *
  have hk4:k=0∨k=1∨k=2∨k=3:=by omega
  rcases hk4 with rfl | rfl | rfl | rfl
  ·replace hi0:=hi0 W
   replace hj0:=hj0 W
   have hin:=hin.out
   by_cases hx0:o.a<0
   ·have hxb:inB o.a 0 24=false:=by simp [inB];omega
    have hxb:=Aside0.mk hxb
    go_wp2_with (go_at_call 241;refine (qp _).mono ?_;rintro e w1 ⟨rfl,rfl⟩)
    go_ret
    exact ⟨by first | rfl | (rw [hxb.out];simp),hb0⟩
   ·by_cases hx1:24<o.a
    ·have hxb:inB o.a 0 24=false:=by simp [inB];omega
     have hxb:=Aside0.mk hxb
     go_wp2_with (go_at_call 241;refine (qp _).mono ?_;rintro e w1 ⟨rfl,rfl⟩)
     go_ret
     exact ⟨by first | rfl | (rw [hxb.out];simp),hb0⟩
    ·have hxb:inB o.a 0 24=true:=by simp [inB];omega
     have hxb:=Aside0.mk hxb
     have hin:=Aside0.mk hin
     go_wp2_with (go_at_call 241;refine (qp _).mono ?_;rintro e w1 ⟨rfl,rfl⟩)
     refine ⟨⟨1,by omega,rfl,⟨fun _=>hxb.out,by omega,by omega⟩,by first | rfl | trivial⟩, ?_⟩
     simp [intOf]
  ·replace hi1:=hi1 W
   replace hj1:=hj1 W
   have hin:=hin.out
   by_cases hx0:o.b<0
   ·have hxb:inB o.b 0 3=false:=by simp [inB];omega
    have hxb:=Aside0.mk hxb
    go_wp2_with (go_at_call 241;refine (qr _).mono ?_;rintro e w1 ⟨rfl,rfl⟩)
    go_ret
    exact ⟨by first | rfl | (rw [hxb.out];simp),hb0⟩
   ·by_cases hx1:3<o.b
    ·have hxb:inB o.b 0 3=false:=by simp [inB];omega
     have hxb:=Aside0.mk hxb
     go_wp2_with (go_at_call 241;refine (qr _).mono ?_;rintro e w1 ⟨rfl,rfl⟩)
     go_ret
     exact ⟨by first | rfl | (rw [hxb.out];simp),hb0⟩
    ·have hxb:inB o.b 0 3=true:=by simp [inB];omega
     have hxb:=Aside0.mk hxb
     have hin:=Aside0.mk hin
     go_wp2_with (go_at_call 241;refine (qr _).mono ?_;rintro e w1 ⟨rfl,rfl⟩)
     refine ⟨⟨2,by omega,rfl,⟨fun _=>hin.out.1 (by omega),fun _=>hxb.out,by omega⟩,by first | rfl | trivial⟩, ?_⟩
     simp [intOf]
  ·replace hi2:=hi2 W
   have hin:=hin.out
   by_cases hx0:o.c<0
   ·have hxb:inB o.c 0 0=false:=by simp [inB];omega
    have hxb:=Aside0.mk hxb
    go_wp2
    go_ret
    exact ⟨by first | rfl | (rw [hxb.out];simp),hb0⟩
   ·by_cases hx1:0<o.c
    ·have hxb:inB o.c 0 0=false:=by simp [inB];omega
     have hxb:=Aside0.mk hxb
     go_wp2
     go_ret
     exact ⟨by first | rfl | (rw [hxb.out];simp),hb0⟩
    ·have hxb:inB o.c 0 0=true:=by simp [inB];omega
     have hxb:=Aside0.mk hxb
     have hin:=Aside0.mk hin
     go_wp2
     refine ⟨⟨3,by omega,rfl,⟨fun _=>hin.out.1 (by omega),fun _=>hin.out.2.1 (by omega),fun _=>hxb.out⟩,by first | rfl | trivial⟩, ?_⟩
     simp [intOf]
  ·have hin:=hin.out
   have e1:=hin.1 (by omega)
   have e2:=hin.2.1 (by omega)
   have e3:=hin.2.2 (by omega)
   have ee:=Aside0.mk (And.intro e1 (And.intro e2 e3))
   clear hin e1 e2 e3
   go_wp2
   go_ret
   exact ⟨by rw [ee.out.1,ee.out.2.1,ee.out.2.2];rfl,hb0⟩
theorem Zhh (o:Ord) (w:World) (h0:1≤o.op) (h1:o.op≤14) (hs:Zdv o.op=⟨#[119,114,114]⟩) :
  Calls Tryz.prog 230 #[.agg #[.int .i64 o.op,.int .i64 o.a,.int .i64 o.b,.int .i64 o.c]] w fun e w'=>e=.returned (.bool (inB o.a 0 9&&inB o.b 0 3&&inB o.c 0 3))∧Below w.heap.size w w':=by
 have hb0:Below w.heap.size w (w.alloc (.cells #[.int .i64 o.op,.int .i64 o.a,.int .i64 o.b,.int .i64 o.c] 181)):=(brf_).alloc nlr_ _
 have hok:=fun w=>Zcn o.op w
 rw [show inB o.op 1 14=true by simp [inB];omega] at hok
 have hki:=fun w=>Zds o.op w h0 h1
 rw [hs] at hki
 clear h0 h1 hs
 have hi0:∀ w:World,(Instr.index 251 (.agg #[.int .i64 o.a,.int .i64 o.b,.int .i64 o.c]) (.int .i64 0)).run Tryz.prog w=.ok (.int .i64 o.a) w:=by intro w;kernel_rfl
 have hi1:∀ w:World,(Instr.index 251 (.agg #[.int .i64 o.a,.int .i64 o.b,.int .i64 o.c]) (.int .i64 1)).run Tryz.prog w=.ok (.int .i64 o.b) w:=by intro w;kernel_rfl
 have hi2:∀ w:World,(Instr.index 251 (.agg #[.int .i64 o.a,.int .i64 o.b,.int .i64 o.c]) (.int .i64 2)).run Tryz.prog w=.ok (.int .i64 o.c) w:=by intro w;kernel_rfl
 have hj0:∀ w:World,(Instr.index 9 (.string ⟨#[119,114,114]⟩) (.int .i64 0)).run Tryz.prog w=.ok (.int .u8 119) w:=by intro w;kernel_rfl
 have hj1:∀ w:World,(Instr.index 9 (.string ⟨#[119,114,114]⟩) (.int .i64 1)).run Tryz.prog w=.ok (.int .u8 114) w:=by intro w;kernel_rfl
 have hj2:∀ w:World,(Instr.index 9 (.string ⟨#[119,114,114]⟩) (.int .i64 2)).run Tryz.prog w=.ok (.int .u8 114) w:=by intro w;kernel_rfl
 have qr:∀ w:World,Calls Tryz.prog 241 #[.int .u8 114] w fun e w'=>e=.returned (.int .i64 3)∧w'=w:=fun w=>Zcr 114 w
 have qw:∀ w:World,Calls Tryz.prog 241 #[.int .u8 119] w fun e w'=>e=.returned (.int .i64 9)∧w'=w:=fun w=>Zcr 119 w
 go_enter Tryz.func230,Tryz.ntmps230
 go_wp2_with (first
  | (go_at_call 239;refine (hok _).mono ?_;rintro e w1 ⟨rfl,rfl⟩)
  | (go_at_call 240;refine (hki _).mono ?_;rintro e w1 ⟨rfl,rfl⟩))
 go_loopw [22] (fun i wr=>∃ k:Nat,k≤3∧i=.int .i64 k∧Aside0 ((0<k→inB o.a 0 9=true)∧(1<k→inB o.b 0 3=true)∧(2<k→inB o.c 0 3=true))∧wr=w.alloc (.cells #[.int .i64 o.op,.int .i64 o.a,.int .i64 o.b,.int .i64 o.c] 181)) (fun i _=>3-(intOf i).toNat)
 case atStart=>exact ⟨0,by omega,rfl,⟨by omega,by omega,by omega⟩,rfl⟩
 case round =>
  obtain ⟨k,hk,rfl,hin,rfl⟩:=hrel
  generalize w.alloc (.cells #[.int .i64 o.op,.int .i64 o.a,.int .i64 o.b,.int .i64 o.c] 181)=W at *
  have hk4:k=0∨k=1∨k=2∨k=3:=by omega
  rcases hk4 with rfl | rfl | rfl | rfl
  ·replace hi0:=hi0 W
   replace hj0:=hj0 W
   have hin:=hin.out
   by_cases hx0:o.a<0
   ·have hxb:inB o.a 0 9=false:=by simp [inB];omega
    have hxb:=Aside0.mk hxb
    go_wp2_with (go_at_call 241;refine (qw _).mono ?_;rintro e w1 ⟨rfl,rfl⟩)
    go_ret
    exact ⟨by first | rfl | (rw [hxb.out];simp),hb0⟩
   ·by_cases hx1:9<o.a
    ·have hxb:inB o.a 0 9=false:=by simp [inB];omega
     have hxb:=Aside0.mk hxb
     go_wp2_with (go_at_call 241;refine (qw _).mono ?_;rintro e w1 ⟨rfl,rfl⟩)
     go_ret
     exact ⟨by first | rfl | (rw [hxb.out];simp),hb0⟩
    ·have hxb:inB o.a 0 9=true:=by simp [inB];omega
     have hxb:=Aside0.mk hxb
     have hin:=Aside0.mk hin
     go_wp2_with (go_at_call 241;refine (qw _).mono ?_;rintro e w1 ⟨rfl,rfl⟩)
     refine ⟨⟨1,by omega,rfl,⟨fun _=>hxb.out,by omega,by omega⟩,by first | rfl | trivial⟩, ?_⟩
     simp [intOf]
  ·replace hi1:=hi1 W
   replace hj1:=hj1 W
   have hin:=hin.out
   by_cases hx0:o.b<0
   ·have hxb:inB o.b 0 3=false:=by simp [inB];omega
    have hxb:=Aside0.mk hxb
    go_wp2_with (go_at_call 241;refine (qr _).mono ?_;rintro e w1 ⟨rfl,rfl⟩)
    go_ret
    exact ⟨by first | rfl | (rw [hxb.out];simp),hb0⟩
   ·by_cases hx1:3<o.b
    ·have hxb:inB o.b 0 3=false:=by simp [inB];omega
     have hxb:=Aside0.mk hxb
     go_wp2_with (go_at_call 241;refine (qr _).mono ?_;rintro e w1 ⟨rfl,rfl⟩)
     go_ret
     exact ⟨by first | rfl | (rw [hxb.out];simp),hb0⟩
    ·have hxb:inB o.b 0 3=true:=by simp [inB];omega
     have hxb:=Aside0.mk hxb
     have hin:=Aside0.mk hin
     go_wp2_with (go_at_call 241;refine (qr _).mono ?_;rintro e w1 ⟨rfl,rfl⟩)
     refine ⟨⟨2,by omega,rfl,⟨fun _=>hin.out.1 (by omega),fun _=>hxb.out,by omega⟩,by first | rfl | trivial⟩, ?_⟩
     simp [intOf]
  ·replace hi2:=hi2 W
   replace hj2:=hj2 W
   have hin:=hin.out
   by_cases hx0:o.c<0
   ·have hxb:inB o.c 0 3=false:=by simp [inB];omega
    have hxb:=Aside0.mk hxb
    go_wp2_with (go_at_call 241;refine (qr _).mono ?_;rintro e w1 ⟨rfl,rfl⟩)
    go_ret
    exact ⟨by first | rfl | (rw [hxb.out];simp),hb0⟩
   ·by_cases hx1:3<o.c
    ·have hxb:inB o.c 0 3=false:=by simp [inB];omega
     have hxb:=Aside0.mk hxb
     go_wp2_with (go_at_call 241;refine (qr _).mono ?_;rintro e w1 ⟨rfl,rfl⟩)
     go_ret
     exact ⟨by first | rfl | (rw [hxb.out];simp),hb0⟩
    ·have hxb:inB o.c 0 3=true:=by simp [inB];omega
     have hxb:=Aside0.mk hxb
     have hin:=Aside0.mk hin
     go_wp2_with (go_at_call 241;refine (qr _).mono ?_;rintro e w1 ⟨rfl,rfl⟩)
     refine ⟨⟨3,by omega,rfl,⟨fun _=>hin.out.1 (by omega),fun _=>hin.out.2.1 (by omega),fun _=>hxb.out⟩,by first | rfl | trivial⟩, ?_⟩
     simp [intOf]
  ·have hin:=hin.out
   have e1:=hin.1 (by omega)
   have e2:=hin.2.1 (by omega)
   have e3:=hin.2.2 (by omega)
   have ee:=Aside0.mk (And.intro e1 (And.intro e2 e3))
   clear hin e1 e2 e3
   go_wp2
   go_ret
   exact ⟨by rw [ee.out.1,ee.out.2.1,ee.out.2.2];rfl,hb0⟩
theorem Znu (o:Ord) (w:World) (h0:1≤o.op) (h1:o.op≤14) (hs:Zdv o.op=⟨#[114]⟩) :
  Calls Tryz.prog 230 #[.agg #[.int .i64 o.op,.int .i64 o.a,.int .i64 o.b,.int .i64 o.c]] w fun e w'=>e=.returned (.bool (inB o.a 0 3&&inB o.b 0 0&&inB o.c 0 0))∧Below w.heap.size w w':=by
 have hb0:Below w.heap.size w (w.alloc (.cells #[.int .i64 o.op,.int .i64 o.a,.int .i64 o.b,.int .i64 o.c] 181)):=(brf_).alloc nlr_ _
 have hok:=fun w=>Zcn o.op w
 rw [show inB o.op 1 14=true by simp [inB];omega] at hok
 have hki:=fun w=>Zds o.op w h0 h1
 rw [hs] at hki
 clear h0 h1 hs
 have hi0:∀ w:World,(Instr.index 251 (.agg #[.int .i64 o.a,.int .i64 o.b,.int .i64 o.c]) (.int .i64 0)).run Tryz.prog w=.ok (.int .i64 o.a) w:=by intro w;kernel_rfl
 have hi1:∀ w:World,(Instr.index 251 (.agg #[.int .i64 o.a,.int .i64 o.b,.int .i64 o.c]) (.int .i64 1)).run Tryz.prog w=.ok (.int .i64 o.b) w:=by intro w;kernel_rfl
 have hi2:∀ w:World,(Instr.index 251 (.agg #[.int .i64 o.a,.int .i64 o.b,.int .i64 o.c]) (.int .i64 2)).run Tryz.prog w=.ok (.int .i64 o.c) w:=by intro w;kernel_rfl
 have hj0:∀ w:World,(Instr.index 9 (.string ⟨#[114]⟩) (.int .i64 0)).run Tryz.prog w=.ok (.int .u8 114) w:=by intro w;kernel_rfl
 have qr:∀ w:World,Calls Tryz.prog 241 #[.int .u8 114] w fun e w'=>e=.returned (.int .i64 3)∧w'=w:=fun w=>Zcr 114 w
 go_enter Tryz.func230,Tryz.ntmps230
 go_wp2_with (first
  | (go_at_call 239;refine (hok _).mono ?_;rintro e w1 ⟨rfl,rfl⟩)
  | (go_at_call 240;refine (hki _).mono ?_;rintro e w1 ⟨rfl,rfl⟩))
 go_loopw [22] (fun i wr=>∃ k:Nat,k≤3∧i=.int .i64 k∧Aside0 ((0<k→inB o.a 0 3=true)∧(1<k→inB o.b 0 0=true)∧(2<k→inB o.c 0 0=true))∧wr=w.alloc (.cells #[.int .i64 o.op,.int .i64 o.a,.int .i64 o.b,.int .i64 o.c] 181)) (fun i _=>3-(intOf i).toNat)
 case atStart=>exact ⟨0,by omega,rfl,⟨by omega,by omega,by omega⟩,rfl⟩
 case round =>
  obtain ⟨k,hk,rfl,hin,rfl⟩:=hrel
  generalize w.alloc (.cells #[.int .i64 o.op,.int .i64 o.a,.int .i64 o.b,.int .i64 o.c] 181)=W at *
  have hk4:k=0∨k=1∨k=2∨k=3:=by omega
  rcases hk4 with rfl | rfl | rfl | rfl
  ·replace hi0:=hi0 W
   replace hj0:=hj0 W
   have hin:=hin.out
   by_cases hx0:o.a<0
   ·have hxb:inB o.a 0 3=false:=by simp [inB];omega
    have hxb:=Aside0.mk hxb
    go_wp2_with (go_at_call 241;refine (qr _).mono ?_;rintro e w1 ⟨rfl,rfl⟩)
    go_ret
    exact ⟨by first | rfl | (rw [hxb.out];simp),hb0⟩
   ·by_cases hx1:3<o.a
    ·have hxb:inB o.a 0 3=false:=by simp [inB];omega
     have hxb:=Aside0.mk hxb
     go_wp2_with (go_at_call 241;refine (qr _).mono ?_;rintro e w1 ⟨rfl,rfl⟩)
     go_ret
     exact ⟨by first | rfl | (rw [hxb.out];simp),hb0⟩
    ·have hxb:inB o.a 0 3=true:=by simp [inB];omega
     have hxb:=Aside0.mk hxb
     have hin:=Aside0.mk hin
     go_wp2_with (go_at_call 241;refine (qr _).mono ?_;rintro e w1 ⟨rfl,rfl⟩)
     refine ⟨⟨1,by omega,rfl,⟨fun _=>hxb.out,by omega,by omega⟩,by first | rfl | trivial⟩, ?_⟩
     simp [intOf]
  ·replace hi1:=hi1 W
   have hin:=hin.out
   by_cases hx0:o.b<0
   ·have hxb:inB o.b 0 0=false:=by simp [inB];omega
    have hxb:=Aside0.mk hxb
    go_wp2
    go_ret
    exact ⟨by first | rfl | (rw [hxb.out];simp),hb0⟩
   ·by_cases hx1:0<o.b
    ·have hxb:inB o.b 0 0=false:=by simp [inB];omega
     have hxb:=Aside0.mk hxb
     go_wp2
     go_ret
     exact ⟨by first | rfl | (rw [hxb.out];simp),hb0⟩
    ·have hxb:inB o.b 0 0=true:=by simp [inB];omega
     have hxb:=Aside0.mk hxb
     have hin:=Aside0.mk hin
     go_wp2
     refine ⟨⟨2,by omega,rfl,⟨fun _=>hin.out.1 (by omega),fun _=>hxb.out,by omega⟩,by first | rfl | trivial⟩, ?_⟩
     simp [intOf]
  ·replace hi2:=hi2 W
   have hin:=hin.out
   by_cases hx0:o.c<0
   ·have hxb:inB o.c 0 0=false:=by simp [inB];omega
    have hxb:=Aside0.mk hxb
    go_wp2
    go_ret
    exact ⟨by first | rfl | (rw [hxb.out];simp),hb0⟩
   ·by_cases hx1:0<o.c
    ·have hxb:inB o.c 0 0=false:=by simp [inB];omega
     have hxb:=Aside0.mk hxb
     go_wp2
     go_ret
     exact ⟨by first | rfl | (rw [hxb.out];simp),hb0⟩
    ·have hxb:inB o.c 0 0=true:=by simp [inB];omega
     have hxb:=Aside0.mk hxb
     have hin:=Aside0.mk hin
     go_wp2
     refine ⟨⟨3,by omega,rfl,⟨fun _=>hin.out.1 (by omega),fun _=>hin.out.2.1 (by omega),fun _=>hxb.out⟩,by first | rfl | trivial⟩, ?_⟩
     simp [intOf]
  ·have hin:=hin.out
   have e1:=hin.1 (by omega)
   have e2:=hin.2.1 (by omega)
   have e3:=hin.2.2 (by omega)
   have ee:=Aside0.mk (And.intro e1 (And.intro e2 e3))
   clear hin e1 e2 e3
   go_wp2
   go_ret
   exact ⟨by rw [ee.out.1,ee.out.2.1,ee.out.2.2];rfl,hb0⟩
theorem Zgr (o:Ord) (w:World) (h0:1≤o.op) (h1:o.op≤14) (hs:Zdv o.op=⟨#[]⟩) :
  Calls Tryz.prog 230 #[.agg #[.int .i64 o.op,.int .i64 o.a,.int .i64 o.b,.int .i64 o.c]] w fun e w'=>e=.returned (.bool (inB o.a 0 0&&inB o.b 0 0&&inB o.c 0 0))∧Below w.heap.size w w':=by
 have hb0:Below w.heap.size w (w.alloc (.cells #[.int .i64 o.op,.int .i64 o.a,.int .i64 o.b,.int .i64 o.c] 181)):=(brf_).alloc nlr_ _
 have hok:=fun w=>Zcn o.op w
 rw [show inB o.op 1 14=true by simp [inB];omega] at hok
 have hki:=fun w=>Zds o.op w h0 h1
 rw [hs] at hki
 clear h0 h1 hs
 have hi0:∀ w:World,(Instr.index 251 (.agg #[.int .i64 o.a,.int .i64 o.b,.int .i64 o.c]) (.int .i64 0)).run Tryz.prog w=.ok (.int .i64 o.a) w:=by intro w;kernel_rfl
 have hi1:∀ w:World,(Instr.index 251 (.agg #[.int .i64 o.a,.int .i64 o.b,.int .i64 o.c]) (.int .i64 1)).run Tryz.prog w=.ok (.int .i64 o.b) w:=by intro w;kernel_rfl
 have hi2:∀ w:World,(Instr.index 251 (.agg #[.int .i64 o.a,.int .i64 o.b,.int .i64 o.c]) (.int .i64 2)).run Tryz.prog w=.ok (.int .i64 o.c) w:=by intro w;kernel_rfl
 go_enter Tryz.func230,Tryz.ntmps230
 go_wp2_with (first
  | (go_at_call 239;refine (hok _).mono ?_;rintro e w1 ⟨rfl,rfl⟩)
  | (go_at_call 240;refine (hki _).mono ?_;rintro e w1 ⟨rfl,rfl⟩))
 go_loopw [22] (fun i wr=>∃ k:Nat,k≤3∧i=.int .i64 k∧Aside0 ((0<k→inB o.a 0 0=true)∧(1<k→inB o.b 0 0=true)∧(2<k→inB o.c 0 0=true))∧wr=w.alloc (.cells #[.int .i64 o.op,.int .i64 o.a,.int .i64 o.b,.int .i64 o.c] 181)) (fun i _=>3-(intOf i).toNat)
 case atStart=>exact ⟨0,by omega,rfl,⟨by omega,by omega,by omega⟩,rfl⟩
 case round =>
  obtain ⟨k,hk,rfl,hin,rfl⟩:=hrel
  generalize w.alloc (.cells #[.int .i64 o.op,.int .i64 o.a,.int .i64 o.b,.int .i64 o.c] 181)=W at *
  have hk4:k=0∨k=1∨k=2∨k=3:=by omega
  rcases hk4 with rfl | rfl | rfl | rfl
  ·replace hi0:=hi0 W
   have hin:=hin.out
   by_cases hx0:o.a<0
   ·have hxb:inB o.a 0 0=false:=by simp [inB];omega
    have hxb:=Aside0.mk hxb
    go_wp2
    go_ret
    exact ⟨by first | rfl | (rw [hxb.out];simp),hb0⟩
   ·by_cases hx1:0<o.a
    ·have hxb:inB o.a 0 0=false:=by simp [inB];omega
     have hxb:=Aside0.mk hxb
     go_wp2
     go_ret
     exact ⟨by first | rfl | (rw [hxb.out];simp),hb0⟩
    ·have hxb:inB o.a 0 0=true:=by simp [inB];omega
     have hxb:=Aside0.mk hxb
     have hin:=Aside0.mk hin
     go_wp2
     refine ⟨⟨1,by omega,rfl,⟨fun _=>hxb.out,by omega,by omega⟩,by first | rfl | trivial⟩, ?_⟩
     simp [intOf]
  ·replace hi1:=hi1 W
   have hin:=hin.out
   by_cases hx0:o.b<0
   ·have hxb:inB o.b 0 0=false:=by simp [inB];omega
    have hxb:=Aside0.mk hxb
    go_wp2
    go_ret
    exact ⟨by first | rfl | (rw [hxb.out];simp),hb0⟩
   ·by_cases hx1:0<o.b
    ·have hxb:inB o.b 0 0=false:=by simp [inB];omega
     have hxb:=Aside0.mk hxb
     go_wp2
     go_ret
     exact ⟨by first | rfl | (rw [hxb.out];simp),hb0⟩
    ·have hxb:inB o.b 0 0=true:=by simp [inB];omega
     have hxb:=Aside0.mk hxb
     have hin:=Aside0.mk hin
     go_wp2
     refine ⟨⟨2,by omega,rfl,⟨fun _=>hin.out.1 (by omega),fun _=>hxb.out,by omega⟩,by first | rfl | trivial⟩, ?_⟩
     simp [intOf]
  ·replace hi2:=hi2 W
   have hin:=hin.out
   by_cases hx0:o.c<0
   ·have hxb:inB o.c 0 0=false:=by simp [inB];omega
    have hxb:=Aside0.mk hxb
    go_wp2
    go_ret
    exact ⟨by first | rfl | (rw [hxb.out];simp),hb0⟩
   ·by_cases hx1:0<o.c
    ·have hxb:inB o.c 0 0=false:=by simp [inB];omega
     have hxb:=Aside0.mk hxb
     go_wp2
     go_ret
     exact ⟨by first | rfl | (rw [hxb.out];simp),hb0⟩
    ·have hxb:inB o.c 0 0=true:=by simp [inB];omega
     have hxb:=Aside0.mk hxb
     have hin:=Aside0.mk hin
     go_wp2
     refine ⟨⟨3,by omega,rfl,⟨fun _=>hin.out.1 (by omega),fun _=>hin.out.2.1 (by omega),fun _=>hxb.out⟩,by first | rfl | trivial⟩, ?_⟩
     simp [intOf]
  ·have hin:=hin.out
   have e1:=hin.1 (by omega)
   have e2:=hin.2.1 (by omega)
   have e3:=hin.2.2 (by omega)
   have ee:=Aside0.mk (And.intro e1 (And.intro e2 e3))
   clear hin e1 e2 e3
   go_wp2
   go_ret
   exact ⟨by rw [ee.out.1,ee.out.2.1,ee.out.2.2];rfl,hb0⟩
end Go.Proofs.YtaeckoinpllpnaaGreat
