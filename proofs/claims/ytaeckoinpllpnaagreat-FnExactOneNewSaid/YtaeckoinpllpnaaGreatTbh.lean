/- Part 34 of the proof of its last text: this session's own texts, shortened and joined by a program of its own (wip/pack.py). -/
import Derived.Test.YtaeckoinpllpnaaGreatTad
import Derived.Test.YtaeckoinpllpnaaGreatTbg
import Derived.Test.YtaeckoinpllpnaaGreatTbc
set_option linter.unusedVariables false
set_option linter.unusedSimpArgs false
set_option maxHeartbeats 16000000
set_option maxRecDepth 100000
namespace Go.Proofs.YtaeckoinpllpnaaGreat
open Go.RowKit Go.Proofs.YtaeckoinpllpnaaGreatW.PrintWords
theorem Zjj (A:Option Addr) (c:Nat) (xs:List Ord) (k:Int) (w:World) (hA:Rd kOrd w A (mkL mOrd xs k)) (h0:0≤k) (h1:k+(nL mOrd xs:Nat)≤1099511627776) :
  Calls Tryz.prog 124 #[.slice A xs.length c,.int .i64 k] w fun e w'=>e=.returned (.int .i64 (k+(nL mOrd xs:Nat)))∧Below w.heap.size w w':=by
 have hm:=Zax hA
 rw [Zbu] at hm
 go_enter Tryz.func124,Tryz.ntmps124
 go_wp2
 go_loopw [1,5] (fun kv i wr=>∃ (j:Nat) (K:Int),j≤xs.length∧kv=.int .i64 K∧i=.int .i64 j∧Aside0 (K=k+(nL mOrd (xs.take j):Nat))∧Below w.heap.size w wr) (fun _ i _=>xs.length-(intOf i).toNat)
 case atStart=>exact ⟨0,_,Nat.zero_le _,rfl,rfl,⟨by simp [nL]⟩,brf_⟩
 case round =>
  obtain ⟨j,K,hj,rfl,rfl,hKa,hb⟩:=hrel
  have hK:=hKa.out
  by_cases hlt:j<xs.length
  ·obtain ⟨x,hx⟩:=Zar xs hlt
   have ht:=Zcw mOrd xs j x hx
   have hle:=Zfg mOrd xs (j+1)
   have hx2:=Zfh mOrd xs k j x hx
   rw [← hK] at hx2
   have hn:mOrd.n x=4:=rfl
   rw [hn] at ht
   have hK0:0≤K:=by omega
   have hmax:K+(4:Nat)≤1099511627776:=by omega
   have hta:=Aside0.mk ht
   clear ht hle hn
   have hb0:=hb
   obtain ⟨ad,rfl,a0,a1,a2,a3⟩:=Zog (Zac hA hb) hx2
   dsimp only [mOrd] at a0 a1 a2 a3
   clear hK hx2
   have hw0:=hb
   go_wp2
   have hK:=hKa.out
   have ht:=hta.out
   refine ⟨⟨j+1,_,by omega,rfl,rfl,⟨by omega⟩,hw0⟩, ?_⟩
   simp [intOf]
   omega
  ·have e:j=xs.length:=by omega
   subst e
   rw [List.take_length] at hK
   go_wp2
   go_ret
   exact ⟨by rw [hK];rfl,hb⟩
theorem Zjk (A:Option Addr) (c:Nat) (xs:List Slt) (k:Int) (w:World) (hA:Rd kSlt w A (mkL mSlt xs k)) (h0:0≤k) (h1:k+(nL mSlt xs:Nat)≤1099511627776) :
  Calls Tryz.prog 86 #[.slice A xs.length c,.int .i64 k] w fun e w'=>e=.returned (.int .i64 (k+(nL mSlt xs:Nat)))∧Below w.heap.size w w':=by
 have hm:=Zax hA
 rw [Zbu] at hm
 go_enter Tryz.func86,Tryz.ntmps86
 go_wp2
 go_loopw [1,5] (fun kv i wr=>∃ (j:Nat) (K:Int),j≤xs.length∧kv=.int .i64 K∧i=.int .i64 j∧Aside0 (K=k+(nL mSlt (xs.take j):Nat))∧Below w.heap.size w wr) (fun _ i _=>xs.length-(intOf i).toNat)
 case atStart=>exact ⟨0,_,Nat.zero_le _,rfl,rfl,⟨by simp [nL]⟩,brf_⟩
 case round =>
  obtain ⟨j,K,hj,rfl,rfl,hKa,hb⟩:=hrel
  have hK:=hKa.out
  by_cases hlt:j<xs.length
  ·obtain ⟨x,hx⟩:=Zar xs hlt
   have ht:=Zcw mSlt xs j x hx
   have hle:=Zfg mSlt xs (j+1)
   have hx2:=Zfh mSlt xs k j x hx
   rw [← hK] at hx2
   have hn:mSlt.n x=2:=rfl
   rw [hn] at ht
   have hK0:0≤K:=by omega
   have hmax:K+(2:Nat)≤1099511627776:=by omega
   have hta:=Aside0.mk ht
   clear ht hle hn
   have hb0:=hb
   obtain ⟨ad,rfl,a0,a1⟩:=Zoh (Zac hA hb) hx2
   dsimp only [mSlt] at a0 a1
   clear hK hx2
   have hw0:=hb
   go_wp2
   have hK:=hKa.out
   have ht:=hta.out
   refine ⟨⟨j+1,_,by omega,rfl,rfl,⟨by omega⟩,hw0⟩, ?_⟩
   simp [intOf]
   omega
  ·have e:j=xs.length:=by omega
   subst e
   rw [List.take_length] at hK
   go_wp2
   go_ret
   exact ⟨by rw [hK];rfl,hb⟩
theorem Zjl (A:Option Addr) (c:Nat) (xs:List Cel) (k:Int) (w:World) (hA:Rd kCel w A (mkL mCel xs k)) (h0:0≤k) (h1:k+(nL mCel xs:Nat)≤1099511627776) :
  Calls Tryz.prog 84 #[.slice A xs.length c,.int .i64 k] w fun e w'=>e=.returned (.int .i64 (k+(nL mCel xs:Nat)))∧Below w.heap.size w w':=by
 have hm:=Zax hA
 rw [Zbu] at hm
 go_enter Tryz.func84,Tryz.ntmps84
 go_wp2
 go_loopw [1,5] (fun kv i wr=>∃ (j:Nat) (K:Int),j≤xs.length∧kv=.int .i64 K∧i=.int .i64 j∧Aside0 (K=k+(nL mCel (xs.take j):Nat))∧Below w.heap.size w wr) (fun _ i _=>xs.length-(intOf i).toNat)
 case atStart=>exact ⟨0,_,Nat.zero_le _,rfl,rfl,⟨by simp [nL]⟩,brf_⟩
 case round =>
  obtain ⟨j,K,hj,rfl,rfl,hKa,hb⟩:=hrel
  have hK:=hKa.out
  by_cases hlt:j<xs.length
  ·obtain ⟨x,hx⟩:=Zar xs hlt
   have ht:=Zcw mCel xs j x hx
   have hle:=Zfg mCel xs (j+1)
   have hx2:=Zfh mCel xs k j x hx
   rw [← hK] at hx2
   have hn:mCel.n x=4+nL mOrd x.code:=rfl
   rw [hn] at ht
   have hK0:0≤K:=by omega
   have hmax:K+(4+nL mOrd x.code:Nat)≤1099511627776:=by omega
   have hta:=Aside0.mk ht
   clear ht hle hn
   have hb0:=hb
   obtain ⟨ad,A1,c1,rfl,a0,a1,a2,a3,a4,l1,r1⟩:=Zed (Zac hA hb) hx2
   dsimp only [mCel] at a0 a1 a2 a3 a4 r1
   clear hK hx2
   simp only [Zbu] at a4
   have hw0:=hb
   have hz0:=Below.refl wr.heap.size wr
   go_wp2_with (first
    | (go_at_call 124;refine (Zjj A1 c1 x.code (K+1+1+1+1) _ (Zac r1 hz0) (by omega) (by omega)).mono ?_;rintro e w1 ⟨rfl,hb1⟩;have hw1:=hw0.trans (hb1.mono hw0.size);have hz1:=hz0.trans (hb1.mono hz0.size)))
   have hK:=hKa.out
   have ht:=hta.out
   refine ⟨⟨j+1,_,by omega,rfl,rfl,⟨by omega⟩,hw1⟩, ?_⟩
   simp [intOf]
   omega
  ·have e:j=xs.length:=by omega
   subst e
   rw [List.take_length] at hK
   go_wp2
   go_ret
   exact ⟨by rw [hK];rfl,hb⟩
theorem Zmt (A:Option Addr) (c:Nat) (xs:List (List Int)) (k:Int) (w:World) (hA:Rd Zda w A (mkL Zfx xs k)) (h0:0≤k) (h1:k+(nL Zfx xs:Nat)≤1099511627776) :
  Calls Tryz.prog 87 #[.slice A xs.length c,.int .i64 k] w fun e w'=>e=.returned (.int .i64 (k+(nL Zfx xs:Nat)))∧Below w.heap.size w w':=by
 have hm:=Zax hA
 rw [Zbu] at hm
 go_enter Tryz.func87,Tryz.ntmps87
 go_wp2
 go_loopw [1,5] (fun kv i wr=>∃ (j:Nat) (K:Int),j≤xs.length∧kv=.int .i64 K∧i=.int .i64 j∧Aside0 (K=k+(nL Zfx (xs.take j):Nat))∧Below w.heap.size w wr) (fun _ i _=>xs.length-(intOf i).toNat)
 case atStart=>exact ⟨0,_,Nat.zero_le _,rfl,rfl,⟨by simp [nL]⟩,brf_⟩
 case round =>
  obtain ⟨j,K,hj,rfl,rfl,hKa,hb⟩:=hrel
  have hK:=hKa.out
  by_cases hlt:j<xs.length
  ·obtain ⟨x,hx⟩:=Zar xs hlt
   have ht:=Zcw Zfx xs j x hx
   have hle:=Zfg Zfx xs (j+1)
   have hx2:=Zfh Zfx xs k j x hx
   rw [← hK] at hx2
   have hn:Zfx.n x=nL mInt x:=rfl
   rw [hn] at ht
   have hK0:0≤K:=by omega
   have hmax:K+(nL mInt x:Nat)≤1099511627776:=by omega
   have hta:=Aside0.mk ht
   clear ht hle hn
   have hb0:=hb
   obtain ⟨ad,A1,c1,rfl,a0,l1,r1⟩:=Zhb (Zac hA hb) hx2
   dsimp only [Zfx] at a0 r1
   clear hK hx2
   simp only [Zbu] at a0
   have hw0:=hb
   have hz0:=Below.refl wr.heap.size wr
   go_wp2_with (first
    | (go_at_call 88;refine (Zgb A1 c1 x (K) _ (Zac r1 hz0) (by omega) (by omega)).mono ?_;rintro e w1 ⟨rfl,hb1⟩;have hw1:=hw0.trans (hb1.mono hw0.size);have hz1:=hz0.trans (hb1.mono hz0.size)))
   have hK:=hKa.out
   have ht:=hta.out
   refine ⟨⟨j+1,_,by omega,rfl,rfl,⟨by omega⟩,hw1⟩, ?_⟩
   simp [intOf]
   omega
  ·have e:j=xs.length:=by omega
   subst e
   rw [List.take_length] at hK
   go_wp2
   go_ret
   exact ⟨by rw [hK];rfl,hb⟩
theorem Zjm (A:Option Addr) (c:Nat) (xs:List Rul) (k:Int) (w:World) (hA:Rd kRul w A (mkL mRul xs k)) (h0:0≤k) (h1:k+(nL mRul xs:Nat)≤1099511627776) :
  Calls Tryz.prog 125 #[.slice A xs.length c,.int .i64 k] w fun e w'=>e=.returned (.int .i64 (k+(nL mRul xs:Nat)))∧Below w.heap.size w w':=by
 have hm:=Zax hA
 rw [Zbu] at hm
 go_enter Tryz.func125,Tryz.ntmps125
 go_wp2
 go_loopw [1,5] (fun kv i wr=>∃ (j:Nat) (K:Int),j≤xs.length∧kv=.int .i64 K∧i=.int .i64 j∧Aside0 (K=k+(nL mRul (xs.take j):Nat))∧Below w.heap.size w wr) (fun _ i _=>xs.length-(intOf i).toNat)
 case atStart=>exact ⟨0,_,Nat.zero_le _,rfl,rfl,⟨by simp [nL]⟩,brf_⟩
 case round =>
  obtain ⟨j,K,hj,rfl,rfl,hKa,hb⟩:=hrel
  have hK:=hKa.out
  by_cases hlt:j<xs.length
  ·obtain ⟨x,hx⟩:=Zar xs hlt
   have ht:=Zcw mRul xs j x hx
   have hle:=Zfg mRul xs (j+1)
   have hx2:=Zfh mRul xs k j x hx
   rw [← hK] at hx2
   have hn:mRul.n x=7:=rfl
   rw [hn] at ht
   have hK0:0≤K:=by omega
   have hmax:K+(7:Nat)≤1099511627776:=by omega
   have hta:=Aside0.mk ht
   clear ht hle hn
   have hb0:=hb
   obtain ⟨ad,rfl,a0,a1,a2,a3,a4,a5,a6⟩:=Zst (Zac hA hb) hx2
   dsimp only [mRul] at a0 a1 a2 a3 a4 a5 a6
   clear hK hx2
   have hw0:=hb
   go_wp2
   have hK:=hKa.out
   have ht:=hta.out
   refine ⟨⟨j+1,_,by omega,rfl,rfl,⟨by omega⟩,hw0⟩, ?_⟩
   simp [intOf]
   omega
  ·have e:j=xs.length:=by omega
   subst e
   rw [List.take_length] at hK
   go_wp2
   go_ret
   exact ⟨by rw [hK];rfl,hb⟩
theorem Zkf (A:Option Addr) (c:Nat) (xs:List Wy) (k:Int) (w:World) (hA:Rd kWy w A (mkL mWy xs k)) (h0:0≤k) (h1:k+(nL mWy xs:Nat)≤1099511627776) :
  Calls Tryz.prog 85 #[.slice A xs.length c,.int .i64 k] w fun e w'=>e=.returned (.int .i64 (k+(nL mWy xs:Nat)))∧Below w.heap.size w w':=by
 have hm:=Zax hA
 rw [Zbu] at hm
 go_enter Tryz.func85,Tryz.ntmps85
 go_wp2
 go_loopw [1,5] (fun kv i wr=>∃ (j:Nat) (K:Int),j≤xs.length∧kv=.int .i64 K∧i=.int .i64 j∧Aside0 (K=k+(nL mWy (xs.take j):Nat))∧Below w.heap.size w wr) (fun _ i _=>xs.length-(intOf i).toNat)
 case atStart=>exact ⟨0,_,Nat.zero_le _,rfl,rfl,⟨by simp [nL]⟩,brf_⟩
 case round =>
  obtain ⟨j,K,hj,rfl,rfl,hKa,hb⟩:=hrel
  have hK:=hKa.out
  by_cases hlt:j<xs.length
  ·obtain ⟨x,hx⟩:=Zar xs hlt
   have ht:=Zcw mWy xs j x hx
   have hle:=Zfg mWy xs (j+1)
   have hx2:=Zfh mWy xs k j x hx
   rw [← hK] at hx2
   have hn:mWy.n x=4+nL mRul x.guard:=rfl
   rw [hn] at ht
   have hK0:0≤K:=by omega
   have hmax:K+(4+nL mRul x.guard:Nat)≤1099511627776:=by omega
   have hta:=Aside0.mk ht
   clear ht hle hn
   have hb0:=hb
   obtain ⟨ad,A1,c1,rfl,a0,a1,a2,a3,a4,l1,r1⟩:=Zhc (Zac hA hb) hx2
   dsimp only [mWy] at a0 a1 a2 a3 a4 r1
   clear hK hx2
   simp only [Zbu] at a4
   have hw0:=hb
   have hz0:=Below.refl wr.heap.size wr
   go_wp2_with (first
    | (go_at_call 125;refine (Zjm A1 c1 x.guard (K+1+1+1+1) _ (Zac r1 hz0) (by omega) (by omega)).mono ?_;rintro e w1 ⟨rfl,hb1⟩;have hw1:=hw0.trans (hb1.mono hw0.size);have hz1:=hz0.trans (hb1.mono hz0.size)))
   have hK:=hKa.out
   have ht:=hta.out
   refine ⟨⟨j+1,_,by omega,rfl,rfl,⟨by omega⟩,hw1⟩, ?_⟩
   simp [intOf]
   omega
  ·have e:j=xs.length:=by omega
   subst e
   rw [List.take_length] at hK
   go_wp2
   go_ret
   exact ⟨by rw [hK];rfl,hb⟩
theorem Zjn (A:Option Addr) (c:Nat) (xs:List CelSt) (k:Int) (w:World) (hA:Rd Zby w A (mkL Zcy xs k)) (h0:0≤k) (h1:k+(nL Zcy xs:Nat)≤1099511627776) :
  Calls Tryz.prog 45 #[.slice A xs.length c,.int .i64 k] w fun e w'=>e=.returned (.int .i64 (k+(nL Zcy xs:Nat)))∧Below w.heap.size w w':=by
 have hm:=Zax hA
 rw [Zbu] at hm
 go_enter Tryz.func45,Tryz.ntmps45
 go_wp2
 go_loopw [1,5] (fun kv i wr=>∃ (j:Nat) (K:Int),j≤xs.length∧kv=.int .i64 K∧i=.int .i64 j∧Aside0 (K=k+(nL Zcy (xs.take j):Nat))∧Below w.heap.size w wr) (fun _ i _=>xs.length-(intOf i).toNat)
 case atStart=>exact ⟨0,_,Nat.zero_le _,rfl,rfl,⟨by simp [nL]⟩,brf_⟩
 case round =>
  obtain ⟨j,K,hj,rfl,rfl,hKa,hb⟩:=hrel
  have hK:=hKa.out
  by_cases hlt:j<xs.length
  ·obtain ⟨x,hx⟩:=Zar xs hlt
   have ht:=Zcw Zcy xs j x hx
   have hle:=Zfg Zcy xs (j+1)
   have hx2:=Zfh Zcy xs k j x hx
   rw [← hK] at hx2
   have hn:Zcy.n x=2+nL mInt x.regs+nL mInt x.mem+nL Zer x.inn:=rfl
   rw [hn] at ht
   have hK0:0≤K:=by omega
   have hmax:K+(2+nL mInt x.regs+nL mInt x.mem+nL Zer x.inn:Nat)≤1099511627776:=by omega
   have hta:=Aside0.mk ht
   clear ht hle hn
   have hb0:=hb
   obtain ⟨ad,A1,c1,A2,c2,A3,c3,rfl,a0,a1,a2,a3,a4,l1,r1,l2,r2,l3,r3⟩:=Zto (Zac hA hb) hx2
   dsimp only [Zcy] at a0 a1 a2 a3 a4 r1 r2 r3
   clear hK hx2
   simp only [Zbu] at a1 a2 a4
   have hw0:=hb
   have hz0:=Below.refl wr.heap.size wr
   go_wp2_with (first
    | (go_at_call 89;refine (Zfv A3 c3 x.inn (K+1+(nL mInt x.regs:Nat)+(nL mInt x.mem:Nat)+1) _ (Zac r3 hz2) (by omega) (by omega)).mono ?_;rintro e w3 ⟨rfl,hb3⟩;have hw3:=hw2.trans (hb3.mono hw2.size);have hz3:=hz2.trans (hb3.mono hz2.size))
    | (go_at_call 88;refine (Zgb A2 c2 x.mem (K+1+(nL mInt x.regs:Nat)) _ (Zac r2 hz1) (by omega) (by omega)).mono ?_;rintro e w2 ⟨rfl,hb2⟩;have hw2:=hw1.trans (hb2.mono hw1.size);have hz2:=hz1.trans (hb2.mono hz1.size);have a3_2:=Zaa hz2 a3;have a4_2:=Zaa hz2 a4)
    | (go_at_call 88;refine (Zgb A1 c1 x.regs (K+1) _ (Zac r1 hz0) (by omega) (by omega)).mono ?_;rintro e w1 ⟨rfl,hb1⟩;have hw1:=hw0.trans (hb1.mono hw0.size);have hz1:=hz0.trans (hb1.mono hz0.size);have a2_1:=Zaa hz1 a2;have a3_1:=Zaa hz1 a3;have a4_1:=Zaa hz1 a4))
   have hK:=hKa.out
   have ht:=hta.out
   refine ⟨⟨j+1,_,by omega,rfl,rfl,⟨by omega⟩,hw3⟩, ?_⟩
   simp [intOf]
   omega
  ·have e:j=xs.length:=by omega
   subst e
   rw [List.take_length] at hK
   go_wp2
   go_ret
   exact ⟨by rw [hK];rfl,hb⟩
theorem Zhj (A:Option Addr) (c:Nat) (xs:List (List Int)) (k:Int) (w:World) (hA:Rd Zck w A (mkL Zdq xs k)) (h0:0≤k) (h1:k+(nL Zdq xs:Nat)≤1099511627776) :
  Calls Tryz.prog 90 #[.slice A xs.length c,.int .i64 k] w fun e w'=>e=.returned (.int .i64 (k+(nL Zdq xs:Nat)))∧Below w.heap.size w w':=by
 have hm:=Zax hA
 rw [Zbu] at hm
 go_enter Tryz.func90,Tryz.ntmps90
 go_wp2
 go_loopw [1,5] (fun kv i wr=>∃ (j:Nat) (K:Int),j≤xs.length∧kv=.int .i64 K∧i=.int .i64 j∧Aside0 (K=k+(nL Zdq (xs.take j):Nat))∧Below w.heap.size w wr) (fun _ i _=>xs.length-(intOf i).toNat)
 case atStart=>exact ⟨0,_,Nat.zero_le _,rfl,rfl,⟨by simp [nL]⟩,brf_⟩
 case round =>
  obtain ⟨j,K,hj,rfl,rfl,hKa,hb⟩:=hrel
  have hK:=hKa.out
  by_cases hlt:j<xs.length
  ·obtain ⟨x,hx⟩:=Zar xs hlt
   have ht:=Zcw Zdq xs j x hx
   have hle:=Zfg Zdq xs (j+1)
   have hx2:=Zfh Zdq xs k j x hx
   rw [← hK] at hx2
   have hn:Zdq.n x=nL Zer x:=rfl
   rw [hn] at ht
   have hK0:0≤K:=by omega
   have hmax:K+(nL Zer x:Nat)≤1099511627776:=by omega
   have hta:=Aside0.mk ht
   clear ht hle hn
   have hb0:=hb
   obtain ⟨ad,A1,c1,rfl,a0,l1,r1⟩:=Zjs (Zac hA hb) hx2
   dsimp only [Zdq] at a0 r1
   clear hK hx2
   simp only [Zbu] at a0
   have hw0:=hb
   have hz0:=Below.refl wr.heap.size wr
   go_wp2_with (first
    | (go_at_call 89;refine (Zfv A1 c1 x (K) _ (Zac r1 hz0) (by omega) (by omega)).mono ?_;rintro e w1 ⟨rfl,hb1⟩;have hw1:=hw0.trans (hb1.mono hw0.size);have hz1:=hz0.trans (hb1.mono hz0.size)))
   have hK:=hKa.out
   have ht:=hta.out
   refine ⟨⟨j+1,_,by omega,rfl,rfl,⟨by omega⟩,hw1⟩, ?_⟩
   simp [intOf]
   omega
  ·have e:j=xs.length:=by omega
   subst e
   rw [List.take_length] at hK
   go_wp2
   go_ret
   exact ⟨by rw [hK];rfl,hb⟩
theorem Zgv (A:Option Addr) (c:Nat) (xs:List Box) (k:Int) (w:World) (hA:Rd kBox w A (mkL mBox xs k)) (h0:0≤k) (h1:k+(nL mBox xs:Nat)≤1099511627776) :
  Calls Tryz.prog 46 #[.slice A xs.length c,.int .i64 k] w fun e w'=>e=.returned (.int .i64 (k+(nL mBox xs:Nat)))∧Below w.heap.size w w':=by
 have hm:=Zax hA
 rw [Zbu] at hm
 go_enter Tryz.func46,Tryz.ntmps46
 go_wp2
 go_loopw [1,5] (fun kv i wr=>∃ (j:Nat) (K:Int),j≤xs.length∧kv=.int .i64 K∧i=.int .i64 j∧Aside0 (K=k+(nL mBox (xs.take j):Nat))∧Below w.heap.size w wr) (fun _ i _=>xs.length-(intOf i).toNat)
 case atStart=>exact ⟨0,_,Nat.zero_le _,rfl,rfl,⟨by simp [nL]⟩,brf_⟩
 case round =>
  obtain ⟨j,K,hj,rfl,rfl,hKa,hb⟩:=hrel
  have hK:=hKa.out
  by_cases hlt:j<xs.length
  ·obtain ⟨x,hx⟩:=Zar xs hlt
   have ht:=Zcw mBox xs j x hx
   have hle:=Zfg mBox xs (j+1)
   have hx2:=Zfh mBox xs k j x hx
   rw [← hK] at hx2
   have hn:mBox.n x=1+nL Zdq x.items:=rfl
   rw [hn] at ht
   have hK0:0≤K:=by omega
   have hmax:K+(1+nL Zdq x.items:Nat)≤1099511627776:=by omega
   have hta:=Aside0.mk ht
   clear ht hle hn
   have hb0:=hb
   obtain ⟨ad,A1,c1,rfl,a0,a1,l1,r1⟩:=Zqe (Zac hA hb) hx2
   dsimp only [mBox] at a0 a1 r1
   clear hK hx2
   simp only [Zbu] at a1
   have hw0:=hb
   have hz0:=Below.refl wr.heap.size wr
   go_wp2_with (first
    | (go_at_call 90;refine (Zhj A1 c1 x.items (K+1) _ (Zac r1 hz0) (by omega) (by omega)).mono ?_;rintro e w1 ⟨rfl,hb1⟩;have hw1:=hw0.trans (hb1.mono hw0.size);have hz1:=hz0.trans (hb1.mono hz0.size)))
   have hK:=hKa.out
   have ht:=hta.out
   refine ⟨⟨j+1,_,by omega,rfl,rfl,⟨by omega⟩,hw1⟩, ?_⟩
   simp [intOf]
   omega
  ·have e:j=xs.length:=by omega
   subst e
   rw [List.take_length] at hK
   go_wp2
   go_ret
   exact ⟨by rw [hK];rfl,hb⟩
theorem Ziu (A:Option Addr) (c:Nat) (xs:List Sight) (k:Int) (w:World) (hA:Rd Zes w A (mkL Zej xs k)) (h0:0≤k) (h1:k+(nL Zej xs:Nat)≤1099511627776) :
  Calls Tryz.prog 91 #[.slice A xs.length c,.int .i64 k] w fun e w'=>e=.returned (.int .i64 (k+(nL Zej xs:Nat)))∧Below w.heap.size w w':=by
 have hm:=Zax hA
 rw [Zbu] at hm
 go_enter Tryz.func91,Tryz.ntmps91
 go_wp2
 go_loopw [1,5] (fun kv i wr=>∃ (j:Nat) (K:Int),j≤xs.length∧kv=.int .i64 K∧i=.int .i64 j∧Aside0 (K=k+(nL Zej (xs.take j):Nat))∧Below w.heap.size w wr) (fun _ i _=>xs.length-(intOf i).toNat)
 case atStart=>exact ⟨0,_,Nat.zero_le _,rfl,rfl,⟨by simp [nL]⟩,brf_⟩
 case round =>
  obtain ⟨j,K,hj,rfl,rfl,hKa,hb⟩:=hrel
  have hK:=hKa.out
  by_cases hlt:j<xs.length
  ·obtain ⟨x,hx⟩:=Zar xs hlt
   have ht:=Zcw Zej xs j x hx
   have hle:=Zfg Zej xs (j+1)
   have hx2:=Zfh Zej xs k j x hx
   rw [← hK] at hx2
   have hn:Zej.n x=2+nL Zer x.bytes:=rfl
   rw [hn] at ht
   have hK0:0≤K:=by omega
   have hmax:K+(2+nL Zer x.bytes:Nat)≤1099511627776:=by omega
   have hta:=Aside0.mk ht
   clear ht hle hn
   have hb0:=hb
   obtain ⟨ad,A1,c1,rfl,a0,a1,a2,l1,r1⟩:=Zlv (Zac hA hb) hx2
   dsimp only [Zej] at a0 a1 a2 r1
   clear hK hx2
   simp only [Zbu] at a2
   have hw0:=hb
   have hz0:=Below.refl wr.heap.size wr
   go_wp2_with (first
    | (go_at_call 89;refine (Zfv A1 c1 x.bytes (K+1+1) _ (Zac r1 hz0) (by omega) (by omega)).mono ?_;rintro e w1 ⟨rfl,hb1⟩;have hw1:=hw0.trans (hb1.mono hw0.size);have hz1:=hz0.trans (hb1.mono hz0.size)))
   have hK:=hKa.out
   have ht:=hta.out
   refine ⟨⟨j+1,_,by omega,rfl,rfl,⟨by omega⟩,hw1⟩, ?_⟩
   simp [intOf]
   omega
  ·have e:j=xs.length:=by omega
   subst e
   rw [List.take_length] at hK
   go_wp2
   go_ret
   exact ⟨by rw [hK];rfl,hb⟩
theorem Zil (A:Option Addr) (c:Nat) (xs:List (List Sight)) (k:Int) (w:World) (hA:Rd Zbv w A (mkL Zde xs k)) (h0:0≤k) (h1:k+(nL Zde xs:Nat)≤1099511627776) :
  Calls Tryz.prog 48 #[.slice A xs.length c,.int .i64 k] w fun e w'=>e=.returned (.int .i64 (k+(nL Zde xs:Nat)))∧Below w.heap.size w w':=by
 have hm:=Zax hA
 rw [Zbu] at hm
 go_enter Tryz.func48,Tryz.ntmps48
 go_wp2
 go_loopw [1,5] (fun kv i wr=>∃ (j:Nat) (K:Int),j≤xs.length∧kv=.int .i64 K∧i=.int .i64 j∧Aside0 (K=k+(nL Zde (xs.take j):Nat))∧Below w.heap.size w wr) (fun _ i _=>xs.length-(intOf i).toNat)
 case atStart=>exact ⟨0,_,Nat.zero_le _,rfl,rfl,⟨by simp [nL]⟩,brf_⟩
 case round =>
  obtain ⟨j,K,hj,rfl,rfl,hKa,hb⟩:=hrel
  have hK:=hKa.out
  by_cases hlt:j<xs.length
  ·obtain ⟨x,hx⟩:=Zar xs hlt
   have ht:=Zcw Zde xs j x hx
   have hle:=Zfg Zde xs (j+1)
   have hx2:=Zfh Zde xs k j x hx
   rw [← hK] at hx2
   have hn:Zde.n x=nL Zej x:=rfl
   rw [hn] at ht
   have hK0:0≤K:=by omega
   have hmax:K+(nL Zej x:Nat)≤1099511627776:=by omega
   have hta:=Aside0.mk ht
   clear ht hle hn
   have hb0:=hb
   obtain ⟨ad,A1,c1,rfl,a0,l1,r1⟩:=Zhd (Zac hA hb) hx2
   dsimp only [Zde] at a0 r1
   clear hK hx2
   simp only [Zbu] at a0
   have hw0:=hb
   have hz0:=Below.refl wr.heap.size wr
   go_wp2_with (first
    | (go_at_call 91;refine (Ziu A1 c1 x (K) _ (Zac r1 hz0) (by omega) (by omega)).mono ?_;rintro e w1 ⟨rfl,hb1⟩;have hw1:=hw0.trans (hb1.mono hw0.size);have hz1:=hz0.trans (hb1.mono hz0.size)))
   have hK:=hKa.out
   have ht:=hta.out
   refine ⟨⟨j+1,_,by omega,rfl,rfl,⟨by omega⟩,hw1⟩, ?_⟩
   simp [intOf]
   omega
  ·have e:j=xs.length:=by omega
   subst e
   rw [List.take_length] at hK
   go_wp2
   go_ret
   exact ⟨by rw [hK];rfl,hb⟩
theorem Zkg (A:Option Addr) (c:Nat) (xs:List (List (List Int))) (k:Int) (w:World) (hA:Rd Zdd w A (mkL Zcx xs k)) (h0:0≤k) (h1:k+(nL Zcx xs:Nat)≤1099511627776) :
  Calls Tryz.prog 47 #[.slice A xs.length c,.int .i64 k] w fun e w'=>e=.returned (.int .i64 (k+(nL Zcx xs:Nat)))∧Below w.heap.size w w':=by
 have hm:=Zax hA
 rw [Zbu] at hm
 go_enter Tryz.func47,Tryz.ntmps47
 go_wp2
 go_loopw [1,5] (fun kv i wr=>∃ (j:Nat) (K:Int),j≤xs.length∧kv=.int .i64 K∧i=.int .i64 j∧Aside0 (K=k+(nL Zcx (xs.take j):Nat))∧Below w.heap.size w wr) (fun _ i _=>xs.length-(intOf i).toNat)
 case atStart=>exact ⟨0,_,Nat.zero_le _,rfl,rfl,⟨by simp [nL]⟩,brf_⟩
 case round =>
  obtain ⟨j,K,hj,rfl,rfl,hKa,hb⟩:=hrel
  have hK:=hKa.out
  by_cases hlt:j<xs.length
  ·obtain ⟨x,hx⟩:=Zar xs hlt
   have ht:=Zcw Zcx xs j x hx
   have hle:=Zfg Zcx xs (j+1)
   have hx2:=Zfh Zcx xs k j x hx
   rw [← hK] at hx2
   have hn:Zcx.n x=nL Zdq x:=rfl
   rw [hn] at ht
   have hK0:0≤K:=by omega
   have hmax:K+(nL Zdq x:Nat)≤1099511627776:=by omega
   have hta:=Aside0.mk ht
   clear ht hle hn
   have hb0:=hb
   obtain ⟨ad,A1,c1,rfl,a0,l1,r1⟩:=Zqd (Zac hA hb) hx2
   dsimp only [Zcx] at a0 r1
   clear hK hx2
   simp only [Zbu] at a0
   have hw0:=hb
   have hz0:=Below.refl wr.heap.size wr
   go_wp2_with (first
    | (go_at_call 90;refine (Zhj A1 c1 x (K) _ (Zac r1 hz0) (by omega) (by omega)).mono ?_;rintro e w1 ⟨rfl,hb1⟩;have hw1:=hw0.trans (hb1.mono hw0.size);have hz1:=hz0.trans (hb1.mono hz0.size)))
   have hK:=hKa.out
   have ht:=hta.out
   refine ⟨⟨j+1,_,by omega,rfl,rfl,⟨by omega⟩,hw1⟩, ?_⟩
   simp [intOf]
   omega
  ·have e:j=xs.length:=by omega
   subst e
   rw [List.take_length] at hK
   go_wp2
   go_ret
   exact ⟨by rw [hK];rfl,hb⟩
theorem Zkh (x:Pln) (A1 A2 A3 A4:Option Addr) (c1 c2 c3 c4:Nat) (k:Int) (w:World) (hA1:Rd kCel w A1 (mPln.put x k).cells) (hA2:Rd kWy w A2 (mPln.put x k).ways) (hA3:Rd kSlt w A3 (mPln.put x k).slots) (hA4:Rd Zda w A4 (mPln.put x k).turns) (h0:0≤k) (h1:k+(mPln.n x:Nat)≤1099511627776) :
  Calls Tryz.prog 43 #[.agg #[.int .i64 x.nodes,.int .i64 x.secret,.int .i64 x.fuel,.slice A1 x.cells.length c1,.slice A2 x.ways.length c2,.slice A3 x.slots.length c3,.slice A4 x.turns.length c4],.int .i64 k] w fun e w'=>e=.returned (.int .i64 (k+(mPln.n x:Nat)))∧Below w.heap.size w w':=by
 have hn:mPln.n x=nL mCel x.cells+nL mWy x.ways+nL mSlt x.slots+nL Zfx x.turns:=rfl
 rw [hn] at h1
 dsimp only [mPln] at hA1 hA2 hA3 hA4
 have hw0:Below w.heap.size w (w.alloc (.cells #[.int .i64 x.nodes,.int .i64 x.secret,.int .i64 x.fuel,.slice A1 x.cells.length c1,.slice A2 x.ways.length c2,.slice A3 x.slots.length c3,.slice A4 x.turns.length c4] 33)):=(brf_).alloc nlr_ _
 have Na0:=Zas w (.cells #[.int .i64 x.nodes,.int .i64 x.secret,.int .i64 x.fuel,.slice A1 x.cells.length c1,.slice A2 x.ways.length c2,.slice A3 x.slots.length c3,.slice A4 x.turns.length c4] 33)
 go_enter Tryz.func43,Tryz.ntmps43
 go_wp2_with (first
  | (go_at_call 87;refine (Zmt A4 c4 x.turns (k+(nL mCel x.cells:Nat)+(nL mWy x.ways:Nat)+(nL mSlt x.slots:Nat)) _ (Zac hA4 hw3) (by omega) (by omega)).mono ?_;rintro e w4 ⟨rfl,hb4⟩;have hw4:=hw3.trans (hb4.mono hw3.size);have Na4:=Zab Na3 hb4;clear ea0 ea1 ea2 ea3 ea4 ea5 ea6;obtain ⟨ea0,ea1,ea2,ea3,ea4,ea5,ea6⟩:=cellsP7 Na4)
  | (go_at_call 86;refine (Zjk A3 c3 x.slots (k+(nL mCel x.cells:Nat)+(nL mWy x.ways:Nat)) _ (Zac hA3 hw2) (by omega) (by omega)).mono ?_;rintro e w3 ⟨rfl,hb3⟩;have hw3:=hw2.trans (hb3.mono hw2.size);have Na3:=Zab Na2 hb3;clear ea0 ea1 ea2 ea3 ea4 ea5 ea6;obtain ⟨ea0,ea1,ea2,ea3,ea4,ea5,ea6⟩:=cellsP7 Na3)
  | (go_at_call 85;refine (Zkf A2 c2 x.ways (k+(nL mCel x.cells:Nat)) _ (Zac hA2 hw1) (by omega) (by omega)).mono ?_;rintro e w2 ⟨rfl,hb2⟩;have hw2:=hw1.trans (hb2.mono hw1.size);have Na2:=Zab Na1 hb2;clear ea0 ea1 ea2 ea3 ea4 ea5 ea6;obtain ⟨ea0,ea1,ea2,ea3,ea4,ea5,ea6⟩:=cellsP7 Na2)
  | (go_at_call 84;refine (Zjl A1 c1 x.cells (k) _ (Zac hA1 hw0) (by omega) (by omega)).mono ?_;rintro e w1 ⟨rfl,hb1⟩;have hw1:=hw0.trans (hb1.mono hw0.size);have Na1:=Zab Na0 hb1;obtain ⟨ea0,ea1,ea2,ea3,ea4,ea5,ea6⟩:=cellsP7 Na1))
 go_ret
 exact ⟨congrArg (fun z=>Ending.returned (Value.int .i64 z)) (show k+(nL mCel x.cells:Nat)+(nL mWy x.ways:Nat)+(nL mSlt x.slots:Nat)+(nL Zfx x.turns:Nat)=k+(mPln.n x:Nat) by rw [hn];omega),hw4⟩
theorem Zjo (x:One) (A1 A2 A3 A4 A5 A6 A7 A8 A9 A10:Option Addr) (c1 c2 c3 c4 c5 c6 c7 c8 c9 c10:Nat) (k:Int) (w:World) (hA1:Rd kCel w A1 (mOne.put x k).plan.cells) (hA2:Rd kWy w A2 (mOne.put x k).plan.ways) (hA3:Rd kSlt w A3 (mOne.put x k).plan.slots) (hA4:Rd Zda w A4 (mOne.put x k).plan.turns) (hA5:Rd Zgk w A5 (mOne.put x k).up) (hA6:Rd Zby w A6 (mOne.put x k).cells) (hA7:Rd kBox w A7 (mOne.put x k).out) (hA8:Rd kBox w A8 (mOne.put x k).inn) (hA9:Rd Zdd w A9 (mOne.put x k).air) (hA10:Rd Zbv w A10 (mOne.put x k).seen) (h0:0≤k) (h1:k+(mOne.n x:Nat)≤1099511627776) :
  Calls Tryz.prog 12 #[.agg #[.int .i64 x.plan.nodes,.int .i64 x.plan.secret,.int .i64 x.plan.fuel,.slice A1 x.plan.cells.length c1,.slice A2 x.plan.ways.length c2,.slice A3 x.plan.slots.length c3,.slice A4 x.plan.turns.length c4,.slice A5 x.up.length c5,.slice A6 x.cells.length c6,.slice A7 x.out.length c7,.slice A8 x.inn.length c8,.slice A9 x.air.length c9,.int .i64 x.now,.slice A10 x.seen.length c10],.int .i64 k] w fun e w'=>e=.returned (.int .i64 (k+(mOne.n x:Nat)))∧Below w.heap.size w w':=by
 have hn:mOne.n x=mPln.n x.plan+nL Zdz x.up+nL Zcy x.cells+nL mBox x.out+nL mBox x.inn+nL Zcx x.air+nL Zde x.seen:=rfl
 rw [hn] at h1
 dsimp only [mOne] at hA1 hA2 hA3 hA4 hA5 hA6 hA7 hA8 hA9 hA10
 have hw0:Below w.heap.size w (w.alloc (.cells #[.int .i64 x.plan.nodes,.int .i64 x.plan.secret,.int .i64 x.plan.fuel,.slice A1 x.plan.cells.length c1,.slice A2 x.plan.ways.length c2,.slice A3 x.plan.slots.length c3,.slice A4 x.plan.turns.length c4,.slice A5 x.up.length c5,.slice A6 x.cells.length c6,.slice A7 x.out.length c7,.slice A8 x.inn.length c8,.slice A9 x.air.length c9,.int .i64 x.now,.slice A10 x.seen.length c10] 40)):=(brf_).alloc nlr_ _
 have Na0:=Zas w (.cells #[.int .i64 x.plan.nodes,.int .i64 x.plan.secret,.int .i64 x.plan.fuel,.slice A1 x.plan.cells.length c1,.slice A2 x.plan.ways.length c2,.slice A3 x.plan.slots.length c3,.slice A4 x.plan.turns.length c4,.slice A5 x.up.length c5,.slice A6 x.cells.length c6,.slice A7 x.out.length c7,.slice A8 x.inn.length c8,.slice A9 x.air.length c9,.int .i64 x.now,.slice A10 x.seen.length c10] 40)
 go_enter Tryz.func12,Tryz.ntmps12
 go_wp2_with (first
  | (go_at_call 48;refine (Zil A10 c10 x.seen (k+(mPln.n x.plan:Nat)+(nL Zdz x.up:Nat)+(nL Zcy x.cells:Nat)+(nL mBox x.out:Nat)+(nL mBox x.inn:Nat)+(nL Zcx x.air:Nat)) _ (Zac hA10 hw6) (by omega) (by omega)).mono ?_;rintro e w7 ⟨rfl,hb7⟩;have hw7:=hw6.trans (hb7.mono hw6.size);have Na7:=Zab Na6 hb7;clear ea0 ea1 ea2 ea3 ea4 ea5 ea6 ea7 ea8 ea9 ea10 ea11 ea12 ea13;obtain ⟨ea0,ea1,ea2,ea3,ea4,ea5,ea6,ea7,ea8,ea9,ea10,ea11,ea12,ea13⟩:=cellsP14 Na7)
  | (go_at_call 47;refine (Zkg A9 c9 x.air (k+(mPln.n x.plan:Nat)+(nL Zdz x.up:Nat)+(nL Zcy x.cells:Nat)+(nL mBox x.out:Nat)+(nL mBox x.inn:Nat)) _ (Zac hA9 hw5) (by omega) (by omega)).mono ?_;rintro e w6 ⟨rfl,hb6⟩;have hw6:=hw5.trans (hb6.mono hw5.size);have Na6:=Zab Na5 hb6;clear ea0 ea1 ea2 ea3 ea4 ea5 ea6 ea7 ea8 ea9 ea10 ea11 ea12 ea13;obtain ⟨ea0,ea1,ea2,ea3,ea4,ea5,ea6,ea7,ea8,ea9,ea10,ea11,ea12,ea13⟩:=cellsP14 Na6)
  | (go_at_call 46;refine (Zgv A8 c8 x.inn (k+(mPln.n x.plan:Nat)+(nL Zdz x.up:Nat)+(nL Zcy x.cells:Nat)+(nL mBox x.out:Nat)) _ (Zac hA8 hw4) (by omega) (by omega)).mono ?_;rintro e w5 ⟨rfl,hb5⟩;have hw5:=hw4.trans (hb5.mono hw4.size);have Na5:=Zab Na4 hb5;clear ea0 ea1 ea2 ea3 ea4 ea5 ea6 ea7 ea8 ea9 ea10 ea11 ea12 ea13;obtain ⟨ea0,ea1,ea2,ea3,ea4,ea5,ea6,ea7,ea8,ea9,ea10,ea11,ea12,ea13⟩:=cellsP14 Na5)
  | (go_at_call 46;refine (Zgv A7 c7 x.out (k+(mPln.n x.plan:Nat)+(nL Zdz x.up:Nat)+(nL Zcy x.cells:Nat)) _ (Zac hA7 hw3) (by omega) (by omega)).mono ?_;rintro e w4 ⟨rfl,hb4⟩;have hw4:=hw3.trans (hb4.mono hw3.size);have Na4:=Zab Na3 hb4;clear ea0 ea1 ea2 ea3 ea4 ea5 ea6 ea7 ea8 ea9 ea10 ea11 ea12 ea13;obtain ⟨ea0,ea1,ea2,ea3,ea4,ea5,ea6,ea7,ea8,ea9,ea10,ea11,ea12,ea13⟩:=cellsP14 Na4)
  | (go_at_call 45;refine (Zjn A6 c6 x.cells (k+(mPln.n x.plan:Nat)+(nL Zdz x.up:Nat)) _ (Zac hA6 hw2) (by omega) (by omega)).mono ?_;rintro e w3 ⟨rfl,hb3⟩;have hw3:=hw2.trans (hb3.mono hw2.size);have Na3:=Zab Na2 hb3;clear ea0 ea1 ea2 ea3 ea4 ea5 ea6 ea7 ea8 ea9 ea10 ea11 ea12 ea13;obtain ⟨ea0,ea1,ea2,ea3,ea4,ea5,ea6,ea7,ea8,ea9,ea10,ea11,ea12,ea13⟩:=cellsP14 Na3)
  | (go_at_call 44;refine (Zms A5 c5 x.up (k+(mPln.n x.plan:Nat)) _ (Zac hA5 hw1) (by omega) (by omega)).mono ?_;rintro e w2 ⟨rfl,hb2⟩;have hw2:=hw1.trans (hb2.mono hw1.size);have Na2:=Zab Na1 hb2;clear ea0 ea1 ea2 ea3 ea4 ea5 ea6 ea7 ea8 ea9 ea10 ea11 ea12 ea13;obtain ⟨ea0,ea1,ea2,ea3,ea4,ea5,ea6,ea7,ea8,ea9,ea10,ea11,ea12,ea13⟩:=cellsP14 Na2)
  | (go_at_call 43;refine (Zkh x.plan A1 A2 A3 A4 c1 c2 c3 c4 (k) _ (Zac hA1 hw0) (Zac hA2 hw0) (Zac hA3 hw0) (Zac hA4 hw0) (by omega) (by omega)).mono ?_;rintro e w1 ⟨rfl,hb1⟩;have hw1:=hw0.trans (hb1.mono hw0.size);have Na1:=Zab Na0 hb1;obtain ⟨ea0,ea1,ea2,ea3,ea4,ea5,ea6,ea7,ea8,ea9,ea10,ea11,ea12,ea13⟩:=cellsP14 Na1))
 go_ret
 exact ⟨congrArg (fun z=>Ending.returned (Value.int .i64 z)) (show k+(mPln.n x.plan:Nat)+(nL Zdz x.up:Nat)+(nL Zcy x.cells:Nat)+(nL mBox x.out:Nat)+(nL mBox x.inn:Nat)+(nL Zcx x.air:Nat)+(nL Zde x.seen:Nat)=k+(mOne.n x:Nat) by rw [hn];omega),hw7⟩
theorem Zhk (A B:Option Addr) (c d:Nat) (xs:List Int) (w:World) (hA:Rd kInt w A xs) (hB:Rd kInt w B xs) :
  Calls Tryz.prog 77 #[.slice A xs.length c,.slice B xs.length d] w fun e w'=>e=.returned (.bool true)∧Below w.heap.size w w':=by
 have hm:=Zax hA
 go_enter Tryz.func77,Tryz.ntmps77
 go_wp2
 go_loopw [5] (fun i wr=>∃ k:Nat,k≤xs.length∧i=.int .i64 k∧Below w.heap.size w wr) (fun i _=>xs.length-(intOf i).toNat)
 case atStart=>exact ⟨0,Nat.zero_le _,rfl,brf_⟩
 case round =>
  obtain ⟨k,hk,rfl,hb⟩:=hrel
  by_cases hlt:k<xs.length
  ·obtain ⟨x,hx⟩:=Zar xs hlt
   have hd:=Zat hb
   obtain ⟨ad,rfl,a0⟩:=Zeq (Zac hA hd) hx
   obtain ⟨bd,rfl,b0⟩:=Zeq (Zac hB hd) hx
   go_wp2_with fail
   go_region
   all_goals
    go_wp2
    refine ⟨⟨k+1,by omega,rfl,hd⟩, ?_⟩
    simp [intOf]
    omega
  ·have e:k=xs.length:=by omega
   subst e
   go_wp2
   go_ret
   exact ⟨rfl,hb⟩
theorem Zgq (A B:Option Addr) (c d:Nat) (xs:List Int) (w:World) (hA:Rd Zdh w A xs) (hB:Rd Zdh w B xs) :
  Calls Tryz.prog 119 #[.slice A xs.length c,.slice B xs.length d] w fun e w'=>e=.returned (.bool true)∧Below w.heap.size w w':=by
 have hm:=Zax hA
 go_enter Tryz.func119,Tryz.ntmps119
 go_wp2
 go_loopw [5] (fun i wr=>∃ k:Nat,k≤xs.length∧i=.int .i64 k∧Below w.heap.size w wr) (fun i _=>xs.length-(intOf i).toNat)
 case atStart=>exact ⟨0,Nat.zero_le _,rfl,brf_⟩
 case round =>
  obtain ⟨k,hk,rfl,hb⟩:=hrel
  by_cases hlt:k<xs.length
  ·obtain ⟨x,hx⟩:=Zar xs hlt
   have hd:=Zat hb
   obtain ⟨ad,rfl,a0⟩:=Zuy (Zac hA hd) hx
   obtain ⟨bd,rfl,b0⟩:=Zuy (Zac hB hd) hx
   go_wp2_with fail
   go_region
   all_goals
    go_wp2
    refine ⟨⟨k+1,by omega,rfl,hd⟩, ?_⟩
    simp [intOf]
    omega
  ·have e:k=xs.length:=by omega
   subst e
   go_wp2
   go_ret
   exact ⟨rfl,hb⟩
theorem Zpp (A B:Option Addr) (c d:Nat) (xs:List Bool) (w:World) (hA:Rd Zgk w A xs) (hB:Rd Zgk w B xs) :
  Calls Tryz.prog 25 #[.slice A xs.length c,.slice B xs.length d] w fun e w'=>e=.returned (.bool true)∧Below w.heap.size w w':=by
 have hm:=Zax hA
 go_enter Tryz.func25,Tryz.ntmps25
 go_wp2
 go_loopw [5] (fun i wr=>∃ k:Nat,k≤xs.length∧i=.int .i64 k∧Below w.heap.size w wr) (fun i _=>xs.length-(intOf i).toNat)
 case atStart=>exact ⟨0,Nat.zero_le _,rfl,brf_⟩
 case round =>
  obtain ⟨k,hk,rfl,hb⟩:=hrel
  by_cases hlt:k<xs.length
  ·obtain ⟨x,hx⟩:=Zar xs hlt
   have hd:=Zat hb
   obtain ⟨ad,rfl,a0⟩:=Zuz (Zac hA hd) hx
   obtain ⟨bd,rfl,b0⟩:=Zuz (Zac hB hd) hx
   go_wp2_with fail
   go_region
   all_goals
    go_wp2
    refine ⟨⟨k+1,by omega,rfl,hd⟩, ?_⟩
    simp [intOf]
    omega
  ·have e:k=xs.length:=by omega
   subst e
   go_wp2
   go_ret
   exact ⟨rfl,hb⟩
structure Lbl where
 lvl:Int
 marks:Int
theorem Zkz (x:Lbl) (w:World) :
  Calls Tryz.prog 121 #[.agg #[.int .i64 x.lvl,.int .i64 x.marks],.agg #[.int .i64 x.lvl,.int .i64 x.marks]] w fun e w'=>e=.returned (.bool true)∧Below w.heap.size w w':=by
 have hw0:Below w.heap.size w ((w.alloc (.cells #[.int .i64 x.lvl,.int .i64 x.marks] 104)).alloc (.cells #[.int .i64 x.lvl,.int .i64 x.marks] 104)):=((brf_).alloc nlr_ _).alloc (by simp) _
 go_enter Tryz.func121,Tryz.ntmps121
 go_wp2
 go_ret
 exact ⟨rfl,hw0⟩
theorem Zmu (x:Ord) (w:World) :
  Calls Tryz.prog 170 #[.agg #[.int .i64 x.op,.int .i64 x.a,.int .i64 x.b,.int .i64 x.c],.agg #[.int .i64 x.op,.int .i64 x.a,.int .i64 x.b,.int .i64 x.c]] w fun e w'=>e=.returned (.bool true)∧Below w.heap.size w w':=by
 have hw0:Below w.heap.size w ((w.alloc (.cells #[.int .i64 x.op,.int .i64 x.a,.int .i64 x.b,.int .i64 x.c] 181)).alloc (.cells #[.int .i64 x.op,.int .i64 x.a,.int .i64 x.b,.int .i64 x.c] 181)):=((brf_).alloc nlr_ _).alloc (by simp) _
 go_enter Tryz.func170,Tryz.ntmps170
 go_wp2
 go_ret
 exact ⟨rfl,hw0⟩
theorem Zla (A B:Option Addr) (c d:Nat) (xs:List Ord) (w:World) (hA:Rd kOrd w A xs) (hB:Rd kOrd w B xs) :
  Calls Tryz.prog 122 #[.slice A xs.length c,.slice B xs.length d] w fun e w'=>e=.returned (.bool true)∧Below w.heap.size w w':=by
 have hm:=Zax hA
 go_enter Tryz.func122,Tryz.ntmps122
 go_wp2
 go_loopw [5] (fun i wr=>∃ k:Nat,k≤xs.length∧i=.int .i64 k∧Below w.heap.size w wr) (fun i _=>xs.length-(intOf i).toNat)
 case atStart=>exact ⟨0,Nat.zero_le _,rfl,brf_⟩
 case round =>
  obtain ⟨k,hk,rfl,hb⟩:=hrel
  by_cases hlt:k<xs.length
  ·obtain ⟨x,hx⟩:=Zar xs hlt
   have hd:=Zat hb
   obtain ⟨ad,rfl,a0,a1,a2,a3⟩:=Zog (Zac hA hd) hx
   obtain ⟨bd,rfl,b0,b1,b2,b3⟩:=Zog (Zac hB hd) hx
   go_wp2_with fail
   go_region_with (go_at_call 170;refine (Zmu x _).mono ?_;rintro e w1 ⟨rfl,hb1⟩)
   all_goals
    go_wp2
    refine ⟨⟨k+1,by omega,rfl,hd.trans (hb1.mono hd.size)⟩, ?_⟩
    simp [intOf]
    omega
  ·have e:k=xs.length:=by omega
   subst e
   go_wp2
   go_ret
   exact ⟨rfl,hb⟩
structure VmS where
 pc:Int
 regs:List Int
 mem:List Int
 halt:Int
theorem Zmv (x:VmS) (A1 B1:Option Addr) (c1 d1:Nat) (A2 B2:Option Addr) (c2 d2:Nat) (w:World) (hA1:Rd kInt w A1 x.regs) (hB1:Rd kInt w B1 x.regs) (hA2:Rd kInt w A2 x.mem) (hB2:Rd kInt w B2 x.mem) :
  Calls Tryz.prog 118 #[.agg #[.int .i64 x.pc,.slice A1 x.regs.length c1,.slice A2 x.mem.length c2,.int .i64 x.halt],.agg #[.int .i64 x.pc,.slice B1 x.regs.length d1,.slice B2 x.mem.length d2,.int .i64 x.halt]] w fun e w'=>e=.returned (.bool true)∧Below w.heap.size w w':=by
 have hw0:Below w.heap.size w ((w.alloc (.cells #[.int .i64 x.pc,.slice A1 x.regs.length c1,.slice A2 x.mem.length c2,.int .i64 x.halt] 100)).alloc (.cells #[.int .i64 x.pc,.slice B1 x.regs.length d1,.slice B2 x.mem.length d2,.int .i64 x.halt] 100)):=((brf_).alloc nlr_ _).alloc (by simp) _
 go_enter Tryz.func118,Tryz.ntmps118
 go_wp2_with (first
  | (go_at_call 77;refine (Zhk A2 B2 c2 d2 _ _ (Zac hA2 hw1) (Zac hB2 hw1)).mono ?_;rintro e w2 ⟨rfl,hb2⟩;have hw2:=hw1.trans (hb2.mono hw1.size);clear ea1_0 eb1_0 ea1_1 eb1_1 ea1_2 eb1_2 ea1_3 eb1_3;have Na2:=Zab Na1 hb2;have Nb2:=Zab Nb1 hb2;obtain ⟨ea2_0,ea2_1,ea2_2,ea2_3⟩:=cellsP4 Na2;obtain ⟨eb2_0,eb2_1,eb2_2,eb2_3⟩:=cellsP4 Nb2)
  | (go_at_call 77;refine (Zhk A1 B1 c1 d1 _ _ (Zac hA1 hw0) (Zac hB1 hw0)).mono ?_;rintro e w1 ⟨rfl,hb1⟩;have hw1:=hw0.trans (hb1.mono hw0.size);have Na1:=Zab (Zal (Zas w _) _) hb1;have Nb1:=Zab (Zbs (g:=w.heap.size+1) _ _ (by simp)) hb1;obtain ⟨ea1_0,ea1_1,ea1_2,ea1_3⟩:=cellsP4 Na1;obtain ⟨eb1_0,eb1_1,eb1_2,eb1_3⟩:=cellsP4 Nb1))
 go_ret
 exact ⟨rfl,hw2⟩
theorem Zmw (x:CelSt) (A1 B1:Option Addr) (c1 d1:Nat) (A2 B2:Option Addr) (c2 d2:Nat) (A3 B3:Option Addr) (c3 d3:Nat) (w:World) (hA1:Rd kInt w A1 x.regs) (hB1:Rd kInt w B1 x.regs) (hA2:Rd kInt w A2 x.mem) (hB2:Rd kInt w B2 x.mem) (hA3:Rd Zdh w A3 x.inn) (hB3:Rd Zdh w B3 x.inn) :
  Calls Tryz.prog 70 #[.agg #[.int .i64 x.pc,.slice A1 x.regs.length c1,.slice A2 x.mem.length c2,.int .i64 x.halt,.slice A3 x.inn.length c3],.agg #[.int .i64 x.pc,.slice B1 x.regs.length d1,.slice B2 x.mem.length d2,.int .i64 x.halt,.slice B3 x.inn.length d3]] w fun e w'=>e=.returned (.bool true)∧Below w.heap.size w w':=by
 have hw0:Below w.heap.size w ((w.alloc (.cells #[.int .i64 x.pc,.slice A1 x.regs.length c1,.slice A2 x.mem.length c2,.int .i64 x.halt,.slice A3 x.inn.length c3] 103)).alloc (.cells #[.int .i64 x.pc,.slice B1 x.regs.length d1,.slice B2 x.mem.length d2,.int .i64 x.halt,.slice B3 x.inn.length d3] 103)):=((brf_).alloc nlr_ _).alloc (by simp) _
 go_enter Tryz.func70,Tryz.ntmps70
 go_wp2_with (first
  | (go_at_call 119;refine (Zgq A3 B3 c3 d3 _ _ (Zac hA3 hw1) (Zac hB3 hw1)).mono ?_;rintro e w2 ⟨rfl,hb2⟩;have hw2:=hw1.trans (hb2.mono hw1.size);clear ea1_0 eb1_0 ea1_1 eb1_1 ea1_2 eb1_2 ea1_3 eb1_3 ea1_4 eb1_4;have Na2:=Zab Na1 hb2;have Nb2:=Zab Nb1 hb2;obtain ⟨ea2_0,ea2_1,ea2_2,ea2_3,ea2_4⟩:=cellsP5 Na2;obtain ⟨eb2_0,eb2_1,eb2_2,eb2_3,eb2_4⟩:=cellsP5 Nb2)
  | (go_at_call 118;refine (Zmv ⟨x.pc,x.regs,x.mem,x.halt⟩ A1 B1 c1 d1 A2 B2 c2 d2 _ (Zac hA1 hw0) (Zac hB1 hw0) (Zac hA2 hw0) (Zac hB2 hw0)).mono ?_;rintro e w1 ⟨rfl,hb1⟩;have hw1:=hw0.trans (hb1.mono hw0.size);have Na1:=Zab (Zal (Zas w _) _) hb1;have Nb1:=Zab (Zbs (g:=w.heap.size+1) _ _ (by simp)) hb1;obtain ⟨ea1_0,ea1_1,ea1_2,ea1_3,ea1_4⟩:=cellsP5 Na1;obtain ⟨eb1_0,eb1_1,eb1_2,eb1_3,eb1_4⟩:=cellsP5 Nb1))
 go_ret
 exact ⟨rfl,hw2⟩
theorem Zlb (A B:Option Addr) (c d:Nat) (xs:List CelSt) (w:World) (hA:Rd Zby w A xs) (hB:Rd Zby w B xs) :
  Calls Tryz.prog 26 #[.slice A xs.length c,.slice B xs.length d] w fun e w'=>e=.returned (.bool true)∧Below w.heap.size w w':=by
 have hm:=Zax hA
 go_enter Tryz.func26,Tryz.ntmps26
 go_wp2
 go_loopw [5] (fun i wr=>∃ k:Nat,k≤xs.length∧i=.int .i64 k∧Below w.heap.size w wr) (fun i _=>xs.length-(intOf i).toNat)
 case atStart=>exact ⟨0,Nat.zero_le _,rfl,brf_⟩
 case round =>
  obtain ⟨k,hk,rfl,hb⟩:=hrel
  by_cases hlt:k<xs.length
  ·obtain ⟨x,hx⟩:=Zar xs hlt
   have hd:=Zat hb
   obtain ⟨ad,aA1,ac1,aA2,ac2,aA3,ac3,rfl,a0,a1,a2,a3,a4,al1,ar1,al2,ar2,al3,ar3⟩:=Zto (Zac hA hd) hx
   obtain ⟨bd,bA1,bc1,bA2,bc2,bA3,bc3,rfl,b0,b1,b2,b3,b4,bl1,br1,bl2,br2,bl3,br3⟩:=Zto (Zac hB hd) hx
   go_wp2_with fail
   go_region_with (go_at_call 70;refine (Zmw x _ _ _ _ _ _ _ _ _ _ _ _ _ ar1 br1 ar2 br2 ar3 br3).mono ?_;rintro e w1 ⟨rfl,hb1⟩)
   all_goals
    go_wp2
    refine ⟨⟨k+1,by omega,rfl,hd.trans (hb1.mono hd.size)⟩, ?_⟩
    simp [intOf]
    omega
  ·have e:k=xs.length:=by omega
   subst e
   go_wp2
   go_ret
   exact ⟨rfl,hb⟩
theorem Zlc (x:Sight) (A1 B1:Option Addr) (c1 d1:Nat) (w:World) (hA1:Rd Zdh w A1 x.bytes) (hB1:Rd Zdh w B1 x.bytes) :
  Calls Tryz.prog 120 #[.agg #[.int .i64 x.kind,.int .i64 x.way,.slice A1 x.bytes.length c1],.agg #[.int .i64 x.kind,.int .i64 x.way,.slice B1 x.bytes.length d1]] w fun e w'=>e=.returned (.bool true)∧Below w.heap.size w w':=by
 have hw0:Below w.heap.size w ((w.alloc (.cells #[.int .i64 x.kind,.int .i64 x.way,.slice A1 x.bytes.length c1] 176)).alloc (.cells #[.int .i64 x.kind,.int .i64 x.way,.slice B1 x.bytes.length d1] 176)):=((brf_).alloc nlr_ _).alloc (by simp) _
 go_enter Tryz.func120,Tryz.ntmps120
 go_wp2_with (first
  | (go_at_call 119;refine (Zgq A1 B1 c1 d1 _ _ (Zac hA1 hw0) (Zac hB1 hw0)).mono ?_;rintro e w1 ⟨rfl,hb1⟩;have hw1:=hw0.trans (hb1.mono hw0.size);have Na1:=Zab (Zal (Zas w _) _) hb1;have Nb1:=Zab (Zbs (g:=w.heap.size+1) _ _ (by simp)) hb1;have ea1_0:w1.cell? ⟨w.heap.size,0,none⟩=some (.int .i64 x.kind):=Zag Na1 rfl;have ea1_1:w1.cell? ⟨w.heap.size,1,none⟩=some (.int .i64 x.way):=Zag Na1 rfl;have ea1_2:w1.cell? ⟨w.heap.size,2,none⟩=some (.slice A1 x.bytes.length c1):=Zag Na1 rfl;have eb1_0:w1.cell? ⟨w.heap.size+1,0,none⟩=some (.int .i64 x.kind):=Zag Nb1 rfl;have eb1_1:w1.cell? ⟨w.heap.size+1,1,none⟩=some (.int .i64 x.way):=Zag Nb1 rfl;have eb1_2:w1.cell? ⟨w.heap.size+1,2,none⟩=some (.slice B1 x.bytes.length d1):=Zag Nb1 rfl))
 go_ret
 exact ⟨rfl,hw1⟩
theorem Zki (A B:Option Addr) (c d:Nat) (xs:List Sight) (w:World) (hA:Rd Zes w A xs) (hB:Rd Zes w B xs) :
  Calls Tryz.prog 73 #[.slice A xs.length c,.slice B xs.length d] w fun e w'=>e=.returned (.bool true)∧Below w.heap.size w w':=by
 have hm:=Zax hA
 go_enter Tryz.func73,Tryz.ntmps73
 go_wp2
 go_loopw [5] (fun i wr=>∃ k:Nat,k≤xs.length∧i=.int .i64 k∧Below w.heap.size w wr) (fun i _=>xs.length-(intOf i).toNat)
 case atStart=>exact ⟨0,Nat.zero_le _,rfl,brf_⟩
 case round =>
  obtain ⟨k,hk,rfl,hb⟩:=hrel
  by_cases hlt:k<xs.length
  ·obtain ⟨x,hx⟩:=Zar xs hlt
   have hd:=Zat hb
   obtain ⟨ad,aA1,ac1,rfl,a0,a1,a2,al1,ar1⟩:=Zlv (Zac hA hd) hx
   obtain ⟨bd,bA1,bc1,rfl,b0,b1,b2,bl1,br1⟩:=Zlv (Zac hB hd) hx
   go_wp2_with fail
   go_region_with (go_at_call 120;refine (Zlc x _ _ _ _ _ ar1 br1).mono ?_;rintro e w1 ⟨rfl,hb1⟩)
   all_goals
    go_wp2
    refine ⟨⟨k+1,by omega,rfl,hd.trans (hb1.mono hd.size)⟩, ?_⟩
    simp [intOf]
    omega
  ·have e:k=xs.length:=by omega
   subst e
   go_wp2
   go_ret
   exact ⟨rfl,hb⟩
theorem Zih (A B:Option Addr) (c d:Nat) (xs:List (List Int)) (w:World) (hA:Rd Zck w A xs) (hB:Rd Zck w B xs) :
  Calls Tryz.prog 72 #[.slice A xs.length c,.slice B xs.length d] w fun e w'=>e=.returned (.bool true)∧Below w.heap.size w w':=by
 have hm:=Zax hA
 go_enter Tryz.func72,Tryz.ntmps72
 go_wp2
 go_loopw [5] (fun i wr=>∃ k:Nat,k≤xs.length∧i=.int .i64 k∧Below w.heap.size w wr) (fun i _=>xs.length-(intOf i).toNat)
 case atStart=>exact ⟨0,Nat.zero_le _,rfl,brf_⟩
 case round =>
  obtain ⟨k,hk,rfl,hb⟩:=hrel
  by_cases hlt:k<xs.length
  ·obtain ⟨x,hx⟩:=Zar xs hlt
   have hd:=Zat hb
   obtain ⟨ad,aA1,ac1,rfl,a0,al1,ar1⟩:=Zjs (Zac hA hd) hx
   obtain ⟨bd,bA1,bc1,rfl,b0,bl1,br1⟩:=Zjs (Zac hB hd) hx
   go_wp2_with fail
   go_region_with (go_at_call 119;refine (Zgq _ _ _ _ x _ ar1 br1).mono ?_;rintro e w1 ⟨rfl,hb1⟩)
   all_goals
    go_wp2
    refine ⟨⟨k+1,by omega,rfl,hd.trans (hb1.mono hd.size)⟩, ?_⟩
    simp [intOf]
    omega
  ·have e:k=xs.length:=by omega
   subst e
   go_wp2
   go_ret
   exact ⟨rfl,hb⟩
theorem Znz (x:Box) (A1 B1:Option Addr) (c1 d1:Nat) (w:World) (hA1:Rd Zck w A1 x.items) (hB1:Rd Zck w B1 x.items) :
  Calls Tryz.prog 71 #[.agg #[.int .i64 x.depth,.slice A1 x.items.length c1],.agg #[.int .i64 x.depth,.slice B1 x.items.length d1]] w fun e w'=>e=.returned (.bool true)∧Below w.heap.size w w':=by
 have hw0:Below w.heap.size w ((w.alloc (.cells #[.int .i64 x.depth,.slice A1 x.items.length c1] 109)).alloc (.cells #[.int .i64 x.depth,.slice B1 x.items.length d1] 109)):=((brf_).alloc nlr_ _).alloc (by simp) _
 go_enter Tryz.func71,Tryz.ntmps71
 go_wp2_with (first
  | (go_at_call 72;refine (Zih A1 B1 c1 d1 _ _ (Zac hA1 hw0) (Zac hB1 hw0)).mono ?_;rintro e w1 ⟨rfl,hb1⟩;have hw1:=hw0.trans (hb1.mono hw0.size);have Na1:=Zab (Zal (Zas w _) _) hb1;have Nb1:=Zab (Zbs (g:=w.heap.size+1) _ _ (by simp)) hb1;have ea1_0:w1.cell? ⟨w.heap.size,0,none⟩=some (.int .i64 x.depth):=Zag Na1 rfl;have ea1_1:w1.cell? ⟨w.heap.size,1,none⟩=some (.slice A1 x.items.length c1):=Zag Na1 rfl;have eb1_0:w1.cell? ⟨w.heap.size+1,0,none⟩=some (.int .i64 x.depth):=Zag Nb1 rfl;have eb1_1:w1.cell? ⟨w.heap.size+1,1,none⟩=some (.slice B1 x.items.length d1):=Zag Nb1 rfl))
 go_ret
 exact ⟨rfl,hw1⟩
theorem Zhv (A B:Option Addr) (c d:Nat) (xs:List Box) (w:World) (hA:Rd kBox w A xs) (hB:Rd kBox w B xs) :
  Calls Tryz.prog 27 #[.slice A xs.length c,.slice B xs.length d] w fun e w'=>e=.returned (.bool true)∧Below w.heap.size w w':=by
 have hm:=Zax hA
 go_enter Tryz.func27,Tryz.ntmps27
 go_wp2
 go_loopw [5] (fun i wr=>∃ k:Nat,k≤xs.length∧i=.int .i64 k∧Below w.heap.size w wr) (fun i _=>xs.length-(intOf i).toNat)
 case atStart=>exact ⟨0,Nat.zero_le _,rfl,brf_⟩
 case round =>
  obtain ⟨k,hk,rfl,hb⟩:=hrel
  by_cases hlt:k<xs.length
  ·obtain ⟨x,hx⟩:=Zar xs hlt
   have hd:=Zat hb
   obtain ⟨ad,aA1,ac1,rfl,a0,a1,al1,ar1⟩:=Zqe (Zac hA hd) hx
   obtain ⟨bd,bA1,bc1,rfl,b0,b1,bl1,br1⟩:=Zqe (Zac hB hd) hx
   go_wp2_with fail
   go_region_with (go_at_call 71;refine (Znz x _ _ _ _ _ ar1 br1).mono ?_;rintro e w1 ⟨rfl,hb1⟩)
   all_goals
    go_wp2
    refine ⟨⟨k+1,by omega,rfl,hd.trans (hb1.mono hd.size)⟩, ?_⟩
    simp [intOf]
    omega
  ·have e:k=xs.length:=by omega
   subst e
   go_wp2
   go_ret
   exact ⟨rfl,hb⟩
theorem Zjp (A B:Option Addr) (c d:Nat) (xs:List (List Sight)) (w:World) (hA:Rd Zbv w A xs) (hB:Rd Zbv w B xs) :
  Calls Tryz.prog 29 #[.slice A xs.length c,.slice B xs.length d] w fun e w'=>e=.returned (.bool true)∧Below w.heap.size w w':=by
 have hm:=Zax hA
 go_enter Tryz.func29,Tryz.ntmps29
 go_wp2
 go_loopw [5] (fun i wr=>∃ k:Nat,k≤xs.length∧i=.int .i64 k∧Below w.heap.size w wr) (fun i _=>xs.length-(intOf i).toNat)
 case atStart=>exact ⟨0,Nat.zero_le _,rfl,brf_⟩
 case round =>
  obtain ⟨k,hk,rfl,hb⟩:=hrel
  by_cases hlt:k<xs.length
  ·obtain ⟨x,hx⟩:=Zar xs hlt
   have hd:=Zat hb
   obtain ⟨ad,aA1,ac1,rfl,a0,al1,ar1⟩:=Zhd (Zac hA hd) hx
   obtain ⟨bd,bA1,bc1,rfl,b0,bl1,br1⟩:=Zhd (Zac hB hd) hx
   go_wp2_with fail
   go_region_with (go_at_call 73;refine (Zki _ _ _ _ x _ ar1 br1).mono ?_;rintro e w1 ⟨rfl,hb1⟩)
   all_goals
    go_wp2
    refine ⟨⟨k+1,by omega,rfl,hd.trans (hb1.mono hd.size)⟩, ?_⟩
    simp [intOf]
    omega
  ·have e:k=xs.length:=by omega
   subst e
   go_wp2
   go_ret
   exact ⟨rfl,hb⟩
theorem Zmx (A B:Option Addr) (c d:Nat) (xs:List (List (List Int))) (w:World) (hA:Rd Zdd w A xs) (hB:Rd Zdd w B xs) :
  Calls Tryz.prog 28 #[.slice A xs.length c,.slice B xs.length d] w fun e w'=>e=.returned (.bool true)∧Below w.heap.size w w':=by
 have hm:=Zax hA
 go_enter Tryz.func28,Tryz.ntmps28
 go_wp2
 go_loopw [5] (fun i wr=>∃ k:Nat,k≤xs.length∧i=.int .i64 k∧Below w.heap.size w wr) (fun i _=>xs.length-(intOf i).toNat)
 case atStart=>exact ⟨0,Nat.zero_le _,rfl,brf_⟩
 case round =>
  obtain ⟨k,hk,rfl,hb⟩:=hrel
  by_cases hlt:k<xs.length
  ·obtain ⟨x,hx⟩:=Zar xs hlt
   have hd:=Zat hb
   obtain ⟨ad,aA1,ac1,rfl,a0,al1,ar1⟩:=Zqd (Zac hA hd) hx
   obtain ⟨bd,bA1,bc1,rfl,b0,bl1,br1⟩:=Zqd (Zac hB hd) hx
   go_wp2_with fail
   go_region_with (go_at_call 72;refine (Zih _ _ _ _ x _ ar1 br1).mono ?_;rintro e w1 ⟨rfl,hb1⟩)
   all_goals
    go_wp2
    refine ⟨⟨k+1,by omega,rfl,hd.trans (hb1.mono hd.size)⟩, ?_⟩
    simp [intOf]
    omega
  ·have e:k=xs.length:=by omega
   subst e
   go_wp2
   go_ret
   exact ⟨rfl,hb⟩
end Go.Proofs.YtaeckoinpllpnaaGreat
