/- Part 29 of the proof of its last text: this session's own texts, shortened and joined by a program of its own (wip/pack.py). -/
import Derived.Test.YtaeckoinpllpnaaGreatTbb
import Derived.Test.YtaeckoinpllpnaaGreatTad
set_option linter.unusedVariables false
set_option linter.unusedSimpArgs false
set_option maxHeartbeats 16000000
set_option maxRecDepth 100000
namespace Go.Proofs.YtaeckoinpllpnaaGreat
open Go.RowKit Go.Proofs.YtaeckoinpllpnaaGreatW.PrintWords
theorem Zjf (v:Value) (xs:List Cel) (k:Int) (S:Nat→Prop) (w:World) (H:Rw kCel 107 w S v xs) (h0:0≤k) (h1:k+(nL mCel xs:Nat)≤1099511627776) :
  Calls Tryz.prog 34 #[v,.int .i64 k] w fun e w'=>e=.returned (.int .i64 (k+(nL mCel xs:Nat)))∧Rw kCel 107 w' S v (mkL mCel xs k)∧Kep S w w':=by
 obtain ⟨A,c,rfl,hc,hr⟩:=Zbl H
 have hm:=Zax hr
 clear hr
 go_enter Tryz.func34,Tryz.ntmps34
 go_wp2
 go_loopw [1,5] (fun kv i wr=>∃ (j:Nat) (K:Int),j≤xs.length∧kv=.int .i64 K∧i=.int .i64 j∧Aside0 (K=k+(nL mCel (xs.take j):Nat))∧Rw kCel 107 wr S (.slice A xs.length c) (mkI mCel xs k j)∧Kep S w wr) (fun _ i _=>xs.length-(intOf i).toNat)
 case atStart=>exact ⟨0,_,Nat.zero_le _,rfl,rfl,⟨by simp [nL]⟩,by rw [Zem];exact H,Kep.refl _ _⟩
 case round =>
  obtain ⟨j,K,hj,rfl,rfl,hKa,hR,hKp⟩:=hrel
  have hK:=hKa.out
  by_cases hlt:j<xs.length
  ·obtain ⟨x,hx⟩:=Zar xs hlt
   have ht:=Zcw mCel xs j x hx
   have hle:=Zfg mCel xs (j+1)
   have hn:mCel.n x=4+nL mOrd x.code:=rfl
   rw [hn] at ht
   have hK0:0≤K:=by omega
   have hmax:K+(4+nL mOrd x.code:Nat)≤1099511627776:=by omega
   have hta:=Aside0.mk ht
   clear ht hle hn
   have hset:=Zfk mCel xs k j x hx
   rw [← hK] at hset
   clear hK
   have hset:=Aside0.mk hset
   obtain ⟨g,cap,hv⟩:=Zex hR (by rw [Zbp];omega)
   rw [Zbp] at hv
   injection hv with hA _ hcap
   subst hA
   subst hcap
   obtain ⟨T,cur,cs,hS,hSg,hg,hT,hO,hback⟩:=Zcp hR ((Zfj mCel xs k j).trans hx)
   obtain ⟨u1,f,rfl,R1_0⟩:=Zvs hO
   have hS0:Seg wr g 107 cur (j*5) 5 [.int .i64 x.node,.int .i64 x.lvl,.int .i64 x.marks,.bool x.again,u1]:=hS
   have hback0:=hback
   have c0_0:wr.cell? ⟨g,j*5,none⟩=some (.int .i64 x.node):=hS0.cell 0 _ rfl
   have f0_0:wr.frozen? ⟨g,j*5,none⟩=false:=hS0.froz _
   have c1_0:wr.cell? ⟨g,j*5+1,none⟩=some (.int .i64 x.lvl):=hS0.cell 1 _ rfl
   have f1_0:wr.frozen? ⟨g,j*5+1,none⟩=false:=hS0.froz _
   have c2_0:wr.cell? ⟨g,j*5+2,none⟩=some (.int .i64 x.marks):=hS0.cell 2 _ rfl
   have f2_0:wr.frozen? ⟨g,j*5+2,none⟩=false:=hS0.froz _
   have c3_0:wr.cell? ⟨g,j*5+3,none⟩=some (.bool x.again):=hS0.cell 3 _ rfl
   have f3_0:wr.frozen? ⟨g,j*5+3,none⟩=false:=hS0.froz _
   have c4_0:wr.cell? ⟨g,j*5+4,none⟩=some (u1):=hS0.cell 4 _ rfl
   have f4_0:wr.frozen? ⟨g,j*5+4,none⟩=false:=hS0.froz _
   go_wp2_with (first
    | (go_at_call 78;refine (Zjd u1 x.code (K+1+1+1+1) (fun b=>T b∧f b=4) _ (Zah R1_0 (fun b hb hlt=>(((((Kep.refl (fun b=>b=g) wr).set (i:=j*5) rfl (.int .i64 (K))).set (i:=j*5+1) rfl (.int .i64 (K+1))).set (i:=j*5+2) rfl (.int .i64 (K+1+1))).set (i:=j*5+3) rfl (.bool ((K+1+1+1) % 3==0))).block b hlt (fun e=>(hT b hb.1).2.1 e))) (by omega) (by omega)).mono ?_;rintro e w1 ⟨rfl,R1_1,hk1⟩;have hgW:=Nat.lt_of_lt_of_le hg (((((Kep.refl (fun b=>b=g) wr).set (i:=j*5) rfl (.int .i64 (K))).set (i:=j*5+1) rfl (.int .i64 (K+1))).set (i:=j*5+2) rfl (.int .i64 (K+1+1))).set (i:=j*5+3) rfl (.bool ((K+1+1+1) % 3==0))).size;have hg1:=Nat.lt_of_lt_of_le hgW hk1.size;have hS1:=Seg.move ((((hS0.set 0 (by decide) (.int .i64 (K))).set 1 (by decide) (.int .i64 (K+1))).set 2 (by decide) (.int .i64 (K+1+1))).set 3 (by decide) (.bool ((K+1+1+1) % 3==0))) (hk1.block g hgW (fun h=>(hT g h.1).2.1 rfl));have hc1:=(((((Kep.refl (fun b=>b=g∨T b) wr).set (i:=j*5) (.inl rfl) (.int .i64 (K))).set (i:=j*5+1) (.inl rfl) (.int .i64 (K+1))).set (i:=j*5+2) (.inl rfl) (.int .i64 (K+1+1))).set (i:=j*5+3) (.inl rfl) (.bool ((K+1+1+1) % 3==0))).trans hk1 (fun b _ h=>.inr h.1);have c0_1:w1.cell? ⟨g,j*5,none⟩=some (.int .i64 (K)):=hS1.cell 0 _ rfl;have f0_1:w1.frozen? ⟨g,j*5,none⟩=false:=hS1.froz _;have c1_1:w1.cell? ⟨g,j*5+1,none⟩=some (.int .i64 (K+1)):=hS1.cell 1 _ rfl;have f1_1:w1.frozen? ⟨g,j*5+1,none⟩=false:=hS1.froz _;have c2_1:w1.cell? ⟨g,j*5+2,none⟩=some (.int .i64 (K+1+1)):=hS1.cell 2 _ rfl;have f2_1:w1.frozen? ⟨g,j*5+2,none⟩=false:=hS1.froz _;have c3_1:w1.cell? ⟨g,j*5+3,none⟩=some (.bool ((K+1+1+1) % 3==0)):=hS1.cell 3 _ rfl;have f3_1:w1.frozen? ⟨g,j*5+3,none⟩=false:=hS1.froz _;have c4_1:w1.cell? ⟨g,j*5+4,none⟩=some (u1):=hS1.cell 4 _ rfl;have f4_1:w1.frozen? ⟨g,j*5+4,none⟩=false:=hS1.froz _))
   have hSe:=hS1
   have hce:=hc1
   have R1_e:=R1_1
   have hfin:=hback0 _ _ (mCel.put x K) T hSe hce (Zyz f R1_e) (fun b h=>.inl h)
   rw [hset.out] at hfin
   have hK:=hKa.out
   have ht:=hta.out
   refine ⟨⟨j+1,_,by omega,rfl,rfl,⟨by omega⟩,hfin,hKp.trans hce (fun b _ h=>h.elim (fun e=>e▸hSg) (fun h=>(hT b h).1))⟩, ?_⟩
   simp [intOf]
   omega
  ·have e:j=xs.length:=by omega
   subst e
   rw [List.take_length] at hK
   rw [Zfi] at hR
   go_wp2
   go_ret
   exact ⟨by rw [hK];rfl,hR,hKp⟩
theorem Zmr (v:Value) (xs:List (List Int)) (k:Int) (S:Nat→Prop) (w:World) (H:Rw Zda 90 w S v xs) (h0:0≤k) (h1:k+(nL Zfx xs:Nat)≤1099511627776) :
  Calls Tryz.prog 37 #[v,.int .i64 k] w fun e w'=>e=.returned (.int .i64 (k+(nL Zfx xs:Nat)))∧Rw Zda 90 w' S v (mkL Zfx xs k)∧Kep S w w':=by
 obtain ⟨A,c,rfl,hc,hr⟩:=Zbl H
 have hm:=Zax hr
 clear hr
 go_enter Tryz.func37,Tryz.ntmps37
 go_wp2
 go_loopw [1,5] (fun kv i wr=>∃ (j:Nat) (K:Int),j≤xs.length∧kv=.int .i64 K∧i=.int .i64 j∧Aside0 (K=k+(nL Zfx (xs.take j):Nat))∧Rw Zda 90 wr S (.slice A xs.length c) (mkI Zfx xs k j)∧Kep S w wr) (fun _ i _=>xs.length-(intOf i).toNat)
 case atStart=>exact ⟨0,_,Nat.zero_le _,rfl,rfl,⟨by simp [nL]⟩,by rw [Zem];exact H,Kep.refl _ _⟩
 case round =>
  obtain ⟨j,K,hj,rfl,rfl,hKa,hR,hKp⟩:=hrel
  have hK:=hKa.out
  by_cases hlt:j<xs.length
  ·obtain ⟨x,hx⟩:=Zar xs hlt
   have ht:=Zcw Zfx xs j x hx
   have hle:=Zfg Zfx xs (j+1)
   have hn:Zfx.n x=nL mInt x:=rfl
   rw [hn] at ht
   have hK0:0≤K:=by omega
   have hmax:K+(nL mInt x:Nat)≤1099511627776:=by omega
   have hta:=Aside0.mk ht
   clear ht hle hn
   have hset:=Zfk Zfx xs k j x hx
   rw [← hK] at hset
   clear hK
   have hset:=Aside0.mk hset
   obtain ⟨g,cap,hv⟩:=Zex hR (by rw [Zbp];omega)
   rw [Zbp] at hv
   injection hv with hA _ hcap
   subst hA
   subst hcap
   obtain ⟨T,cur,cs,hS,hSg,hg,hT,hO,hback⟩:=Zcp hR ((Zfj Zfx xs k j).trans hx)
   obtain ⟨u1,f,rfl,R1_0⟩:=Zue hO
   have hS0:Seg wr g 90 cur (j*1) 1 [u1]:=hS
   rw [Nat.mul_one] at hS0
   have hback0:=hback
   rw [show j*Zda.length=j from Nat.mul_one j] at hback0
   have c0_0:wr.cell? ⟨g,j,none⟩=some (u1):=hS0.cell 0 _ rfl
   have f0_0:wr.frozen? ⟨g,j,none⟩=false:=hS0.froz _
   go_wp2_with (first
    | (go_at_call 80;refine (Zga u1 x (K) (fun b=>T b∧f b=0) _ R1_0 (by omega) (by omega)).mono ?_;rintro e w1 ⟨rfl,R1_1,hk1⟩;have hgW:=Nat.lt_of_lt_of_le hg (Kep.refl (fun b=>b=g) wr).size;have hg1:=Nat.lt_of_lt_of_le hgW hk1.size;have hS1:=Seg.move hS0 (hk1.block g hgW (fun h=>(hT g h.1).2.1 rfl));have hc1:=(Kep.refl (fun b=>b=g∨T b) wr).trans hk1 (fun b _ h=>.inr h.1);have c0_1:w1.cell? ⟨g,j,none⟩=some (u1):=hS1.cell 0 _ rfl;have f0_1:w1.frozen? ⟨g,j,none⟩=false:=hS1.froz _))
   have hSe:=hS1
   have hce:=hc1
   have R1_e:=R1_1
   have hfin:=hback0 _ _ (Zfx.put x K) T hSe hce (Zwz f R1_e) (fun b h=>.inl h)
   rw [hset.out] at hfin
   have hK:=hKa.out
   have ht:=hta.out
   refine ⟨⟨j+1,_,by omega,rfl,rfl,⟨by omega⟩,hfin,hKp.trans hce (fun b _ h=>h.elim (fun e=>e▸hSg) (fun h=>(hT b h).1))⟩, ?_⟩
   simp [intOf]
   omega
  ·have e:j=xs.length:=by omega
   subst e
   rw [List.take_length] at hK
   rw [Zfi] at hR
   go_wp2
   go_ret
   exact ⟨by rw [hK];rfl,hR,hKp⟩
theorem Zjg (v:Value) (xs:List Rul) (k:Int) (S:Nat→Prop) (w:World) (H:Rw kRul 183 w S v xs) (h0:0≤k) (h1:k+(nL mRul xs:Nat)≤1099511627776) :
  Calls Tryz.prog 79 #[v,.int .i64 k] w fun e w'=>e=.returned (.int .i64 (k+(nL mRul xs:Nat)))∧Rw kRul 183 w' S v (mkL mRul xs k)∧Kep S w w':=by
 obtain ⟨A,c,rfl,hc,hr⟩:=Zbl H
 have hm:=Zax hr
 clear hr
 go_enter Tryz.func79,Tryz.ntmps79
 go_wp2
 go_loopw [1,5] (fun kv i wr=>∃ (j:Nat) (K:Int),j≤xs.length∧kv=.int .i64 K∧i=.int .i64 j∧Aside0 (K=k+(nL mRul (xs.take j):Nat))∧Rw kRul 183 wr S (.slice A xs.length c) (mkI mRul xs k j)∧Kep S w wr) (fun _ i _=>xs.length-(intOf i).toNat)
 case atStart=>exact ⟨0,_,Nat.zero_le _,rfl,rfl,⟨by simp [nL]⟩,by rw [Zem];exact H,Kep.refl _ _⟩
 case round =>
  obtain ⟨j,K,hj,rfl,rfl,hKa,hR,hKp⟩:=hrel
  have hK:=hKa.out
  by_cases hlt:j<xs.length
  ·obtain ⟨x,hx⟩:=Zar xs hlt
   have ht:=Zcw mRul xs j x hx
   have hle:=Zfg mRul xs (j+1)
   have hn:mRul.n x=7:=rfl
   rw [hn] at ht
   have hK0:0≤K:=by omega
   have hmax:K+(7:Nat)≤1099511627776:=by omega
   have hta:=Aside0.mk ht
   clear ht hle hn
   have hset:=Zfk mRul xs k j x hx
   rw [← hK] at hset
   clear hK
   have hset:=Aside0.mk hset
   obtain ⟨g,cap,hv⟩:=Zex hR (by rw [Zbp];omega)
   rw [Zbp] at hv
   injection hv with hA _ hcap
   subst hA
   subst hcap
   obtain ⟨T,cur,cs,hS,hSg,hg,hT,hO,hback⟩:=Zcp hR ((Zfj mRul xs k j).trans hx)
   obtain rfl:=Zzi (Zbh hO)
   have hS0:Seg wr g 183 cur (j*7) 7 [.int .i64 x.mn,.int .i64 x.mx,.int .i64 x.at_,.int .i64 x.lw,.int .i64 x.hg,.int .i64 x.zr,.int .i64 x.ct]:=hS
   have hback0:=hback
   have c0_0:wr.cell? ⟨g,j*7,none⟩=some (.int .i64 x.mn):=hS0.cell 0 _ rfl
   have f0_0:wr.frozen? ⟨g,j*7,none⟩=false:=hS0.froz _
   have c1_0:wr.cell? ⟨g,j*7+1,none⟩=some (.int .i64 x.mx):=hS0.cell 1 _ rfl
   have f1_0:wr.frozen? ⟨g,j*7+1,none⟩=false:=hS0.froz _
   have c2_0:wr.cell? ⟨g,j*7+2,none⟩=some (.int .i64 x.at_):=hS0.cell 2 _ rfl
   have f2_0:wr.frozen? ⟨g,j*7+2,none⟩=false:=hS0.froz _
   have c3_0:wr.cell? ⟨g,j*7+3,none⟩=some (.int .i64 x.lw):=hS0.cell 3 _ rfl
   have f3_0:wr.frozen? ⟨g,j*7+3,none⟩=false:=hS0.froz _
   have c4_0:wr.cell? ⟨g,j*7+4,none⟩=some (.int .i64 x.hg):=hS0.cell 4 _ rfl
   have f4_0:wr.frozen? ⟨g,j*7+4,none⟩=false:=hS0.froz _
   have c5_0:wr.cell? ⟨g,j*7+5,none⟩=some (.int .i64 x.zr):=hS0.cell 5 _ rfl
   have f5_0:wr.frozen? ⟨g,j*7+5,none⟩=false:=hS0.froz _
   have c6_0:wr.cell? ⟨g,j*7+6,none⟩=some (.int .i64 x.ct):=hS0.cell 6 _ rfl
   have f6_0:wr.frozen? ⟨g,j*7+6,none⟩=false:=hS0.froz _
   go_wp2
   have hSe:=(((((((hS0.set 0 (by decide) (.int .i64 (K))).set 1 (by decide) (.int .i64 (K+1))).set 2 (by decide) (.int .i64 (K+1+1))).set 3 (by decide) (.int .i64 (K+1+1+1))).set 4 (by decide) (.int .i64 (K+1+1+1+1))).set 5 (by decide) (.int .i64 (K+1+1+1+1+1))).set 6 (by decide) (.int .i64 (K+1+1+1+1+1+1)))
   have hce:=((((((((Kep.refl (fun b=>b=g∨T b) wr).set (i:=j*7) (.inl rfl) (.int .i64 (K))).set (i:=j*7+1) (.inl rfl) (.int .i64 (K+1))).set (i:=j*7+2) (.inl rfl) (.int .i64 (K+1+1))).set (i:=j*7+3) (.inl rfl) (.int .i64 (K+1+1+1))).set (i:=j*7+4) (.inl rfl) (.int .i64 (K+1+1+1+1))).set (i:=j*7+5) (.inl rfl) (.int .i64 (K+1+1+1+1+1))).set (i:=j*7+6) (.inl rfl) (.int .i64 (K+1+1+1+1+1+1)))
   have hfin:=hback0 _ _ (mRul.put x K) T hSe hce (Zww _ _ _) (fun b h=>.inl h)
   rw [hset.out] at hfin
   have hK:=hKa.out
   have ht:=hta.out
   refine ⟨⟨j+1,_,by omega,rfl,rfl,⟨by omega⟩,hfin,hKp.trans hce (fun b _ h=>h.elim (fun e=>e▸hSg) (fun h=>(hT b h).1))⟩, ?_⟩
   simp [intOf]
   omega
  ·have e:j=xs.length:=by omega
   subst e
   rw [List.take_length] at hK
   rw [Zfi] at hR
   go_wp2
   go_ret
   exact ⟨by rw [hK];rfl,hR,hKp⟩
theorem Zkd (v:Value) (xs:List Wy) (k:Int) (S:Nat→Prop) (w:World) (H:Rw kWy 112 w S v xs) (h0:0≤k) (h1:k+(nL mWy xs:Nat)≤1099511627776) :
  Calls Tryz.prog 35 #[v,.int .i64 k] w fun e w'=>e=.returned (.int .i64 (k+(nL mWy xs:Nat)))∧Rw kWy 112 w' S v (mkL mWy xs k)∧Kep S w w':=by
 obtain ⟨A,c,rfl,hc,hr⟩:=Zbl H
 have hm:=Zax hr
 clear hr
 go_enter Tryz.func35,Tryz.ntmps35
 go_wp2
 go_loopw [1,5] (fun kv i wr=>∃ (j:Nat) (K:Int),j≤xs.length∧kv=.int .i64 K∧i=.int .i64 j∧Aside0 (K=k+(nL mWy (xs.take j):Nat))∧Rw kWy 112 wr S (.slice A xs.length c) (mkI mWy xs k j)∧Kep S w wr) (fun _ i _=>xs.length-(intOf i).toNat)
 case atStart=>exact ⟨0,_,Nat.zero_le _,rfl,rfl,⟨by simp [nL]⟩,by rw [Zem];exact H,Kep.refl _ _⟩
 case round =>
  obtain ⟨j,K,hj,rfl,rfl,hKa,hR,hKp⟩:=hrel
  have hK:=hKa.out
  by_cases hlt:j<xs.length
  ·obtain ⟨x,hx⟩:=Zar xs hlt
   have ht:=Zcw mWy xs j x hx
   have hle:=Zfg mWy xs (j+1)
   have hn:mWy.n x=4+nL mRul x.guard:=rfl
   rw [hn] at ht
   have hK0:0≤K:=by omega
   have hmax:K+(4+nL mRul x.guard:Nat)≤1099511627776:=by omega
   have hta:=Aside0.mk ht
   clear ht hle hn
   have hset:=Zfk mWy xs k j x hx
   rw [← hK] at hset
   clear hK
   have hset:=Aside0.mk hset
   obtain ⟨g,cap,hv⟩:=Zex hR (by rw [Zbp];omega)
   rw [Zbp] at hv
   injection hv with hA _ hcap
   subst hA
   subst hcap
   obtain ⟨T,cur,cs,hS,hSg,hg,hT,hO,hback⟩:=Zcp hR ((Zfj mWy xs k j).trans hx)
   obtain ⟨u1,f,rfl,R1_0⟩:=Zxd hO
   have hS0:Seg wr g 112 cur (j*5) 5 [.int .i64 x.frm,.int .i64 x.dst,.int .i64 x.depth,.bool x.guarded,u1]:=hS
   have hback0:=hback
   have c0_0:wr.cell? ⟨g,j*5,none⟩=some (.int .i64 x.frm):=hS0.cell 0 _ rfl
   have f0_0:wr.frozen? ⟨g,j*5,none⟩=false:=hS0.froz _
   have c1_0:wr.cell? ⟨g,j*5+1,none⟩=some (.int .i64 x.dst):=hS0.cell 1 _ rfl
   have f1_0:wr.frozen? ⟨g,j*5+1,none⟩=false:=hS0.froz _
   have c2_0:wr.cell? ⟨g,j*5+2,none⟩=some (.int .i64 x.depth):=hS0.cell 2 _ rfl
   have f2_0:wr.frozen? ⟨g,j*5+2,none⟩=false:=hS0.froz _
   have c3_0:wr.cell? ⟨g,j*5+3,none⟩=some (.bool x.guarded):=hS0.cell 3 _ rfl
   have f3_0:wr.frozen? ⟨g,j*5+3,none⟩=false:=hS0.froz _
   have c4_0:wr.cell? ⟨g,j*5+4,none⟩=some (u1):=hS0.cell 4 _ rfl
   have f4_0:wr.frozen? ⟨g,j*5+4,none⟩=false:=hS0.froz _
   go_wp2_with (first
    | (go_at_call 79;refine (Zjg u1 x.guard (K+1+1+1+1) (fun b=>T b∧f b=4) _ (Zah R1_0 (fun b hb hlt=>(((((Kep.refl (fun b=>b=g) wr).set (i:=j*5) rfl (.int .i64 (K))).set (i:=j*5+1) rfl (.int .i64 (K+1))).set (i:=j*5+2) rfl (.int .i64 (K+1+1))).set (i:=j*5+3) rfl (.bool ((K+1+1+1) % 3==0))).block b hlt (fun e=>(hT b hb.1).2.1 e))) (by omega) (by omega)).mono ?_;rintro e w1 ⟨rfl,R1_1,hk1⟩;have hgW:=Nat.lt_of_lt_of_le hg (((((Kep.refl (fun b=>b=g) wr).set (i:=j*5) rfl (.int .i64 (K))).set (i:=j*5+1) rfl (.int .i64 (K+1))).set (i:=j*5+2) rfl (.int .i64 (K+1+1))).set (i:=j*5+3) rfl (.bool ((K+1+1+1) % 3==0))).size;have hg1:=Nat.lt_of_lt_of_le hgW hk1.size;have hS1:=Seg.move ((((hS0.set 0 (by decide) (.int .i64 (K))).set 1 (by decide) (.int .i64 (K+1))).set 2 (by decide) (.int .i64 (K+1+1))).set 3 (by decide) (.bool ((K+1+1+1) % 3==0))) (hk1.block g hgW (fun h=>(hT g h.1).2.1 rfl));have hc1:=(((((Kep.refl (fun b=>b=g∨T b) wr).set (i:=j*5) (.inl rfl) (.int .i64 (K))).set (i:=j*5+1) (.inl rfl) (.int .i64 (K+1))).set (i:=j*5+2) (.inl rfl) (.int .i64 (K+1+1))).set (i:=j*5+3) (.inl rfl) (.bool ((K+1+1+1) % 3==0))).trans hk1 (fun b _ h=>.inr h.1);have c0_1:w1.cell? ⟨g,j*5,none⟩=some (.int .i64 (K)):=hS1.cell 0 _ rfl;have f0_1:w1.frozen? ⟨g,j*5,none⟩=false:=hS1.froz _;have c1_1:w1.cell? ⟨g,j*5+1,none⟩=some (.int .i64 (K+1)):=hS1.cell 1 _ rfl;have f1_1:w1.frozen? ⟨g,j*5+1,none⟩=false:=hS1.froz _;have c2_1:w1.cell? ⟨g,j*5+2,none⟩=some (.int .i64 (K+1+1)):=hS1.cell 2 _ rfl;have f2_1:w1.frozen? ⟨g,j*5+2,none⟩=false:=hS1.froz _;have c3_1:w1.cell? ⟨g,j*5+3,none⟩=some (.bool ((K+1+1+1) % 3==0)):=hS1.cell 3 _ rfl;have f3_1:w1.frozen? ⟨g,j*5+3,none⟩=false:=hS1.froz _;have c4_1:w1.cell? ⟨g,j*5+4,none⟩=some (u1):=hS1.cell 4 _ rfl;have f4_1:w1.frozen? ⟨g,j*5+4,none⟩=false:=hS1.froz _))
   have hSe:=hS1
   have hce:=hc1
   have R1_e:=R1_1
   have hfin:=hback0 _ _ (mWy.put x K) T hSe hce (Yac f R1_e) (fun b h=>.inl h)
   rw [hset.out] at hfin
   have hK:=hKa.out
   have ht:=hta.out
   refine ⟨⟨j+1,_,by omega,rfl,rfl,⟨by omega⟩,hfin,hKp.trans hce (fun b _ h=>h.elim (fun e=>e▸hSg) (fun h=>(hT b h).1))⟩, ?_⟩
   simp [intOf]
   omega
  ·have e:j=xs.length:=by omega
   subst e
   rw [List.take_length] at hK
   rw [Zfi] at hR
   go_wp2
   go_ret
   exact ⟨by rw [hK];rfl,hR,hKp⟩
theorem Zjh (v:Value) (xs:List CelSt) (k:Int) (S:Nat→Prop) (w:World) (H:Rw Zby 103 w S v xs) (h0:0≤k) (h1:k+(nL Zcy xs:Nat)≤1099511627776) :
  Calls Tryz.prog 39 #[v,.int .i64 k] w fun e w'=>e=.returned (.int .i64 (k+(nL Zcy xs:Nat)))∧Rw Zby 103 w' S v (mkL Zcy xs k)∧Kep S w w':=by
 obtain ⟨A,c,rfl,hc,hr⟩:=Zbl H
 have hm:=Zax hr
 clear hr
 go_enter Tryz.func39,Tryz.ntmps39
 go_wp2
 go_loopw [1,5] (fun kv i wr=>∃ (j:Nat) (K:Int),j≤xs.length∧kv=.int .i64 K∧i=.int .i64 j∧Aside0 (K=k+(nL Zcy (xs.take j):Nat))∧Rw Zby 103 wr S (.slice A xs.length c) (mkI Zcy xs k j)∧Kep S w wr) (fun _ i _=>xs.length-(intOf i).toNat)
 case atStart=>exact ⟨0,_,Nat.zero_le _,rfl,rfl,⟨by simp [nL]⟩,by rw [Zem];exact H,Kep.refl _ _⟩
 case round =>
  obtain ⟨j,K,hj,rfl,rfl,hKa,hR,hKp⟩:=hrel
  have hK:=hKa.out
  by_cases hlt:j<xs.length
  ·obtain ⟨x,hx⟩:=Zar xs hlt
   have ht:=Zcw Zcy xs j x hx
   have hle:=Zfg Zcy xs (j+1)
   have hn:Zcy.n x=2+nL mInt x.regs+nL mInt x.mem+nL Zer x.inn:=rfl
   rw [hn] at ht
   have hK0:0≤K:=by omega
   have hmax:K+(2+nL mInt x.regs+nL mInt x.mem+nL Zer x.inn:Nat)≤1099511627776:=by omega
   have hta:=Aside0.mk ht
   clear ht hle hn
   have hset:=Zfk Zcy xs k j x hx
   rw [← hK] at hset
   clear hK
   have hset:=Aside0.mk hset
   obtain ⟨g,cap,hv⟩:=Zex hR (by rw [Zbp];omega)
   rw [Zbp] at hv
   injection hv with hA _ hcap
   subst hA
   subst hcap
   obtain ⟨T,cur,cs,hS,hSg,hg,hT,hO,hback⟩:=Zcp hR ((Zfj Zcy xs k j).trans hx)
   obtain ⟨u1,u2,u3,f,rfl,R1_0,R2_0,R3_0⟩:=Zfz hO
   have hS0:Seg wr g 103 cur (j*5) 5 [.int .i64 x.pc,u1,u2,.int .i64 x.halt,u3]:=hS
   have hback0:=hback
   have c0_0:wr.cell? ⟨g,j*5,none⟩=some (.int .i64 x.pc):=hS0.cell 0 _ rfl
   have f0_0:wr.frozen? ⟨g,j*5,none⟩=false:=hS0.froz _
   have c1_0:wr.cell? ⟨g,j*5+1,none⟩=some (u1):=hS0.cell 1 _ rfl
   have f1_0:wr.frozen? ⟨g,j*5+1,none⟩=false:=hS0.froz _
   have c2_0:wr.cell? ⟨g,j*5+2,none⟩=some (u2):=hS0.cell 2 _ rfl
   have f2_0:wr.frozen? ⟨g,j*5+2,none⟩=false:=hS0.froz _
   have c3_0:wr.cell? ⟨g,j*5+3,none⟩=some (.int .i64 x.halt):=hS0.cell 3 _ rfl
   have f3_0:wr.frozen? ⟨g,j*5+3,none⟩=false:=hS0.froz _
   have c4_0:wr.cell? ⟨g,j*5+4,none⟩=some (u3):=hS0.cell 4 _ rfl
   have f4_0:wr.frozen? ⟨g,j*5+4,none⟩=false:=hS0.froz _
   go_wp2_with (first
    | (go_at_call 81;refine (Zfu u3 x.inn (K+1+(nL mInt x.regs:Nat)+(nL mInt x.mem:Nat)+1) (fun b=>T b∧f b=4) _ (Zah R3_2 (fun b hb hlt=>((Kep.refl (fun b=>b=g) w2).set (i:=j*5+3) rfl (.int .i64 (K+1+(nL mInt x.regs:Nat)+(nL mInt x.mem:Nat)))).block b hlt (fun e=>(hT b hb.1).2.1 e))) (by omega) (by omega)).mono ?_;rintro e w3 ⟨rfl,R3_3,hk3⟩;have hgW:=Nat.lt_of_lt_of_le hg2 ((Kep.refl (fun b=>b=g) w2).set (i:=j*5+3) rfl (.int .i64 (K+1+(nL mInt x.regs:Nat)+(nL mInt x.mem:Nat)))).size;have hg3:=Nat.lt_of_lt_of_le hgW hk3.size;have hS3:=Seg.move (hS2.set 3 (by decide) (.int .i64 (K+1+(nL mInt x.regs:Nat)+(nL mInt x.mem:Nat)))) (hk3.block g hgW (fun h=>(hT g h.1).2.1 rfl));have R1_3:=Zah (Zah R1_2 (fun b hb hlt=>((Kep.refl (fun b=>b=g) w2).set (i:=j*5+3) rfl (.int .i64 (K+1+(nL mInt x.regs:Nat)+(nL mInt x.mem:Nat)))).block b hlt (fun e=>(hT b hb.1).2.1 e))) (fun b hb hlt=>hk3.block b hlt (fun h=>by have h3:=h.2;have h4:=hb.2;omega));have R2_3:=Zah (Zah R2_2 (fun b hb hlt=>((Kep.refl (fun b=>b=g) w2).set (i:=j*5+3) rfl (.int .i64 (K+1+(nL mInt x.regs:Nat)+(nL mInt x.mem:Nat)))).block b hlt (fun e=>(hT b hb.1).2.1 e))) (fun b hb hlt=>hk3.block b hlt (fun h=>by have h3:=h.2;have h4:=hb.2;omega));have hc3:=(hc2.set (i:=j*5+3) (.inl rfl) (.int .i64 (K+1+(nL mInt x.regs:Nat)+(nL mInt x.mem:Nat)))).trans hk3 (fun b _ h=>.inr h.1);have c0_3:w3.cell? ⟨g,j*5,none⟩=some (.int .i64 (K)):=hS3.cell 0 _ rfl;have f0_3:w3.frozen? ⟨g,j*5,none⟩=false:=hS3.froz _;have c1_3:w3.cell? ⟨g,j*5+1,none⟩=some (u1):=hS3.cell 1 _ rfl;have f1_3:w3.frozen? ⟨g,j*5+1,none⟩=false:=hS3.froz _;have c2_3:w3.cell? ⟨g,j*5+2,none⟩=some (u2):=hS3.cell 2 _ rfl;have f2_3:w3.frozen? ⟨g,j*5+2,none⟩=false:=hS3.froz _;have c3_3:w3.cell? ⟨g,j*5+3,none⟩=some (.int .i64 (K+1+(nL mInt x.regs:Nat)+(nL mInt x.mem:Nat))):=hS3.cell 3 _ rfl;have f3_3:w3.frozen? ⟨g,j*5+3,none⟩=false:=hS3.froz _;have c4_3:w3.cell? ⟨g,j*5+4,none⟩=some (u3):=hS3.cell 4 _ rfl;have f4_3:w3.frozen? ⟨g,j*5+4,none⟩=false:=hS3.froz _)
    | (go_at_call 80;refine (Zga u2 x.mem (K+1+(nL mInt x.regs:Nat)) (fun b=>T b∧f b=2) _ R2_1 (by omega) (by omega)).mono ?_;rintro e w2 ⟨rfl,R2_2,hk2⟩;have hgW:=Nat.lt_of_lt_of_le hg1 (Kep.refl (fun b=>b=g) w1).size;have hg2:=Nat.lt_of_lt_of_le hgW hk2.size;have hS2:=Seg.move hS1 (hk2.block g hgW (fun h=>(hT g h.1).2.1 rfl));have R1_2:=Zah R1_1 (fun b hb hlt=>hk2.block b hlt (fun h=>by have h3:=h.2;have h4:=hb.2;omega));have R3_2:=Zah R3_1 (fun b hb hlt=>hk2.block b hlt (fun h=>by have h3:=h.2;have h4:=hb.2;omega));have hc2:=hc1.trans hk2 (fun b _ h=>.inr h.1);have c0_2:w2.cell? ⟨g,j*5,none⟩=some (.int .i64 (K)):=hS2.cell 0 _ rfl;have f0_2:w2.frozen? ⟨g,j*5,none⟩=false:=hS2.froz _;have c1_2:w2.cell? ⟨g,j*5+1,none⟩=some (u1):=hS2.cell 1 _ rfl;have f1_2:w2.frozen? ⟨g,j*5+1,none⟩=false:=hS2.froz _;have c2_2:w2.cell? ⟨g,j*5+2,none⟩=some (u2):=hS2.cell 2 _ rfl;have f2_2:w2.frozen? ⟨g,j*5+2,none⟩=false:=hS2.froz _;have c3_2:w2.cell? ⟨g,j*5+3,none⟩=some (.int .i64 x.halt):=hS2.cell 3 _ rfl;have f3_2:w2.frozen? ⟨g,j*5+3,none⟩=false:=hS2.froz _;have c4_2:w2.cell? ⟨g,j*5+4,none⟩=some (u3):=hS2.cell 4 _ rfl;have f4_2:w2.frozen? ⟨g,j*5+4,none⟩=false:=hS2.froz _)
    | (go_at_call 80;refine (Zga u1 x.regs (K+1) (fun b=>T b∧f b=1) _ (Zah R1_0 (fun b hb hlt=>((Kep.refl (fun b=>b=g) wr).set (i:=j*5) rfl (.int .i64 (K))).block b hlt (fun e=>(hT b hb.1).2.1 e))) (by omega) (by omega)).mono ?_;rintro e w1 ⟨rfl,R1_1,hk1⟩;have hgW:=Nat.lt_of_lt_of_le hg ((Kep.refl (fun b=>b=g) wr).set (i:=j*5) rfl (.int .i64 (K))).size;have hg1:=Nat.lt_of_lt_of_le hgW hk1.size;have hS1:=Seg.move (hS0.set 0 (by decide) (.int .i64 (K))) (hk1.block g hgW (fun h=>(hT g h.1).2.1 rfl));have R2_1:=Zah (Zah R2_0 (fun b hb hlt=>((Kep.refl (fun b=>b=g) wr).set (i:=j*5) rfl (.int .i64 (K))).block b hlt (fun e=>(hT b hb.1).2.1 e))) (fun b hb hlt=>hk1.block b hlt (fun h=>by have h3:=h.2;have h4:=hb.2;omega));have R3_1:=Zah (Zah R3_0 (fun b hb hlt=>((Kep.refl (fun b=>b=g) wr).set (i:=j*5) rfl (.int .i64 (K))).block b hlt (fun e=>(hT b hb.1).2.1 e))) (fun b hb hlt=>hk1.block b hlt (fun h=>by have h3:=h.2;have h4:=hb.2;omega));have hc1:=((Kep.refl (fun b=>b=g∨T b) wr).set (i:=j*5) (.inl rfl) (.int .i64 (K))).trans hk1 (fun b _ h=>.inr h.1);have c0_1:w1.cell? ⟨g,j*5,none⟩=some (.int .i64 (K)):=hS1.cell 0 _ rfl;have f0_1:w1.frozen? ⟨g,j*5,none⟩=false:=hS1.froz _;have c1_1:w1.cell? ⟨g,j*5+1,none⟩=some (u1):=hS1.cell 1 _ rfl;have f1_1:w1.frozen? ⟨g,j*5+1,none⟩=false:=hS1.froz _;have c2_1:w1.cell? ⟨g,j*5+2,none⟩=some (u2):=hS1.cell 2 _ rfl;have f2_1:w1.frozen? ⟨g,j*5+2,none⟩=false:=hS1.froz _;have c3_1:w1.cell? ⟨g,j*5+3,none⟩=some (.int .i64 x.halt):=hS1.cell 3 _ rfl;have f3_1:w1.frozen? ⟨g,j*5+3,none⟩=false:=hS1.froz _;have c4_1:w1.cell? ⟨g,j*5+4,none⟩=some (u3):=hS1.cell 4 _ rfl;have f4_1:w1.frozen? ⟨g,j*5+4,none⟩=false:=hS1.froz _))
   have hSe:=hS3
   have hce:=hc3
   have R1_e:=R1_3
   have R2_e:=R2_3
   have R3_e:=R3_3
   have hfin:=hback0 _ _ (Zcy.put x K) T hSe hce (Zlw f R1_e R2_e R3_e) (fun b h=>.inl h)
   rw [hset.out] at hfin
   have hK:=hKa.out
   have ht:=hta.out
   refine ⟨⟨j+1,_,by omega,rfl,rfl,⟨by omega⟩,hfin,hKp.trans hce (fun b _ h=>h.elim (fun e=>e▸hSg) (fun h=>(hT b h).1))⟩, ?_⟩
   simp [intOf]
   omega
  ·have e:j=xs.length:=by omega
   subst e
   rw [List.take_length] at hK
   rw [Zfi] at hR
   go_wp2
   go_ret
   exact ⟨by rw [hK];rfl,hR,hKp⟩
theorem Zhi (v:Value) (xs:List (List Int)) (k:Int) (S:Nat→Prop) (w:World) (H:Rw Zck 101 w S v xs) (h0:0≤k) (h1:k+(nL Zdq xs:Nat)≤1099511627776) :
  Calls Tryz.prog 82 #[v,.int .i64 k] w fun e w'=>e=.returned (.int .i64 (k+(nL Zdq xs:Nat)))∧Rw Zck 101 w' S v (mkL Zdq xs k)∧Kep S w w':=by
 obtain ⟨A,c,rfl,hc,hr⟩:=Zbl H
 have hm:=Zax hr
 clear hr
 go_enter Tryz.func82,Tryz.ntmps82
 go_wp2
 go_loopw [1,5] (fun kv i wr=>∃ (j:Nat) (K:Int),j≤xs.length∧kv=.int .i64 K∧i=.int .i64 j∧Aside0 (K=k+(nL Zdq (xs.take j):Nat))∧Rw Zck 101 wr S (.slice A xs.length c) (mkI Zdq xs k j)∧Kep S w wr) (fun _ i _=>xs.length-(intOf i).toNat)
 case atStart=>exact ⟨0,_,Nat.zero_le _,rfl,rfl,⟨by simp [nL]⟩,by rw [Zem];exact H,Kep.refl _ _⟩
 case round =>
  obtain ⟨j,K,hj,rfl,rfl,hKa,hR,hKp⟩:=hrel
  have hK:=hKa.out
  by_cases hlt:j<xs.length
  ·obtain ⟨x,hx⟩:=Zar xs hlt
   have ht:=Zcw Zdq xs j x hx
   have hle:=Zfg Zdq xs (j+1)
   have hn:Zdq.n x=nL Zer x:=rfl
   rw [hn] at ht
   have hK0:0≤K:=by omega
   have hmax:K+(nL Zer x:Nat)≤1099511627776:=by omega
   have hta:=Aside0.mk ht
   clear ht hle hn
   have hset:=Zfk Zdq xs k j x hx
   rw [← hK] at hset
   clear hK
   have hset:=Aside0.mk hset
   obtain ⟨g,cap,hv⟩:=Zex hR (by rw [Zbp];omega)
   rw [Zbp] at hv
   injection hv with hA _ hcap
   subst hA
   subst hcap
   obtain ⟨T,cur,cs,hS,hSg,hg,hT,hO,hback⟩:=Zcp hR ((Zfj Zdq xs k j).trans hx)
   obtain ⟨u1,f,rfl,R1_0⟩:=Zsv hO
   have hS0:Seg wr g 101 cur (j*1) 1 [u1]:=hS
   rw [Nat.mul_one] at hS0
   have hback0:=hback
   rw [show j*Zck.length=j from Nat.mul_one j] at hback0
   have c0_0:wr.cell? ⟨g,j,none⟩=some (u1):=hS0.cell 0 _ rfl
   have f0_0:wr.frozen? ⟨g,j,none⟩=false:=hS0.froz _
   go_wp2_with (first
    | (go_at_call 81;refine (Zfu u1 x (K) (fun b=>T b∧f b=0) _ R1_0 (by omega) (by omega)).mono ?_;rintro e w1 ⟨rfl,R1_1,hk1⟩;have hgW:=Nat.lt_of_lt_of_le hg (Kep.refl (fun b=>b=g) wr).size;have hg1:=Nat.lt_of_lt_of_le hgW hk1.size;have hS1:=Seg.move hS0 (hk1.block g hgW (fun h=>(hT g h.1).2.1 rfl));have hc1:=(Kep.refl (fun b=>b=g∨T b) wr).trans hk1 (fun b _ h=>.inr h.1);have c0_1:w1.cell? ⟨g,j,none⟩=some (u1):=hS1.cell 0 _ rfl;have f0_1:w1.frozen? ⟨g,j,none⟩=false:=hS1.froz _))
   have hSe:=hS1
   have hce:=hc1
   have R1_e:=R1_1
   have hfin:=hback0 _ _ (Zdq.put x K) T hSe hce (Zvr f R1_e) (fun b h=>.inl h)
   rw [hset.out] at hfin
   have hK:=hKa.out
   have ht:=hta.out
   refine ⟨⟨j+1,_,by omega,rfl,rfl,⟨by omega⟩,hfin,hKp.trans hce (fun b _ h=>h.elim (fun e=>e▸hSg) (fun h=>(hT b h).1))⟩, ?_⟩
   simp [intOf]
   omega
  ·have e:j=xs.length:=by omega
   subst e
   rw [List.take_length] at hK
   rw [Zfi] at hR
   go_wp2
   go_ret
   exact ⟨by rw [hK];rfl,hR,hKp⟩
theorem Zgt (v:Value) (xs:List Box) (k:Int) (S:Nat→Prop) (w:World) (H:Rw kBox 109 w S v xs) (h0:0≤k) (h1:k+(nL mBox xs:Nat)≤1099511627776) :
  Calls Tryz.prog 40 #[v,.int .i64 k] w fun e w'=>e=.returned (.int .i64 (k+(nL mBox xs:Nat)))∧Rw kBox 109 w' S v (mkL mBox xs k)∧Kep S w w':=by
 obtain ⟨A,c,rfl,hc,hr⟩:=Zbl H
 have hm:=Zax hr
 clear hr
 go_enter Tryz.func40,Tryz.ntmps40
 go_wp2
 go_loopw [1,5] (fun kv i wr=>∃ (j:Nat) (K:Int),j≤xs.length∧kv=.int .i64 K∧i=.int .i64 j∧Aside0 (K=k+(nL mBox (xs.take j):Nat))∧Rw kBox 109 wr S (.slice A xs.length c) (mkI mBox xs k j)∧Kep S w wr) (fun _ i _=>xs.length-(intOf i).toNat)
 case atStart=>exact ⟨0,_,Nat.zero_le _,rfl,rfl,⟨by simp [nL]⟩,by rw [Zem];exact H,Kep.refl _ _⟩
 case round =>
  obtain ⟨j,K,hj,rfl,rfl,hKa,hR,hKp⟩:=hrel
  have hK:=hKa.out
  by_cases hlt:j<xs.length
  ·obtain ⟨x,hx⟩:=Zar xs hlt
   have ht:=Zcw mBox xs j x hx
   have hle:=Zfg mBox xs (j+1)
   have hn:mBox.n x=1+nL Zdq x.items:=rfl
   rw [hn] at ht
   have hK0:0≤K:=by omega
   have hmax:K+(1+nL Zdq x.items:Nat)≤1099511627776:=by omega
   have hta:=Aside0.mk ht
   clear ht hle hn
   have hset:=Zfk mBox xs k j x hx
   rw [← hK] at hset
   clear hK
   have hset:=Aside0.mk hset
   obtain ⟨g,cap,hv⟩:=Zex hR (by rw [Zbp];omega)
   rw [Zbp] at hv
   injection hv with hA _ hcap
   subst hA
   subst hcap
   obtain ⟨T,cur,cs,hS,hSg,hg,hT,hO,hback⟩:=Zcp hR ((Zfj mBox xs k j).trans hx)
   obtain ⟨u1,f,rfl,R1_0⟩:=Zhn hO
   have hS0:Seg wr g 109 cur (j*2) 2 [.int .i64 x.depth,u1]:=hS
   have hback0:=hback
   have c0_0:wr.cell? ⟨g,j*2,none⟩=some (.int .i64 x.depth):=hS0.cell 0 _ rfl
   have f0_0:wr.frozen? ⟨g,j*2,none⟩=false:=hS0.froz _
   have c1_0:wr.cell? ⟨g,j*2+1,none⟩=some (u1):=hS0.cell 1 _ rfl
   have f1_0:wr.frozen? ⟨g,j*2+1,none⟩=false:=hS0.froz _
   go_wp2_with (first
    | (go_at_call 82;refine (Zhi u1 x.items (K+1) (fun b=>T b∧f b=1) _ (Zah R1_0 (fun b hb hlt=>((Kep.refl (fun b=>b=g) wr).set (i:=j*2) rfl (.int .i64 (K))).block b hlt (fun e=>(hT b hb.1).2.1 e))) (by omega) (by omega)).mono ?_;rintro e w1 ⟨rfl,R1_1,hk1⟩;have hgW:=Nat.lt_of_lt_of_le hg ((Kep.refl (fun b=>b=g) wr).set (i:=j*2) rfl (.int .i64 (K))).size;have hg1:=Nat.lt_of_lt_of_le hgW hk1.size;have hS1:=Seg.move (hS0.set 0 (by decide) (.int .i64 (K))) (hk1.block g hgW (fun h=>(hT g h.1).2.1 rfl));have hc1:=((Kep.refl (fun b=>b=g∨T b) wr).set (i:=j*2) (.inl rfl) (.int .i64 (K))).trans hk1 (fun b _ h=>.inr h.1);have c0_1:w1.cell? ⟨g,j*2,none⟩=some (.int .i64 (K)):=hS1.cell 0 _ rfl;have f0_1:w1.frozen? ⟨g,j*2,none⟩=false:=hS1.froz _;have c1_1:w1.cell? ⟨g,j*2+1,none⟩=some (u1):=hS1.cell 1 _ rfl;have f1_1:w1.frozen? ⟨g,j*2+1,none⟩=false:=hS1.froz _))
   have hSe:=hS1
   have hce:=hc1
   have R1_e:=R1_1
   have hfin:=hback0 _ _ (mBox.put x K) T hSe hce (Zsx f R1_e) (fun b h=>.inl h)
   rw [hset.out] at hfin
   have hK:=hKa.out
   have ht:=hta.out
   refine ⟨⟨j+1,_,by omega,rfl,rfl,⟨by omega⟩,hfin,hKp.trans hce (fun b _ h=>h.elim (fun e=>e▸hSg) (fun h=>(hT b h).1))⟩, ?_⟩
   simp [intOf]
   omega
  ·have e:j=xs.length:=by omega
   subst e
   rw [List.take_length] at hK
   rw [Zfi] at hR
   go_wp2
   go_ret
   exact ⟨by rw [hK];rfl,hR,hKp⟩
theorem Zit (v:Value) (xs:List Sight) (k:Int) (S:Nat→Prop) (w:World) (H:Rw Zes 176 w S v xs) (h0:0≤k) (h1:k+(nL Zej xs:Nat)≤1099511627776) :
  Calls Tryz.prog 83 #[v,.int .i64 k] w fun e w'=>e=.returned (.int .i64 (k+(nL Zej xs:Nat)))∧Rw Zes 176 w' S v (mkL Zej xs k)∧Kep S w w':=by
 obtain ⟨A,c,rfl,hc,hr⟩:=Zbl H
 have hm:=Zax hr
 clear hr
 go_enter Tryz.func83,Tryz.ntmps83
 go_wp2
 go_loopw [1,5] (fun kv i wr=>∃ (j:Nat) (K:Int),j≤xs.length∧kv=.int .i64 K∧i=.int .i64 j∧Aside0 (K=k+(nL Zej (xs.take j):Nat))∧Rw Zes 176 wr S (.slice A xs.length c) (mkI Zej xs k j)∧Kep S w wr) (fun _ i _=>xs.length-(intOf i).toNat)
 case atStart=>exact ⟨0,_,Nat.zero_le _,rfl,rfl,⟨by simp [nL]⟩,by rw [Zem];exact H,Kep.refl _ _⟩
 case round =>
  obtain ⟨j,K,hj,rfl,rfl,hKa,hR,hKp⟩:=hrel
  have hK:=hKa.out
  by_cases hlt:j<xs.length
  ·obtain ⟨x,hx⟩:=Zar xs hlt
   have ht:=Zcw Zej xs j x hx
   have hle:=Zfg Zej xs (j+1)
   have hn:Zej.n x=2+nL Zer x.bytes:=rfl
   rw [hn] at ht
   have hK0:0≤K:=by omega
   have hmax:K+(2+nL Zer x.bytes:Nat)≤1099511627776:=by omega
   have hta:=Aside0.mk ht
   clear ht hle hn
   have hset:=Zfk Zej xs k j x hx
   rw [← hK] at hset
   clear hK
   have hset:=Aside0.mk hset
   obtain ⟨g,cap,hv⟩:=Zex hR (by rw [Zbp];omega)
   rw [Zbp] at hv
   injection hv with hA _ hcap
   subst hA
   subst hcap
   obtain ⟨T,cur,cs,hS,hSg,hg,hT,hO,hback⟩:=Zcp hR ((Zfj Zej xs k j).trans hx)
   obtain ⟨u1,f,rfl,R1_0⟩:=Zwf hO
   have hS0:Seg wr g 176 cur (j*3) 3 [.int .i64 x.kind,.int .i64 x.way,u1]:=hS
   have hback0:=hback
   have c0_0:wr.cell? ⟨g,j*3,none⟩=some (.int .i64 x.kind):=hS0.cell 0 _ rfl
   have f0_0:wr.frozen? ⟨g,j*3,none⟩=false:=hS0.froz _
   have c1_0:wr.cell? ⟨g,j*3+1,none⟩=some (.int .i64 x.way):=hS0.cell 1 _ rfl
   have f1_0:wr.frozen? ⟨g,j*3+1,none⟩=false:=hS0.froz _
   have c2_0:wr.cell? ⟨g,j*3+2,none⟩=some (u1):=hS0.cell 2 _ rfl
   have f2_0:wr.frozen? ⟨g,j*3+2,none⟩=false:=hS0.froz _
   go_wp2_with (first
    | (go_at_call 81;refine (Zfu u1 x.bytes (K+1+1) (fun b=>T b∧f b=2) _ (Zah R1_0 (fun b hb hlt=>(((Kep.refl (fun b=>b=g) wr).set (i:=j*3) rfl (.int .i64 (K))).set (i:=j*3+1) rfl (.int .i64 (K+1))).block b hlt (fun e=>(hT b hb.1).2.1 e))) (by omega) (by omega)).mono ?_;rintro e w1 ⟨rfl,R1_1,hk1⟩;have hgW:=Nat.lt_of_lt_of_le hg (((Kep.refl (fun b=>b=g) wr).set (i:=j*3) rfl (.int .i64 (K))).set (i:=j*3+1) rfl (.int .i64 (K+1))).size;have hg1:=Nat.lt_of_lt_of_le hgW hk1.size;have hS1:=Seg.move ((hS0.set 0 (by decide) (.int .i64 (K))).set 1 (by decide) (.int .i64 (K+1))) (hk1.block g hgW (fun h=>(hT g h.1).2.1 rfl));have hc1:=(((Kep.refl (fun b=>b=g∨T b) wr).set (i:=j*3) (.inl rfl) (.int .i64 (K))).set (i:=j*3+1) (.inl rfl) (.int .i64 (K+1))).trans hk1 (fun b _ h=>.inr h.1);have c0_1:w1.cell? ⟨g,j*3,none⟩=some (.int .i64 (K)):=hS1.cell 0 _ rfl;have f0_1:w1.frozen? ⟨g,j*3,none⟩=false:=hS1.froz _;have c1_1:w1.cell? ⟨g,j*3+1,none⟩=some (.int .i64 (K+1)):=hS1.cell 1 _ rfl;have f1_1:w1.frozen? ⟨g,j*3+1,none⟩=false:=hS1.froz _;have c2_1:w1.cell? ⟨g,j*3+2,none⟩=some (u1):=hS1.cell 2 _ rfl;have f2_1:w1.frozen? ⟨g,j*3+2,none⟩=false:=hS1.froz _))
   have hSe:=hS1
   have hce:=hc1
   have R1_e:=R1_1
   have hfin:=hback0 _ _ (Zej.put x K) T hSe hce (Zvt f R1_e) (fun b h=>.inl h)
   rw [hset.out] at hfin
   have hK:=hKa.out
   have ht:=hta.out
   refine ⟨⟨j+1,_,by omega,rfl,rfl,⟨by omega⟩,hfin,hKp.trans hce (fun b _ h=>h.elim (fun e=>e▸hSg) (fun h=>(hT b h).1))⟩, ?_⟩
   simp [intOf]
   omega
  ·have e:j=xs.length:=by omega
   subst e
   rw [List.take_length] at hK
   rw [Zfi] at hR
   go_wp2
   go_ret
   exact ⟨by rw [hK];rfl,hR,hKp⟩
theorem Zik (v:Value) (xs:List (List Sight)) (k:Int) (S:Nat→Prop) (w:World) (H:Rw Zbv 117 w S v xs) (h0:0≤k) (h1:k+(nL Zde xs:Nat)≤1099511627776) :
  Calls Tryz.prog 42 #[v,.int .i64 k] w fun e w'=>e=.returned (.int .i64 (k+(nL Zde xs:Nat)))∧Rw Zbv 117 w' S v (mkL Zde xs k)∧Kep S w w':=by
 obtain ⟨A,c,rfl,hc,hr⟩:=Zbl H
 have hm:=Zax hr
 clear hr
 go_enter Tryz.func42,Tryz.ntmps42
 go_wp2
 go_loopw [1,5] (fun kv i wr=>∃ (j:Nat) (K:Int),j≤xs.length∧kv=.int .i64 K∧i=.int .i64 j∧Aside0 (K=k+(nL Zde (xs.take j):Nat))∧Rw Zbv 117 wr S (.slice A xs.length c) (mkI Zde xs k j)∧Kep S w wr) (fun _ i _=>xs.length-(intOf i).toNat)
 case atStart=>exact ⟨0,_,Nat.zero_le _,rfl,rfl,⟨by simp [nL]⟩,by rw [Zem];exact H,Kep.refl _ _⟩
 case round =>
  obtain ⟨j,K,hj,rfl,rfl,hKa,hR,hKp⟩:=hrel
  have hK:=hKa.out
  by_cases hlt:j<xs.length
  ·obtain ⟨x,hx⟩:=Zar xs hlt
   have ht:=Zcw Zde xs j x hx
   have hle:=Zfg Zde xs (j+1)
   have hn:Zde.n x=nL Zej x:=rfl
   rw [hn] at ht
   have hK0:0≤K:=by omega
   have hmax:K+(nL Zej x:Nat)≤1099511627776:=by omega
   have hta:=Aside0.mk ht
   clear ht hle hn
   have hset:=Zfk Zde xs k j x hx
   rw [← hK] at hset
   clear hK
   have hset:=Aside0.mk hset
   obtain ⟨g,cap,hv⟩:=Zex hR (by rw [Zbp];omega)
   rw [Zbp] at hv
   injection hv with hA _ hcap
   subst hA
   subst hcap
   obtain ⟨T,cur,cs,hS,hSg,hg,hT,hO,hback⟩:=Zcp hR ((Zfj Zde xs k j).trans hx)
   obtain ⟨u1,f,rfl,R1_0⟩:=Zve hO
   have hS0:Seg wr g 117 cur (j*1) 1 [u1]:=hS
   rw [Nat.mul_one] at hS0
   have hback0:=hback
   rw [show j*Zbv.length=j from Nat.mul_one j] at hback0
   have c0_0:wr.cell? ⟨g,j,none⟩=some (u1):=hS0.cell 0 _ rfl
   have f0_0:wr.frozen? ⟨g,j,none⟩=false:=hS0.froz _
   go_wp2_with (first
    | (go_at_call 83;refine (Zit u1 x (K) (fun b=>T b∧f b=0) _ R1_0 (by omega) (by omega)).mono ?_;rintro e w1 ⟨rfl,R1_1,hk1⟩;have hgW:=Nat.lt_of_lt_of_le hg (Kep.refl (fun b=>b=g) wr).size;have hg1:=Nat.lt_of_lt_of_le hgW hk1.size;have hS1:=Seg.move hS0 (hk1.block g hgW (fun h=>(hT g h.1).2.1 rfl));have hc1:=(Kep.refl (fun b=>b=g∨T b) wr).trans hk1 (fun b _ h=>.inr h.1);have c0_1:w1.cell? ⟨g,j,none⟩=some (u1):=hS1.cell 0 _ rfl;have f0_1:w1.frozen? ⟨g,j,none⟩=false:=hS1.froz _))
   have hSe:=hS1
   have hce:=hc1
   have R1_e:=R1_1
   have hfin:=hback0 _ _ (Zde.put x K) T hSe hce (Zuh f R1_e) (fun b h=>.inl h)
   rw [hset.out] at hfin
   have hK:=hKa.out
   have ht:=hta.out
   refine ⟨⟨j+1,_,by omega,rfl,rfl,⟨by omega⟩,hfin,hKp.trans hce (fun b _ h=>h.elim (fun e=>e▸hSg) (fun h=>(hT b h).1))⟩, ?_⟩
   simp [intOf]
   omega
  ·have e:j=xs.length:=by omega
   subst e
   rw [List.take_length] at hK
   rw [Zfi] at hR
   go_wp2
   go_ret
   exact ⟨by rw [hK];rfl,hR,hKp⟩
theorem Zke (v:Value) (xs:List (List (List Int))) (k:Int) (S:Nat→Prop) (w:World) (H:Rw Zdd 54 w S v xs) (h0:0≤k) (h1:k+(nL Zcx xs:Nat)≤1099511627776) :
  Calls Tryz.prog 41 #[v,.int .i64 k] w fun e w'=>e=.returned (.int .i64 (k+(nL Zcx xs:Nat)))∧Rw Zdd 54 w' S v (mkL Zcx xs k)∧Kep S w w':=by
 obtain ⟨A,c,rfl,hc,hr⟩:=Zbl H
 have hm:=Zax hr
 clear hr
 go_enter Tryz.func41,Tryz.ntmps41
 go_wp2
 go_loopw [1,5] (fun kv i wr=>∃ (j:Nat) (K:Int),j≤xs.length∧kv=.int .i64 K∧i=.int .i64 j∧Aside0 (K=k+(nL Zcx (xs.take j):Nat))∧Rw Zdd 54 wr S (.slice A xs.length c) (mkI Zcx xs k j)∧Kep S w wr) (fun _ i _=>xs.length-(intOf i).toNat)
 case atStart=>exact ⟨0,_,Nat.zero_le _,rfl,rfl,⟨by simp [nL]⟩,by rw [Zem];exact H,Kep.refl _ _⟩
 case round =>
  obtain ⟨j,K,hj,rfl,rfl,hKa,hR,hKp⟩:=hrel
  have hK:=hKa.out
  by_cases hlt:j<xs.length
  ·obtain ⟨x,hx⟩:=Zar xs hlt
   have ht:=Zcw Zcx xs j x hx
   have hle:=Zfg Zcx xs (j+1)
   have hn:Zcx.n x=nL Zdq x:=rfl
   rw [hn] at ht
   have hK0:0≤K:=by omega
   have hmax:K+(nL Zdq x:Nat)≤1099511627776:=by omega
   have hta:=Aside0.mk ht
   clear ht hle hn
   have hset:=Zfk Zcx xs k j x hx
   rw [← hK] at hset
   clear hK
   have hset:=Aside0.mk hset
   obtain ⟨g,cap,hv⟩:=Zex hR (by rw [Zbp];omega)
   rw [Zbp] at hv
   injection hv with hA _ hcap
   subst hA
   subst hcap
   obtain ⟨T,cur,cs,hS,hSg,hg,hT,hO,hback⟩:=Zcp hR ((Zfj Zcx xs k j).trans hx)
   obtain ⟨u1,f,rfl,R1_0⟩:=Zvc hO
   have hS0:Seg wr g 54 cur (j*1) 1 [u1]:=hS
   rw [Nat.mul_one] at hS0
   have hback0:=hback
   rw [show j*Zdd.length=j from Nat.mul_one j] at hback0
   have c0_0:wr.cell? ⟨g,j,none⟩=some (u1):=hS0.cell 0 _ rfl
   have f0_0:wr.frozen? ⟨g,j,none⟩=false:=hS0.froz _
   go_wp2_with (first
    | (go_at_call 82;refine (Zhi u1 x (K) (fun b=>T b∧f b=0) _ R1_0 (by omega) (by omega)).mono ?_;rintro e w1 ⟨rfl,R1_1,hk1⟩;have hgW:=Nat.lt_of_lt_of_le hg (Kep.refl (fun b=>b=g) wr).size;have hg1:=Nat.lt_of_lt_of_le hgW hk1.size;have hS1:=Seg.move hS0 (hk1.block g hgW (fun h=>(hT g h.1).2.1 rfl));have hc1:=(Kep.refl (fun b=>b=g∨T b) wr).trans hk1 (fun b _ h=>.inr h.1);have c0_1:w1.cell? ⟨g,j,none⟩=some (u1):=hS1.cell 0 _ rfl;have f0_1:w1.frozen? ⟨g,j,none⟩=false:=hS1.froz _))
   have hSe:=hS1
   have hce:=hc1
   have R1_e:=R1_1
   have hfin:=hback0 _ _ (Zcx.put x K) T hSe hce (Zug f R1_e) (fun b h=>.inl h)
   rw [hset.out] at hfin
   have hK:=hKa.out
   have ht:=hta.out
   refine ⟨⟨j+1,_,by omega,rfl,rfl,⟨by omega⟩,hfin,hKp.trans hce (fun b _ h=>h.elim (fun e=>e▸hSg) (fun h=>(hT b h).1))⟩, ?_⟩
   simp [intOf]
   omega
  ·have e:j=xs.length:=by omega
   subst e
   rw [List.take_length] at hK
   rw [Zfi] at hR
   go_wp2
   go_ret
   exact ⟨by rw [hK];rfl,hR,hKp⟩
structure One where
 plan:Pln
 up:List Bool
 cells:List CelSt
 out:List Box
 inn:List Box
 air:List (List (List Int))
 now:Int
 seen:List (List Sight)
def kOne:List (Fd One):=[sI (·.plan.nodes),sI (·.plan.secret),sI (·.plan.fuel),row 107 kCel (·.plan.cells),row 112 kWy (·.plan.ways),row 121 kSlt (·.plan.slots),row 90 Zda (·.plan.turns),row 4 Zgk (·.up),row 103 Zby (·.cells),row 109 kBox (·.out),row 109 kBox (·.inn),row 54 Zdd (·.air),sI (·.now),row 117 Zbv (·.seen)]
def mPln:Mk Pln:=⟨fun x k=>⟨x.nodes,x.secret,x.fuel,mkL mCel x.cells (k),mkL mWy x.ways (k+(nL mCel x.cells:Nat)),mkL mSlt x.slots (k+(nL mCel x.cells:Nat)+(nL mWy x.ways:Nat)),mkL Zfx x.turns (k+(nL mCel x.cells:Nat)+(nL mWy x.ways:Nat)+(nL mSlt x.slots:Nat))⟩,fun x=>nL mCel x.cells+nL mWy x.ways+nL mSlt x.slots+nL Zfx x.turns⟩
def mOne:Mk One:=⟨fun x k=>⟨mPln.put x.plan k,mkL Zdz x.up (k+(mPln.n x.plan:Nat)),mkL Zcy x.cells (k+(mPln.n x.plan:Nat)+(nL Zdz x.up:Nat)),mkL mBox x.out (k+(mPln.n x.plan:Nat)+(nL Zdz x.up:Nat)+(nL Zcy x.cells:Nat)),mkL mBox x.inn (k+(mPln.n x.plan:Nat)+(nL Zdz x.up:Nat)+(nL Zcy x.cells:Nat)+(nL mBox x.out:Nat)),mkL Zcx x.air (k+(mPln.n x.plan:Nat)+(nL Zdz x.up:Nat)+(nL Zcy x.cells:Nat)+(nL mBox x.out:Nat)+(nL mBox x.inn:Nat)),x.now,mkL Zde x.seen (k+(mPln.n x.plan:Nat)+(nL Zdz x.up:Nat)+(nL Zcy x.cells:Nat)+(nL mBox x.out:Nat)+(nL mBox x.inn:Nat)+(nL Zcx x.air:Nat))⟩,fun x=>mPln.n x.plan+nL Zdz x.up+nL Zcy x.cells+nL mBox x.out+nL mBox x.inn+nL Zcx x.air+nL Zde x.seen⟩
theorem Zgu (x:Pln) (A1 A2 A3 A4:Option Addr) (c1 c2 c3 c4:Nat) (k:Int) (S:Nat→Prop) (w:World) (H:Own kPln w S x [.int .i64 x.nodes,.int .i64 x.secret,.int .i64 x.fuel,.slice A1 x.cells.length c1,.slice A2 x.ways.length c2,.slice A3 x.slots.length c3,.slice A4 x.turns.length c4]) (h0:0≤k) (h1:k+(mPln.n x:Nat)≤1099511627776) :
  Calls Tryz.prog 10 #[.agg #[.int .i64 x.nodes,.int .i64 x.secret,.int .i64 x.fuel,.slice A1 x.cells.length c1,.slice A2 x.ways.length c2,.slice A3 x.slots.length c3,.slice A4 x.turns.length c4],.int .i64 k] w fun e w'=>e=.returned (.int .i64 (k+(mPln.n x:Nat)))∧Own kPln w' S (mPln.put x k) [.int .i64 x.nodes,.int .i64 x.secret,.int .i64 x.fuel,.slice A1 x.cells.length c1,.slice A2 x.ways.length c2,.slice A3 x.slots.length c3,.slice A4 x.turns.length c4]∧Kep S w w':=by
 obtain ⟨f,Q0,Q1,Q2,Q3,Q4,Q5,Q6,_⟩:=H
 have hn:mPln.n x=nL mCel x.cells+nL mWy x.ways+nL mSlt x.slots+nL Zfx x.turns:=rfl
 rw [hn] at h1
 have R1_0:Rw kCel 107 (w.alloc (.cells #[.int .i64 x.nodes,.int .i64 x.secret,.int .i64 x.fuel,.slice A1 x.cells.length c1,.slice A2 x.ways.length c2,.slice A3 x.slots.length c3,.slice A4 x.turns.length c4] 33)) (fun b=>(S b∧f b=3)∧b<w.heap.size) (.slice A1 x.cells.length c1) x.cells:=Zaj (Zaf (S:=fun b=>S b∧f b=3) Q3) ((brf_).alloc nlr_ _)
 have R2_0:Rw kWy 112 (w.alloc (.cells #[.int .i64 x.nodes,.int .i64 x.secret,.int .i64 x.fuel,.slice A1 x.cells.length c1,.slice A2 x.ways.length c2,.slice A3 x.slots.length c3,.slice A4 x.turns.length c4] 33)) (fun b=>(S b∧f b=4)∧b<w.heap.size) (.slice A2 x.ways.length c2) x.ways:=Zaj (Zaf (S:=fun b=>S b∧f b=4) Q4) ((brf_).alloc nlr_ _)
 have R3_0:Rw kSlt 121 (w.alloc (.cells #[.int .i64 x.nodes,.int .i64 x.secret,.int .i64 x.fuel,.slice A1 x.cells.length c1,.slice A2 x.ways.length c2,.slice A3 x.slots.length c3,.slice A4 x.turns.length c4] 33)) (fun b=>(S b∧f b=5)∧b<w.heap.size) (.slice A3 x.slots.length c3) x.slots:=Zaj (Zaf (S:=fun b=>S b∧f b=5) Q5) ((brf_).alloc nlr_ _)
 have R4_0:Rw Zda 90 (w.alloc (.cells #[.int .i64 x.nodes,.int .i64 x.secret,.int .i64 x.fuel,.slice A1 x.cells.length c1,.slice A2 x.ways.length c2,.slice A3 x.slots.length c3,.slice A4 x.turns.length c4] 33)) (fun b=>(S b∧f b=6)∧b<w.heap.size) (.slice A4 x.turns.length c4) x.turns:=Zaj (Zaf (S:=fun b=>S b∧f b=6) Q6) ((brf_).alloc nlr_ _)
 have Na0:=Zas w (.cells #[.int .i64 x.nodes,.int .i64 x.secret,.int .i64 x.fuel,.slice A1 x.cells.length c1,.slice A2 x.ways.length c2,.slice A3 x.slots.length c3,.slice A4 x.turns.length c4] 33)
 have hc0:=Kep.refl (fun b=>S b∧b<w.heap.size) (w.alloc (.cells #[.int .i64 x.nodes,.int .i64 x.secret,.int .i64 x.fuel,.slice A1 x.cells.length c1,.slice A2 x.ways.length c2,.slice A3 x.slots.length c3,.slice A4 x.turns.length c4] 33))
 clear Q0
 clear Q1
 clear Q2
 clear Q3
 clear Q4
 clear Q5
 clear Q6
 go_enter Tryz.func10,Tryz.ntmps10
 go_wp2_with (first
  | (go_at_call 37;refine (Zmr _ x.turns (k+(nL mCel x.cells:Nat)+(nL mWy x.ways:Nat)+(nL mSlt x.slots:Nat)) _ _ R4_3 (by omega) (by omega)).mono ?_;rintro e w4 ⟨rfl,R4_4,hk4⟩;clear ea0 ea1 ea2 ea3 ea4 ea5 ea6;have R1_4:=Zah R1_3 (fun b hb hlt=>hk4.block b hlt (fun h=>by have h3:=h.1.2;have h4:=hb.1.2;omega));have R2_4:=Zah R2_3 (fun b hb hlt=>hk4.block b hlt (fun h=>by have h3:=h.1.2;have h4:=hb.1.2;omega));have R3_4:=Zah R3_3 (fun b hb hlt=>hk4.block b hlt (fun h=>by have h3:=h.1.2;have h4:=hb.1.2;omega));have Na4:=(hk4.block w.heap.size (Zao Na3) (fun h=>by have h3:=h.2;omega)).trans Na3;have hc4:=hc3.trans hk4 (fun b _ h=>⟨h.1.1,h.2⟩);obtain ⟨ea0,ea1,ea2,ea3,ea4,ea5,ea6⟩:=cellsP7 Na4)
  | (go_at_call 36;refine (Zje _ x.slots (k+(nL mCel x.cells:Nat)+(nL mWy x.ways:Nat)) _ _ R3_2 (by omega) (by omega)).mono ?_;rintro e w3 ⟨rfl,R3_3,hk3⟩;clear ea0 ea1 ea2 ea3 ea4 ea5 ea6;have R1_3:=Zah R1_2 (fun b hb hlt=>hk3.block b hlt (fun h=>by have h3:=h.1.2;have h4:=hb.1.2;omega));have R2_3:=Zah R2_2 (fun b hb hlt=>hk3.block b hlt (fun h=>by have h3:=h.1.2;have h4:=hb.1.2;omega));have R4_3:=Zah R4_2 (fun b hb hlt=>hk3.block b hlt (fun h=>by have h3:=h.1.2;have h4:=hb.1.2;omega));have Na3:=(hk3.block w.heap.size (Zao Na2) (fun h=>by have h3:=h.2;omega)).trans Na2;have hc3:=hc2.trans hk3 (fun b _ h=>⟨h.1.1,h.2⟩);obtain ⟨ea0,ea1,ea2,ea3,ea4,ea5,ea6⟩:=cellsP7 Na3)
  | (go_at_call 35;refine (Zkd _ x.ways (k+(nL mCel x.cells:Nat)) _ _ R2_1 (by omega) (by omega)).mono ?_;rintro e w2 ⟨rfl,R2_2,hk2⟩;clear ea0 ea1 ea2 ea3 ea4 ea5 ea6;have R1_2:=Zah R1_1 (fun b hb hlt=>hk2.block b hlt (fun h=>by have h3:=h.1.2;have h4:=hb.1.2;omega));have R3_2:=Zah R3_1 (fun b hb hlt=>hk2.block b hlt (fun h=>by have h3:=h.1.2;have h4:=hb.1.2;omega));have R4_2:=Zah R4_1 (fun b hb hlt=>hk2.block b hlt (fun h=>by have h3:=h.1.2;have h4:=hb.1.2;omega));have Na2:=(hk2.block w.heap.size (Zao Na1) (fun h=>by have h3:=h.2;omega)).trans Na1;have hc2:=hc1.trans hk2 (fun b _ h=>⟨h.1.1,h.2⟩);obtain ⟨ea0,ea1,ea2,ea3,ea4,ea5,ea6⟩:=cellsP7 Na2)
  | (go_at_call 34;refine (Zjf _ x.cells (k) _ _ R1_0 (by omega) (by omega)).mono ?_;rintro e w1 ⟨rfl,R1_1,hk1⟩;have R2_1:=Zah R2_0 (fun b hb hlt=>hk1.block b hlt (fun h=>by have h3:=h.1.2;have h4:=hb.1.2;omega));have R3_1:=Zah R3_0 (fun b hb hlt=>hk1.block b hlt (fun h=>by have h3:=h.1.2;have h4:=hb.1.2;omega));have R4_1:=Zah R4_0 (fun b hb hlt=>hk1.block b hlt (fun h=>by have h3:=h.1.2;have h4:=hb.1.2;omega));have Na1:=(hk1.block w.heap.size (Zao Na0) (fun h=>by have h3:=h.2;omega)).trans Na0;have hc1:=hc0.trans hk1 (fun b _ h=>⟨h.1.1,h.2⟩);obtain ⟨ea0,ea1,ea2,ea3,ea4,ea5,ea6⟩:=cellsP7 Na1))
 go_ret
 exact ⟨congrArg (fun z=>Ending.returned (Value.int .i64 z)) (show k+(nL mCel x.cells:Nat)+(nL mWy x.ways:Nat)+(nL mSlt x.slots:Nat)+(nL Zfx x.turns:Nat)=k+(mPln.n x:Nat) by rw [hn];omega),⟨f,rfl,rfl,rfl,Zae R1_4 (fun b h=>h.1),Zae R2_4 (fun b h=>h.1),Zae R3_4 (fun b h=>h.1),Zae R4_4 (fun b h=>h.1),trivial⟩,(Kep.of_below ((brf_).alloc nlr_ _)).trans hc4 (fun b _ h=>h.1)⟩
end Go.Proofs.YtaeckoinpllpnaaGreat
