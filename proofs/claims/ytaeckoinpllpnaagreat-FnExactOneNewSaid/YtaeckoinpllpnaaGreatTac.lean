/- Part 3 of the proof of its last text: this session's own texts, shortened and joined by a program of its own (wip/pack.py). -/
import Derived.Test.YtaeckoinpllpnaaGreatTab
set_option linter.unusedVariables false
set_option linter.unusedSimpArgs false
set_option maxHeartbeats 16000000
set_option maxRecDepth 100000
namespace Go.Proofs.YtaeckoinpllpnaaGreat
open Go.RowKit Go.Proofs.YtaeckoinpllpnaaGreatW.PrintWords
universe u
structure Fd (α:Type) where
 K:World→α→Value→Prop
 M:World→(Nat→Prop)→α→Value→Prop
 one:∀ {w x v},K w x v→v.oneCell'=true
 below:∀ {w w1:World} {x v},Below w.heap.size w w1→K w x v→K w1 x v
 read:∀ {w S x v},M w S x v→K w x v
 mono:∀ {w} {S T:Nat→Prop} {x v},(∀ k,S k→T k)→M w S x v→M w T x v
 bound:∀ {w:World} {S x v},M w S x v→M w (fun k=>S k∧k<w.heap.size) x v
 move:∀ {w w1:World} {S x v},(∀ k,S k→w1.heap[k]? = w.heap[k]?)→M w S x v→M w1 S x v
section
variable {α β:Type}
def allK (w:World) (x:α):List (Fd α)→List Value→Prop
 | [],[]=>True
 | d::fs,v::cs=>d.K w x v∧allK w x fs cs
 | _,_=>False
def allM (w:World) (S:Nat→Prop) (x:α) (f:Nat→Nat):Nat→List (Fd α)→List Value→Prop
 | _,[],[]=>True
 | i,d::fs,v::cs=>d.M w (fun k=>S k∧f k=i) x v∧allM w S x f (i+1) fs cs
 | _,_,_=>False
def Own (fs:List (Fd α)) (w:World) (S:Nat→Prop) (x:α) (cs:List Value):Prop:=∃ f,allM w S x f 0 fs cs
theorem Ztj {w:World} {x:α}:∀ {fs:List (Fd α)} {cs:List Value},allK w x fs cs→cs.length=fs.length
 | [],[],_=>rfl
 | _::fs,_::cs,h=>by simp [Ztj h.2]
 | [],_::_,h=>h.elim
 | _::_,[],h=>h.elim
theorem Zpt {w:World} {x:α}:∀ {fs:List (Fd α)} {cs:List Value},allK w x fs cs→∀ u∈cs,u.oneCell'=true
 | [],[],_,u,hu=>by cases hu
 | d::fs,v::cs,h,u,hu=>by
  rcases List.mem_cons.1 hu with rfl | hu
  ·exact d.one h.1
  ·exact Zpt h.2 u hu
 | [],_::_,h,_,_=>h.elim
 | _::_,[],h,_,_=>h.elim
theorem Zai {w w1:World} {x:α} (hb:Below w.heap.size w w1):∀ {fs:List (Fd α)} {cs:List Value},allK w x fs cs→allK w1 x fs cs
 | [],[],_=>trivial
 | d::fs,v::cs,h=>⟨d.below hb h.1,Zai hb h.2⟩
 | [],_::_,h=>h.elim
 | _::_,[],h=>h.elim
theorem Zub {w:World} {S:Nat→Prop} {x:α} {f:Nat→Nat}:∀ {i:Nat} {fs:List (Fd α)} {cs:List Value},allM w S x f i fs cs→allK w x fs cs
 | _,[],[],_=>trivial
 | _,d::fs,v::cs,h=>⟨d.read h.1,Zub h.2⟩
 | _,[],_::_,h=>h.elim
 | _,_::_,[],h=>h.elim
theorem Zpu {w w1:World} {S T:Nat→Prop} {x:α} {f g:Nat→Nat} (h:∀ i (d:Fd α) v,d.M w (fun k=>S k∧f k=i) x v→d.M w1 (fun k=>T k∧g k=i) x v):∀ {i:Nat} {fs:List (Fd α)} {cs:List Value},allM w S x f i fs cs→allM w1 T x g i fs cs
 | _,[],[],_=>trivial
 | _,d::fs,v::cs,hh=>⟨h _ d v hh.1,Zpu h hh.2⟩
 | _,[],_::_,h=>h.elim
 | _,_::_,[],h=>h.elim
section
variable {fs:List (Fd α)} {w w1:World} {S T:Nat→Prop} {x:α} {cs:List Value}
theorem Zbh (h:Own fs w S x cs):allK w x fs cs:=by
 obtain ⟨f,h⟩:=h
 exact Zub h
theorem Znn (h:Own fs w S x cs):cs.length=fs.length:=Ztj (Zbh h)
theorem Zbx (h:Own fs w S x cs) (hs:∀ k,S k→T k):Own fs w T x cs:=by
 obtain ⟨f,h⟩:=h
 exact ⟨f,Zpu (fun _ d _ hd=>d.mono (fun k hk=>⟨hs k hk.1,hk.2⟩) hd) h⟩
theorem Zcj (h:Own fs w S x cs):Own fs w (fun k=>S k∧k<w.heap.size) x cs:=by
 obtain ⟨f,h⟩:=h
 exact ⟨f,Zpu (fun _ d _ hd=>d.mono (fun k hk=>⟨⟨hk.1.1,hk.2⟩,hk.1.2⟩) (d.bound hd)) h⟩
theorem Zjr (h:Own fs w S x cs) (hm:∀ k,S k→w1.heap[k]? = w.heap[k]?):Own fs w1 S x cs:=by
 obtain ⟨f,h⟩:=h
 exact ⟨f,Zpu (fun _ d _ hd=>d.move (fun k hk=>hm k hk.1) hd) h⟩
theorem Zdf (h:Own fs w S x cs) (hm:∀ k,S k→k<w.heap.size→w1.heap[k]? = w.heap[k]?):Own fs w1 S x cs:=Zbx (Zjr (Zcj h) (fun k hk=>hm k hk.1 hk.2)) (fun _ hk=>hk.1)
end
def Rd (fs:List (Fd α)) (w:World) (A:Option Addr) (xs:List α):Prop:=Zef (fun x cs=>allK w x fs cs) fs.length w A xs.length xs
def Rw (fs:List (Fd α)) (e:TypeId) (w:World) (S:Nat→Prop) (v:Value) (xs:List α):Prop :=
 ∃ (inner:List Value) (f:Nat→Nat),w.ownsRow 0 e fs.length v xs.length inner∧(∀ k,v.ownBlock=some k→S k) ∧
  ∀ (j:Nat) (x:α),xs[j]? = some x→Own fs w (fun k=>(S k∧some k≠v.ownBlock)∧f k=j) x ((inner.drop (j*fs.length)).take fs.length)
section
variable {fs:List (Fd α)} {e:TypeId} {w w1:World} {S T:Nat→Prop} {v:Value} {xs:List α} {A:Option Addr}
theorem Zac (h:Rd fs w A xs) (hb:Below w.heap.size w w1):Rd fs w1 A xs:=Zef.imp_ h hb (fun _ _ hp=>Zai hb hp)
theorem Zuc (fs:List (Fd α)) (w:World) (A:Option Addr):Rd fs w A []:=⟨rfl,by simp,fun h=>absurd h (Nat.lt_irrefl 0)⟩
theorem Zax (h:Rd fs w A xs):xs.length≤9223372036854775807:=h.2.1
theorem Yaj (h:Rd fs w A xs) {j:Nat} {x:α} (hj:xs[j]? = some x):∃ ad cs,A=some ad∧allK w x fs cs∧∀ i u,cs[i]? = some u→w.cell? (ad.add (j*fs.length+i))=some u:=by
 have hl:=(List.getElem?_eq_some_iff.1 hj).1
 obtain ⟨ad,hA,hc⟩:=h.2.2 (by omega)
 obtain ⟨c,_,hk,hcell⟩:=hc j x hj
 exact ⟨ad,c,hA,hk,hcell⟩
theorem Zbq (fs:List (Fd α)) (e:TypeId) (w:World) (S:Nat→Prop):Rw fs e w S (.slice none 0 0) []:=⟨[],fun _=>0,Zzg _ _ _ _,fun k hk=>by simp [Value.ownBlock] at hk,fun j x hj=>by simp at hj⟩
theorem Zae (h:Rw fs e w S v xs) (hs:∀ k,S k→T k):Rw fs e w T v xs:=by
 obtain ⟨inner,f,ho,h0,he⟩:=h
 exact ⟨inner,f,ho,fun k hk=>hs k (h0 k hk),fun j x hj=>Zbx (he j x hj) (fun k hk=>⟨⟨hs k hk.1.1,hk.1.2⟩,hk.2⟩)⟩
theorem Zaf (h:Rw fs e w S v xs):Rw fs e w (fun k=>S k∧k<w.heap.size) v xs:=by
 obtain ⟨inner,f,ho,h0,he⟩:=h
 exact ⟨inner,f,ho,fun k hk=>⟨h0 k hk,Zyw ho k hk⟩,fun j x hj=>Zbx (Zcj (he j x hj)) (fun k hk=>⟨⟨⟨hk.1.1.1,hk.2⟩,hk.1.1.2⟩,hk.1.2⟩)⟩
theorem Zcd (h:Rw fs e w S v xs) (hm:∀ k,S k→w1.heap[k]? = w.heap[k]?):Rw fs e w1 S v xs:=by
 obtain ⟨inner,f,ho,h0,he⟩:=h
 exact ⟨inner,f,Zye ho (fun k hk=>hm k (h0 k hk)),h0,fun j x hj=>Zjr (he j x hj) (fun k hk=>hm k hk.1.1)⟩
theorem Zah (h:Rw fs e w S v xs) (hm:∀ k,S k→k<w.heap.size→w1.heap[k]? = w.heap[k]?):Rw fs e w1 S v xs:=Zae (Zcd (Zaf h) (fun k hk=>hm k hk.1 hk.2)) (fun _ hk=>hk.1)
theorem Zaj (h:Rw fs e w S v xs) (hb:Below w.heap.size w w1):Rw fs e w1 S v xs:=Zah h (fun k _ hk=>hb.block k hk)
theorem Zbj {x:α} {cs:List Value} (h:Own fs w S x cs) (hb:Below w.heap.size w w1):Own fs w1 S x cs:=Zdf h (fun k _ hk=>hb.block k hk)
theorem Zbl (h:Rw fs e w S v xs):∃ A c,v=.slice A xs.length c∧xs.length≤c∧Rd fs w A xs:=by
 obtain ⟨inner,f,ho,h0,he⟩:=h
 exact Zvn.reads (R:=fun x cs=>allK w x fs cs) (e:=e) (base:=0) ⟨inner,ho,ho.1,fun j x hj=>Zbh (he j x hj)⟩
theorem Zca (h:Rw fs e w S v xs):∀ k,v.ownBlock=some k→S k∧k<w.heap.size:=by
 obtain ⟨inner,f,ho,h0,he⟩:=h
 exact fun k hk=>⟨h0 k hk,Zyw ho k hk⟩
end
def sc (enc:α→Value) (h1:∀ x,(enc x).oneCell'=true):Fd α where
 K:=fun _ x v=>v=enc x
 M:=fun _ _ x v=>v=enc x
 one:=by rintro w x v rfl;exact h1 x
 below:=fun _ h=>h
 read:=fun h=>h
 mono:=fun _ h=>h
 bound:=fun h=>h
 move:=fun _ h=>h
def sI (p:α→Int):Fd α:=sc (fun x=>.int .i64 (p x)) (fun _=>rfl)
def sU (p:α→Int):Fd α:=sc (fun x=>.int .u8 (p x)) (fun _=>rfl)
def sB (p:α→Bool):Fd α:=sc (fun x=>.bool (p x)) (fun _=>rfl)
def row (e:TypeId) (fs:List (Fd β)) (p:α→List β):Fd α where
 K:=fun w x v=>∃ A c,v=.slice A (p x).length c∧(p x).length≤c∧Rd fs w A (p x)
 M:=fun w S x v=>Rw fs e w S v (p x)
 one:=by rintro w x v ⟨A,c,rfl,_⟩;rfl
 below:=by rintro w w1 x v hb ⟨A,c,rfl,hl,hr⟩;exact ⟨A,c,rfl,hl,Zac hr hb⟩
 read:=Zbl
 mono:=fun hs h=>Zae h hs
 bound:=Zaf
 move:=fun hm h=>Zcd h hm
theorem Zhz {w:World} {base b:Nat} {e:TypeId} {size n:Nat} {v:Value} {xs:List Value} (h:w.ownsRow b e size v n xs) (hb:∀ k,v.ownBlock=some k→base≤k):w.ownsRow base e size v n xs:=by
 refine ⟨h.1, ?_⟩
 rcases h.2 with h2 | ⟨g,cap,cur,rfl,hg,r⟩
 ·exact .inl h2
 ·exact .inr ⟨g,cap,cur,rfl,hb g rfl,r⟩
section
variable {P:Program} {ops:Array Oper} {rest:List Oper} {o:Oper} {a:Act} {Q:Exit→Act→World→Prop}
theorem Zwc {n sz:Nat} {xs ys:List Value} (hx:xs.length=n*sz) (j:Nat) (hj:j<n):((xs++ys).drop (j*sz)).take sz=(xs.drop (j*sz)).take sz:=by
 have h1:j*sz+sz≤xs.length:=by rw [hx,← Nat.succ_mul];exact Nat.mul_le_mul_right _ hj
 rw [List.drop_append_of_le_length (by omega),List.take_append_of_le_length (by rw [List.length_drop];omega)]
theorem Zqb {fs:List (Fd α)} {e:TypeId} {W w1:World} {S T:Nat→Prop} {v v1:Value} {xs:List α} {p:α} {inner cs:List Value} {f:Nat→Nat}
  (h0:∀ k,v.ownBlock=some k→S k∧¬T k) (hin:inner.length=xs.length*fs.length)
  (he:∀ (j:Nat) (x:α),xs[j]? = some x→Own fs W (fun k=>((S k∧¬T k)∧some k≠v.ownBlock)∧f k=j) x ((inner.drop (j*fs.length)).take fs.length))
  (hp:Own fs W T p cs) (hT:∀ k,T k→S k) (hfresh:∀ k,W.heap.size≤k→S k)
  (hown:w1.ownsRow 0 e fs.length v1 (xs.length+1) (inner++cs)) (hg:W.grownBy w1 v.ownBlock) (hat:v1.ownBlock=v.ownBlock∨∃ b,v1.ownBlock=some b∧W.heap.size≤b):Rw fs e w1 S v1 (xs++[p]):=by
 have hne:∀ k,some k≠v.ownBlock→k<W.heap.size→some k≠v1.ownBlock:=by
  intro k hk hlt
  rcases hat with hat | ⟨b,hb,hle⟩
  ·rw [hat];exact hk
  ·rw [hb]
   intro he
   injection he with he
   omega
 refine ⟨inner++cs,fun k=>@ite _ (T k) (Classical.propDecidable _) xs.length (f k),by rw [List.length_append,List.length_singleton];exact hown,fun k hk=>?_,fun j x hj=>?_⟩
 ·rcases hat with hat | ⟨b,hb,hle⟩
  ·exact (h0 k (hat▸hk)).1
  ·rw [hb] at hk
   injection hk with hk
   exact hfresh k (by omega)
 ·rcases Nat.lt_or_ge j xs.length with hlt | hge
  ·rw [List.getElem?_append_left hlt] at hj
   rw [Zwc hin j hlt]
   refine Zbx (Zjr (Zcj (he j x hj)) (fun k hk=>hg.block k hk.2 hk.1.1.2)) (fun k hk=>?_)
   obtain ⟨⟨⟨⟨h1,h2⟩,h3⟩,h4⟩,h5⟩:=hk
   exact ⟨⟨h1,hne k h3 h5⟩,(if_neg h2).trans h4⟩
  ·have hj':j=xs.length:=by
    have:=(List.getElem?_eq_some_iff.1 hj).1
    rw [List.length_append,List.length_singleton] at this
    omega
   subst hj'
   have hq':p=x:=by simpa using hj
   subst hq'
   rw [← hin,List.drop_left,← Znn hp,List.take_length]
   have hv:∀ k,T k→some k≠v.ownBlock:=fun k hk he=>(h0 k he.symm).2 hk
   refine Zbx (Zjr (Zcj hp) (fun k hk=>hg.block k hk.2 (hv k hk.1))) (fun k hk=>?_)
   exact ⟨⟨hT k hk.1,hne k (hv k hk.1) hk.2⟩,if_pos hk.1⟩
theorem Zdg (fs:List (Fd α)) {w0 W:World} (hgd:o.guard=none) (s x:Operand) (t e:TypeId) (z:Value) (bytes:Nat)
  (ho:o.op=.call { callee:=.builtin .append,args:=#[s,x],argTypes:=#[t,t] })
  (ht:P.underlying t=some (.slice e)) (hinfo:(P.info? e).map (fun i=>(i.zero,i.size,i.bytes))=some (some z,fs.length,bytes)) (hz:z.cells.size=fs.length) (hs0:0<fs.length) (hb0:0<bytes)
  (v:Value) (xs:List α) (p:α) (cs:List Value) (S T:Nat→Prop) (hs:a.eval s=v) (hx:a.eval x=.slice (some ⟨W.heap.size,0,none⟩) 1 1)
  (hp:Own fs W T p cs) (HO:Rw fs e W (fun k=>S k∧¬T k) v xs) (hT:∀ k,T k→S k) (hS:∀ k,S k→w0.heap.size≤k) (hfresh:∀ k,W.heap.size≤k→S k)
  (HB:Below w0.heap.size w0 W) (hl:(xs.length+1)*bytes≤140737488355328)
  (h:∀ v1 w1,Rw fs e w1 S v1 (xs++[p])→Below w0.heap.size w0 w1→W.grownBy w1 v.ownBlock→(v1.ownBlock=v.ownBlock∨∃ b,v1.ownBlock=some b∧W.heap.size≤b)→wpList P ops Q rest (a.put o.dst v1) w1) :
  wpList P ops Q (o::rest) a (W.alloc (.cells cs.toArray e)):=by
 obtain ⟨inner,f,hown,h0,he⟩:=HO
 refine Zls w0.heap.size hgd s x t e z fs.length bytes ho ht hinfo hz hs0 hb0 v xs.length inner cs hs hx (Znn hp) (Zpt (Zbh hp)) (Zhz hown (fun k hk=>hS k (h0 k hk).1)) HB HB.size hl ?_
 intro v1 w1 hown1 hb1 hg1 hat1
 exact h v1 w1 (Zqb h0 hown.1 he hp hT hfresh (Zhy hown1 (Nat.zero_le _)) hg1 hat1) hb1 hg1 hat1
end
end
structure Ord where
 op:Int
 a:Int
 b:Int
 c:Int
def kOrd:List (Fd Ord):=[sI (·.op),sI (·.a),sI (·.b),sI (·.c)]
def kInt:List (Fd Int):=[sI id]
def Zdh:List (Fd Int):=[sU id]
def Zgk:List (Fd Bool):=[sB id]
theorem Zce {α:Type} {fs:List (Fd α)} {w:World} {A:Option Addr} {xs:List α} {j:Nat} {x:α} (h:Rd fs w A xs) (hj:xs[j]? = some x) :
  ∃ ad cs,A=some ad∧allK w x fs cs∧(∀ u,cs[0]? = some u→w.cell? (ad.add (j*fs.length))=some u)∧∀ i u,0<i→cs[i]? = some u→w.cell? ⟨(ad.add (j*fs.length)).block,(ad.add (j*fs.length)).off+i,none⟩=some u:=by
 obtain ⟨ad,cs,hA,hk,hc⟩:=Yaj h hj
 exact ⟨ad,cs,hA,hk,fun u hu=>hc 0 u hu,fun i u hi hu=>by rw [← Zwr ad _ i hi];exact hc i u hu⟩
theorem Zog {w:World} {A:Option Addr} {xs:List Ord} {j:Nat} {x:Ord} (h:Rd kOrd w A xs) (hj:xs[j]? = some x) :
  ∃ ad,A=some ad∧w.cell? (ad.add (j*4))=some (.int .i64 x.op)∧w.cell? ⟨(ad.add (j*4)).block,(ad.add (j*4)).off+1,none⟩=some (.int .i64 x.a)∧w.cell? ⟨(ad.add (j*4)).block,(ad.add (j*4)).off+2,none⟩=some (.int .i64 x.b)∧w.cell? ⟨(ad.add (j*4)).block,(ad.add (j*4)).off+3,none⟩=some (.int .i64 x.c):=by
 obtain ⟨ad,cs,rfl,hk,h0,hi⟩:=Zce h hj
 match cs,hk with
 | [v0,v1,v2,v3],⟨e0,e1,e2,e3,_⟩ =>
  cases e0;cases e1;cases e2;cases e3
  exact ⟨ad,rfl,h0 _ rfl,hi 1 _ (by decide) rfl,hi 2 _ (by decide) rfl,hi 3 _ (by decide) rfl⟩
def Szd (z:Nat) (left:Int) (e:Ending):Prop:=∃ r:Int,e=.returned (.int .i64 r)∧(r = -1∨0≤r∧r+z=left)
structure Mk (α:Type) where
 put:α→Int→α
 n:α→Nat
def mkL {α:Type} (m:Mk α):List α→Int→List α
 | [],_=>[]
 | x::r,k=>m.put x k::mkL m r (k+m.n x)
def nL {α:Type} (m:Mk α):List α→Nat
 | []=>0
 | x::r=>m.n x+nL m r
theorem Zcw {α:Type} (m:Mk α) (xs:List α) (j:Nat) (x:α) (hj:xs[j]? = some x):nL m (xs.take (j+1))=nL m (xs.take j)+m.n x:=by
 induction xs generalizing j with
 | nil=>simp at hj
 | cons y r ih =>
  cases j with
  | zero=>simp at hj;subst hj;simp [nL]
  | succ j=>simp at hj;simp only [List.take_succ_cons,nL,ih j hj];omega
theorem Zfg {α:Type} (m:Mk α) (xs:List α) (j:Nat):nL m (xs.take j)≤nL m xs:=by
 induction xs generalizing j with
 | nil=>simp
 | cons y r ih =>
  cases j with
  | zero=>simp [nL]
  | succ j=>simp only [List.take_succ_cons,nL];have:=ih j;omega
theorem Zbu {α:Type} (m:Mk α) (xs:List α) (k:Int):(mkL m xs k).length=xs.length:=by
 induction xs generalizing k with
 | nil=>rfl
 | cons y r ih=>simp [mkL,ih]
theorem Zfh {α:Type} (m:Mk α) (xs:List α) (k:Int) (j:Nat) (x:α) (hj:xs[j]? = some x):(mkL m xs k)[j]? = some (m.put x (k+nL m (xs.take j))):=by
 induction xs generalizing k j with
 | nil=>simp at hj
 | cons y r ih =>
  cases j with
  | zero=>simp at hj;subst hj;simp [mkL,nL]
  | succ j =>
   simp at hj
   simp only [mkL,List.getElem?_cons_succ,ih _ j hj,List.take_succ_cons,nL]
   congr 2
   omega
theorem Zar {α:Type} (xs:List α) {k:Nat} (h:k<xs.length):∃ x,xs[k]? = some x:=⟨_,List.getElem?_eq_getElem h⟩
theorem wr64 (x:Int) (h:-9223372036854775808≤x∧x≤9223372036854775807):IntKind.i64.wrap x=x:=by rw [IntKind.wrap_i64];omega
structure Kep (S:Nat→Prop) (w w':World):Prop where
 os:w'.os=w.os
 tape:w'.tape=w.tape
 output:w'.output=w.output
 size:w.heap.size≤w'.heap.size
 block:∀ k,k<w.heap.size→¬S k→w'.heap[k]? = w.heap[k]?
theorem Kep.refl (S:Nat→Prop) (w:World):Kep S w w:=⟨rfl,rfl,rfl,Nat.le_refl _,fun _ _ _=>rfl⟩
theorem Kep.trans {S T:Nat→Prop} {a b c:World} (h:Kep S a b) (k:Kep T b c) (hT:∀ i,i<a.heap.size→T i→S i):Kep S a c :=
 ⟨k.os.trans h.os,k.tape.trans h.tape,k.output.trans h.output,Nat.le_trans h.size k.size,fun i hi hn=>(k.block i (Nat.lt_of_lt_of_le hi h.size) (fun ht=>hn (hT i hi ht))).trans (h.block i hi hn)⟩
theorem Kep.of_below {S:Nat→Prop} {a b:World} (h:Below a.heap.size a b):Kep S a b:=⟨h.os,h.tape,h.output,h.size,fun i hi _=>h.block i hi⟩
theorem Kep.set {S:Nat→Prop} {a b:World} (h:Kep S a b) {g i:Nat} (hg:S g) (v:Value):Kep S a (b.setCell ⟨g,i,none⟩ v) :=
 ⟨h.os,h.tape,h.output,by simpa [World.setCell] using h.size,fun k hk hn=>(Below.heap_setCell b ⟨g,i,none⟩ v k (fun e=>hn (e▸hg))).trans (h.block k hk hn)⟩
theorem Zcq (w:World) (o:Obj):(w.alloc o).heap.size=w.heap.size+1:=by simp
theorem Zud (L:List Value) (o sz i:Nat) (h:i<sz):((L.drop o).take sz)[i]? = L[o+i]? := by
 rw [List.getElem?_take,if_pos h,List.getElem?_drop]
section
variable {α:Type} {fs:List (Fd α)} {e:TypeId} {W:World} {S:Nat→Prop} {v:Value} {xs:List α}
theorem Zex (h:Rw fs e W S v xs) (hp:0<xs.length):∃ g cap,v=.slice (some ⟨g,0,none⟩) xs.length cap:=by
 obtain ⟨inner,f,ho,h0,he⟩:=h
 obtain ⟨g,cap,h,_⟩:=ho.form hp
 exact ⟨g,cap,h⟩
theorem Zux {g n cap:Nat} (HO:Rw fs e W S (.slice (some ⟨g,0,none⟩) n cap) xs) {j:Nat} {x:α} (hj:xs[j]? = some x) :
  ∃ (T:Nat→Prop) (cur:Array Value) (cs:List Value),W.heap[g]? = some (.cells cur e (0,0))∧S g∧(∀ k,T k→S k∧k≠g∧k<W.heap.size)∧Own fs W T x cs∧(∀ i u,cs[i]? = some u→cur[j*fs.length+i]? = some u)∧j*fs.length+fs.length≤cur.size ∧
   ∀ (w1:World) (cur':Array Value) (cs':List Value) (x':α) (T':Nat→Prop),w1.heap[g]? = some (.cells cur' e (0,0))→cur'.size=cur.size→(∀ i u,cs'[i]? = some u→cur'[j*fs.length+i]? = some u)→(∀ q,(q<j*fs.length∨j*fs.length+fs.length≤q)→cur'[q]? = cur[q]?) →
    (∀ k,k<W.heap.size→S k→k≠g→¬T k→w1.heap[k]? = W.heap[k]?)→Own fs w1 T' x' cs'→(∀ k,T' k→T k∨(S k∧W.heap.size≤k))→Rw fs e w1 S (.slice (some ⟨g,0,none⟩) n cap) (xs.set j x'):=by
 obtain ⟨inner,f,ho,h0,he⟩:=HO
 have hjl:=(List.getElem?_eq_some_iff.1 hj).1
 rcases ho.2 with ⟨hv,_⟩ | ⟨g',cap',cur,hv,_,hh,hnc,hcm,hcs,htk⟩
 ·cases hv
 injection hv with ha hn hc
 injection ha with ha
 injection ha with hg
 subst hg;subst hc;subst hn
 have hsz:j*fs.length+fs.length≤xs.length*fs.length:=by rw [← Nat.succ_mul];exact Nat.mul_le_mul_right _ hjl
 have hcz:xs.length*fs.length≤cur.size:=by rw [hcs];exact Nat.mul_le_mul_right _ hnc
 have hib:∀ (q:Nat) (u:Value),inner[q]? = some u→cur[q]? = some u:=by
  intro q u hu
  rw [← htk,List.getElem?_take] at hu
  split at hu
  ·simpa using hu
  ·cases hu
 have hown:=Zcj (he j x hj)
 refine ⟨fun k=>(((S k∧some k≠(Value.slice (some ⟨g,0,none⟩) xs.length cap).ownBlock)∧f k=j))∧k<W.heap.size,cur,(inner.drop (j*fs.length)).take fs.length,hh,h0 g rfl, ?_,hown, ?_,by omega, ?_⟩
 ·rintro k ⟨⟨⟨h1,h2⟩,h3⟩,h4⟩
  exact ⟨h1,fun he=>h2 (by rw [he];rfl),h4⟩
 ·intro i u hu
  have hi:i<fs.length:=by
   have:=(List.getElem?_eq_some_iff.1 hu).1
   rw [List.length_take] at this
   omega
  rw [Zud _ _ _ _ hi] at hu
  exact hib _ _ hu
 ·intro w1 cur' cs' x' T' hw1 hs' hcs' hq' hkeep hown' hT'
  have hl':=Znn hown'
  refine ⟨cur'.toList.take (xs.length*fs.length),fun k=>@ite _ (W.heap.size≤k) (Nat.decLe _ _) j (f k),⟨?_,.inr ⟨g,cap,cur',by rw [List.length_set],Nat.zero_le _,hw1,by rw [List.length_set];exact hnc,hcm,by rw [hs'];exact hcs,by rw [List.length_set]⟩⟩,fun k hk=>?_,fun i y hi=>?_⟩
  ·simp only [List.length_take,List.length_set]
   rw [show cur'.toList.length=cur'.size from Array.length_toList]
   omega
  ·have:g=k:=by simpa [Value.ownBlock] using hk
   subst this
   exact h0 g rfl
  ·have hil:i<xs.length:=by
    have:=(List.getElem?_eq_some_iff.1 hi).1
    rw [List.length_set] at this
    exact this
   have hisz:i*fs.length+fs.length≤xs.length*fs.length:=by rw [← Nat.succ_mul];exact Nat.mul_le_mul_right _ hil
   by_cases hij:j=i
   ·subst hij
    rw [List.getElem?_set_self hjl] at hi
    obtain rfl:=Option.some.inj hi
    have hcells:((cur'.toList.take (xs.length*fs.length)).drop (j*fs.length)).take fs.length=cs':=by
     apply List.ext_getElem?
     intro q
     rcases Nat.lt_or_ge q fs.length with hq | hq
     ·rw [Zud _ _ _ _ hq,List.getElem?_take,if_pos (by omega)]
      have hcq:cs'[q]? = some (cs'[q]'(by omega)):=List.getElem?_eq_getElem (by omega)
      rw [hcq]
      have:=hcs' q _ hcq
      simpa using this
     ·rw [List.getElem?_eq_none (by rw [List.length_take];omega),List.getElem?_eq_none (by omega)]
    rw [hcells]
    refine Zbx hown' (fun k hk=>?_)
    rcases hT' k hk with ⟨⟨⟨h1,h2⟩,h3⟩,h4⟩ | ⟨h1,h2⟩
    ·exact ⟨⟨h1,h2⟩,(if_neg (by omega)).trans h3⟩
    ·exact ⟨⟨h1,fun he=>by
      have:k=g:=by simpa [Value.ownBlock] using he
      have:=(Array.getElem?_eq_some_iff.1 hh).1
      omega⟩,if_pos h2⟩
   ·rw [List.getElem?_set_ne hij] at hi
    have hcells:((cur'.toList.take (xs.length*fs.length)).drop (i*fs.length)).take fs.length=(inner.drop (i*fs.length)).take fs.length:=by
     apply List.ext_getElem?
     intro q
     rcases Nat.lt_or_ge q fs.length with hq | hq
     ·rw [Zud _ _ _ _ hq,Zud _ _ _ _ hq,← htk,List.getElem?_take,List.getElem?_take,if_pos (by omega),if_pos (by omega)]
      have hout:i*fs.length+q<j*fs.length∨j*fs.length+fs.length≤i*fs.length+q:=by
       rcases Nat.lt_or_gt_of_ne hij with h | h
       ·right
        have:j*fs.length+fs.length≤i*fs.length:=by rw [← Nat.succ_mul];exact Nat.mul_le_mul_right _ h
        omega
       ·left
        have:i*fs.length+fs.length≤j*fs.length:=by rw [← Nat.succ_mul];exact Nat.mul_le_mul_right _ h
        omega
      have:=hq' _ hout
      simpa using this
     ·have hli:inner.length=xs.length*fs.length:=ho.1
      rw [List.getElem?_eq_none (by rw [List.length_take];omega),List.getElem?_eq_none (by rw [List.length_take];omega)]
    rw [hcells]
    refine Zbx (Zjr (Zcj (he i y hi)) (fun k hk=>?_)) (fun k hk=>?_)
    ·obtain ⟨⟨⟨h1,h2⟩,h3⟩,h4⟩:=hk
     exact hkeep k h4 h1 (fun he=>h2 (by rw [he];rfl)) (fun ht=>hij (ht.1.2.symm.trans h3))
    ·obtain ⟨⟨⟨h1,h2⟩,h3⟩,h4⟩:=hk
     exact ⟨⟨h1,h2⟩,(if_neg (by omega)).trans h3⟩
theorem Zgl (W:World) (z:Value) (n:Nat) (z0:α) (hz:z.cells.size=fs.length) (hs0:0<fs.length) (hzero:∀ w (T:Nat→Prop),Own fs w T z0 z.cells.toList) (hl:n≤281474976710656) (hS:S W.heap.size) :
  Rw fs e (W.alloc (.cells (madeCells z.cells (n*fs.length)) e)) S (.slice (some ⟨W.heap.size,0,none⟩) n n) (List.replicate n z0):=by
 have h2:=World.ownsRow_lit (base:=0) (e:=e) (size:=fs.length) W (madeCells z.cells (n*fs.length)) n (Nat.zero_le _) (by simp [maxLen];omega) (by simp [size_madeCells])
 refine ⟨_,fun _=>0,by rw [List.length_replicate];exact h2,fun k hk=>?_,fun j x hj=>?_⟩
 ·have:W.heap.size=k:=by simpa [Value.ownBlock] using hk
  subst this
  exact hS
 ·have hr:=Kd.reps_made (R:=fun (x:α) cs=>∀ w (T:Nat→Prop),Own fs w T x cs) hz hs0 hzero n
  have:=hr.2 j x hj
  exact this _ _
end
def mkI {α:Type} (m:Mk α) (xs:List α) (k:Int) (i:Nat):List α:=mkL m (xs.take i) k++xs.drop i
theorem Zem {α:Type} (m:Mk α) (xs:List α) (k:Int):mkI m xs k 0=xs:=by simp [mkI,mkL]
theorem Zfi {α:Type} (m:Mk α) (xs:List α) (k:Int):mkI m xs k xs.length=mkL m xs k:=by simp [mkI]
theorem Zbp {α:Type} (m:Mk α) (xs:List α) (k:Int) (i:Nat):(mkI m xs k i).length=xs.length:=by simp [mkI,Zbu];omega
theorem Zfj {α:Type} (m:Mk α) (xs:List α) (k:Int) (i:Nat):(mkI m xs k i)[i]? = xs[i]? := by
 rcases Nat.lt_or_ge i xs.length with h | h
 ·have hl:(mkL m (xs.take i) k).length=i:=by rw [Zbu,List.length_take];omega
  rw [mkI,List.getElem?_append_right (by omega),hl,List.getElem?_drop,Nat.sub_self,Nat.add_zero]
 ·rw [List.getElem?_eq_none (by rw [Zbp];exact h),List.getElem?_eq_none h]
theorem Zvo {α:Type} (m:Mk α):∀ (xs:List α) (k:Int) (x:α),mkL m (xs++[x]) k=mkL m xs k++[m.put x (k+nL m xs)]
 | [],k,x=>by simp [mkL,nL]
 | y::r,k,x=>by
  simp only [List.cons_append,mkL,Zvo m r,nL]
  congr 3
  congr 1
  omega
theorem Zfk {α:Type} (m:Mk α) (xs:List α) (k:Int) (i:Nat) (x:α) (hx:xs[i]? = some x):(mkI m xs k i).set i (m.put x (k+nL m (xs.take i)))=mkI m xs k (i+1):=by
 obtain ⟨h,hx⟩:=List.getElem?_eq_some_iff.1 hx
 have hl:(mkL m (xs.take i) k).length=i:=by rw [Zbu,List.length_take];omega
 unfold mkI
 rw [List.set_append_right _ _ (by omega),hl,Nat.sub_self,List.drop_eq_getElem_cons h,List.set_cons_zero,List.take_succ_eq_append_getElem h,Zvo,List.append_assoc,hx]
 rfl
end Go.Proofs.YtaeckoinpllpnaaGreat
