/- Part 4 of the proof of its last text: this session's own texts, shortened and joined by a program of its own (wip/pack.py). -/
import Derived.Test.YtaeckoinpllpnaaGreatTac
import Derived.OwnWalk
import Derived.Deep.QuietTactic
import Derived.BigQuiet
set_option linter.unusedVariables false
set_option linter.unusedSimpArgs false
set_option maxHeartbeats 16000000
set_option maxRecDepth 100000
namespace Go.Proofs.YtaeckoinpllpnaaGreat
open Go.RowKit Go.Proofs.YtaeckoinpllpnaaGreatW.PrintWords
def mInt:Mk Int:=⟨fun _ k=>k,fun _=>1⟩
theorem Zwt {w:World} {x:Int} {cs:List Value} (h:allK w x kInt cs):cs=[.int .i64 x]:=by
 match cs,h with
 | [v0],⟨e0,_⟩ =>
  cases e0
  rfl
theorem Zeq {w:World} {A:Option Addr} {xs:List Int} {j:Nat} {x:Int} (h:Rd kInt w A xs) (hj:xs[j]? = some x) :
  ∃ ad,A=some ad∧w.cell? (ad.add j)=some (.int .i64 x):=by
 obtain ⟨ad,cs,rfl,hk,h0,hi⟩:=Zce h hj
 obtain rfl:=Zwt hk
 exact ⟨ad,rfl,(by have:=h0 _ rfl;rwa [show j*kInt.length=j from Nat.mul_one j] at this)⟩
def zInt:Int:=0
theorem Ztk (w:World) (T:Nat→Prop):Own kInt w T zInt [.int .i64 0]:=⟨fun _=>0,rfl,trivial⟩
theorem Ztl (x:Int) (w:World) (T:Nat→Prop):Own kInt w T x [.int .i64 x]:=⟨fun _=>0,rfl,trivial⟩
theorem iInt:(Tryz.prog.info? 3).map (fun i=>(i.zero,i.size,i.bytes))=some (some (.int .i64 0),1,8):=by kernel_rfl
def Zer:Mk Int:=⟨fun _ k=>k % 256,fun _=>1⟩
theorem Zvp {w:World} {x:Int} {cs:List Value} (h:allK w x Zdh cs):cs=[.int .u8 x]:=by
 match cs,h with
 | [v0],⟨e0,_⟩ =>
  cases e0
  rfl
theorem Zuy {w:World} {A:Option Addr} {xs:List Int} {j:Nat} {x:Int} (h:Rd Zdh w A xs) (hj:xs[j]? = some x) :
  ∃ ad,A=some ad∧w.cell? (ad.add j)=some (.int .u8 x):=by
 obtain ⟨ad,cs,rfl,hk,h0,hi⟩:=Zce h hj
 obtain rfl:=Zvp hk
 exact ⟨ad,rfl,(by have:=h0 _ rfl;rwa [show j*Zdh.length=j from Nat.mul_one j] at this)⟩
def Yak:Int:=0
theorem Zwu (w:World) (T:Nat→Prop):Own Zdh w T Yak [.int .u8 0]:=⟨fun _=>0,rfl,trivial⟩
theorem Zvq (x:Int) (w:World) (T:Nat→Prop):Own Zdh w T x [.int .u8 x]:=⟨fun _=>0,rfl,trivial⟩
theorem Zzy:(Tryz.prog.info? 5).map (fun i=>(i.zero,i.size,i.bytes))=some (some (.int .u8 0),1,1):=by kernel_rfl
def Zdz:Mk Bool:=⟨fun _ k=>(k % 3==0),fun _=>1⟩
theorem Zyy {w:World} {x:Bool} {cs:List Value} (h:allK w x Zgk cs):cs=[.bool x]:=by
 match cs,h with
 | [v0],⟨e0,_⟩ =>
  cases e0
  rfl
theorem Zuz {w:World} {A:Option Addr} {xs:List Bool} {j:Nat} {x:Bool} (h:Rd Zgk w A xs) (hj:xs[j]? = some x) :
  ∃ ad,A=some ad∧w.cell? (ad.add j)=some (.bool x):=by
 obtain ⟨ad,cs,rfl,hk,h0,hi⟩:=Zce h hj
 obtain rfl:=Zyy hk
 exact ⟨ad,rfl,(by have:=h0 _ rfl;rwa [show j*Zgk.length=j from Nat.mul_one j] at this)⟩
theorem Ztm (x:Bool) (w:World) (T:Nat→Prop):Own Zgk w T x [.bool x]:=⟨fun _=>0,rfl,trivial⟩
theorem Zzz:(Tryz.prog.info? 4).map (fun i=>(i.zero,i.size,i.bytes))=some (some (.bool false),1,1):=by kernel_rfl
def mOrd:Mk Ord:=⟨fun x k=>⟨k,k+1,k+1+1,k+1+1+1⟩,fun x=>4⟩
theorem Yaa {w:World} {x:Ord} {cs:List Value} (h:allK w x kOrd cs):cs=[.int .i64 x.op,.int .i64 x.a,.int .i64 x.b,.int .i64 x.c]:=by
 match cs,h with
 | [v0,v1,v2,v3],⟨e0,e1,e2,e3,_⟩ =>
  cases e0
  cases e1
  cases e2
  cases e3
  rfl
def zOrd:Ord:=⟨0,0,0,0⟩
theorem Zyh (w:World) (T:Nat→Prop):Own kOrd w T zOrd [.int .i64 0,.int .i64 0,.int .i64 0,.int .i64 0]:=⟨fun _=>0,rfl,rfl,rfl,rfl,trivial⟩
theorem Zwv (x:Ord) (w:World) (T:Nat→Prop):Own kOrd w T x [.int .i64 x.op,.int .i64 x.a,.int .i64 x.b,.int .i64 x.c]:=⟨fun _=>0,rfl,rfl,rfl,rfl,trivial⟩
theorem iOrd:(Tryz.prog.info? 181).map (fun i=>(i.zero,i.size,i.bytes))=some (some (.agg #[.int .i64 0,.int .i64 0,.int .i64 0,.int .i64 0]),4,32):=by kernel_rfl
structure Rul where
 mn:Int
 mx:Int
 at_:Int
 lw:Int
 hg:Int
 zr:Int
 ct:Int
def kRul:List (Fd Rul):=[sI (·.mn),sI (·.mx),sI (·.at_),sI (·.lw),sI (·.hg),sI (·.zr),sI (·.ct)]
def mRul:Mk Rul:=⟨fun x k=>⟨k,k+1,k+1+1,k+1+1+1,k+1+1+1+1,k+1+1+1+1+1,k+1+1+1+1+1+1⟩,fun x=>7⟩
theorem Zzi {w:World} {x:Rul} {cs:List Value} (h:allK w x kRul cs):cs=[.int .i64 x.mn,.int .i64 x.mx,.int .i64 x.at_,.int .i64 x.lw,.int .i64 x.hg,.int .i64 x.zr,.int .i64 x.ct]:=by
 match cs,h with
 | [v0,v1,v2,v3,v4,v5,v6],⟨e0,e1,e2,e3,e4,e5,e6,_⟩ =>
  cases e0
  cases e1
  cases e2
  cases e3
  cases e4
  cases e5
  cases e6
  rfl
theorem Zst {w:World} {A:Option Addr} {xs:List Rul} {j:Nat} {x:Rul} (h:Rd kRul w A xs) (hj:xs[j]? = some x) :
  ∃ ad,A=some ad∧w.cell? (ad.add (j*7))=some (.int .i64 x.mn)∧w.cell? ⟨(ad.add (j*7)).block,(ad.add (j*7)).off+1,none⟩=some (.int .i64 x.mx)∧w.cell? ⟨(ad.add (j*7)).block,(ad.add (j*7)).off+2,none⟩=some (.int .i64 x.at_)∧w.cell? ⟨(ad.add (j*7)).block,(ad.add (j*7)).off+3,none⟩=some (.int .i64 x.lw)∧w.cell? ⟨(ad.add (j*7)).block,(ad.add (j*7)).off+4,none⟩=some (.int .i64 x.hg)∧w.cell? ⟨(ad.add (j*7)).block,(ad.add (j*7)).off+5,none⟩=some (.int .i64 x.zr)∧w.cell? ⟨(ad.add (j*7)).block,(ad.add (j*7)).off+6,none⟩=some (.int .i64 x.ct):=by
 obtain ⟨ad,cs,rfl,hk,h0,hi⟩:=Zce h hj
 obtain rfl:=Zzi hk
 exact ⟨ad,rfl,h0 _ rfl,hi 1 _ (by decide) rfl,hi 2 _ (by decide) rfl,hi 3 _ (by decide) rfl,hi 4 _ (by decide) rfl,hi 5 _ (by decide) rfl,hi 6 _ (by decide) rfl⟩
def zRul:Rul:=⟨0,0,0,0,0,0,0⟩
theorem Zyi (w:World) (T:Nat→Prop):Own kRul w T zRul [.int .i64 0,.int .i64 0,.int .i64 0,.int .i64 0,.int .i64 0,.int .i64 0,.int .i64 0]:=⟨fun _=>0,rfl,rfl,rfl,rfl,rfl,rfl,rfl,trivial⟩
theorem Zww (x:Rul) (w:World) (T:Nat→Prop):Own kRul w T x [.int .i64 x.mn,.int .i64 x.mx,.int .i64 x.at_,.int .i64 x.lw,.int .i64 x.hg,.int .i64 x.zr,.int .i64 x.ct]:=⟨fun _=>0,rfl,rfl,rfl,rfl,rfl,rfl,rfl,trivial⟩
theorem iRul:(Tryz.prog.info? 183).map (fun i=>(i.zero,i.size,i.bytes))=some (some (.agg #[.int .i64 0,.int .i64 0,.int .i64 0,.int .i64 0,.int .i64 0,.int .i64 0,.int .i64 0]),7,56):=by kernel_rfl
structure Slt where
 node:Int
 way:Int
def kSlt:List (Fd Slt):=[sI (·.node),sI (·.way)]
def mSlt:Mk Slt:=⟨fun x k=>⟨k,k+1⟩,fun x=>2⟩
theorem Zzj {w:World} {x:Slt} {cs:List Value} (h:allK w x kSlt cs):cs=[.int .i64 x.node,.int .i64 x.way]:=by
 match cs,h with
 | [v0,v1],⟨e0,e1,_⟩ =>
  cases e0
  cases e1
  rfl
theorem Zoh {w:World} {A:Option Addr} {xs:List Slt} {j:Nat} {x:Slt} (h:Rd kSlt w A xs) (hj:xs[j]? = some x) :
  ∃ ad,A=some ad∧w.cell? (ad.add (j*2))=some (.int .i64 x.node)∧w.cell? ⟨(ad.add (j*2)).block,(ad.add (j*2)).off+1,none⟩=some (.int .i64 x.way):=by
 obtain ⟨ad,cs,rfl,hk,h0,hi⟩:=Zce h hj
 obtain rfl:=Zzj hk
 exact ⟨ad,rfl,h0 _ rfl,hi 1 _ (by decide) rfl⟩
def zSlt:Slt:=⟨0,0⟩
theorem Zyj (w:World) (T:Nat→Prop):Own kSlt w T zSlt [.int .i64 0,.int .i64 0]:=⟨fun _=>0,rfl,rfl,trivial⟩
theorem Zwx (x:Slt) (w:World) (T:Nat→Prop):Own kSlt w T x [.int .i64 x.node,.int .i64 x.way]:=⟨fun _=>0,rfl,rfl,trivial⟩
theorem iSlt:(Tryz.prog.info? 121).map (fun i=>(i.zero,i.size,i.bytes))=some (some (.agg #[.int .i64 0,.int .i64 0]),2,16):=by kernel_rfl
def Zda:List (Fd (List Int)):=[row 3 kInt id]
def Zfx:Mk (List Int):=⟨fun x k=>mkL mInt x (k),fun x=>nL mInt x⟩
theorem Yab {w:World} {x:List Int} {cs:List Value} (h:allK w x Zda cs):∃ A1 c1,cs=[.slice A1 x.length c1]∧x.length≤c1∧Rd kInt w A1 x:=by
 match cs,h with
 | [v0],⟨e0,_⟩ =>
  obtain ⟨A1,c1,rfl,l1,r1⟩:=e0
  exact ⟨A1,c1,rfl,l1,r1⟩
theorem Zhb {w:World} {A:Option Addr} {xs:List (List Int)} {j:Nat} {x:List Int} (h:Rd Zda w A xs) (hj:xs[j]? = some x) :
  ∃ ad A1 c1,A=some ad∧w.cell? (ad.add j)=some (.slice A1 x.length c1)∧x.length≤c1∧Rd kInt w A1 x:=by
 obtain ⟨ad,cs,rfl,hk,h0,hi⟩:=Zce h hj
 obtain ⟨A1,c1,rfl,q0,q1⟩:=Yab hk
 exact ⟨ad,A1,c1,rfl,(by have:=h0 _ rfl;rwa [show j*Zda.length=j from Nat.mul_one j] at this),q0,q1⟩
def Zwd:List Int:=[]
theorem Zwy (w:World) (T:Nat→Prop):Own Zda w T Zwd [.slice none 0 0]:=⟨fun _=>0,Zbq _ _ _ _,trivial⟩
theorem Zwz {w:World} {S:Nat→Prop} {x:List Int} {u1:Value} (f:Nat→Nat) (h1:Rw kInt 3 w (fun k=>S k∧f k=0) u1 x):Own Zda w S x [u1]:=⟨f,h1,trivial⟩
theorem Ztn {w:World} {S:Nat→Prop} {x:List Int} {u1:Value} (h:Rw kInt 3 w S u1 x):Own Zda w S x [u1]:=Zwz (fun _=>0) (Zae h (fun _ hk=>⟨hk,rfl⟩))
theorem Zue {w:World} {S:Nat→Prop} {x:List Int} {cs:List Value} (h:Own Zda w S x cs):∃ (u1:Value) (f:Nat→Nat),cs=[u1]∧Rw kInt 3 w (fun k=>S k∧f k=0) u1 x:=by
 obtain ⟨f,h⟩:=h
 match cs,h with
 | [v0],⟨e0,_⟩ =>
  exact ⟨v0,f,rfl,e0⟩
theorem Zzk:(Tryz.prog.info? 90).map (fun i=>(i.zero,i.size,i.bytes))=some (some (.slice none 0 0),1,24):=by kernel_rfl
def Zck:List (Fd (List Int)):=[row 5 Zdh id]
def Zdq:Mk (List Int):=⟨fun x k=>mkL Zer x (k),fun x=>nL Zer x⟩
theorem Zzl {w:World} {x:List Int} {cs:List Value} (h:allK w x Zck cs):∃ A1 c1,cs=[.slice A1 x.length c1]∧x.length≤c1∧Rd Zdh w A1 x:=by
 match cs,h with
 | [v0],⟨e0,_⟩ =>
  obtain ⟨A1,c1,rfl,l1,r1⟩:=e0
  exact ⟨A1,c1,rfl,l1,r1⟩
theorem Zjs {w:World} {A:Option Addr} {xs:List (List Int)} {j:Nat} {x:List Int} (h:Rd Zck w A xs) (hj:xs[j]? = some x) :
  ∃ ad A1 c1,A=some ad∧w.cell? (ad.add j)=some (.slice A1 x.length c1)∧x.length≤c1∧Rd Zdh w A1 x:=by
 obtain ⟨ad,cs,rfl,hk,h0,hi⟩:=Zce h hj
 obtain ⟨A1,c1,rfl,q0,q1⟩:=Zzl hk
 exact ⟨ad,A1,c1,rfl,(by have:=h0 _ rfl;rwa [show j*Zck.length=j from Nat.mul_one j] at this),q0,q1⟩
def Zsu:List Int:=[]
theorem Zwe (w:World) (T:Nat→Prop):Own Zck w T Zsu [.slice none 0 0]:=⟨fun _=>0,Zbq _ _ _ _,trivial⟩
theorem Zvr {w:World} {S:Nat→Prop} {x:List Int} {u1:Value} (f:Nat→Nat) (h1:Rw Zdh 5 w (fun k=>S k∧f k=0) u1 x):Own Zck w S x [u1]:=⟨f,h1,trivial⟩
theorem Zqc {w:World} {S:Nat→Prop} {x:List Int} {u1:Value} (h:Rw Zdh 5 w S u1 x):Own Zck w S x [u1]:=Zvr (fun _=>0) (Zae h (fun _ hk=>⟨hk,rfl⟩))
theorem Zsv {w:World} {S:Nat→Prop} {x:List Int} {cs:List Value} (h:Own Zck w S x cs):∃ (u1:Value) (f:Nat→Nat),cs=[u1]∧Rw Zdh 5 w (fun k=>S k∧f k=0) u1 x:=by
 obtain ⟨f,h⟩:=h
 match cs,h with
 | [v0],⟨e0,_⟩ =>
  exact ⟨v0,f,rfl,e0⟩
theorem Zxa:(Tryz.prog.info? 101).map (fun i=>(i.zero,i.size,i.bytes))=some (some (.slice none 0 0),1,24):=by kernel_rfl
structure Cel where
 node:Int
 lvl:Int
 marks:Int
 again:Bool
 code:List Ord
def kCel:List (Fd Cel):=[sI (·.node),sI (·.lvl),sI (·.marks),sB (·.again),row 181 kOrd (·.code)]
def mCel:Mk Cel:=⟨fun x k=>⟨k,k+1,k+1+1,((k+1+1+1) % 3==0),mkL mOrd x.code (k+1+1+1+1)⟩,fun x=>4+nL mOrd x.code⟩
theorem Zxb {w:World} {x:Cel} {cs:List Value} (h:allK w x kCel cs):∃ A1 c1,cs=[.int .i64 x.node,.int .i64 x.lvl,.int .i64 x.marks,.bool x.again,.slice A1 x.code.length c1]∧x.code.length≤c1∧Rd kOrd w A1 x.code:=by
 match cs,h with
 | [v0,v1,v2,v3,v4],⟨e0,e1,e2,e3,e4,_⟩ =>
  cases e0
  cases e1
  cases e2
  cases e3
  obtain ⟨A1,c1,rfl,l1,r1⟩:=e4
  exact ⟨A1,c1,rfl,l1,r1⟩
theorem Zed {w:World} {A:Option Addr} {xs:List Cel} {j:Nat} {x:Cel} (h:Rd kCel w A xs) (hj:xs[j]? = some x) :
  ∃ ad A1 c1,A=some ad∧w.cell? (ad.add (j*5))=some (.int .i64 x.node)∧w.cell? ⟨(ad.add (j*5)).block,(ad.add (j*5)).off+1,none⟩=some (.int .i64 x.lvl)∧w.cell? ⟨(ad.add (j*5)).block,(ad.add (j*5)).off+2,none⟩=some (.int .i64 x.marks)∧w.cell? ⟨(ad.add (j*5)).block,(ad.add (j*5)).off+3,none⟩=some (.bool x.again)∧w.cell? ⟨(ad.add (j*5)).block,(ad.add (j*5)).off+4,none⟩=some (.slice A1 x.code.length c1)∧x.code.length≤c1∧Rd kOrd w A1 x.code:=by
 obtain ⟨ad,cs,rfl,hk,h0,hi⟩:=Zce h hj
 obtain ⟨A1,c1,rfl,q0,q1⟩:=Zxb hk
 exact ⟨ad,A1,c1,rfl,h0 _ rfl,hi 1 _ (by decide) rfl,hi 2 _ (by decide) rfl,hi 3 _ (by decide) rfl,hi 4 _ (by decide) rfl,q0,q1⟩
def zCel:Cel:=⟨0,0,0,false,[]⟩
theorem Zyk (w:World) (T:Nat→Prop):Own kCel w T zCel [.int .i64 0,.int .i64 0,.int .i64 0,.bool false,.slice none 0 0]:=⟨fun _=>0,rfl,rfl,rfl,rfl,Zbq _ _ _ _,trivial⟩
theorem Zyz {w:World} {S:Nat→Prop} {x:Cel} {u1:Value} (f:Nat→Nat) (h1:Rw kOrd 181 w (fun k=>S k∧f k=4) u1 x.code):Own kCel w S x [.int .i64 x.node,.int .i64 x.lvl,.int .i64 x.marks,.bool x.again,u1]:=⟨f,rfl,rfl,rfl,rfl,h1,trivial⟩
theorem Zva {w:World} {S:Nat→Prop} {x:Cel} {u1:Value} (h:Rw kOrd 181 w S u1 x.code):Own kCel w S x [.int .i64 x.node,.int .i64 x.lvl,.int .i64 x.marks,.bool x.again,u1]:=Zyz (fun _=>4) (Zae h (fun _ hk=>⟨hk,rfl⟩))
theorem Zvs {w:World} {S:Nat→Prop} {x:Cel} {cs:List Value} (h:Own kCel w S x cs):∃ (u1:Value) (f:Nat→Nat),cs=[.int .i64 x.node,.int .i64 x.lvl,.int .i64 x.marks,.bool x.again,u1]∧Rw kOrd 181 w (fun k=>S k∧f k=4) u1 x.code:=by
 obtain ⟨f,h⟩:=h
 match cs,h with
 | [v0,v1,v2,v3,v4],⟨e0,e1,e2,e3,e4,_⟩ =>
  cases e0
  cases e1
  cases e2
  cases e3
  exact ⟨v4,f,rfl,e4⟩
theorem iCel:(Tryz.prog.info? 107).map (fun i=>(i.zero,i.size,i.bytes))=some (some (.agg #[.int .i64 0,.int .i64 0,.int .i64 0,.bool false,.slice none 0 0]),5,56):=by kernel_rfl
structure Wy where
 frm:Int
 dst:Int
 depth:Int
 guarded:Bool
 guard:List Rul
def kWy:List (Fd Wy):=[sI (·.frm),sI (·.dst),sI (·.depth),sB (·.guarded),row 183 kRul (·.guard)]
def mWy:Mk Wy:=⟨fun x k=>⟨k,k+1,k+1+1,((k+1+1+1) % 3==0),mkL mRul x.guard (k+1+1+1+1)⟩,fun x=>4+nL mRul x.guard⟩
theorem Wy_K {w:World} {x:Wy} {cs:List Value} (h:allK w x kWy cs):∃ A1 c1,cs=[.int .i64 x.frm,.int .i64 x.dst,.int .i64 x.depth,.bool x.guarded,.slice A1 x.guard.length c1]∧x.guard.length≤c1∧Rd kRul w A1 x.guard:=by
 match cs,h with
 | [v0,v1,v2,v3,v4],⟨e0,e1,e2,e3,e4,_⟩ =>
  cases e0
  cases e1
  cases e2
  cases e3
  obtain ⟨A1,c1,rfl,l1,r1⟩:=e4
  exact ⟨A1,c1,rfl,l1,r1⟩
theorem Zhc {w:World} {A:Option Addr} {xs:List Wy} {j:Nat} {x:Wy} (h:Rd kWy w A xs) (hj:xs[j]? = some x) :
  ∃ ad A1 c1,A=some ad∧w.cell? (ad.add (j*5))=some (.int .i64 x.frm)∧w.cell? ⟨(ad.add (j*5)).block,(ad.add (j*5)).off+1,none⟩=some (.int .i64 x.dst)∧w.cell? ⟨(ad.add (j*5)).block,(ad.add (j*5)).off+2,none⟩=some (.int .i64 x.depth)∧w.cell? ⟨(ad.add (j*5)).block,(ad.add (j*5)).off+3,none⟩=some (.bool x.guarded)∧w.cell? ⟨(ad.add (j*5)).block,(ad.add (j*5)).off+4,none⟩=some (.slice A1 x.guard.length c1)∧x.guard.length≤c1∧Rd kRul w A1 x.guard:=by
 obtain ⟨ad,cs,rfl,hk,h0,hi⟩:=Zce h hj
 obtain ⟨A1,c1,rfl,q0,q1⟩:=Wy_K hk
 exact ⟨ad,A1,c1,rfl,h0 _ rfl,hi 1 _ (by decide) rfl,hi 2 _ (by decide) rfl,hi 3 _ (by decide) rfl,hi 4 _ (by decide) rfl,q0,q1⟩
def zWy:Wy:=⟨0,0,0,false,[]⟩
theorem Zzm (w:World) (T:Nat→Prop):Own kWy w T zWy [.int .i64 0,.int .i64 0,.int .i64 0,.bool false,.slice none 0 0]:=⟨fun _=>0,rfl,rfl,rfl,rfl,Zbq _ _ _ _,trivial⟩
theorem Yac {w:World} {S:Nat→Prop} {x:Wy} {u1:Value} (f:Nat→Nat) (h1:Rw kRul 183 w (fun k=>S k∧f k=4) u1 x.guard):Own kWy w S x [.int .i64 x.frm,.int .i64 x.dst,.int .i64 x.depth,.bool x.guarded,u1]:=⟨f,rfl,rfl,rfl,rfl,h1,trivial⟩
theorem Zxc {w:World} {S:Nat→Prop} {x:Wy} {u1:Value} (h:Rw kRul 183 w S u1 x.guard):Own kWy w S x [.int .i64 x.frm,.int .i64 x.dst,.int .i64 x.depth,.bool x.guarded,u1]:=Yac (fun _=>4) (Zae h (fun _ hk=>⟨hk,rfl⟩))
theorem Zxd {w:World} {S:Nat→Prop} {x:Wy} {cs:List Value} (h:Own kWy w S x cs):∃ (u1:Value) (f:Nat→Nat),cs=[.int .i64 x.frm,.int .i64 x.dst,.int .i64 x.depth,.bool x.guarded,u1]∧Rw kRul 183 w (fun k=>S k∧f k=4) u1 x.guard:=by
 obtain ⟨f,h⟩:=h
 match cs,h with
 | [v0,v1,v2,v3,v4],⟨e0,e1,e2,e3,e4,_⟩ =>
  cases e0
  cases e1
  cases e2
  cases e3
  exact ⟨v4,f,rfl,e4⟩
theorem iWy:(Tryz.prog.info? 112).map (fun i=>(i.zero,i.size,i.bytes))=some (some (.agg #[.int .i64 0,.int .i64 0,.int .i64 0,.bool false,.slice none 0 0]),5,56):=by kernel_rfl
structure Sight where
 kind:Int
 way:Int
 bytes:List Int
def Zes:List (Fd Sight):=[sI (·.kind),sI (·.way),row 5 Zdh (·.bytes)]
def Zej:Mk Sight:=⟨fun x k=>⟨k,k+1,mkL Zer x.bytes (k+1+1)⟩,fun x=>2+nL Zer x.bytes⟩
theorem Zzn {w:World} {x:Sight} {cs:List Value} (h:allK w x Zes cs):∃ A1 c1,cs=[.int .i64 x.kind,.int .i64 x.way,.slice A1 x.bytes.length c1]∧x.bytes.length≤c1∧Rd Zdh w A1 x.bytes:=by
 match cs,h with
 | [v0,v1,v2],⟨e0,e1,e2,_⟩ =>
  cases e0
  cases e1
  obtain ⟨A1,c1,rfl,l1,r1⟩:=e2
  exact ⟨A1,c1,rfl,l1,r1⟩
theorem Zlv {w:World} {A:Option Addr} {xs:List Sight} {j:Nat} {x:Sight} (h:Rd Zes w A xs) (hj:xs[j]? = some x) :
  ∃ ad A1 c1,A=some ad∧w.cell? (ad.add (j*3))=some (.int .i64 x.kind)∧w.cell? ⟨(ad.add (j*3)).block,(ad.add (j*3)).off+1,none⟩=some (.int .i64 x.way)∧w.cell? ⟨(ad.add (j*3)).block,(ad.add (j*3)).off+2,none⟩=some (.slice A1 x.bytes.length c1)∧x.bytes.length≤c1∧Rd Zdh w A1 x.bytes:=by
 obtain ⟨ad,cs,rfl,hk,h0,hi⟩:=Zce h hj
 obtain ⟨A1,c1,rfl,q0,q1⟩:=Zzn hk
 exact ⟨ad,A1,c1,rfl,h0 _ rfl,hi 1 _ (by decide) rfl,hi 2 _ (by decide) rfl,q0,q1⟩
theorem Zvt {w:World} {S:Nat→Prop} {x:Sight} {u1:Value} (f:Nat→Nat) (h1:Rw Zdh 5 w (fun k=>S k∧f k=2) u1 x.bytes):Own Zes w S x [.int .i64 x.kind,.int .i64 x.way,u1]:=⟨f,rfl,rfl,h1,trivial⟩
theorem Zuf {w:World} {S:Nat→Prop} {x:Sight} {u1:Value} (h:Rw Zdh 5 w S u1 x.bytes):Own Zes w S x [.int .i64 x.kind,.int .i64 x.way,u1]:=Zvt (fun _=>2) (Zae h (fun _ hk=>⟨hk,rfl⟩))
theorem Zwf {w:World} {S:Nat→Prop} {x:Sight} {cs:List Value} (h:Own Zes w S x cs):∃ (u1:Value) (f:Nat→Nat),cs=[.int .i64 x.kind,.int .i64 x.way,u1]∧Rw Zdh 5 w (fun k=>S k∧f k=2) u1 x.bytes:=by
 obtain ⟨f,h⟩:=h
 match cs,h with
 | [v0,v1,v2],⟨e0,e1,e2,_⟩ =>
  cases e0
  cases e1
  exact ⟨v2,f,rfl,e2⟩
theorem Zza:(Tryz.prog.info? 176).map (fun i=>(i.zero,i.size,i.bytes))=some (some (.agg #[.int .i64 0,.int .i64 0,.slice none 0 0]),3,40):=by kernel_rfl
structure CelSt where
 pc:Int
 regs:List Int
 mem:List Int
 halt:Int
 inn:List Int
def Zby:List (Fd CelSt):=[sI (·.pc),row 3 kInt (·.regs),row 3 kInt (·.mem),sI (·.halt),row 5 Zdh (·.inn)]
def Zcy:Mk CelSt:=⟨fun x k=>⟨k,mkL mInt x.regs (k+1),mkL mInt x.mem (k+1+(nL mInt x.regs:Nat)),k+1+(nL mInt x.regs:Nat)+(nL mInt x.mem:Nat),mkL Zer x.inn (k+1+(nL mInt x.regs:Nat)+(nL mInt x.mem:Nat)+1)⟩,fun x=>2+nL mInt x.regs+nL mInt x.mem+nL Zer x.inn⟩
theorem Zfp {w:World} {x:CelSt} {cs:List Value} (h:allK w x Zby cs):∃ A1 c1 A2 c2 A3 c3,cs=[.int .i64 x.pc,.slice A1 x.regs.length c1,.slice A2 x.mem.length c2,.int .i64 x.halt,.slice A3 x.inn.length c3]∧x.regs.length≤c1∧Rd kInt w A1 x.regs∧x.mem.length≤c2∧Rd kInt w A2 x.mem∧x.inn.length≤c3∧Rd Zdh w A3 x.inn:=by
 match cs,h with
 | [v0,v1,v2,v3,v4],⟨e0,e1,e2,e3,e4,_⟩ =>
  cases e0
  obtain ⟨A1,c1,rfl,l1,r1⟩:=e1
  obtain ⟨A2,c2,rfl,l2,r2⟩:=e2
  cases e3
  obtain ⟨A3,c3,rfl,l3,r3⟩:=e4
  exact ⟨A1,c1,A2,c2,A3,c3,rfl,l1,r1,l2,r2,l3,r3⟩
theorem Zto {w:World} {A:Option Addr} {xs:List CelSt} {j:Nat} {x:CelSt} (h:Rd Zby w A xs) (hj:xs[j]? = some x) :
  ∃ ad A1 c1 A2 c2 A3 c3,A=some ad∧w.cell? (ad.add (j*5))=some (.int .i64 x.pc)∧w.cell? ⟨(ad.add (j*5)).block,(ad.add (j*5)).off+1,none⟩=some (.slice A1 x.regs.length c1)∧w.cell? ⟨(ad.add (j*5)).block,(ad.add (j*5)).off+2,none⟩=some (.slice A2 x.mem.length c2)∧w.cell? ⟨(ad.add (j*5)).block,(ad.add (j*5)).off+3,none⟩=some (.int .i64 x.halt)∧w.cell? ⟨(ad.add (j*5)).block,(ad.add (j*5)).off+4,none⟩=some (.slice A3 x.inn.length c3)∧x.regs.length≤c1∧Rd kInt w A1 x.regs∧x.mem.length≤c2∧Rd kInt w A2 x.mem∧x.inn.length≤c3∧Rd Zdh w A3 x.inn:=by
 obtain ⟨ad,cs,rfl,hk,h0,hi⟩:=Zce h hj
 obtain ⟨A1,c1,A2,c2,A3,c3,rfl,q0,q1,q2,q3,q4,q5⟩:=Zfp hk
 exact ⟨ad,A1,c1,A2,c2,A3,c3,rfl,h0 _ rfl,hi 1 _ (by decide) rfl,hi 2 _ (by decide) rfl,hi 3 _ (by decide) rfl,hi 4 _ (by decide) rfl,q0,q1,q2,q3,q4,q5⟩
theorem Zlw {w:World} {S:Nat→Prop} {x:CelSt} {u1 u2 u3:Value} (f:Nat→Nat) (h1:Rw kInt 3 w (fun k=>S k∧f k=1) u1 x.regs) (h2:Rw kInt 3 w (fun k=>S k∧f k=2) u2 x.mem) (h3:Rw Zdh 5 w (fun k=>S k∧f k=4) u3 x.inn):Own Zby w S x [.int .i64 x.pc,u1,u2,.int .i64 x.halt,u3]:=⟨f,rfl,h1,h2,rfl,h3,trivial⟩
theorem Zfz {w:World} {S:Nat→Prop} {x:CelSt} {cs:List Value} (h:Own Zby w S x cs):∃ (u1 u2 u3:Value) (f:Nat→Nat),cs=[.int .i64 x.pc,u1,u2,.int .i64 x.halt,u3]∧Rw kInt 3 w (fun k=>S k∧f k=1) u1 x.regs∧Rw kInt 3 w (fun k=>S k∧f k=2) u2 x.mem∧Rw Zdh 5 w (fun k=>S k∧f k=4) u3 x.inn:=by
 obtain ⟨f,h⟩:=h
 match cs,h with
 | [v0,v1,v2,v3,v4],⟨e0,e1,e2,e3,e4,_⟩ =>
  cases e0
  cases e3
  exact ⟨v1,v2,v4,f,rfl,e1,e2,e4⟩
theorem Zsw:(Tryz.prog.info? 103).map (fun i=>(i.zero,i.size,i.bytes))=some (some (.agg #[.int .i64 0,.slice none 0 0,.slice none 0 0,.int .i64 0,.slice none 0 0]),5,88):=by kernel_rfl
def Zdd:List (Fd (List (List Int))):=[row 101 Zck id]
def Zcx:Mk (List (List Int)):=⟨fun x k=>mkL Zdq x (k),fun x=>nL Zdq x⟩
theorem Zyl {w:World} {x:List (List Int)} {cs:List Value} (h:allK w x Zdd cs):∃ A1 c1,cs=[.slice A1 x.length c1]∧x.length≤c1∧Rd Zck w A1 x:=by
 match cs,h with
 | [v0],⟨e0,_⟩ =>
  obtain ⟨A1,c1,rfl,l1,r1⟩:=e0
  exact ⟨A1,c1,rfl,l1,r1⟩
theorem Zqd {w:World} {A:Option Addr} {xs:List (List (List Int))} {j:Nat} {x:List (List Int)} (h:Rd Zdd w A xs) (hj:xs[j]? = some x) :
  ∃ ad A1 c1,A=some ad∧w.cell? (ad.add j)=some (.slice A1 x.length c1)∧x.length≤c1∧Rd Zck w A1 x:=by
 obtain ⟨ad,cs,rfl,hk,h0,hi⟩:=Zce h hj
 obtain ⟨A1,c1,rfl,q0,q1⟩:=Zyl hk
 exact ⟨ad,A1,c1,rfl,(by have:=h0 _ rfl;rwa [show j*Zdd.length=j from Nat.mul_one j] at this),q0,q1⟩
def Zzo:List (List Int):=[]
theorem Zvb (w:World) (T:Nat→Prop):Own Zdd w T Zzo [.slice none 0 0]:=⟨fun _=>0,Zbq _ _ _ _,trivial⟩
theorem Zug {w:World} {S:Nat→Prop} {x:List (List Int)} {u1:Value} (f:Nat→Nat) (h1:Rw Zck 101 w (fun k=>S k∧f k=0) u1 x):Own Zdd w S x [u1]:=⟨f,h1,trivial⟩
theorem Zwg {w:World} {S:Nat→Prop} {x:List (List Int)} {u1:Value} (h:Rw Zck 101 w S u1 x):Own Zdd w S x [u1]:=Zug (fun _=>0) (Zae h (fun _ hk=>⟨hk,rfl⟩))
theorem Zvc {w:World} {S:Nat→Prop} {x:List (List Int)} {cs:List Value} (h:Own Zdd w S x cs):∃ (u1:Value) (f:Nat→Nat),cs=[u1]∧Rw Zck 101 w (fun k=>S k∧f k=0) u1 x:=by
 obtain ⟨f,h⟩:=h
 match cs,h with
 | [v0],⟨e0,_⟩ =>
  exact ⟨v0,f,rfl,e0⟩
theorem Zxe:(Tryz.prog.info? 54).map (fun i=>(i.zero,i.size,i.bytes))=some (some (.slice none 0 0),1,24):=by kernel_rfl
structure Box where
 depth:Int
 items:List (List Int)
def kBox:List (Fd Box):=[sI (·.depth),row 101 Zck (·.items)]
def mBox:Mk Box:=⟨fun x k=>⟨k,mkL Zdq x.items (k+1)⟩,fun x=>1+nL Zdq x.items⟩
theorem Zwh {w:World} {x:Box} {cs:List Value} (h:allK w x kBox cs):∃ A1 c1,cs=[.int .i64 x.depth,.slice A1 x.items.length c1]∧x.items.length≤c1∧Rd Zck w A1 x.items:=by
 match cs,h with
 | [v0,v1],⟨e0,e1,_⟩ =>
  cases e0
  obtain ⟨A1,c1,rfl,l1,r1⟩:=e1
  exact ⟨A1,c1,rfl,l1,r1⟩
theorem Zqe {w:World} {A:Option Addr} {xs:List Box} {j:Nat} {x:Box} (h:Rd kBox w A xs) (hj:xs[j]? = some x) :
  ∃ ad A1 c1,A=some ad∧w.cell? (ad.add (j*2))=some (.int .i64 x.depth)∧w.cell? ⟨(ad.add (j*2)).block,(ad.add (j*2)).off+1,none⟩=some (.slice A1 x.items.length c1)∧x.items.length≤c1∧Rd Zck w A1 x.items:=by
 obtain ⟨ad,cs,rfl,hk,h0,hi⟩:=Zce h hj
 obtain ⟨A1,c1,rfl,q0,q1⟩:=Zwh hk
 exact ⟨ad,A1,c1,rfl,h0 _ rfl,hi 1 _ (by decide) rfl,q0,q1⟩
theorem Zsx {w:World} {S:Nat→Prop} {x:Box} {u1:Value} (f:Nat→Nat) (h1:Rw Zck 101 w (fun k=>S k∧f k=1) u1 x.items):Own kBox w S x [.int .i64 x.depth,u1]:=⟨f,rfl,h1,trivial⟩
theorem Zxf {w:World} {S:Nat→Prop} {x:Box} {u1:Value} (h:Rw Zck 101 w S u1 x.items):Own kBox w S x [.int .i64 x.depth,u1]:=Zsx (fun _=>1) (Zae h (fun _ hk=>⟨hk,rfl⟩))
theorem Zhn {w:World} {S:Nat→Prop} {x:Box} {cs:List Value} (h:Own kBox w S x cs):∃ (u1:Value) (f:Nat→Nat),cs=[.int .i64 x.depth,u1]∧Rw Zck 101 w (fun k=>S k∧f k=1) u1 x.items:=by
 obtain ⟨f,h⟩:=h
 match cs,h with
 | [v0,v1],⟨e0,e1,_⟩ =>
  cases e0
  exact ⟨v1,f,rfl,e1⟩
theorem iBox:(Tryz.prog.info? 109).map (fun i=>(i.zero,i.size,i.bytes))=some (some (.agg #[.int .i64 0,.slice none 0 0]),2,32):=by kernel_rfl
def Zbv:List (Fd (List Sight)):=[row 176 Zes id]
def Zde:Mk (List Sight):=⟨fun x k=>mkL Zej x (k),fun x=>nL Zej x⟩
theorem Zym {w:World} {x:List Sight} {cs:List Value} (h:allK w x Zbv cs):∃ A1 c1,cs=[.slice A1 x.length c1]∧x.length≤c1∧Rd Zes w A1 x:=by
 match cs,h with
 | [v0],⟨e0,_⟩ =>
  obtain ⟨A1,c1,rfl,l1,r1⟩:=e0
  exact ⟨A1,c1,rfl,l1,r1⟩
theorem Zhd {w:World} {A:Option Addr} {xs:List (List Sight)} {j:Nat} {x:List Sight} (h:Rd Zbv w A xs) (hj:xs[j]? = some x) :
  ∃ ad A1 c1,A=some ad∧w.cell? (ad.add j)=some (.slice A1 x.length c1)∧x.length≤c1∧Rd Zes w A1 x:=by
 obtain ⟨ad,cs,rfl,hk,h0,hi⟩:=Zce h hj
 obtain ⟨A1,c1,rfl,q0,q1⟩:=Zym hk
 exact ⟨ad,A1,c1,rfl,(by have:=h0 _ rfl;rwa [show j*Zbv.length=j from Nat.mul_one j] at this),q0,q1⟩
def Zzp:List Sight:=[]
theorem Zvd (w:World) (T:Nat→Prop):Own Zbv w T Zzp [.slice none 0 0]:=⟨fun _=>0,Zbq _ _ _ _,trivial⟩
theorem Zuh {w:World} {S:Nat→Prop} {x:List Sight} {u1:Value} (f:Nat→Nat) (h1:Rw Zes 176 w (fun k=>S k∧f k=0) u1 x):Own Zbv w S x [u1]:=⟨f,h1,trivial⟩
theorem Zno {w:World} {S:Nat→Prop} {x:List Sight} {u1:Value} (h:Rw Zes 176 w S u1 x):Own Zbv w S x [u1]:=Zuh (fun _=>0) (Zae h (fun _ hk=>⟨hk,rfl⟩))
theorem Zve {w:World} {S:Nat→Prop} {x:List Sight} {cs:List Value} (h:Own Zbv w S x cs):∃ (u1:Value) (f:Nat→Nat),cs=[u1]∧Rw Zes 176 w (fun k=>S k∧f k=0) u1 x:=by
 obtain ⟨f,h⟩:=h
 match cs,h with
 | [v0],⟨e0,_⟩ =>
  exact ⟨v0,f,rfl,e0⟩
theorem Ztp:(Tryz.prog.info? 117).map (fun i=>(i.zero,i.size,i.bytes))=some (some (.slice none 0 0),1,24):=by kernel_rfl
structure Pln where
 nodes:Int
 secret:Int
 fuel:Int
 cells:List Cel
 ways:List Wy
 slots:List Slt
 turns:List (List Int)
def kPln:List (Fd Pln):=[sI (·.nodes),sI (·.secret),sI (·.fuel),row 107 kCel (·.cells),row 112 kWy (·.ways),row 121 kSlt (·.slots),row 90 Zda (·.turns)]
theorem Zcs {w:World} {x:Pln} {cs:List Value} (h:allK w x kPln cs):∃ A1 c1 A2 c2 A3 c3 A4 c4,cs=[.int .i64 x.nodes,.int .i64 x.secret,.int .i64 x.fuel,.slice A1 x.cells.length c1,.slice A2 x.ways.length c2,.slice A3 x.slots.length c3,.slice A4 x.turns.length c4]∧x.cells.length≤c1∧Rd kCel w A1 x.cells∧x.ways.length≤c2∧Rd kWy w A2 x.ways∧x.slots.length≤c3∧Rd kSlt w A3 x.slots∧x.turns.length≤c4∧Rd Zda w A4 x.turns:=by
 match cs,h with
 | [v0,v1,v2,v3,v4,v5,v6],⟨e0,e1,e2,e3,e4,e5,e6,_⟩ =>
  cases e0
  cases e1
  cases e2
  obtain ⟨A1,c1,rfl,l1,r1⟩:=e3
  obtain ⟨A2,c2,rfl,l2,r2⟩:=e4
  obtain ⟨A3,c3,rfl,l3,r3⟩:=e5
  obtain ⟨A4,c4,rfl,l4,r4⟩:=e6
  exact ⟨A1,c1,A2,c2,A3,c3,A4,c4,rfl,l1,r1,l2,r2,l3,r3,l4,r4⟩
theorem Zui {w:World} {S:Nat→Prop} {x:Pln} {u1 u2 u3 u4:Value} (f:Nat→Nat) (h1:Rw kCel 107 w (fun k=>S k∧f k=3) u1 x.cells) (h2:Rw kWy 112 w (fun k=>S k∧f k=4) u2 x.ways) (h3:Rw kSlt 121 w (fun k=>S k∧f k=5) u3 x.slots) (h4:Rw Zda 90 w (fun k=>S k∧f k=6) u4 x.turns):Own kPln w S x [.int .i64 x.nodes,.int .i64 x.secret,.int .i64 x.fuel,u1,u2,u3,u4]:=⟨f,rfl,rfl,rfl,h1,h2,h3,h4,trivial⟩
theorem Zho {w:World} {S:Nat→Prop} {x:Pln} {cs:List Value} (h:Own kPln w S x cs):∃ (u1 u2 u3 u4:Value) (f:Nat→Nat),cs=[.int .i64 x.nodes,.int .i64 x.secret,.int .i64 x.fuel,u1,u2,u3,u4]∧Rw kCel 107 w (fun k=>S k∧f k=3) u1 x.cells∧Rw kWy 112 w (fun k=>S k∧f k=4) u2 x.ways∧Rw kSlt 121 w (fun k=>S k∧f k=5) u3 x.slots∧Rw Zda 90 w (fun k=>S k∧f k=6) u4 x.turns:=by
 obtain ⟨f,h⟩:=h
 match cs,h with
 | [v0,v1,v2,v3,v4,v5,v6],⟨e0,e1,e2,e3,e4,e5,e6,_⟩ =>
  cases e0
  cases e1
  cases e2
  exact ⟨v3,v4,v5,v6,f,rfl,e3,e4,e5,e6⟩
def Seg (w:World) (g:Nat) (e:TypeId) (cur:Array Value) (o n:Nat) (cs:List Value):Prop :=
 ∃ c:Array Value,w.heap[g]? = some (.cells c e (0,0))∧c.size=cur.size∧cs.length=n∧o+n≤cur.size∧(∀ (i:Nat) (u:Value),cs[i]? = some u→c[o+i]? = some u)∧∀ q:Nat,(q<o∨o+n≤q)→c[q]? = cur[q]?
theorem Seg.set {w:World} {g:Nat} {e:TypeId} {cur:Array Value} {o n:Nat} {cs:List Value} (h:Seg w g e cur o n cs) (i:Nat) (hi:i<n) (u:Value):Seg (w.setCell ⟨g,o+i,none⟩ u) g e cur o n (cs.set i u):=by
 obtain ⟨c,h1,h2,h3,h4,h5,h6⟩:=h
 refine ⟨c.setIfInBounds (o+i) u,Zau h1 _ _,by simp [h2],by simp [h3],h4,fun j v hj=>?_,fun q hq=>?_⟩
 ·by_cases hij:i=j
  ·subst hij
   rw [List.getElem?_set_self (by omega)] at hj
   obtain rfl:=Option.some.inj hj
   rw [Array.getElem?_setIfInBounds_self_of_lt (by omega)]
  ·rw [List.getElem?_set_ne hij] at hj
   rw [Array.getElem?_setIfInBounds_ne (by omega)]
   exact h5 j v hj
 ·rw [Array.getElem?_setIfInBounds_ne (by omega)]
  exact h6 q hq
theorem Seg.move {w w1:World} {g:Nat} {e:TypeId} {cur:Array Value} {o n:Nat} {cs:List Value} (h:Seg w g e cur o n cs) (hm:w1.heap[g]? = w.heap[g]?):Seg w1 g e cur o n cs:=by
 obtain ⟨c,h1,h2⟩:=h
 exact ⟨c,hm.trans h1,h2⟩
theorem Seg.cell {w:World} {g:Nat} {e:TypeId} {cur:Array Value} {o n:Nat} {cs:List Value} (h:Seg w g e cur o n cs) (i:Nat) (u:Value) (hu:cs[i]? = some u):w.cell? ⟨g,o+i,none⟩=some u:=by
 obtain ⟨c,h1,h2,h3,h4,h5,h6⟩:=h
 exact Zag h1 (h5 i u hu)
theorem Seg.froz {w:World} {g:Nat} {e:TypeId} {cur:Array Value} {o n:Nat} {cs:List Value} (h:Seg w g e cur o n cs) (i:Nat):w.frozen? ⟨g,i,none⟩=false:=by
 obtain ⟨c,h1,h2⟩:=h
 exact Zad h1 i
theorem Zcp {α:Type} {fs:List (Fd α)} {e:TypeId} {W:World} {S:Nat→Prop} {xs:List α} {g n cap:Nat} (HO:Rw fs e W S (.slice (some ⟨g,0,none⟩) n cap) xs) {j:Nat} {x:α} (hj:xs[j]? = some x) :
  ∃ (T:Nat→Prop) (cur:Array Value) (cs:List Value),Seg W g e cur (j*fs.length) fs.length cs∧S g∧g<W.heap.size∧(∀ k,T k→S k∧k≠g∧k<W.heap.size)∧Own fs W T x cs ∧
   ∀ (w1:World) (cs':List Value) (x':α) (T':Nat→Prop),Seg w1 g e cur (j*fs.length) fs.length cs'→Kep (fun q=>q=g∨T q) W w1→Own fs w1 T' x' cs'→(∀ k,T' k→T k∨(S k∧W.heap.size≤k))→Rw fs e w1 S (.slice (some ⟨g,0,none⟩) n cap) (xs.set j x'):=by
 obtain ⟨T,cur,cs,h1,h2,h3,h4,h5,h6,h7⟩:=Zux HO hj
 refine ⟨T,cur,cs,⟨cur,h1,rfl,Znn h4,h6,h5,fun _ _=>rfl⟩,h2,Zao h1,h3,h4, ?_⟩
 rintro w1 cs' x' T' ⟨c,s1,s2,s3,s4,s5,s6⟩ hk ho hT
 exact h7 w1 c cs' x' T' s1 s2 s5 s6 (fun k hk1 hk2 hk3 hk4=>hk.block k hk1 (fun h=>h.elim hk3 hk4)) ho hT
theorem Zbs {g:Nat} (w:World) (o:Obj) (h:w.heap.size=g):(w.alloc o).heap[g]? = some o:=by
 subst h
 exact Zas w o
def filI {α:Type} (xs:List α) (z:α) (i:Nat):List α:=xs.take i++List.replicate (xs.length-i) z
theorem Zgf {α:Type} (xs:List α) (z:α):filI xs z 0=List.replicate xs.length z:=by simp [filI]
theorem Zhp {α:Type} (xs:List α) (z:α):filI xs z xs.length=xs:=by simp [filI]
theorem Zhq {α:Type} (xs:List α) (z:α) (i:Nat) (h:i<xs.length):(filI xs z i)[i]? = some z:=by
 have hl:(xs.take i).length=i:=by rw [List.length_take];omega
 rw [filI,List.getElem?_append_right (by omega),hl,Nat.sub_self,List.getElem?_replicate,if_pos (by omega)]
theorem Zhr {α:Type} (xs:List α) (z:α) (i:Nat) (x:α) (hx:xs[i]? = some x):(filI xs z i).set i x=filI xs z (i+1):=by
 obtain ⟨h,hx⟩:=List.getElem?_eq_some_iff.1 hx
 have hl:(xs.take i).length=i:=by rw [List.length_take];omega
 unfold filI
 rw [List.set_append_right _ _ (by omega),hl,Nat.sub_self,show xs.length-i=(xs.length-(i+1))+1 by omega,List.replicate_succ,List.set_cons_zero,List.take_succ_eq_append_getElem h,List.append_assoc,hx]
 rfl
def sumL {α:Type} (z:α→Nat) (xs:List α):Nat:=nL ⟨fun x _=>x,z⟩ xs
theorem Zlx {α:Type} (z:α→Nat) (xs:List α) (j:Nat) (x:α) (hj:xs[j]? = some x):sumL z (xs.take (j+1))=sumL z (xs.take j)+z x:=Zcw ⟨fun x _=>x,z⟩ xs j x hj
theorem Zzq {α:Type} (z:α→Nat) (xs:List α) (j:Nat):sumL z (xs.take j)≤sumL z xs:=Zfg ⟨fun x _=>x,z⟩ xs j
def szL {α:Type} (z:α→Nat) (xs:List α):Nat:=xs.length+sumL z xs
def Flat {α:Type} (fs:List (Fd α)):Prop:=∀ d,d∈fs→∃ enc:α→Value,(∀ w x v,d.K w x v↔v=enc x)∧∀ w S x v,d.M w S x v↔v=enc x
theorem Zuj {α:Type} {w w':World} {S:Nat→Prop} {x:α} {f:Nat→Nat}:∀ {fs:List (Fd α)} {i:Nat} {cs:List Value},Flat fs→allK w x fs cs→allM w' S x f i fs cs
 | [],_,[],_,_=>trivial
 | d::fs,i,v::cs,hf,h=>by
  obtain ⟨enc,h1,h2⟩:=hf d List.mem_cons_self
  exact ⟨(h2 _ _ _ _).2 ((h1 _ _ _).1 h.1),Zuj (fun d hd=>hf d (List.mem_cons_of_mem _ hd)) h.2⟩
 | [],_,_::_,_,h=>h.elim
 | _::_,_,[],_,h=>h.elim
theorem Zvu {α:Type} {fs:List (Fd α)} {w w':World} {S:Nat→Prop} {x:α} {cs:List Value} (hf:Flat fs) (h:allK w x fs cs):Own fs w' S x cs:=⟨fun _=>0,Zuj hf h⟩
theorem Zuk {α:Type} {fs:List (Fd α)} {w w':World} {x:α} {cs:List Value} (hf:Flat fs) (h:allK w x fs cs):allK w' x fs cs:=Zbh (Zvu (S:=fun _=>True) hf h)
def Zvv {α:Type} (fs:List (Fd α)) (hf:Flat fs):Kd α where
 sz:=fs.length
 E:=[]
 K:=fun w x cs=>allK w x fs cs
 M:=fun w _ _ x cs=>allK w x fs cs
 K_len:=Ztj
 K_one:=Zpt
 K_below:=fun _ h=>Zuk hf h
 K_of_M:=fun h=>h
 M_mono:=fun _ h=>h
 M_bound:=fun h=>h
 M_move:=fun _ h=>Zuk hf h
 M_lower:=fun _ h=>h
theorem Zsy {α:Type} {fs:List (Fd α)} {hf:Flat fs} {e:TypeId} {w:World} {base:Nat} {S:Nat→Prop} {v:Value} {xs:List α} (h:(Zvv fs hf).R e w base S v xs):Rw fs e w S v xs:=by
 obtain ⟨h0,inner,ho,hr⟩:=h
 exact ⟨inner,fun _=>0,Zhy ho (Nat.zero_le _),h0,fun j x hj=>Zvu hf (hr.2 j x hj)⟩
theorem Zsz {α:Type} {fs:List (Fd α)} (hf:Flat fs) {e:TypeId} {w:World} {base:Nat} {S:Nat→Prop} {v:Value} {xs:List α} (h:Rw fs e w S v xs) (hS:∀ k,S k→base≤k):(Zvv fs hf).R e w base S v xs:=by
 obtain ⟨inner,f,ho,h0,he⟩:=h
 exact ⟨h0,inner,Zhz ho (fun k hk=>hS k (h0 k hk)),ho.1,fun j x hj=>Zbh (he j x hj)⟩
section
variable {P:Program} {ops:Array Oper} {rest:List Oper} {o:Oper} {a:Act} {Q:Exit→Act→World→Prop} {α:Type}
theorem Zdi (fs:List (Fd α)) (hf:Flat fs) {w0 W:World} (hgd:o.guard=none) (s x:Operand) (t e:TypeId) (z:Value) (bytes:Nat)
  (ho:o.op=.call { callee:=.builtin .append,args:=#[s,x],argTypes:=#[t,t] })
  (ht:P.underlying t=some (.slice e)) (hinfo:(P.info? e).map (fun i=>(i.zero,i.size,i.bytes))=some (some z,fs.length,bytes)) (hz:z.cells.size=fs.length) (hs0:0<fs.length) (hb0:0<bytes)
  (v:Value) (xs ys:List α) (A:Option Addr) (c:Nat) (S:Nat→Prop) (hs:a.eval s=v) (hx:a.eval x=.slice A ys.length c)
  (HO:Rw fs e W S v xs) (HR:Rd fs W A ys) (hS:∀ k,S k→w0.heap.size≤k) (hfresh:∀ k,W.heap.size≤k→S k)
  (HB:Below w0.heap.size w0 W) (hl:(xs.length+ys.length)*bytes≤140737488355328)
  (h:∀ v1 w1,Rw fs e w1 S v1 (xs++ys)→Below w0.heap.size w0 w1→W.grownBy w1 v.ownBlock→(v1.ownBlock=v.ownBlock∨∃ b,v1.ownBlock=some b∧W.heap.size≤b)→wpList P ops Q rest (a.put o.dst v1) w1) :
  wpList P ops Q (o::rest) a W :=
 Kd.R_append_rows (Zvv fs hf) (Rr:=fun x cs=>allK W x fs cs) (w0:=w0) w0.heap.size hgd s x t e z bytes ho ht hinfo hz hs0 hb0 v xs ys A ys.length c S (fun _=>False) hs hx (Zsz hf HO hS) HR (fun _ _ h=>h) (fun _ h=>h.elim) hfresh HB HB.size hl
  (fun v1 w1 h1 h2 h3 h4=>h v1 w1 (Zsy h1) h2 h3 h4)
end
theorem Zfo {P:Program} {ops:Array Oper} {rest:List Oper} {o:Oper} {a:Act} {Q:Exit→Act→World→Prop} {W:World} {b:Builtin} {xs:Array Operand} {ts:Array TypeId} (_ho:o.op=.call { callee:=.builtin b,args:=xs,argTypes:=ts }) (h:wpList P ops Q (o::rest) a W):wpList P ops Q (o::rest) a W:=h
theorem Zfl {α:Type} (fs:List (Fd α)) (e:TypeId) (w:World) (S:Nat→Prop) (hS:S w.heap.size):Rw fs e (w.alloc (.cells #[] e)) S (.slice (some ⟨w.heap.size,0,none⟩) 0 0) [] :=
 ⟨[],fun _=>0,by simpa using World.ownsRow_lit (base:=0) (e:=e) (size:=fs.length) w #[] 0 (Nat.zero_le _) (by simp [maxLen]) (by simp),fun k hk=>by
  have:w.heap.size=k:=by simpa [Value.ownBlock] using hk
  subst this
  exact hS,fun j x hj=>by simp at hj⟩
theorem Zhx {α:Type} {p:α→Int}:∃ enc:α→Value,(∀ w x v,(sI p).K w x v↔v=enc x)∧∀ w S x v,(sI p).M w S x v↔v=enc x:=⟨_,fun _ _ _=>Iff.rfl,fun _ _ _ _=>Iff.rfl⟩
theorem Yal {α:Type} {p:α→Int}:∃ enc:α→Value,(∀ w x v,(sU p).K w x v↔v=enc x)∧∀ w S x v,(sU p).M w S x v↔v=enc x:=⟨_,fun _ _ _=>Iff.rfl,fun _ _ _ _=>Iff.rfl⟩
theorem Zii {α:Type}:Flat ([]:List (Fd α)):=fun d hd=>by cases hd
theorem Zct {α:Type} {d:Fd α} {fs:List (Fd α)} (h:∃ enc:α→Value,(∀ w x v,d.K w x v↔v=enc x)∧∀ w S x v,d.M w S x v↔v=enc x) (hf:Flat fs):Flat (d::fs):=fun d' hd=>by
 rcases List.mem_cons.1 hd with rfl | hd
 ·exact h
 ·exact hf d' hd
theorem fInt:Flat kInt:=Zct Zhx Zii
theorem Yam:Flat Zdh:=Zct Yal Zii
theorem fOrd:Flat kOrd:=Zct Zhx (Zct Zhx (Zct Zhx (Zct Zhx Zii)))
theorem fSlt:Flat kSlt:=Zct Zhx (Zct Zhx Zii)
theorem fRul:Flat kRul:=Zct Zhx (Zct Zhx (Zct Zhx (Zct Zhx (Zct Zhx (Zct Zhx (Zct Zhx Zii))))))
theorem Yad {w:World} {A:Option Addr} {xs:List Int} (h:Rd kInt w A xs):(Kd.int .i64).C w A xs.length xs:=Zef.imp_ h brf_ (fun x cs h=>Zwt h)
theorem Zqf {w:World} {A:Option Addr} {xs:List Int} (h:Rd Zdh w A xs):(Kd.int .u8).C w A xs.length xs:=Zef.imp_ h brf_ (fun x cs h=>Zvp h)
theorem Zxg {e:TypeId} {w:World} {base:Nat} {S:Nat→Prop} {v:Value} {xs:List Int} (h:(Kd.int .i64).R e w base S v xs):Rw kInt e w S v xs:=by
 obtain ⟨h0,inner,ho,hr⟩:=h
 exact ⟨inner,fun _=>0,Zhy ho (Nat.zero_le _),h0,fun j x hj=>by
  have:=hr.2 j x hj
  rw [show (inner.drop (j*kInt.length)).take kInt.length=[Value.int .i64 x] from this]
  exact Ztl x _ _⟩
theorem Zwi {e:TypeId} {w:World} {base:Nat} {S:Nat→Prop} {v:Value} {xs:List Int} (h:(Kd.int .u8).R e w base S v xs):Rw Zdh e w S v xs:=by
 obtain ⟨h0,inner,ho,hr⟩:=h
 exact ⟨inner,fun _=>0,Zhy ho (Nat.zero_le _),h0,fun j x hj=>by
  have:=hr.2 j x hj
  rw [show (inner.drop (j*Zdh.length)).take Zdh.length=[Value.int .u8 x] from this]
  exact Zvq x _ _⟩
theorem Zxh {e:TypeId} {w:World} {base:Nat} {S:Nat→Prop} {v:Value} {xs:List Int} (h:Rw kInt e w S v xs) (hS:∀ k,S k→base≤k):(Kd.int .i64).R e w base S v xs:=by
 obtain ⟨inner,f,ho,h0,he⟩:=h
 exact ⟨h0,inner,Zhz ho (fun k hk=>hS k (h0 k hk)),ho.1,fun j x hj=>Zwt (Zbh (he j x hj))⟩
theorem Zwj {e:TypeId} {w:World} {base:Nat} {S:Nat→Prop} {v:Value} {xs:List Int} (h:Rw Zdh e w S v xs) (hS:∀ k,S k→base≤k):(Kd.int .u8).R e w base S v xs:=by
 obtain ⟨inner,f,ho,h0,he⟩:=h
 exact ⟨h0,inner,Zhz ho (fun k hk=>hS k (h0 k hk)),ho.1,fun j x hj=>Zvp (Zbh (he j x hj))⟩
theorem Zbr {α:Type} {w:World} {x:α} {d:Fd α} {fs:List (Fd α)} {cs:List Value} (h:allK w x (d::fs) cs):∃ v c,cs=v::c∧d.K w x v∧allK w x fs c:=by
 match cs,h with
 | v::c,h=>exact ⟨v,c,rfl,h.1,h.2⟩
theorem Ztq {α:Type} {w:World} {x:α} {cs:List Value} (h:allK w x [] cs):cs=[]:=by
 match cs,h with
 | [],_=>rfl
theorem Zcu {α:Type} {w:World} {S:Nat→Prop} {x:α} {f:Nat→Nat} {i:Nat} {d:Fd α} {fs:List (Fd α)} {cs:List Value} (h:allM w S x f i (d::fs) cs):∃ v c,cs=v::c∧d.M w (fun k=>S k∧f k=i) x v∧allM w S x f (i+1) fs c:=by
 match cs,h with
 | v::c,h=>exact ⟨v,c,rfl,h.1,h.2⟩
theorem Zvw {α:Type} {w:World} {S:Nat→Prop} {x:α} {f:Nat→Nat} {i:Nat} {cs:List Value} (h:allM w S x f i [] cs):cs=[]:=by
 match cs,h with
 | [],_=>rfl
structure OutO where
 boot:Int
 peer:Int
 epoch:Int
 seq:Int
def Zhm:List (Fd OutO):=[sI (·.boot),sI (·.peer),sI (·.epoch),sI (·.seq)]
theorem Zxi {w:World} {x:OutO} {cs:List Value} (h:allK w x Zhm cs):cs=[.int .i64 x.boot,.int .i64 x.peer,.int .i64 x.epoch,.int .i64 x.seq]:=by
 match cs,h with
 | [v0,v1,v2,v3],⟨e0,e1,e2,e3,_⟩ =>
  cases e0
  cases e1
  cases e2
  cases e3
  rfl
theorem Zxj {w:World} {A:Option Addr} {xs:List OutO} {j:Nat} {x:OutO} (h:Rd Zhm w A xs) (hj:xs[j]? = some x) :
  ∃ ad,A=some ad∧w.cell? (ad.add (j*4))=some (.int .i64 x.boot)∧w.cell? ⟨(ad.add (j*4)).block,(ad.add (j*4)).off+1,none⟩=some (.int .i64 x.peer)∧w.cell? ⟨(ad.add (j*4)).block,(ad.add (j*4)).off+2,none⟩=some (.int .i64 x.epoch)∧w.cell? ⟨(ad.add (j*4)).block,(ad.add (j*4)).off+3,none⟩=some (.int .i64 x.seq):=by
 obtain ⟨ad,cs,rfl,hk,h0,hi⟩:=Zce h hj
 obtain rfl:=Zxi hk
 exact ⟨ad,rfl,h0 _ rfl,hi 1 _ (by decide) rfl,hi 2 _ (by decide) rfl,hi 3 _ (by decide) rfl⟩
theorem Zvx (x:OutO) (w:World) (T:Nat→Prop):Own Zhm w T x [.int .i64 x.boot,.int .i64 x.peer,.int .i64 x.epoch,.int .i64 x.seq]:=⟨fun _=>0,rfl,rfl,rfl,rfl,trivial⟩
theorem Zyn:(Tryz.prog.info? 167).map (fun i=>(i.zero,i.size,i.bytes))=some (some (.agg #[.int .i64 0,.int .i64 0,.int .i64 0,.int .i64 0]),4,32):=by kernel_rfl
structure InI where
 boot:Int
 epoch:Int
 seq:Int
def kInI:List (Fd InI):=[sI (·.boot),sI (·.epoch),sI (·.seq)]
theorem Yan {w:World} {x:InI} {cs:List Value} (h:allK w x kInI cs):cs=[.int .i64 x.boot,.int .i64 x.epoch,.int .i64 x.seq]:=by
 match cs,h with
 | [v0,v1,v2],⟨e0,e1,e2,_⟩ =>
  cases e0
  cases e1
  cases e2
  rfl
theorem Zzb {w:World} {A:Option Addr} {xs:List InI} {j:Nat} {x:InI} (h:Rd kInI w A xs) (hj:xs[j]? = some x) :
  ∃ ad,A=some ad∧w.cell? (ad.add (j*3))=some (.int .i64 x.boot)∧w.cell? ⟨(ad.add (j*3)).block,(ad.add (j*3)).off+1,none⟩=some (.int .i64 x.epoch)∧w.cell? ⟨(ad.add (j*3)).block,(ad.add (j*3)).off+2,none⟩=some (.int .i64 x.seq):=by
 obtain ⟨ad,cs,rfl,hk,h0,hi⟩:=Zce h hj
 obtain rfl:=Yan hk
 exact ⟨ad,rfl,h0 _ rfl,hi 1 _ (by decide) rfl,hi 2 _ (by decide) rfl⟩
theorem Zxk (x:InI) (w:World) (T:Nat→Prop):Own kInI w T x [.int .i64 x.boot,.int .i64 x.epoch,.int .i64 x.seq]:=⟨fun _=>0,rfl,rfl,rfl,trivial⟩
theorem iInI:(Tryz.prog.info? 170).map (fun i=>(i.zero,i.size,i.bytes))=some (some (.agg #[.int .i64 0,.int .i64 0,.int .i64 0]),3,24):=by kernel_rfl
structure Nod where
 up:Bool
 boot:Int
 hello:Int
 cells:List CelSt
 out:List Box
 inn:List Box
 outs:List OutO
 ins:List InI
 boots:List Int
 seqs:List Int
def kNod:List (Fd Nod):=[sB (·.up),sI (·.boot),sI (·.hello),row 103 Zby (·.cells),row 109 kBox (·.out),row 109 kBox (·.inn),row 167 Zhm (·.outs),row 170 kInI (·.ins),row 3 kInt (·.boots),row 3 kInt (·.seqs)]
theorem Zxl {w:World} {x:Nod} {cs:List Value} (h:allK w x kNod cs):∃ A1 c1 A2 c2 A3 c3 A4 c4 A5 c5 A6 c6 A7 c7,cs=[.bool x.up,.int .i64 x.boot,.int .i64 x.hello,.slice A1 x.cells.length c1,.slice A2 x.out.length c2,.slice A3 x.inn.length c3,.slice A4 x.outs.length c4,.slice A5 x.ins.length c5,.slice A6 x.boots.length c6,.slice A7 x.seqs.length c7]∧x.cells.length≤c1∧Rd Zby w A1 x.cells∧x.out.length≤c2∧Rd kBox w A2 x.out∧x.inn.length≤c3∧Rd kBox w A3 x.inn∧x.outs.length≤c4∧Rd Zhm w A4 x.outs∧x.ins.length≤c5∧Rd kInI w A5 x.ins∧x.boots.length≤c6∧Rd kInt w A6 x.boots∧x.seqs.length≤c7∧Rd kInt w A7 x.seqs:=by
  obtain ⟨v0,t0,rfl,e0,h⟩:=Zbr h
  obtain ⟨v1,t1,rfl,e1,h⟩:=Zbr h
  obtain ⟨v2,t2,rfl,e2,h⟩:=Zbr h
  obtain ⟨v3,t3,rfl,e3,h⟩:=Zbr h
  obtain ⟨v4,t4,rfl,e4,h⟩:=Zbr h
  obtain ⟨v5,t5,rfl,e5,h⟩:=Zbr h
  obtain ⟨v6,t6,rfl,e6,h⟩:=Zbr h
  obtain ⟨v7,t7,rfl,e7,h⟩:=Zbr h
  obtain ⟨v8,t8,rfl,e8,h⟩:=Zbr h
  obtain ⟨v9,t9,rfl,e9,h⟩:=Zbr h
  obtain rfl:=Ztq h
  cases e0
  cases e1
  cases e2
  obtain ⟨A1,c1,rfl,l1,r1⟩:=e3
  obtain ⟨A2,c2,rfl,l2,r2⟩:=e4
  obtain ⟨A3,c3,rfl,l3,r3⟩:=e5
  obtain ⟨A4,c4,rfl,l4,r4⟩:=e6
  obtain ⟨A5,c5,rfl,l5,r5⟩:=e7
  obtain ⟨A6,c6,rfl,l6,r6⟩:=e8
  obtain ⟨A7,c7,rfl,l7,r7⟩:=e9
  exact ⟨A1,c1,A2,c2,A3,c3,A4,c4,A5,c5,A6,c6,A7,c7,rfl,l1,r1,l2,r2,l3,r3,l4,r4,l5,r5,l6,r6,l7,r7⟩
theorem Zxm {w:World} {S:Nat→Prop} {x:Nod} {u1 u2 u3 u4 u5 u6 u7:Value} (f:Nat→Nat) (h1:Rw Zby 103 w (fun k=>S k∧f k=3) u1 x.cells) (h2:Rw kBox 109 w (fun k=>S k∧f k=4) u2 x.out) (h3:Rw kBox 109 w (fun k=>S k∧f k=5) u3 x.inn) (h4:Rw Zhm 167 w (fun k=>S k∧f k=6) u4 x.outs) (h5:Rw kInI 170 w (fun k=>S k∧f k=7) u5 x.ins) (h6:Rw kInt 3 w (fun k=>S k∧f k=8) u6 x.boots) (h7:Rw kInt 3 w (fun k=>S k∧f k=9) u7 x.seqs):Own kNod w S x [.bool x.up,.int .i64 x.boot,.int .i64 x.hello,u1,u2,u3,u4,u5,u6,u7]:=⟨f,rfl,rfl,rfl,h1,h2,h3,h4,h5,h6,h7,trivial⟩
theorem Zgc {w:World} {S:Nat→Prop} {x:Nod} {cs:List Value} (h:Own kNod w S x cs):∃ (u1 u2 u3 u4 u5 u6 u7:Value) (f:Nat→Nat),cs=[.bool x.up,.int .i64 x.boot,.int .i64 x.hello,u1,u2,u3,u4,u5,u6,u7]∧Rw Zby 103 w (fun k=>S k∧f k=3) u1 x.cells∧Rw kBox 109 w (fun k=>S k∧f k=4) u2 x.out∧Rw kBox 109 w (fun k=>S k∧f k=5) u3 x.inn∧Rw Zhm 167 w (fun k=>S k∧f k=6) u4 x.outs∧Rw kInI 170 w (fun k=>S k∧f k=7) u5 x.ins∧Rw kInt 3 w (fun k=>S k∧f k=8) u6 x.boots∧Rw kInt 3 w (fun k=>S k∧f k=9) u7 x.seqs:=by
  obtain ⟨f,h⟩:=h
  obtain ⟨v0,t0,rfl,e0,h⟩:=Zcu h
  obtain ⟨v1,t1,rfl,e1,h⟩:=Zcu h
  obtain ⟨v2,t2,rfl,e2,h⟩:=Zcu h
  obtain ⟨v3,t3,rfl,e3,h⟩:=Zcu h
  obtain ⟨v4,t4,rfl,e4,h⟩:=Zcu h
  obtain ⟨v5,t5,rfl,e5,h⟩:=Zcu h
  obtain ⟨v6,t6,rfl,e6,h⟩:=Zcu h
  obtain ⟨v7,t7,rfl,e7,h⟩:=Zcu h
  obtain ⟨v8,t8,rfl,e8,h⟩:=Zcu h
  obtain ⟨v9,t9,rfl,e9,h⟩:=Zcu h
  obtain rfl:=Zvw h
  cases e0
  cases e1
  cases e2
  exact ⟨v3,v4,v5,v6,v7,v8,v9,f,rfl,e3,e4,e5,e6,e7,e8,e9⟩
theorem iNod:(Tryz.prog.info? 98).map (fun i=>(i.zero,i.size,i.bytes))=some (some (.agg #[.bool false,.int .i64 0,.int .i64 0,.slice none 0 0,.slice none 0 0,.slice none 0 0,.slice none 0 0,.slice none 0 0,.slice none 0 0,.slice none 0 0]),10,192):=by kernel_rfl
structure Wld where
 plan:Pln
 nodes:List Nod
 now:Int
 log:List (List Int)
 seen:List (List Sight)
def kWld:List (Fd Wld):=[sI (·.plan.nodes),sI (·.plan.secret),sI (·.plan.fuel),row 107 kCel (·.plan.cells),row 112 kWy (·.plan.ways),row 121 kSlt (·.plan.slots),row 90 Zda (·.plan.turns),row 98 kNod (·.nodes),sI (·.now),row 101 Zck (·.log),row 117 Zbv (·.seen)]
theorem Zzr {w:World} {x:Wld} {cs:List Value} (h:allK w x kWld cs):∃ A1 c1 A2 c2 A3 c3 A4 c4 A5 c5 A6 c6 A7 c7,cs=[.int .i64 x.plan.nodes,.int .i64 x.plan.secret,.int .i64 x.plan.fuel,.slice A1 x.plan.cells.length c1,.slice A2 x.plan.ways.length c2,.slice A3 x.plan.slots.length c3,.slice A4 x.plan.turns.length c4,.slice A5 x.nodes.length c5,.int .i64 x.now,.slice A6 x.log.length c6,.slice A7 x.seen.length c7]∧x.plan.cells.length≤c1∧Rd kCel w A1 x.plan.cells∧x.plan.ways.length≤c2∧Rd kWy w A2 x.plan.ways∧x.plan.slots.length≤c3∧Rd kSlt w A3 x.plan.slots∧x.plan.turns.length≤c4∧Rd Zda w A4 x.plan.turns∧x.nodes.length≤c5∧Rd kNod w A5 x.nodes∧x.log.length≤c6∧Rd Zck w A6 x.log∧x.seen.length≤c7∧Rd Zbv w A7 x.seen:=by
  obtain ⟨v0,t0,rfl,e0,h⟩:=Zbr h
  obtain ⟨v1,t1,rfl,e1,h⟩:=Zbr h
  obtain ⟨v2,t2,rfl,e2,h⟩:=Zbr h
  obtain ⟨v3,t3,rfl,e3,h⟩:=Zbr h
  obtain ⟨v4,t4,rfl,e4,h⟩:=Zbr h
  obtain ⟨v5,t5,rfl,e5,h⟩:=Zbr h
  obtain ⟨v6,t6,rfl,e6,h⟩:=Zbr h
  obtain ⟨v7,t7,rfl,e7,h⟩:=Zbr h
  obtain ⟨v8,t8,rfl,e8,h⟩:=Zbr h
  obtain ⟨v9,t9,rfl,e9,h⟩:=Zbr h
  obtain ⟨v10,t10,rfl,e10,h⟩:=Zbr h
  obtain rfl:=Ztq h
  cases e0
  cases e1
  cases e2
  obtain ⟨A1,c1,rfl,l1,r1⟩:=e3
  obtain ⟨A2,c2,rfl,l2,r2⟩:=e4
  obtain ⟨A3,c3,rfl,l3,r3⟩:=e5
  obtain ⟨A4,c4,rfl,l4,r4⟩:=e6
  obtain ⟨A5,c5,rfl,l5,r5⟩:=e7
  cases e8
  obtain ⟨A6,c6,rfl,l6,r6⟩:=e9
  obtain ⟨A7,c7,rfl,l7,r7⟩:=e10
  exact ⟨A1,c1,A2,c2,A3,c3,A4,c4,A5,c5,A6,c6,A7,c7,rfl,l1,r1,l2,r2,l3,r3,l4,r4,l5,r5,l6,r6,l7,r7⟩
theorem Zvy {w:World} {S:Nat→Prop} {x:Wld} {u1 u2 u3 u4 u5 u6 u7:Value} (f:Nat→Nat) (h1:Rw kCel 107 w (fun k=>S k∧f k=3) u1 x.plan.cells) (h2:Rw kWy 112 w (fun k=>S k∧f k=4) u2 x.plan.ways) (h3:Rw kSlt 121 w (fun k=>S k∧f k=5) u3 x.plan.slots) (h4:Rw Zda 90 w (fun k=>S k∧f k=6) u4 x.plan.turns) (h5:Rw kNod 98 w (fun k=>S k∧f k=7) u5 x.nodes) (h6:Rw Zck 101 w (fun k=>S k∧f k=9) u6 x.log) (h7:Rw Zbv 117 w (fun k=>S k∧f k=10) u7 x.seen):Own kWld w S x [.int .i64 x.plan.nodes,.int .i64 x.plan.secret,.int .i64 x.plan.fuel,u1,u2,u3,u4,u5,.int .i64 x.now,u6,u7]:=⟨f,rfl,rfl,rfl,h1,h2,h3,h4,h5,rfl,h6,h7,trivial⟩
theorem Zyo {w:World} {S:Nat→Prop} {x:Wld} {cs:List Value} (h:Own kWld w S x cs):∃ (u1 u2 u3 u4 u5 u6 u7:Value) (f:Nat→Nat),cs=[.int .i64 x.plan.nodes,.int .i64 x.plan.secret,.int .i64 x.plan.fuel,u1,u2,u3,u4,u5,.int .i64 x.now,u6,u7]∧Rw kCel 107 w (fun k=>S k∧f k=3) u1 x.plan.cells∧Rw kWy 112 w (fun k=>S k∧f k=4) u2 x.plan.ways∧Rw kSlt 121 w (fun k=>S k∧f k=5) u3 x.plan.slots∧Rw Zda 90 w (fun k=>S k∧f k=6) u4 x.plan.turns∧Rw kNod 98 w (fun k=>S k∧f k=7) u5 x.nodes∧Rw Zck 101 w (fun k=>S k∧f k=9) u6 x.log∧Rw Zbv 117 w (fun k=>S k∧f k=10) u7 x.seen:=by
  obtain ⟨f,h⟩:=h
  obtain ⟨v0,t0,rfl,e0,h⟩:=Zcu h
  obtain ⟨v1,t1,rfl,e1,h⟩:=Zcu h
  obtain ⟨v2,t2,rfl,e2,h⟩:=Zcu h
  obtain ⟨v3,t3,rfl,e3,h⟩:=Zcu h
  obtain ⟨v4,t4,rfl,e4,h⟩:=Zcu h
  obtain ⟨v5,t5,rfl,e5,h⟩:=Zcu h
  obtain ⟨v6,t6,rfl,e6,h⟩:=Zcu h
  obtain ⟨v7,t7,rfl,e7,h⟩:=Zcu h
  obtain ⟨v8,t8,rfl,e8,h⟩:=Zcu h
  obtain ⟨v9,t9,rfl,e9,h⟩:=Zcu h
  obtain ⟨v10,t10,rfl,e10,h⟩:=Zcu h
  obtain rfl:=Zvw h
  cases e0
  cases e1
  cases e2
  cases e8
  exact ⟨v3,v4,v5,v6,v7,v9,v10,f,rfl,e3,e4,e5,e6,e7,e9,e10⟩
theorem Yae:Flat Zhm:=Zct Zhx (Zct Zhx (Zct Zhx (Zct Zhx Zii)))
theorem fInI:Flat kInI:=Zct Zhx (Zct Zhx (Zct Zhx Zii))
end Go.Proofs.YtaeckoinpllpnaaGreat
