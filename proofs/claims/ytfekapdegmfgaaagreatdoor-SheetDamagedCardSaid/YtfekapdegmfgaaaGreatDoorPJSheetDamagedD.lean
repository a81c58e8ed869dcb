/- Parts of the proof of JSheetDamaged: laws of walks, contracts of functions, plain models. No condition. -/
import Derived.RangeFuncLeaves
import Derived.OrdersIn
import Derived.Still
import Derived.Test.YtfekapdegmfgaaaGreatDoorProg
import Derived.Test.YtfekapdegmfgaaaGreatDoorRows
import Derived.ProofKit
import Derived.Carry
import Derived.Lib.LaidU8
import Derived.Lib.LaidTab
import Derived.MakeChecks
import Derived.Shelf.Vars
import Derived.Handed
import Derived.Lay
import Derived.SizedLaws
import Derived.WalkKit
import Derived.Laws.RangeAny
import Derived.LoopTactic
import Derived.Lib.ItoaLen
import Derived.Test.YtfekapdegmfgaaaGreatDoorPJSheetDamagedC
set_option linter.unusedVariables false
set_option linter.unusedSimpArgs false
set_option linter.unnecessarySimpa false
set_option maxRecDepth 100000
namespace Go.Proofs
namespace KV
open Tryz
section

def bX{α:Type}(m:Ask α):Prop:=∀ s r s',m s=some (r,s')→∀ p∈s.obs,p∈s'.obs
theorem bX.good{α:Type}{m:Ask α}(h:bX m){s s':AS}{r:α}(e:m s=some (r,s'))(g:bA s'):bA s:=fun p hp=>g p (h s r s' e p hp)

theorem bB{α β:Type}{m:Ask α}{f:α→Ask β}(h:bX m)(k:∀ a,bX (f a)):bX (m >>= f):=fun s r s' e p hp=>by
 obtain ⟨a,s1,h1,h2⟩:=aC e;exact k a _ _ _ h2 p (h _ _ _ h1 p hp)
theorem aI{α:Type}(a:α):bX (pure a:Ask α):=fun s r s' e p hp=>by obtain ⟨_,rfl⟩:=aH e;exact hp
theorem kM{α:Type}(o:Option α):bX (lift o):=fun s r s' e p hp=>by obtain ⟨_,rfl⟩:=aE e;exact hp
theorem aP{α:Type}:bX (fail:Ask α):=fun _ _ _ e=>(aR e).elim
theorem rY{p:Prop}[d:Decidable p]:bX (eF p):=fun s r s' h q hq=>by
 unfold eF at h
 cases ha:s.auto with
 | true =>
  rw [ha] at h
  cases d with
  | isTrue hp=>cases h;exact hq
  | isFalse hp=>cases h
 | false=>rw [ha] at h;cases h;exact C7 _ hq
theorem aLy{b:Bool}:bX (aNb b):=fun s r s' h q hq=>by
 unfold aNb at h
 cases ha:s.auto with
 | true=>rw [ha] at h;cases h;exact hq
 | false =>
  rw [ha] at h
  dsimp only at h
  split at h
  ·cases h;exact C7 _ hq
  ·cases h
theorem aEs{x:Option PV}:bX (aIz x):=fun s r s' h q hq=>by
 unfold aIz at h
 cases ha:s.auto with
 | true =>
  rw [ha] at h
  cases x with
  | none=>cases h
  | some y=>cases h;exact hq
 | false =>
  rw [ha] at h
  dsimp only at h
  split at h
  ·cases h;exact C7 _ hq
  ·cases h
theorem sY{k:IntKind}{z:Int}:bX (wr k z):=fun s r s' h q hq=>by
 unfold wr at h
 cases ha:s.auto with
 | true=>rw [ha] at h;cases h;exact hq
 | false =>
  rw [ha] at h
  dsimp only at h
  split at h
  ·cases h;exact C7 _ hq
  ·cases h;exact hq
theorem bRa{P:Program}{E:Env}{f:Nat}{args:List AV}{m:Mem}{id:Nat}:bX (aIa P E f args m id):=fun s r s' h q hq=>by
 unfold aIa at h
 cases ha:s.auto with
 | true =>
  rw [ha] at h
  dsimp only at h
  split at h
  ·cases h;exact hq
  ·cases h
 | false =>
  rw [ha] at h
  dsimp only at h
  split at h
  ·split at h
   ·cases h;exact C7 _ hq
   ·cases h
  ·cases h

variable {P:Program} {T:TT} {E:Env}

theorem aLz{c:AV}:bX (aMx c):=by
 unfold aMx;split
 ·exact aI _
 ·exact aLy
 ·exact aP
theorem aTm{op:BinOp}{k:IntKind}{x y:Int}:bX (bDp op k x y):=by
 cases op <;> unfold bDp <;> first | exact sY | exact aI _ | exact aP | exact bB rY fun _=>sY | exact bB rY fun _=>aI _
theorem aTn{op:BinOp}{a b:Value}{t:Bool}:bX (aUj op a b t):=by
 unfold aUj;split
 ·split
  ·exact bB rY fun _=>aI _
  ·exact bB rY fun _=>sY
  ·split
   ·exact aTm
   ·exact aP
 ·split
  ·split <;> first | exact aI _ | exact aP
  ·exact aP
 ·exact aP
theorem dK{a:Ask AV}(h:bX a):bX (val a):=bB h fun _=>aI _
theorem aHq{vs:List AV}{f:Res}(h:bX f):bX (Jt vs f):=by unfold Jt;split;exact h;exact aP
theorem eG{vs:List AV}{f:AV→Res}(h:∀ x,bX (f x)):bX (Eu vs f):=by unfold Eu;split;exact h _;exact aP
theorem gB{vs:List AV}{f:AV→AV→Res}(h:∀ x y,bX (f x y)):bX (E9 vs f):=by unfold E9;split;exact h _ _;exact aP
theorem yU{vs:List AV}{f:AV→AV→AV→Res}(h:∀ x y z,bX (f x y z)):bX (Hn vs f):=by unfold Hn;split;exact h _ _ _;exact aP
theorem aG{α β:Type}{o:Option α}{f:α→Ask β}(k:∀ a,bX (f a)):bX (lift o >>= f):=bB (kM o) k
theorem cJ{β:Type}{p:Prop}[Decidable p]{f:Unit→Ask β}(k:∀ a,bX (f a)):bX (eF p >>= f):=bB rY k

theorem aTo{op:BinOp}{a b:Value}{t:Nat}:bX (bKc T op t a b):=by
 unfold bKc;split
 ·unfold bKb
  split <;> first | exact cJ fun _=>aI _ | exact aI _ | exact aP
 ·exact aTn
theorem aTp{op:BinOp}{t:Nat}{a b:AV}:bX (bKd T op t a b):=aG fun _=>aG fun _=>bB aTo fun _=>aI _
theorem bCt{op:UnOp}{x:AV}:bX (vun op x):=by
 unfold vun;split
 ·split <;> first | exact aI _ | exact aP
 ·split <;> first | exact bB sY fun _=>aI _ | exact aP
 ·exact aP
theorem aMa{a b:Nat}{x:AV}:bX (vconv T a b x):=by
 unfold vconv;refine aG fun _=>aG fun _ => ?_
 split
 ·exact bB sY fun _=>aI _
 ·exact cJ fun _=>aI _
 ·exact aI _
 ·exact aP
theorem aMb{m:Mem}{a b:Nat}{x:AV}:bX (wP T m a b x):=by
 unfold wP;have h1:bX (tD x):=by
  unfold tD;split
  ·exact cJ fun _=>aI _
  ·exact aP
 have h2:bX (aId m x):=aG fun _=>cJ fun _=>aG fun _=>aI _
 split
 ·exact h1
 ·split
  ·exact h2
  ·exact aMa
theorem aTq{x:AV}{i:Nat}:bX (vext x i):=by unfold vext;split;exact kM _;exact aP
theorem xE{m:Mem}{t f:Nat}{x:AV}:bX (nU T m t x f):=aG fun _=>aG fun _=>aG fun _=>aG fun _=>kM _
theorem xF{m:Mem}{t:Nat}{x i:AV}:bX (eJ T m t x i):=by
 unfold eJ;refine aG fun _=>aG fun _ => ?_
 split
 ·refine aG fun _ => ?_
  split
  ·exact aG fun _=>cJ fun _=>aI _
  ·exact aG fun _=>cJ fun _=>aI _
  ·exact cJ fun _=>aI _
  ·exact aP
 ·refine aG fun _ => ?_
  split
  ·exact cJ fun _=>aI _
  ·exact cJ fun _=>aI _
  ·exact aP
 ·exact aP
theorem wK{i:TI}{cs:List PV}{off:Nat}:bX (vC i cs off):=by
 unfold vC;split
 ·exact cJ fun _=>bB aEs fun _=>aI _
 ·exact bB aEs fun _=>aI _
theorem wL{i:TI}{cs:List AV}{off:Nat}:bX (vD i cs off):=by unfold vD;split <;> exact kM _
theorem yV{m:Mem}{t:Nat}{x:AV}:bX (vload T m t x):=by
 unfold vload;refine aG fun _ => ?_
 split
 ·refine aG fun _ => ?_
  split
  ·exact wL
  ·exact wK
  ·exact aP
 ·exact wK
 ·exact aP
theorem yW{t:Nat}{x:AV}{off:Nat}:bX (vpart T t x off):=by
 unfold vpart;refine aG fun _ => ?_
 split
 ·split
  ·exact cJ fun _=>aI _
  ·exact aG fun _=>aI _
 ·exact wL
 ·exact aP
theorem aHr{t f:Nat}{x:AV}:bX (vfield T t x f):=aG fun _=>aG fun _=>aG fun _=>yW
theorem aHs{t:Nat}{x i:AV}:bX (vindex T t x i):=by
 unfold vindex;refine aG fun _=>aG fun _ => ?_
 split
 ·exact aG fun _=>cJ fun _=>yW
 ·split
  ·exact cJ fun _=>bB aEs fun _=>aI _
  ·exact aP
 ·exact aP
theorem lD{m:Mem}{t:Nat}{x:AV}{lo hi:Option AV}:bX (vslice T m t x lo hi):=by
 unfold vslice;refine aG fun _ => ?_
 split
 ·refine aG fun _=>aG fun _ => ?_
  split
  ·exact aG fun _=>aG fun _=>cJ fun _=>aI _
  ·exact aG fun _=>aG fun _=>cJ fun _=>aI _
  ·exact aG fun _=>cJ fun _=>aI _
  ·exact aG fun _=>cJ fun _=>aI _
  ·exact aP
 ·refine aG fun _ => ?_
  split
  ·exact aG fun _=>cJ fun _=>aI _
  ·exact aP
 ·refine aG fun _=>aG fun _ => ?_
  split
  ·exact aG fun _=>aG fun _=>cJ fun _=>aI _
  ·exact aP
 ·exact aP
theorem aTr{m:Mem}{t:Nat}{x:AV}:bX (vlen T m t x):=aG fun _=>aG fun _=>aI _
theorem sZ{b:Bool}{l:List AV}:bX (vminmax b l):=by
 unfold vminmax;split
 ·exact aP
 ·exact aG fun _=>kM _
theorem aHt{t:Nat}{l:List (Nat × AV)}:bX (vbuild T t l):=aG fun _=>aG fun _=>aG fun _=>aI _
theorem aHu{m:Mem}{id t:Nat}:bX (salloc T m id t):=aG fun _=>aG fun _=>aI _
theorem aTs{m:Mem}{id t:Nat}{x:AV}:bX (sbox T m id t x):=by
 unfold sbox;refine aG fun _=>aG fun _ => ?_
 split
 ·exact aG fun _=>aI _
 ·split
  ·exact cJ fun _=>aI _
  ·exact aP
theorem wM{m:Mem}{t:Nat}{a x:AV}:bX (sstore T m t a x):=by
 unfold sstore;refine aG fun _ => ?_
 split
 ·refine aG fun _ => ?_
  split
  ·exact aG fun _=>aG fun _=>aI _
  ·split
   ·exact aG fun _=>cJ fun _=>aI _
   ·split
    ·exact cJ fun _=>aI _
    ·exact aP
  ·exact aP
 ·exact aP
theorem aEt{m:Mem}{id t t2:Nat}{x y:AV}:bX (sappend T m id t t2 x y):=by
 unfold sappend;refine aG fun _=>aG fun _=>aG fun _=>aG fun _=>aG fun _ => ?_
 split
 ·exact aG fun _=>aG fun _=>cJ fun _=>aI _
 ·exact aG fun _=>cJ fun _=>aI _
 ·exact aP
theorem aMc{m:Mem}{id t:Nat}{l c:AV}:bX (smake T m id t l c):=aG fun _=>aG fun _=>aG fun _=>aG fun _=>cJ fun _=>aI _
theorem aHv{m:Mem}{id t len:Nat}{l:List (Nat × AV)}:bX (sbuild T m id t len l):=by
 unfold sbuild;refine aG fun _=>aG fun _ => ?_
 split
 ·exact cJ fun _=>aI _
 ·exact aG fun _=>aG fun _=>aI _
theorem aEu{m:Mem}{id t len:Nat}{l:List (Nat × AV)}:bX (nN T m id t len l):=aG fun _=>bB aHv fun _=>aI _
theorem aEv{m:Mem}{t:Nat}{a x:AV}:bX (lG T m t a x):=by
 unfold lG;split
 ·refine aG fun _ => ?_
  split
  ·exact aG fun _=>bB wM fun _=>aI _
  ·exact wM
 ·exact aP
theorem aHw{m:Mem}{op:BinOp}{t:Nat}{a b:AV}:bX (pA T m op t a b):=by
 unfold pA;refine aG fun _=>aG fun _ => ?_
 split <;> first | exact aI _ | exact aP
theorem aTt{op:BinOp}{t:Nat}{a b:AV}:bX (bDe T op t a b):=by
 unfold bDe;refine aG fun _=>aG fun _=>aG fun _ => ?_
 split
 ·refine cJ fun _ => ?_
  split <;> first | exact aI _ | exact aP
 ·exact aP
theorem aTu{op:BinOp}{t:Nat}{a b:AV}:bX (bDg T op t a b):=by
 unfold bDg;refine aG fun _=>aG fun _=>aG fun _ => ?_
 split
 ·refine aG fun _ => ?_
  split <;> first | exact aI _ | exact aP
 ·exact aP
theorem bCu{op:BinOp}{t:Nat}{a b:AV}:bX (veq T op t a b):=by
 unfold veq;split
 ·exact aTt
 ·exact aTu
theorem aTv{m:Mem}{op:BinOp}{t:Nat}{a b:AV}:bX (aIb T m op t a b):=by
 unfold aIb;split
 ·exact aHw
 ·split
  ·exact bCu
  ·exact aTp
theorem bCv{op:UnOp}{x:AV}:bX (cUn op x):=by
 unfold cUn;split
 ·exact aI _
 ·exact bCt
theorem aEw{m:Mem}{t:Nat}{x:AV}:bX (B5 T m t x):=by
 unfold B5;refine aG fun _=>aG fun _=>aG fun _ => ?_
 split
 ·exact aG fun _=>aG fun _=>cJ fun _=>aI _
 ·exact aP
theorem tA{m:Mem}{t:Nat}{x:AV}:bX (lH T m t x):=by
 unfold lH;refine aG fun _=>aG fun _ => ?_
 split
 ·exact aG fun _=>aG fun _=>cJ fun _=>aI _
 ·exact aP
theorem aHx{m:Mem}{t:Nat}{x:AV}:bX (sclear T m t x):=by
 unfold sclear;cases kQ T t with
 | none=>exact aP
 | some ej =>
  dsimp only;cases ej.2.zero with
  | nil=>exact tA
  | cons z l =>
   cases l with
   | nil=>exact aEw
   | cons z2 l=>exact tA
theorem aMd{m:Mem}{t:Nat}{x y:AV}:bX (scopy T m t x y):=by
 unfold scopy;refine aG fun _=>aG fun _=>aG fun _ => ?_
 split
 ·exact aG fun _=>aG fun _=>cJ fun _=>aI _
 ·exact aP
theorem aBf{m:Mem}{id:Nat}{b:Go.Builtin}{ts:Array TypeId}{vs:List AV}:bX (mJ T m id b ts vs):=by
 unfold mJ;split
 ·exact eG fun _=>aG fun _=>dK aTr
 ·refine gB fun _ _ => ?_
  split
  ·exact aEt
  ·exact aP
 ·refine gB fun _ _ => ?_
  split
  ·exact aMd
  ·exact aP
 ·refine eG fun _ => ?_
  split
  ·exact aHx
  ·exact aP
 ·exact dK sZ
 ·exact dK sZ
 ·exact aP
theorem aMe{m:Mem}{id:Nat}{vs:List AV}:bX (wO P E m id vs):=by
 unfold wO;split
 ·exact aG fun _=>bRa
 ·exact aP

theorem aTw{m:Mem}{id:Nat}:bX (smap m id):=aG fun _=>aI _
theorem bCw{p:Prop}:bX (aUd p):=fun s r s' h q hq=>by
 unfold aUd at h
 cases ha:s.auto with
 | true=>rw [ha] at h;cases h
 | false=>rw [ha] at h;cases h;exact C7 _ hq
theorem wN{et:Nat}{ok:Bool}{ak:Ask Unit}(ha:bX ak){hit:Bool}{lk:Option PV}:bX (zD P et ok ak hit lk):=bB ha fun _=>bB aLy fun d=>by
 cases d
 ·exact aG fun _=>aG fun _=>aI _
 ·exact bB aEs fun _=>aI _
theorem aMf{m:Mem}{t:Nat}{a k:AV}{ok:Bool}:bX (slook P T m t a k ok):=aG fun _=>aG fun _=>aG fun _=>aG fun ik=>by
 cases aIi ik.k
 ·exact aG fun _=>wN bCw
 ·exact aG fun _=>wN rY
theorem yX{id cl:Nat}{es:List (Value × PV)}{kv:Value}{x:AV}{ak:Ask Unit}(ha:bX ak){hit:Bool}{E8:PV→List (Value × PV)}:bX (aIk id cl es kv x ak hit E8):=bB ha fun _=>aG fun _=>bB aLy fun d=>by
 cases d <;> exact aI _
theorem aTx{m:Mem}{t:Nat}{a k x:AV}:bX (sput P T m t a k x):=aG fun _=>aG fun _=>aG fun _=>aG fun ik=>by
 cases aIi ik.k
 ·exact aG fun _=>yX bCw
 ·exact aG fun _=>yX rY
theorem aTy{o:Oper}{vs:List AV}{m:Mem}{id:Nat}:bX (core P T E o vs m id):=by
 unfold core;cases o.op <;> dsimp only <;> try exact aP
 case move=>exact eG fun _=>aI _
 case assign=>exact eG fun _=>aI _
 case pick=>exact yU fun _ _ _=>bB aLz fun _=>aI _
 case alloc=>exact aHq aHu
 case box=>exact eG fun _=>aTs
 case build=>exact dK aHt
 case buildSlice=>exact aEu
 case load=>exact eG fun _=>dK (bB yV fun _=>aI _)
 case store=>exact gB fun _ _=>bB aEv fun _=>aI _
 case nilCheck =>
  refine eG fun _ => ?_
  split
  ·exact aG fun _=>aI _
  ·exact aI _
  ·exact aP
 case binOp=>exact gB fun _ _=>dK aTv
 case unOp=>exact eG fun _=>dK bCv
 case convert=>exact eG fun _=>dK aMb
 case makeFunc=>split <;> first | exact aI _ | exact aP
 case makeMap=>split <;> first | exact aHq aTw | exact aP
 case lookup=>exact gB fun _ _=>dK aMf
 case mapUpdate=>exact yU fun _ _ _=>bB aTx fun _=>aI _
 case makeSlice=>exact gB fun _ _=>aMc
 case slice =>
  split
  ·split
   ·split
    ·exact eG fun _=>dK lD
    ·exact gB fun _ _=>dK lD
   ·split
    ·exact gB fun _ _=>dK lD
    ·exact yU fun _ _ _=>dK lD
  ·exact aP
 case fieldAddr=>exact eG fun _=>dK xE
 case field=>exact eG fun _=>dK aHr
 case indexAddr=>exact gB fun _ _=>dK xF
 case index=>exact gB fun _ _=>dK aHs
 case extract=>exact eG fun _=>dK aTq
 case call c =>
  split
  ·exact aBf
  ·exact aMe
  ·exact aP

theorem aMg{o:Oper}{vs:List AV}{m:Mem}{id:Nat}:bX (rE P T E o vs m id):=by
 unfold rE;exact aP
theorem uU{o:Oper}{vs:List AV}{m:Mem}{id:Nat}{r:AV × Upd}{s s':AS}(h:lE P T E o vs m id s=some (r,s')) :
  (∃ q,s.auto=false∧s.o = .q::q∧rE P T E o vs m id { s with o:=q }=some (r,s'))∨(core P T E o vs m id s=some (r,s')∧aHy r.2=true):=by
 unfold lE at h
 split at h
 ·rename_i q h1 h2 _
  exact .inl ⟨q,h1,h2,h⟩
 ·obtain ⟨r1,s1,h1,k1⟩:=aC h
  obtain ⟨_,s2,h2,k2⟩:=aC k1;obtain ⟨e2,rfl⟩:=aE h2;obtain ⟨rfl,rfl⟩:=aH k2;exact .inr ⟨h1,(bW e2).1⟩
theorem rZ{o:Oper}{vs:List AV}{m:Mem}{id:Nat}:bX (lE P T E o vs m id):=fun s r s' h p hp=>by
 rcases uU h with ⟨q,_,_,h1⟩ | ⟨h1,_⟩
 ·exact aMg _ _ _ h1 p hp
 ·exact aTy _ _ _ h1 p hp
theorem bJp{c:AV}{want:Bool}:bX (bJr c want):=by
 unfold bJr;split
 ·exact aI _
 ·exact bB aLz fun _=>aI _
theorem yY{ops:List Oper}{o:Oper}{st:St}:bX (gF ops o st):=by
 unfold gF;split
 ·exact aI _
 ·exact aG fun _=>aG fun _=>aG fun _=>bJp
theorem aTz{ops:List Oper}{o:Oper}{id:Nat}{st:St}:bX (sA P T E ops o id st):=by
 unfold sA;refine bB yY fun _ => ?_
 split
 ·exact aG fun _=>bB rZ fun _=>aI _
 ·exact aI _
theorem uV{ops:List Oper}:∀ {l:List Oper} {st:St},bX (bJs P T E ops l st)
 | [],_=>aI _
 | _::_,_=>bB aTz fun _=>uV
end
section
variable {P:Program} {T:TT} {E:Env} {C C0:Cx} {M M0:Mem} {w w0:World}

def mark(D:Nat):Deferred:={ target := .collected D,args := #[] }
def aEr(C:Cx)(w0 w:World)(ds:List Deferred):Prop:=∃ l:List Nat,ds=l.map mark∧l.Nodup∧∀ D∈l,w.heap[D]? = some (.deferred (some []))∧w0.heap.size≤D∧¬ C.F D
def aPw(C0:Cx)(M:Mem)(C:Cx)(w0 w:World):Prop:=∀ p∈C0.R,w.heap[p.1]? = some p.2∧w0.heap.size≤p.1∧p.2 ≠ .deferred (some [])∧¬ C.F p.1∧∀ (id:Nat) (o:AO),M[id]? = some (some o)→o.live=true→C.ι id≠some p.1
def bQz(C0:Cx)(M0:Mem)(w0:World)(b:Nat):Prop:=w0.heap.size≤b∨∃ (id:Nat) (o:AO),M0[id]? = some (some o)∧o.live=true∧C0.ι id=some b
def kP(C0:Cx)(M0 M:Mem)(C:Cx)(w0 w:World):Prop :=
 (∀ (id tO ti sz:Nat) (L:List (Nat × List PV)),M[id]? = some (some (.pk tO ti sz L))→aMi C M w id tO ti sz L∧(∀ o,M0[id]? ≠ some (some o))∧∀ b,aMh (C.κ id) b→bQz C0 M0 w0 b∧∀ p∈C0.R,p.1≠b) ∧
 ∀ (id Gs tO ti sz L4 L5 L6:Nat) (L L':List (Nat × List PV)),M[id]? = some (some (.pk tO ti sz L))→M[Gs]? = some (some (.pk L4 L5 L6 L'))→id≠Gs→∀ b,aMh (C.κ id) b→¬ aMh (C.κ Gs) b
def xD(M:Mem):Prop:=∀ (id:Nat) (o:AO),M[id]? = some (some o)→o.isPk=false
theorem kP.no(h:xD M):kP C0 M0 M C w0 w:=⟨fun _ _ _ _ _ hm=>absurd (h _ _ hm) (by simp [AO.isPk]),fun _ _ _ _ _ _ _ _ _ _ hm=>absurd (h _ _ hm) (by simp [AO.isPk])⟩
def jT(M M':Mem):Prop:=∀ (id tO ti sz:Nat) (L:List (Nat × List PV)),M'[id]? = some (some (.pk tO ti sz L))→M[id]? = some (some (.pk tO ti sz L))
theorem jT.refl:jT M M:=fun _ _ _ _ _ h=>h
theorem jT.trans{M1 M2:Mem}(h:jT M M1)(k:jT M1 M2):jT M M2:=fun _ _ _ _ _ q=>h _ _ _ _ _ (k _ _ _ _ _ q)
theorem fF{id:Nat}{o:AO}(h:o.isPk=false):jT M (aZ M id (some o)):=fun i tO ti sz L q=>by
 by_cases e:id=i
 ·subst e
  rw [aY] at q;cases q;cases h
 ·exact (aO M id i _ _ e).1 q
theorem wI:∀ {L:Upd} {M:Mem},aHy L=true→jT M (upds M L)
 | [],_,_ => .refl
 | (i,o)::L,M,h=>by
  simp only [aHy,List.all_cons,B0,Bool.not_eq_true'] at h
  exact (fF h.1).trans (wI (L:=L) h.2)
theorem kP.fr{C':Cx}{M':Mem}{w':World}(h:kP C0 M0 M C w0 w)(hM:aW P C M w)(hk:jT M M')(f:Fr C M w C' M' w'):kP C0 M0 M' C' w0 w':=by
 have hz:=(hM.le f).fz;refine ⟨fun id tO ti sz L hm => ?_,fun id Gs tO ti sz L4 L5 L6 L L' hm Cn hne b hb Ap => ?_⟩
 ·obtain ⟨q,q0,q1⟩:=h.1 _ _ _ _ _ (hk _ _ _ _ _ hm)
  obtain ⟨_,e1,e2⟩:=f.ids _ _ (hk _ _ _ _ _ hm);refine ⟨q.move (e1.trans q.io) e2 f.F1 hz fun b hb=>⟨f.keep b (q.lt hb).1 (q.own b hb).2,fun hf => ?_,fun i o ho hl he => ?_⟩,q0,by rw [e2];exact q1⟩
  ·rcases f.F2 b hf with r | r | ⟨i,o,r1,r2,r3⟩
   ·exact (q.own b hb).1 r
   ·have:=(q.lt hb).1;omega
   ·exact (q.own b hb).2 i o r1 r2 r3
  ·rcases f.new i o b ho hl he with r | ⟨i',o',r1,r2,r3⟩
   ·have:=(q.lt hb).1;omega
   ·exact (q.own b hb).2 i' o' r1 r2 r3
 ·rw [(f.ids _ _ (hk _ _ _ _ _ hm)).2.2] at hb
  rw [(f.ids _ _ (hk _ _ _ _ _ Cn)).2.2] at Ap
  exact h.2 _ _ _ _ _ _ _ _ _ _ (hk _ _ _ _ _ hm) (hk _ _ _ _ _ Cn) hne b hb Ap
def kH(C0:Cx)(M0 M:Mem)(C:Cx)(w0 w:World)(ds:List Deferred):Prop:=aEr C w0 w ds∧aPw C0 M C w0 w∧kP C0 M0 M C w0 w
theorem kH.nil(h:C0.R=[])(hp:xD M):kH C0 M0 M C w0 w []:=⟨⟨[],rfl,.nil,fun D h=>by simp at h⟩,fun p hq=>(by rw [h] at hq;cases hq),.no hp⟩
theorem aHp(hM:aW P C M w)(hP:kP C0 M0 M C w0 w){id b:Nat}{o:AO}(h:M[id]? = some (some o))(hl:o.live=true)(hb:C.ι id=some b):w.heap[b]? ≠ some (.deferred (some [])):=by
 cases o with
 | row ty n cs =>
  rcases hM.row _ _ _ _ h with ⟨h1,_⟩ | ⟨b',arr,i,h1,h2,_⟩
  ·rw [hb] at h1;cases h1
  ·rw [hb] at h1;cases h1;rw [h2];intro e;cases e
 | box ty cs =>
  obtain ⟨b',arr,h1,h2,_⟩:=hM.box _ _ _ h;rw [hb] at h1;cases h1;rw [h2];intro e;cases e
 | mp es cl =>
  obtain ⟨b',arr,h1,h2,_⟩:=hM.mp _ _ _ h;rw [hb] at h1;cases h1;rw [h2];intro e;cases e
 | pk tO ti sz L=>rw [(hP.1 _ _ _ _ _ h).1.io] at hb;cases hb
 | dead=>cases hl
theorem aPw.fr{C':Cx}{M':Mem}{w':World}(h:aPw C0 M C w0 w)(f:Fr C M w C' M' w'):aPw C0 M' C' w0 w':=fun p hp=>by
 obtain ⟨q1,q2,q3,q4,q5⟩:=h p hp;have hlt:p.1<w.heap.size:=by
  rcases Nat.lt_or_ge p.1 w.heap.size with h | h
  ·exact h
  ·rw [Array.getElem?_eq_none h] at q1;cases q1
 refine ⟨(f.keep _ hlt q5).trans q1,q2,q3,fun hf => ?_,fun id o ho hl hb => ?_⟩
 ·rcases f.F2 _ hf with h | h | ⟨id,o,h4,h5,h6⟩
  ·exact q4 h
  ·omega
  ·exact q5 id o h4 h5 h6
 ·rcases f.new id o _ ho hl hb with h | ⟨Ef,o0,h4,h5,h6⟩
  ·omega
  ·exact q5 Ef o0 h4 h5 h6
theorem aEr.fr{C':Cx}{M':Mem}{w':World}{ds:List Deferred}(h:aEr C w0 w ds)(hM:aW P C M w)(hP:kP C0 M0 M C w0 w)(f:Fr C M w C' M' w'):aEr C' w0 w' ds:=by
 obtain ⟨l,h1,h2,h3⟩:=h;refine ⟨l,h1,h2,fun D hD => ?_⟩
 obtain ⟨q1,q2,q3⟩:=h3 D hD;have hlt:D<w.heap.size:=by
  rcases Nat.lt_or_ge D w.heap.size with h | h
  ·exact h
  ·rw [Array.getElem?_eq_none h] at q1;cases q1
 have hno:∀ (id:Nat) (o:AO),M[id]? = some (some o)→o.live=true→C.ι id≠some D:=fun id o ho hl he=>aHp hM hP ho hl he q1
 refine ⟨(f.keep D hlt hno).trans q1,q2,fun hf => ?_⟩
 rcases f.F2 D hf with h | h | ⟨id,o,h4,h5,h6⟩
 ·exact q3 h
 ·omega
 ·exact hno id o h4 h5 h6

theorem kH.fr{C':Cx}{M':Mem}{w':World}{ds:List Deferred}(h:kH C0 M0 M C w0 w ds)(hM:aW P C M w)(hk:jT M M')(f:Fr C M w C' M' w'):kH C0 M0 M' C' w0 w' ds:=⟨h.1.fr hM h.2.2 f,h.2.1.fr f,h.2.2.fr hM hk f⟩

def Sim(P:Program)(C0:Cx)(M0:Mem)(w0:World)(st:St)(a:Act)(w:World):Prop :=
 ∃ C,cP C st.m w st.t a.tmps∧aW P C st.m w∧Fr C0 M0 w0 C st.m w∧kH C0 M0 st.m C w0 w a.defers


def Fen(ro:Option Nat):Fence:={ Fence.wide with round:=ro }
theorem aCk{ro:Option Nat}{n f:Nat}{us:Array Value}{R:Ending→World→Prop}(h:CallsIn Fence.wide n P f us w R):CallsIn (Fen ro) n P f us w R:=h

theorem yT{st:St}{a:Act}(hS:cP C st.m w st.t a.tmps):∀ (xs:List Operand) (l:List AV),evs st xs=some l→cS C st.m w l (xs.map a.eval)
 | [],l,h=>by cases h;exact .nil
 | x::r,l,h=>by
  unfold evs at h
  split at h
  ·rename_i y l' h1 h2
   cases h;exact .cons _ _ _ _ (hS.ev h1) (yT hS r l' h2)
  ·cases h

theorem aLx{o:Oper}{vs:List AV}{id:Nat}{r:AV × Upd}{s s':AS}(h:core P T E o vs M id s=some (r,s')):∀ c,o.op ≠ .defer c:=fun c hc=>by
 unfold core at h;rw [hc] at h;exact (aR h).elim

theorem wJ{ops:List Oper}{o:Oper}{st:St}{a:Act}{b:Bool}{s s':AS}(hS:cP C st.m w st.t a.tmps)(h:gF ops o st s=some (b,s'))(g:bA s'):Region.wanted o (yielded ops.toArray a.tmps)=b:=by
 unfold gF at h
 generalize hg:o.guard=gg at h
 cases gg with
 | none =>
  obtain ⟨rfl,rfl⟩:=aH h;unfold Region.wanted;rw [hg]
 | some jw =>
  obtain ⟨j,want⟩:=jw;obtain ⟨oj,s1,h1,k1⟩:=aC h;obtain ⟨e1,rfl⟩:=aE h1;obtain ⟨d,s2,h2,k2⟩:=aC k1;obtain ⟨e2,rfl⟩:=aE h2;obtain ⟨c,s3,h3,k3⟩:=aC k2;obtain ⟨e3,rfl⟩:=aE h3;obtain ⟨hi,_⟩:=Cf.1 e3;unfold bJr at k3
  split at k3
  ·obtain ⟨rfl,rfl⟩:=aH k3
   have hr:=hS.at e3
   have hd:a.tmps[d]? = some (.tuple #[]):=by
    cases Dv:a.tmps[d]? with
    | none =>
     have:d<a.tmps.size:=by rw [hS.size];exact hi
     rw [rA this] at Dv;cases Dv
    | some u =>
     rw [Bw,Dv] at hr
     change Rep C st.m w (.tup []) u at hr
     cases hr with
     | tup _ vs h1 h2=>rw [Array.eq_empty_of_size_eq_zero h1]
   unfold Region.wanted;rw [hg];have hy:yielded ops.toArray a.tmps j=none:=by
    unfold yielded;simp only [List.getElem?_toArray,e1,Option.bind_some,e2,hd]
   simp only [hy];cases want <;> rfl
  obtain ⟨q,s4,h4,k4⟩:=aC k3;obtain ⟨rfl,rfl⟩:=aH k4;obtain ⟨e4,g⟩:=nW (hS.at e3) h4 g
  have hd:a.tmps[d]? = some (.bool q):=by
   rw [← e4,Bw];have:d<a.tmps.size:=by rw [hS.size];exact hi
   rw [rA this];rfl
  unfold Region.wanted;rw [hg];have hy:yielded ops.toArray a.tmps j=some q:=by
   unfold yielded;simp only [List.getElem?_toArray,e1,Option.bind_some,e2,hd]
  simp only [hy];cases q <;> cases want <;> rfl

theorem xJ{C':Cx}{st:St}{a:Act}{o:Oper}{x:AV}{u:Value}{M':Mem}{w':World}(hS:cP C st.m w st.t a.tmps)(hM:aW P C st.m w)(hF:Fr C0 M0 w0 C st.m w)(hD:kH C0 M0 st.m C w0 w a.defers)
  (f:Fr C st.m w C' M' w') (hk:jT st.m M') (m:aW P C' M' w') (r:Rep C' M' w' x u):Sim P C0 M0 w0 ⟨put st.t o.dst x,M'⟩ (a.put o.dst u) w':=by
 refine ⟨C',(hS.le (hM.le f)).put r,m,hF.trans f,?_⟩;have:(a.put o.dst u).defers=a.defers:=by unfold Act.put;split <;> rfl
 rw [this];exact hD.fr hM hk f

end
section
variable {P:Program} {T:TT} {E:Env} {C C0:Cx} {M M0:Mem} {w w0:World}

def UpS(P:Program)(w:World)(S:Value→World→Prop):Result Next→Prop
 | .ok (.value u) w'=>S u w'
 | .ok .skip w'=>∀ u,S u w'
 | .ok (.enter f us) w'=>w'=w∧∀ n,CallsIn Fence.wide n P f us w (fun e Iv=>∃ u,e = .returned u∧S u Iv)
 | _=>False
section
variable {st:St} {a:Act}
section
variable {bo n cap:Nat} {rows:List (Nat × Nat × Nat)}
end

section
variable {bo cap ka kb na nb:Nat}
end
end
theorem aHo(hT:∀ t i,T t=some i→cL P t=some i)(hE:oF P E){o:Oper}{st:St}{a:Act}{id:Nat}{vs:List AV}{x:AV}{L:Upd}{s s':AS}(hS:cP C st.m w st.t a.tmps)(hM:aW P C st.m w)(hF:Fr C0 M0 w0 C st.m w)(hD:kH C0 M0 st.m C w0 w a.defers)
  (hv:cS C st.m w vs (o.op.operands.toList.map a.eval)) (h:rE P T E o vs st.m id s=some ((x,L),s')) (g:bA s') :
  bA s∧UpS P w (fun u w'=>Sim P C0 M0 w0 ⟨put st.t o.dst x,upds st.m L⟩ (a.put o.dst u) w') ((execOp a.eval o).run P w):=by
 unfold rE at h
 exact (aR h).elim
end
section
variable {P:Program} {T:TT} {E:Env} {C C0:Cx} {M M0:Mem} {w w0:World}

def cAj(P:Program)(ops:Array Oper)(o:Oper)(st Ai:St):Prop:=∀ (C0:Cx) (M0:Mem) (w0:World) (a:Act) (w:World),Sim P C0 M0 w0 st a w→∀ (ro:Option Nat) (n:Nat) (K:Act→World→Prop) (Q:Exit→Act→World→Prop),
 (∀ a' w',Sim P C0 M0 w0 Ai a' w'→K a' w')→if Region.wanted o (yielded ops a.tmps) then o.wpIn (Fen ro) n P a w K Q else (∀ f,o.about P w a.eval=some f→(Fen ro).fn f)∧K (a.put o.dst undef) w

theorem aHn{o:Oper}{vs:List AV}{id:Nat}{r:AV × Upd}{s s':AS}(h:lE P T E o vs M id s=some (r,s')):∀ c,o.op ≠ .defer c:=by
 rcases uU h with ⟨q,_,_,h1⟩ | ⟨h1,_⟩
 ·intro c hc
  unfold rE at h1
  exact (aR h1).elim
 ·exact aLx h1
theorem rX(hT:∀ t i,T t=some i→cL P t=some i)(hE:oF P E){ops:List Oper}{o:Oper}{id:Nat}{st Ai:St}{s s':AS}(h:sA P T E ops o id st s=some (Ai,s'))(g:bA s'):cAj P ops.toArray o st Ai:=by
 intro C0 M0 w0 a w hsim ro n K Q hK;obtain ⟨C,hS,hM,hF,hD⟩:=hsim;unfold sA at h
 obtain ⟨go,s1,h1,k1⟩:=aC h;cases go with
 | true =>
  obtain ⟨vs,s2,h2,k2⟩:=aC k1;obtain ⟨e2,rfl⟩:=aE h2;obtain ⟨⟨x,L⟩,s3,h3,k3⟩:=aC k2;obtain ⟨rfl,rfl⟩:=aH k3;have gd:=rZ.good h3 g;rw [wJ hS h1 gd,if_pos rfl];refine ⟨fun f _=>trivial,?_⟩
  rw [Oper.semAt_eq _ _ _ (aHn h3)]
  rcases uU h3 with ⟨q,_,_,h4⟩ | ⟨h4,hno⟩
  ·obtain ⟨_,hup⟩:=aHo hT hE hS hM hF hD (yT hS _ _ e2) h4 g
   revert hup;generalize (execOp a.eval o).run P w=r;intro hup;cases r with
   | halt x w'=>exact hup.elim
   | ok nx w' =>
    cases nx with
    | value u=>exact hK _ _ hup
    | skip=>exact hK _ _ (hup _)
    | enter f us =>
     obtain ⟨rfl,hc⟩:=hup;refine ⟨fun h=>by simp [Fen,Fence.wide] at h,(aCk (hc (n-1))).mono ?_⟩
     rintro e Iv ⟨u,rfl,hs⟩;exact hK _ _ hs
    | _=>exact hup.elim
  ·obtain ⟨_,hup⟩:=aMk hT hE hM (yT hS _ _ e2) h4 g
   have hk:jT st.m (upds st.m L):=wI hno;revert hup;generalize (execOp a.eval o).run P w=r;intro hup;cases r with
   | halt x w'=>exact hup.elim
   | ok nx w' =>
    cases nx with
    | value u =>
     obtain ⟨C',f,m,r⟩:=hup;exact hK _ _ (xJ hS hM hF hD f hk m r)
    | skip =>
     obtain ⟨rfl,C',f,m⟩:=hup;exact hK _ _ (xJ hS hM hF hD f hk m (.any _))
    | enter f us =>
     obtain ⟨rfl,hc⟩:=hup;refine ⟨fun h=>by simp [Fen,Fence.wide] at h,(aCk (hc (n-1))).mono ?_⟩
     rintro e Iv ⟨u,rfl,C',f,m,r⟩;exact hK _ _ (xJ hS hM hF hD f hk m r)
    | _=>exact hup.elim
 | false =>
  obtain ⟨rfl,rfl⟩:=aH k1;rw [wJ hS h1 g];simp only [Bool.false_eq_true,if_false];exact ⟨fun f _=>trivial,hK _ _ (xJ hS hM hF hD (Fr.refl ..) .refl hM (.tup [] #[] rfl (fun i h=>by simp at h)))⟩

theorem yS(hT:∀ t i,T t=some i→cL P t=some i)(hE:oF P E){ops:List Oper}:∀ (l:List Oper) (k:Nat) {st Ai:St} {s s':AS},(∀ j,l[j]? = ops[k+j]?)→bJs P T E ops l st s=some (Ai,s')→bA s' →
  ∀ (C0:Cx) (M0:Mem) (w0:World) (a:Act) (w:World),Sim P C0 M0 w0 st a w→∀ (ro:Option Nat) (n:Nat) (Q:Exit→Act→World→Prop),(∀ a' w',Sim P C0 M0 w0 Ai a' w'→Q .normal a' w')→wpOpsIn (Fen ro) n P ops.toArray Q ((List.range l.length).map (k + ·)) a w
 | [],k,st,Ai,s,s',_,h,g,C0,M0,w0,a,w,hs,ro,n,Q,hQ=>by
  obtain ⟨rfl,rfl⟩:=aH h;exact hQ _ _ hs
 | o::l,k,st,Ai,s,s',hl,h,g,C0,M0,w0,a,w,hs,ro,n,Q,hQ=>by
  obtain ⟨st1,s1,h1,k1⟩:=aC h;have h0:ops[k]? = some o:=by simpa using (hl 0).symm
  have ih:=yS hT hE l (k+1) (fun j=>by have:=hl (j+1);simpa [Nat.add_assoc,Nat.add_comm 1 j] using this) k1 g C0 M0 w0
  have hst:=rX hT hE h1 (uV.good k1 g) C0 M0 w0 a w hs ro n (wpOpsIn (Fen ro) n P ops.toArray Q ((List.range l.length).map (k+1 + ·))) Q (fun a' w' B6=>ih a' w' B6 ro n Q hQ)
  rw [eT,List.range_succ_eq_map,fV,zW];have hm:(List.range l.length).map ((k + ·) ∘ Nat.succ)=(List.range l.length).map (k+1 + ·):=by
   apply bDu;intro x _;simp only [Function.comp];omega
  rw [hm,Nat.add_zero,wpOpsIn_cons];unfold wpOpIn;simp only [List.getElem?_toArray,h0];exact hst
end
section
variable {P:Program} {T:TT} {E:Env}

theorem dA(m:Mem)(i j:Nat)(o:AO):bQ (aZ m i (some o)) j=if i=j then some o else bQ m j:=by
 by_cases h:i=j
 ·subst h
  rw [if_pos rfl,bG.2 (aY m i _)]
 ·rw [if_neg h]
  cases hj:bQ m j with
  | some o'=>exact bG.2 ((aO m i j _ o' h).2 (dO hj))
  | none =>
   cases Gz:bQ (aZ m i (some o)) j with
   | none=>rfl
   | some o' =>
    rw [bG.2 ((aO m i j _ o' h).1 (dO Gz))] at hj
    cases hj

theorem yL{m m':Mem}{j:Nat}:∀ (L:Upd),bQ m j=bQ m' j→bQ (upds m L) j=bQ (upds m' L) j
 | [],h=>h
 | (i,o)::L,h=>by
  simp only [upds];refine yL L ?_;rw [dA,dA,h]
theorem oW{m:Mem}{j:Nat}:∀ (L:Upd),(∀ p∈L,p.1≠j)→bQ (upds m L) j=bQ m j
 | [],_=>rfl
 | (i,o)::L,h=>by
  simp only [upds];rw [oW L (fun p hp=>h p (C7 _ hp)),dA,if_neg (h (i,o) (mP ..))]

theorem rW:∀ (m:Mem) (i j:Nat) (x y:Option AO),i≠j→aZ (aZ m i x) j y=aZ (aZ m j y) i x
 | [],0,0,_,_,h=>absurd rfl h
 | [],0,j+1,_,_,_=>rfl
 | [],i+1,0,_,_,_=>rfl
 | [],i+1,j+1,x,y,h=>by simp only [aZ];rw [rW [] i j x y (by omega)]
 | _::l,0,0,_,_,h=>absurd rfl h
 | _::l,0,j+1,_,_,_=>rfl
 | _::l,i+1,0,_,_,_=>rfl
 | a::l,i+1,j+1,x,y,h=>by simp only [aZ];rw [rW l i j x y (by omega)]
theorem yM{i:Nat}{x:Option AO}:∀ (L:Upd) (m:Mem),(∀ p∈L,p.1≠i)→upds (aZ m i x) L=aZ (upds m L) i x
 | [],_,_=>rfl
 | (j,o)::L,m,h=>by
  simp only [upds];rw [rW m i j _ _ (fun e=>h (j,o) (mP ..) e.symm)]
  exact yM L _ (fun p hp=>h p (C7 _ hp))
theorem aCf:∀ (L L':Upd) (m:Mem),(∀ p∈L,∀ q∈L',p.1≠q.1)→upds (upds m L) L'=upds (upds m L') L
 | [],_,_,_=>rfl
 | (i,o)::L,L',m,h=>by
  simp only [upds];rw [aCf L L' _ (fun p hp=>h p (C7 _ hp)),yM L' m (fun q hq e=>h (i,o) (mP ..) q hq e.symm)]

def Agr(m m':Mem)(ids:List Nat):Prop:=∀ id∈ids,bQ m id=bQ m' id
theorem Agr.left{m m':Mem}{a b:List Nat}(h:Agr m m' (a++b)):Agr m m' a:=fun i hi=>h i (aBo _ hi)
theorem Agr.right{m m':Mem}{a b:List Nat}(h:Agr m m' (a++b)):Agr m m' b:=fun i hi=>h i (aUm _ hi)
theorem Agr.upds{m m':Mem}{a:List Nat}(h:Agr m m' a)(L:Upd):Agr (upds m L) (KV.upds m' L) a:=fun i hi=>yL L (h i hi)

def F8:AV→List Nat
 | .own id=>[id]
 | .arr id _ _=>[id]
 | .ptr id _=>[id]
 | .mp id=>[id]
 | .pa id _=>[id]
 | _=>[]
def refs:AV→List Nat
 | .agg cs=>cs.flatMap F8
 | x=>F8 x

theorem kL(x:AV):refs (tC x)=refs x:=by
 unfold tC
 split
 ·rfl
 ·rfl
section
variable {m m':Mem} {id:Nat}
theorem cH(h:Agr m m' [id]):bQ m id=bQ m' id:=h id (mP ..)
theorem gX(h:bQ m id=bQ m' id):eP m id=eP m' id:=by unfold eP;rw [h]
theorem gY(h:bQ m id=bQ m' id):dQ m id=dQ m' id:=by unfold dQ;rw [h]
theorem hZ(h:bQ m id=bQ m' id):eZ m id=eZ m' id:=by unfold eZ;rw [h]
end

variable {m m':Mem}
theorem qO{k:Nat}{x:AV}(h:Agr m m' (refs x)):pC m k x=pC m' k x:=by
 cases x with
 | own id=>simp only [pC,gX (cH h)]
 | arr id off n=>simp only [pC,gX (cH h)]
 | p y=>cases y <;> rfl
 | _=>rfl
theorem aCg{t:Nat}{x:AV}(h:Agr m m' (refs x)):vload T m t x=vload T m' t x:=by
 cases x with
 | ptr id off=>simp only [vload,cH h]
 | _=>rfl
theorem oX{t:Nat}{x i:AV}(h:Agr m m' (refs x)):eJ T m t x i=eJ T m' t x i:=by
 cases x with
 | own id=>simp only [eJ,gX (cH h)]
 | arr id off n=>simp only [eJ,gY (cH h)]
 | ptr id off=>rfl
 | p y=>cases y <;> rfl
 | _=>rfl
theorem fE{t:Nat}{x:AV}{lo hi:Option AV}(h:Agr m m' (refs x)):vslice T m t x lo hi=vslice T m' t x lo hi:=by
 cases x with
 | own id=>simp only [vslice,gX (cH h)]
 | arr id off n=>simp only [vslice,gY (cH h)]
 | ptr id off=>simp only [vslice,gY (cH h)]
 | p y=>cases y with
  | v z=>cases z with
   | slice q n c=>cases q <;> cases n <;> cases c <;> rfl
   | _=>rfl
  | _=>rfl
 | _=>rfl
theorem aCh{a b:Nat}{x:AV}(h:Agr m m' (refs x)):wP T m a b x=wP T m' a b x:=by
 unfold wP aId;rw [qO h]
theorem bCq{t:Nat}{x:AV}(h:Agr m m' (refs x)):vlen T m t x=vlen T m' t x:=by
 cases x with
 | own id=>simp only [vlen,gX (cH h)]
 | arr id off n=>simp only [vlen,gY (cH h)]
 | mp id=>simp only [vlen,cH h]
 | p y=>cases y with
  | v z=>cases z <;> rfl
  | _=>rfl
 | _=>rfl
theorem aLt{op:BinOp}{t:Nat}{a b:AV}(h:Agr m m' (refs a)):pA T m op t a b=pA T m' op t a b:=by
 have:∀ k,aIp m k a b=aIp m' k a b:=fun k=>by
  cases a with
  | own id=>simp only [aIp,gX (cH h)]
  | ptr id off=>simp only [aIp,gY (cH h)]
  | p y =>
   unfold aIp
   split
   ·cases y with
    | v z=>cases z with
     | slice q n c=>cases q <;> cases n <;> cases c <;> rfl
     | _=>rfl
    | sl n cs=>cases cs <;> rfl
    | _=>rfl
   ·cases y with
    | v z=>cases z with
     | pointer q=>cases q <;> rfl
     | _=>rfl
    | _=>rfl
   ·cases y with
    | v z=>cases z <;> rfl
    | _=>rfl
   ·rfl
  | _=>rfl
 unfold pA;simp only [this]
theorem aHh{op:BinOp}{t:Nat}{a b:AV}(h:Agr m m' (refs a)):aIb T m op t a b=aIb T m' op t a b:=by
 unfold aIb;rw [aLt h]
theorem aLu{id t:Nat}(h:Agr m m' [id]):salloc T m id t=salloc T m' id t:=by
 unfold salloc;simp only [hZ (cH h)]
theorem bCr{id t:Nat}{x:AV}(h:Agr m m' [id]):sbox T m id t x=sbox T m' id t x:=by
 unfold sbox;simp only [hZ (cH h)]
theorem aTj{id t:Nat}{l c:AV}(h:Agr m m' [id]):smake T m id t l c=smake T m' id t l c:=by
 unfold smake;simp only [hZ (cH h)]
theorem aHi{id t t2:Nat}{x y:AV}(h:Agr m m' [id])(hx:Agr m m' (refs x))(hy:Agr m m' (refs y)):sappend T m id t t2 x y=sappend T m' id t t2 x y:=by
 cases x with
 | own Br=>simp only [sappend,hZ (cH h),qO hy,gX (cH hx)]
 | p y=>simp only [sappend,hZ (cH h),qO hy];cases y <;> rfl
 | _=>simp only [sappend,hZ (cH h),qO hy]
theorem aTk{t:Nat}{x y:AV}(hx:Agr m m' (refs x))(hy:Agr m m' (refs y)):scopy T m t x y=scopy T m' t x y:=by
 cases x with
 | own Br=>simp only [scopy,qO hy,gX (cH hx)]
 | _=>simp only [scopy,qO hy]
theorem yN{x:AV}(h:Agr m m' (F8 x)):sC m x=sC m' x:=by
 cases x with
 | own id=>simp only [sC,gX (cH h)]
 | _=>rfl
theorem yO:∀ {l:List AV} {m m':Mem},Agr m m' (l.flatMap F8)→sD m l=sD m' l
 | [],_,_,_=>rfl
 | x::l,m,m',h=>by
  rw [List.flatMap_cons] at h
  unfold sD;rw [yN h.left]
  split
  ·rw [yO (h.right.upds _)]
  ·rfl
theorem yP{x:AV}(h:Agr m m' (refs x)):nM m x=nM m' x:=by
 cases x with
 | agg cs=>simp only [nM,yO h]
 | own id=>exact yN (x := .own id) h
 | _=>rfl
theorem yQ:∀ {l:List (Nat × AV)} {m m':Mem},Agr m m' (l.flatMap fun p=>refs p.2)→sE m l=sE m' l
 | [],_,_,_=>rfl
 | (i,x)::l,m,m',h=>by
  rw [List.flatMap_cons] at h
  have h1:nM m x=nM m' x:=yP h.left;simp only [sE,h1]
  split
  ·rw [yQ (h.right.upds _)]
  ·rfl
theorem aLv{id t len:Nat}{l:List (Nat × AV)}(h:Agr m m' [id]):sbuild T m id t len l=sbuild T m' id t len l:=by
 unfold sbuild;simp only [hZ (cH h)]
theorem aHj{id t len:Nat}{l:List (Nat × AV)}(h:Agr m m' [id])(hl:Agr m m' (l.flatMap fun p=>refs p.2)):nN T m id t len l=nN T m' id t len l:=by
 unfold nN;rw [yQ hl];simp only [aLv (h.upds _)]
theorem aHk{t:Nat}{x:AV}(h:Agr m m' (refs x)):B5 T m t x=B5 T m' t x:=by
 cases x with
 | arr id off n=>simp only [B5,gY (cH h),gX (cH h)]
 | _=>rfl
theorem aHl{t:Nat}{x:AV}(h:Agr m m' (refs x)):lH T m t x=lH T m' t x:=by
 cases x with
 | arr id off n=>simp only [lH,gY (cH h),gX (cH h)]
 | _=>rfl
theorem aLw{t:Nat}{x:AV}(h:Agr m m' (refs x)):sclear T m t x=sclear T m' t x:=by
 unfold sclear;rw [aHk h,aHl h]
theorem aCi{a:AV}(h:Agr m m' (refs a)):zC m a=zC m' a:=by
 cases a with
 | mp id=>simp only [zC,cH h]
 | _=>rfl
theorem aTl{a:AV}(h:Agr m m' (refs a)):aCm m a=aCm m' a:=by
 unfold aCm;simp only [aCi h]
theorem aCj{t:Nat}{a k:AV}{ok:Bool}(h:Agr m m' (refs a)):slook P T m t a k ok=slook P T m' t a k ok:=by
 unfold slook;simp only [aTl h]
theorem aHm{t:Nat}{a k x:AV}(h:Agr m m' (refs a)):sput P T m t a k x=sput P T m' t a k x:=by
 unfold sput;simp only [aCi h]
theorem bCs{id:Nat}(h:Agr m m' [id]):smap m id=smap m' id:=by
 unfold smap;simp only [hZ (cH h)]
theorem yR{t:Nat}{a x:AV}(h:Agr m m' (refs a)):sstore T m t a x=sstore T m' t a x:=by
 cases a with
 | ptr id off=>simp only [sstore,cH h]
 | _=>rfl
theorem wH{t:Nat}{a x:AV}(h:Agr m m' (refs a))(hx:Agr m m' (refs x)):lG T m t a x=lG T m' t a x:=by
 cases a with
 | ptr id off=>simp only [lG,cH h,yP hx,yR (h.upds _),yR h]
 | _=>rfl
end
section
variable {P:Program} {T:TT} {E:Env} {C C0:Cx} {M M0:Mem} {w w0:World}

structure Ft where
 fp:Option (List Nat)
 ws:List Nat

def aLq:Op→Bool
 | .move _ | .assign _ | .pick _ _ _ | .makeFunc _ _ _ | .extract _ _ | .field _ _ _ | .unOp _ _ _ | .build _ _ | .index _ _ _ | .fieldAddr _ _ _=>true
 | _=>false
def bCl:Op→Bool
 | .load _ _ | .store _ _ _ | .nilCheck _ | .convert _ _ _ | .binOp _ _ _ _ _ | .slice _ _ _ _ _ | .indexAddr _ _ _ | .lookup _ _ _ _ | .mapUpdate _ _ _ _=>true
 | _=>false
def yJ(o:Oper)(vs:List AV):Bool:=match o.op with
 | .indexAddr _ _ _=>match vs with
  | [.ptr _ _,_]=>true
  | _=>false
 | _=>false
theorem aLr{o:Oper}{vs:List AV}(h:yJ o vs=true):(∃ t a b,o.op = .indexAddr t a b)∧∃ i off y,vs=[.ptr i off,y]:=by
 unfold yJ at h
 split at h
 ·rename_i hop
  split at h
  ·exact ⟨⟨_,_,_,hop⟩,_,_,_,rfl⟩
  ·cases h
 ·cases h
def fpo(o:Oper)(vs:List AV)(id:Nat):Option (List Nat):=match aLq o.op || yJ o vs with
 | true=>some []
 | false=>match bCl o.op with
  | true=>some (vs.flatMap refs)
  | false=>match o.op with
   | .call c=>match c.callee with
    | .builtin _=>some (vs.flatMap refs++[id])
    | _=>none
   | _=>some (vs.flatMap refs++[id])

theorem Agr.zip{m m':Mem}:∀ {ps:List Nat} {vs:List AV},Agr m m' (vs.flatMap refs)→Agr m m' ((ps.zip vs).flatMap fun p=>refs p.2)
 | [],_,_=>fun i hi=>by simp at hi
 | _::_,[],_=>fun i hi=>by simp at hi
 | p::ps,v::vs,h=>by
  rw [List.flatMap_cons] at h
  rw [List.zip_cons_cons,List.flatMap_cons];intro i hi
  rcases tY.1 hi with hi | hi
  ·exact h.left i hi
  ·exact Agr.zip h.right i hi

theorem Agr.hd{m m':Mem}{x:AV}{vs:List AV}(h:Agr m m' ((x::vs).flatMap refs)):Agr m m' (refs x):=by rw [List.flatMap_cons] at h;exact h.left
theorem Agr.tl{m m':Mem}{x:AV}{vs:List AV}(h:Agr m m' ((x::vs).flatMap refs)):Agr m m' (vs.flatMap refs):=by rw [List.flatMap_cons] at h;exact h.right

theorem dY{vs:List AV}{f g:AV→Res}(h:∀ x,vs=[x]→f x=g x):Eu vs f=Eu vs g:=by
 unfold Eu;split
 ·exact h _ rfl
 ·rfl
theorem dM{vs:List AV}{f g:AV→AV→Res}(h:∀ x y,vs=[x,y]→f x y=g x y):E9 vs f=E9 vs g:=by
 unfold E9;split
 ·exact h _ _ rfl
 ·rfl
theorem qJ{vs:List AV}{f g:AV→AV→AV→Res}(h:∀ x y z,vs=[x,y,z]→f x y z=g x y z):Hn vs f=Hn vs g:=by
 unfold Hn;split
 ·exact h _ _ _ rfl
 ·rfl

theorem bCm{o:Oper}{vs:List AV}{m m':Mem}{id:Nat}{l:List Nat}(hl:fpo o vs id=some l)(h:Agr m m' l):core P T E o vs m id=core P T E o vs m' id:=by
 cases hfr:aLq o.op with
 | true =>
  unfold core;cases hop:o.op <;> rw [hop] at hfr <;> first | rfl | cases hfr | exact dY fun x _=>by rw [vfield_free]
 | false =>
 cases hel:yJ o vs with
 | true =>
  obtain ⟨⟨t,a,b,hop⟩,i,off,y,rfl⟩:=aLr hel;unfold core;rw [hop];rfl
 | false =>
 replace hfr:(aLq o.op || yJ o vs)=false:=by rw [hfr,hel];rfl
 cases hrd:bCl o.op with
 | true =>
  have hA:l=vs.flatMap refs:=by
   unfold fpo at hl
   rw [hfr,hrd] at hl
   cases hl;rfl
  subst hA;have h1:=h;unfold core;cases hop:o.op <;> rw [hop] at hrd <;> (try cases hrd) <;> dsimp only
  ·exact dY fun x e=>by subst e;rw [aCg (by rw [kL];exact h1.hd)]
  ·exact dM fun x y e=>by subst e;rw [wH h1.hd h1.tl.hd]
  ·
   refine dY fun x e => ?_
   subst e;have h3:Agr m m' (refs (tC x)):=by rw [kL];exact h1.hd
   generalize tC x=x' at h3 ⊢
   cases x' with
   | ptr i off=>simp only [gY (cH h3)]
   | _=>rfl
  ·exact dM fun x y e=>by subst e;rw [aHh h1.hd]
  ·exact dY fun x e=>by subst e;rw [aCh h1.hd]
  ·
   split
   ·split
    ·split
     ·exact dY fun x e=>by subst e;rw [fE h1.hd]
     ·exact dM fun x y e=>by subst e;rw [fE h1.hd]
    ·split
     ·exact dM fun x y e=>by subst e;rw [fE h1.hd]
     ·exact qJ fun x y z e=>by subst e;rw [fE h1.hd]
   ·rfl
  ·exact dM fun x y e=>by subst e;rw [oX (by rw [kL];exact h1.hd)]
  ·exact dM fun x y e=>by subst e;rw [aCj h1.hd]
  ·exact qJ fun x y z e=>by subst e;rw [aHm h1.hd]
 | false =>
 have hA:(∀ c f,o.op = .call c→c.callee ≠ .value f)∧l=vs.flatMap refs++[id]:=by
  unfold fpo at hl
  rw [hfr,hrd] at hl
  dsimp only at hl
  split at hl
  ·rename_i c hc
   split at hl
   ·rename_i b hb
    cases hl;refine ⟨fun c' f Dq hf => ?_,rfl⟩
    rw [hc] at Dq;cases Dq;rw [hb] at hf;cases hf
   ·cases hl
  ·rename_i hn
   cases hl;exact ⟨fun c f hc _=>hn c hc,rfl⟩
 obtain ⟨hc,rfl⟩:=hA;have h1:=h.left;have h2:=h.right;unfold core;cases hop:o.op <;> dsimp only
 case alloc=>rw [aLu h2]
 case box=>exact dY fun x _=>bCr h2
 case buildSlice=>exact aHj h2 (Agr.zip h1)
 case load=>exact dY fun x e=>by subst e;rw [aCg (by rw [kL];exact h1.hd)]
 case store=>exact dM fun x y e=>by subst e;rw [wH h1.hd h1.tl.hd]
 case nilCheck =>
  refine dY fun x e => ?_
  subst e;have h3:Agr m m' (refs (tC x)):=by rw [kL];exact h1.hd
  generalize tC x=x' at h3 ⊢
  cases x' with
  | ptr i off=>simp only [gY (cH h3)]
  | _=>rfl
 case binOp=>exact dM fun x y e=>by subst e;rw [aHh h1.hd]
 case convert=>exact dY fun x e=>by subst e;rw [aCh h1.hd]
 case makeSlice=>exact dM fun x y _=>aTj h2
 case makeMap =>
  split
  ·rw [bCs h2]
  ·rfl
 case lookup=>exact dM fun x y e=>by subst e;rw [aCj h1.hd]
 case mapUpdate=>exact qJ fun x y z e=>by subst e;rw [aHm h1.hd]
 case slice =>
  split
  ·split
   ·split
    ·exact dY fun x e=>by subst e;rw [fE h1.hd]
    ·exact dM fun x y e=>by subst e;rw [fE h1.hd]
   ·split
    ·exact dM fun x y e=>by subst e;rw [fE h1.hd]
    ·exact qJ fun x y z e=>by subst e;rw [fE h1.hd]
  ·rfl
 case indexAddr=>exact dM fun x y e=>by subst e;rw [oX (by rw [kL];exact h1.hd)]
 case call c =>
  split
  ·unfold mJ
   split
   ·exact dY fun x e=>by subst e;simp only [bCq h1.hd]
   ·refine dM fun x y e => ?_
    subst e
    split
    ·exact aHi h2 h1.hd h1.tl.hd
    ·rfl
   ·refine dM fun x y e => ?_
    subst e
    split
    ·exact aTk h1.hd h1.tl.hd
    ·rfl
   ·refine dY fun x e => ?_
    subst e
    split
    ·exact aLw h1.hd
    ·rfl
   ·rfl
   ·rfl
   ·rfl
  ·rename_i f hf
   exact absurd hf (hc c f hop)
  ·rfl
 all_goals rfl

def aHd(id:Nat):Nat→List Nat
 | 0=>[]
 | n+1=>(id+n)::aHd id n
theorem aCb{id:Nat}:∀ {n j:Nat},j<n→id+j∈aHd id n
 | 0,j,h=>absurd h (Nat.not_lt_zero _)
 | n+1,j,h=>by
  unfold aHd
  rcases Nat.lt_or_ge j n with h2 | h2
  ·exact C7 _ (aCb h2)
  ·obtain rfl:j=n:=by omega
   exact mP ..
def fpc(o:Oper)(vs:List AV)(m:Mem)(id:Nat):Option (List Nat):=match o.op with
 | .call c=>match c.callee with
  | .value _=>match fnH vs with
   | .fn _ first caps::args=>some (clos m (sB (first++args++caps))++aHd id 8)
   | _=>none
  | _=>none
 | _=>none
def fpm(o:Oper)(vs:List AV)(m:Mem)(id:Nat)(au:Bool):Option (List Nat):=match fpo o vs id with
 | some l=>some l
 | none=>if au then none else fpc o vs m id
theorem aEp:∀ {l acc:List Nat} {i:Nat},i∈acc→i∈ddN acc l
 | [],acc,i,h=>h
 | a::r,acc,i,h=>by
  unfold ddN
  split
  ·exact aEp h
  ·exact aEp (aBo _ h)
theorem aCc{m:Mem}:∀ {n:Nat} {l:List Nat} {i:Nat},i∈l→i∈zB m n l
 | 0,_,_,h=>h
 | n+1,_,_,h=>aCc (n:=n) (aEp h)
theorem bCn{m m':Mem}:∀ {l:List Nat},Agr m m' l→aCl m l=aCl m' l:=by
 intro l;unfold aCl
 induction l with
 | nil=>intro _;rfl
 | cons a r ih =>
  intro h2;rw [List.flatMap_cons,List.flatMap_cons,ih fun i hi=>h2 i (C7 _ hi),h2 a (mP ..)]
theorem aCd{m m':Mem}:∀ {n:Nat} {l:List Nat},Agr m m' (zB m n l)→zB m n l=zB m' n l
 | 0,_,_=>rfl
 | n+1,l,h=>by
  have e:aCl m l=aCl m' l:=bCn fun i hi=>h i (aCc (n:=n+1) hi)
  unfold zB at h ⊢
  rw [← e];exact aCd h
theorem aHe{m m':Mem}{l:List Nat}(h:Agr m m' (clos m l)):clos m l=clos m' l:=aCd h
theorem yK{m m':Mem}:∀ {l:List Nat},Agr m m' l→blocks m l=blocks m' l
 | [],_=>rfl
 | i::r,h=>by
  unfold blocks;rw [h i (mP ..),yK fun j hj=>h j (C7 _ hj)]
theorem bCo{args first caps vs:List AV}{f:Nat}{m m':Mem}{id:Nat}{s:AS}(hv:fnH vs = .fn f first caps::args)(ha:s.auto=false)(h:Agr m m' (clos m (sB (first++args++caps))++aHd id 8)):wO P E m id vs s=wO P E m' id vs s:=by
 have e1:clos m (sB (first++args++caps))=clos m' (sB (first++args++caps)):=aHe fun i hi=>h i (aBo _ hi)
 have e2:blocks m (clos m (sB (first++args++caps)))=blocks m' (clos m (sB (first++args++caps))):=yK fun i hi=>h i (aBo _ hi)
 have e3:tB m id 8=tB m' id 8:=by
  have:∀ n,n≤8→tB m id n=tB m' id n:=by
   intro n
   induction n with
   | zero=>intro _;rfl
   | succ n ih =>
    intro hn;unfold tB;rw [hZ (h (id+n) (aUm _ (aCb (by omega)))),ih (by omega)]
  exact this 8 (Bb _)
 have e4:aIa P E f (first++args++caps) m id s=aIa P E f (first++args++caps) m' id s:=by
  unfold aIa;rw [ha,e3,← e1,e2]
 unfold wO;rw [hv];dsimp only;cases hk:E.ok f with
 | true=>exact e4
 | false=>rfl
theorem bJo{o:Oper}{vs:List AV}{m m':Mem}{id:Nat}{l:List Nat}{s:AS}(ha:s.auto=false)(hl:fpc o vs m id=some l)(h:Agr m m' l):core P T E o vs m id s=core P T E o vs m' id s∧fpc o vs m' id=some l:=by
 unfold fpc at hl
 split at hl
 ·rename_i c hop
  split at hl
  ·rename_i v hc
   split at hl
   ·rename_i f first caps args e0
    have hl:=Option.some.inj hl;subst hl;refine ⟨?_,?_⟩
    ·unfold core
     rw [hop];dsimp only;rw [hc];exact bCo e0 ha h
    ·unfold fpc
     rw [hop];dsimp only;rw [hc];dsimp only;rw [e0];dsimp only;rw [aHe (fun i hi=>h i (aBo _ hi):Agr m m' (clos m (sB (first++args++caps))))]
   ·cases hl
  ·cases hl
 ·cases hl
theorem aTh{o:Oper}{vs:List AV}{m m':Mem}{id:Nat}{l:List Nat}{s:AS}(hl:fpm o vs m id s.auto=some l)(h:Agr m m' l):core P T E o vs m id s=core P T E o vs m' id s∧fpm o vs m' id s.auto=some l:=by
 unfold fpm at hl ⊢
 cases hf:fpo o vs id with
 | some l2 =>
  rw [hf] at hl
  have hl:=Option.some.inj hl;subst hl;exact ⟨by rw [bCm hf h],rfl⟩
 | none =>
  rw [hf] at hl
  dsimp only at hl ⊢
  cases ha:s.auto with
  | true=>rw [ha,if_pos rfl] at hl;exact absurd hl (by simp)
  | false =>
   rw [ha,if_neg (by simp)] at hl
   rw [if_neg (by simp)]
   exact bJo ha hl h

theorem aTi{o:Oper}{vs:List AV}{m m':Mem}{id:Nat}(h:Agr m m' (vs.flatMap refs++[id])):rE P T E o vs m id=rE P T E o vs m' id:=by
 unfold rE;rfl
def fpQ(o:Oper)(vs:List AV)(m:Mem)(id:Nat)(s:AS):Option (List Nat):=match s.auto,s.o,bJq o vs with
 | false,.q::_,true=>some (vs.flatMap refs++[id])
 | _,_,_=>fpm o vs m id s.auto
theorem aCe{o:Oper}{vs:List AV}{m m':Mem}{id:Nat}{l:List Nat}{s:AS}(hl:fpQ o vs m id s=some l)(h:Agr m m' l):lE P T E o vs m id s=lE P T E o vs m' id s∧fpQ o vs m' id s=some l:=by
 obtain ⟨au,oo,ob⟩:=s;have ord:fpm o vs m id au=some l→(∀ q,¬ (au=false∧oo = .q::q∧bJq o vs=true))→lE P T E o vs m id ⟨au,oo,ob⟩=lE P T E o vs m' id ⟨au,oo,ob⟩∧fpQ o vs m' id ⟨au,oo,ob⟩=some l:=fun hl hn=>by
  obtain ⟨e1,e2⟩:=aTh (P:=P) (T:=T) (E:=E) (s:=⟨au,oo,ob⟩) hl h;have g:∀ k,lE P T E o vs k id ⟨au,oo,ob⟩=(Ask.bind (core P T E o vs k id) fun r=>Ask.bind (lift (if aHy r.2=true then some () else none)) fun _=>pure r) ⟨au,oo,ob⟩:=fun k=>by
   unfold lE
   split
   ·rename_i q h2 h3 h4
    exact absurd ⟨h2,h3,h4⟩ (hn q)
   ·rfl
  refine ⟨?_,?_⟩
  ·rw [g m,g m']
   unfold Ask.bind;rw [e1]
  ·unfold fpQ
   split
   ·rename_i q h2 h3 h4
    exact absurd ⟨h2,h3,h4⟩ (hn q)
   ·exact e2
 cases au with
 | true=>exact ord hl fun q h=>by cases h.1
 | false =>
  cases oo with
  | nil=>exact ord hl fun q h=>by cases h.2.1
  | cons x r =>
   cases x with
   | q =>
    cases hk:bJq o vs with
    | true =>
     have hl:some (vs.flatMap refs++[id])=some l:=by rw [← hl];unfold fpQ;simp only [hk]
     cases hl;refine ⟨?_,by unfold fpQ;simp only [hk]⟩
     unfold lE;simp only [hk];rw [aTi h]
    | false=>exact ord (by rw [← hl];unfold fpQ;simp only [hk]) fun q h=>by rw [hk] at h;cases h.2.2
   | _=>exact ord hl fun q h=>by cases h.2.1
def oV(P:Program)(T:TT)(E:Env)(ops:List Oper)(o:Oper)(id:Nat)(st:St)(x:AV)(L:Upd)(F:Option (List Nat)):Prop :=
 ∃ s s1,(gF ops o st s=some (false,s1)∧bA s1∧x = .tup []∧L=[]∧F=some []) ∨
  (gF ops o st s=some (true,s1)∧∃ vs s2,evs st o.op.operands.toList=some vs∧lE P T E o vs st.m id s1=some ((x,L),s2)∧bA s2∧F=fpQ o vs st.m id s1)

theorem oV.op(hT:∀ t i,T t=some i→cL P t=some i)(hE:oF P E){ops:List Oper}{o:Oper}{id:Nat}{st:St}{x:AV}{L:Upd}{F:Option (List Nat)}(h:oV P T E ops o id st x L F):cAj P ops.toArray o st ⟨put st.t o.dst x,upds st.m L⟩:=by
 obtain ⟨s,s1,⟨h1,g,rfl,rfl,_⟩ | ⟨h1,vs,s2,h2,h3,g,_⟩⟩:=h
 ·refine rX (T:=T) (E:=E) (id:=id) (s:=s) (s':=s1) hT hE ?_ g
  unfold sA;show Ask.bind _ _ s=_;unfold Ask.bind;rw [h1];rfl
 ·refine rX (T:=T) (E:=E) (id:=id) (s:=s) (s':=s2) hT hE ?_ g
  unfold sA;show Ask.bind _ _ s=_;unfold Ask.bind;rw [h1];show Ask.bind _ _ s1=_;unfold Ask.bind lift;rw [h2];show Ask.bind _ _ s1=_;unfold Ask.bind;rw [h3];rfl

theorem aPv{ts:List AV}{d:Option Tmp}{x:AV}{t:Nat}(h:∀ e,d=some e→e≠t):(put ts d x)[t]? = ts[t]? := by
 cases d with
 | none=>rfl
 | some e=>exact List.getElem?_set_ne (h e rfl)
theorem bQy{st:St}{m:Mem}{d:Option Tmp}{x:AV}{y:Operand}(h:∀ e,d=some e→y ≠ .tmp e):ev ⟨put st.t d x,m⟩ y=ev st y:=by
 cases y with
 | tmp t=>exact aPv fun e he e2=>h e he (e2 ▸ rfl)
 | const c=>cases c <;> rfl
 | _=>rfl
theorem aEq{st:St}{m:Mem}{d:Option Tmp}{x:AV}:∀ {l:List Operand},(∀ e,d=some e → .tmp e∉l)→evs ⟨put st.t d x,m⟩ l=evs st l
 | [],_=>rfl
 | y::l,h=>by
  unfold evs;rw [bQy (fun e he e2=>h e he (e2 ▸ mP ..)),aEq (fun e he h2=>h e he (C7 _ h2))]
theorem bCp{ts:List AV}{d e:Option Tmp}{x y:AV}(h:∀ i,d=some i→e≠some i):put (put ts d x) e y=put (put ts e y) d x:=by
 cases d with
 | none=>rfl
 | some i=>cases e with
  | none=>rfl
  | some j=>exact List.set_comm _ _ fun e2=>h i rfl (e2 ▸ rfl)

theorem aHf{ops:Array Oper}{o:Oper}{e:Tmp}(h:e∉o.looksAt ops) : .tmp e∉o.op.operands.toList:=fun h2=>h (by
 unfold Oper.looksAt;exact aBo _ (List.mem_filterMap.2 ⟨.tmp e,h2,rfl⟩))

theorem qK{α β:Type}(a:α)(f:α→Ask β):(lift (some a) >>= f)=f a:=rfl

theorem qL{ops:List Oper}{o:Oper}{st:St}{m:Mem}{d:Option Tmp}{x:AV}(h:∀ e,d=some e→e∉o.looksAt ops.toArray):gF ops o ⟨put st.t d x,m⟩=gF ops o st:=by
 unfold gF
 split
 ·rfl
 ·rename_i j want hg
  cases hj:ops[j]? with
  | none=>rfl
  | some oj =>
   rw [qK,qK];cases hd:oj.dst with
   | none=>rfl
   | some t =>
    rw [qK,qK];have:(put st.t d x)[t]? = st.t[t]? := aPv fun e he e2=>h e he (by
     subst e2;unfold Oper.looksAt;refine aUm _ ?_;simp [hg,hj,hd])
    simp only [this]

def aLs(a b:Ft):Bool:=(a.ws.isEmpty || (match b.fp with | some f=>a.ws.all (fun x => !f.contains x) | none=>false)) && (b.ws.isEmpty || (match a.fp with | some f=>b.ws.all (fun x => !f.contains x) | none=>false)) && a.ws.all (fun x => !b.ws.contains x)

theorem aHg{m:Mem}{L:Upd}{l:List Nat}(h:(L.map (·.1)).all (fun x => !l.contains x)=true):Agr m (upds m L) l:=fun i hi=>by
 refine (oW L fun p hp e => ?_).symm
 rw [iD] at h
 have:=h p.1 (bDt hp);simp only [Bool.not_eq_true',List.contains_eq_mem,decide_eq_false_iff_not] at this
 exact this (e ▸ hi)

theorem oV.move{ops:List Oper}{oi oj:Oper}{idi idj:Nat}{st:St}{xi xj:AV}{Li Lj:Upd}{Fi Fj:Option (List Nat)}(hap:oi.apart ops.toArray oj=true)(hok:aLs ⟨Fi,Li.map (·.1)⟩ ⟨Fj,Lj.map (·.1)⟩=true)
  (hi:oV P T E ops oi idi st xi Li Fi) (hj:oV P T E ops oj idj ⟨put st.t oi.dst xi,upds st.m Li⟩ xj Lj Fj) :
  oV P T E ops oj idj st xj Lj Fj∧oV P T E ops oi idi ⟨put st.t oj.dst xj,upds st.m Lj⟩ xi Li Fi ∧
   put (put st.t oi.dst xi) oj.dst xj=put (put st.t oj.dst xj) oi.dst xi∧upds (upds st.m Li) Lj=upds (upds st.m Lj) Li:=by
 obtain ⟨a1,a2,a3⟩:=Oper.apart_spec hap;unfold aLs at hok
 simp only [B0] at hok
 obtain ⟨⟨k1,k2⟩,k3⟩:=hok;have hL:∀ p∈Li,∀ q∈Lj,p.1≠q.1:=fun p hp q hq e=>by
  rw [iD] at k3
  have:=k3 p.1 (bDt hp);simp only [Bool.not_eq_true',List.contains_eq_mem,decide_eq_false_iff_not] at this
  exact this (e ▸ bDt hq)
 refine ⟨?_,?_,bCp a2,aCf Li Lj st.m hL⟩
 ·obtain ⟨s,s1,⟨h1,g,rfl,rfl,h5⟩ | ⟨h1,vs,s2,h2,h3,g,h5⟩⟩:=hj
  ·rw [qL a1] at h1
   exact ⟨s,s1,.inl ⟨h1,g,rfl,rfl,h5⟩⟩
  ·rw [qL a1] at h1
   rw [aEq (fun e he=>aHf (a1 e he))] at h2
   rw [aBp] at k1
   rcases k1 with k1 | k1
   ·have:Li=[]:=by simpa using k1
    subst this;exact ⟨s,s1,.inr ⟨h1,vs,s2,h2,h3,g,h5⟩⟩
   ·rw [h5] at k1
    cases hf:fpQ oj vs (upds st.m Li) idj s1 with
    | none =>
     rw [hf] at k1;cases k1
    | some l =>
     rw [hf] at k1
     have hA:Agr (upds st.m Li) st.m l:=fun i hi=>(aHg (m:=st.m) (L:=Li) k1 i hi).symm
     obtain ⟨q1,q2⟩:=aCe (P:=P) (T:=T) (E:=E) hf hA;exact ⟨s,s1,.inr ⟨h1,vs,s2,h2,by rw [← q1];exact h3,g,by rw [q2,← hf];exact h5⟩⟩
 ·obtain ⟨s,s1,⟨h1,g,rfl,rfl,h5⟩ | ⟨h1,vs,s2,h2,h3,g,h5⟩⟩:=hi
  ·exact ⟨s,s1,.inl ⟨by rw [qL a3];exact h1,g,rfl,rfl,h5⟩⟩
  ·have Gy:gF ops oi ⟨put st.t oj.dst xj,upds st.m Lj⟩ s=some (true,s1):=by rw [qL a3];exact h1
   have Gr:evs ⟨put st.t oj.dst xj,upds st.m Lj⟩ oi.op.operands.toList=some vs:=by rw [aEq (fun e he=>aHf (a3 e he))];exact h2
   rw [aBp] at k2
   rcases k2 with k2 | k2
   ·have:Lj=[]:=by simpa using k2
    subst this;exact ⟨s,s1,.inr ⟨Gy,vs,s2,Gr,h3,g,h5⟩⟩
   ·rw [h5] at k2
    cases hf:fpQ oi vs st.m idi s1 with
    | none=>rw [hf] at k2;cases k2
    | some l =>
     rw [hf] at k2
     obtain ⟨q1,q2⟩:=aCe (P:=P) (T:=T) (E:=E) hf (aHg (m:=st.m) (L:=Lj) k2);exact ⟨s,s1,.inr ⟨Gy,vs,s2,Gr,by rw [← q1];exact h3,g,by rw [q2,← hf];exact h5⟩⟩
end
section
variable {P:Program} {T:TT} {E:Env} {C C0:Cx} {M M0:Mem} {w w0:World}

def cost(o:Oper):Nat:=match o.op with
 | .alloc _ | .box _ _ | .buildSlice _ _ _ | .makeSlice _ _ _=>1
 | .call c=>match c.callee with
  | .builtin _=>1
  | _=>8
 | _=>0
def ido(ops:List Oper)(base k:Nat):Nat:=base+((ops.take k).map cost).sum

abbrev xC:=AV × Upd × Option (List Nat)
def aLn(q:xC):Ft:=⟨q.2.2,q.2.1.map (·.1)⟩

def aPu(o:Oper)(vs:List AV)(m:Mem)(id:Nat):Ask (Option (List Nat)):=fun s=>some (fpQ o vs m id s,s)
theorem bCj{o:Oper}{vs:List AV}{m:Mem}{id:Nat}{s s':AS}{b:Option (List Nat)}(h:aPu o vs m id s=some (b,s')):b=fpQ o vs m id s∧s'=s:=by
 unfold aPu at h
 cases h;exact ⟨rfl,rfl⟩
theorem aLo{o:Oper}{vs:List AV}{m:Mem}{id:Nat}:bX (aPu o vs m id):=fun s r s' e p hp=>by obtain ⟨_,rfl⟩:=bCj e;exact hp
def aLp(P:Program)(T:TT)(E:Env)(ops:List Oper):List Oper→Nat→St→Ask (List Ft × St)
 | [],_,st=>pure ([],st)
 | o::r,id,st=>do
  let go ← gF ops o st
  match go with
  | true=>do
   let vs ← lift (evs st o.op.operands.toList)
   let fp ← aPu o vs st.m id
   let q ← lE P T E o vs st.m id
   let y ← aLp P T E ops r (id+cost o) ⟨put st.t o.dst q.1,upds st.m q.2⟩
   pure (⟨fp,q.2.map (·.1)⟩::y.1,y.2)
  | false=>do
   let y ← aLp P T E ops r (id+cost o) ⟨put st.t o.dst (.tup []),st.m⟩
   pure (⟨some [],[]⟩::y.1,y.2)

def oU(ops:Array Oper):Nat→Nat→Nat→Bool
 | 0,_,_=>false
 | n+1,k,j=>match ops[j]? with
  | some oj=>(oj.after.any fun e=>Region.binds .any e && e.on == k) || oj.after.any fun e=>Region.binds .any e && oU ops n k e.on
  | none=>false
def aEn(ops:Array Oper)(k:Nat)(f:Ft):Nat→List Ft→Bool
 | _,[]=>true
 | j,g::r=>(aLs f g || oU ops 10 k j) && aEn ops k f (j+1) r
def aEo(ops:Array Oper):Nat→List Ft→Bool
 | _,[]=>true
 | k,f::r=>aEn ops k f (k+1) r && aEo ops (k+1) r

def next(o:Oper)(q:xC)(st:St):St:=⟨put st.t o.dst q.1,upds st.m q.2.1⟩

inductive aTg (P:Program) (T:TT) (E:Env) (ops:List Oper):Nat→List Oper→St→List xC→St→Prop
 | nil (id:Nat) (st:St):aTg P T E ops id [] st [] st
 | cons (id:Nat) (o:Oper) (l:List Oper) (st:St) (q:xC) (os:List xC) (fin:St) (h:oV P T E ops o id st q.1 q.2.1 q.2.2) (hr:aTg P T E ops (id+cost o) l (next o q st) os fin):aTg P T E ops id (o::l) st (q::os) fin

theorem mI{ops:List Oper}:∀ {l:List Oper} {id:Nat} {st:St},bX (aLp P T E ops l id st)
 | [],_,_=>aI _
 | _::_,_,_=>by
  unfold aLp;refine bB yY fun _ => ?_
  split
  ·exact aG fun _=>bB aLo fun _=>bB rZ fun _=>bB mI fun _=>aI _
  ·exact bB mI fun _=>aI _

theorem yG{ops:List Oper}:∀ (l:List Oper) (id:Nat) {st fin:St} {fts:List Ft} {s s':AS},aLp P T E ops l id st s=some ((fts,fin),s')→bA s'→∃ os:List xC,fts=os.map aLn∧aTg P T E ops id l st os fin
 | [],id,st,fin,fts,s,s',h,g=>by
  obtain ⟨he,rfl⟩:=aH h;cases he;exact ⟨[],rfl,.nil _ _⟩
 | o::l,id,st,fin,fts,s,s',h,g=>by
  unfold aLp at h
  obtain ⟨go,s1,h1,k1⟩:=aC h;cases go with
  | true =>
   obtain ⟨vs,s2,h2,k2⟩:=aC k1;obtain ⟨e2,rfl⟩:=aE h2;obtain ⟨au,sa,ha,ka⟩:=aC k2;obtain ⟨rfl,rfl⟩:=bCj ha;obtain ⟨q,s3,h3,k3⟩:=aC ka;obtain ⟨y,s4,h4,k4⟩:=aC k3;obtain ⟨he,rfl⟩:=aH k4;cases he;obtain ⟨os,e5,hl⟩:=yG l _ (fts:=y.1) (fin:=y.2) h4 g;have g3:=mI.good h4 g;exact ⟨(q.1,q.2,fpQ o vs st.m id sa)::os,by rw [fV,e5];rfl,.cons _ _ _ _ (q.1,q.2,fpQ o vs st.m id sa) _ _ ⟨s,sa,.inr ⟨h1,vs,s3,e2,h3,g3,rfl⟩⟩ hl⟩
  | false =>
   obtain ⟨y,s4,h4,k4⟩:=aC k1;obtain ⟨he,rfl⟩:=aH k4;cases he;obtain ⟨os,e5,hl⟩:=yG l _ (fts:=y.1) (fin:=y.2) h4 g;exact ⟨(.tup [],[],some [])::os,by rw [fV,e5];rfl,.cons _ _ _ _ (.tup [],[],some []) _ _ ⟨s,s1,.inl ⟨h1,mI.good h4 g,rfl,rfl,rfl⟩⟩ hl⟩

def sX(P:Program)(T:TT)(E:Env)(ops:List Oper)(base:Nat)(out:Nat→xC)(fin:St):Nat→Array Bool→St→Prop
 | 0,listed,st=>Region.ready .any ops.toArray listed=[]∧st=fin
 | fuel+1,listed,st=>(Region.ready .any ops.toArray listed=[]→st=fin) ∧
  ∀ j∈Region.ready .any ops.toArray listed,∃ o,ops[j]? = some o∧oV P T E ops o (ido ops base j) st (out j).1 (out j).2.1 (out j).2.2∧sX P T E ops base out fin fuel (listed.setIfInBounds j true) (next o (out j) st)

def yH(ops:List Oper)(listed:Array Bool):Prop:=∀ j oj,ops[j]? = some oj→listed.getD j false=true→∀ e∈oj.after,Region.binds .any e=true→listed.getD e.on false=true

theorem aCa{ops:List Oper}{listed:Array Bool}{i:Nat}(hc:yH ops listed)(hi:listed.getD i false=false):∀ (n j:Nat),(∀ oj,ops[j]? = some oj→∀ e∈oj.after,Region.binds .any e=true→listed.getD e.on false=true)→oU ops.toArray n i j=false
 | 0,_,_=>rfl
 | n+1,j,h=>by
  unfold oU;cases hj:ops[j]? with
  | none=>simp [hj]
  | some oj =>
   simp only [List.getElem?_toArray,hj,Bool.or_eq_false_iff];refine ⟨?_,?_⟩
   ·rw [Bool.eq_false_iff]
    intro hw;obtain ⟨e,he,hb⟩:=Array.any_eq_true'.1 hw;simp only [B0,beq_iff_eq] at hb
    have:=h oj hj e he hb.1;rw [hb.2,hi] at this
    cases this
   ·rw [Bool.eq_false_iff]
    intro hw;obtain ⟨e,he,hb⟩:=Array.any_eq_true'.1 hw;simp only [B0] at hb
    have h1:=h oj hj e he hb.1;rw [aCa hc hi n e.on (fun o ho e' Oy Ap=>hc e.on o ho h1 e' Oy Ap)] at hb
    cases hb.2

theorem yI{ops:List Oper}{listed:Array Bool}{j:Nat}(hc:yH ops listed)(hj:∀ oj,ops[j]? = some oj→∀ e∈oj.after,Region.binds .any e=true→listed.getD e.on false=true):yH ops (listed.setIfInBounds j true):=fun k ok hk hl e he hb=>by
 refine getD_set_true ?_
 by_cases h:j=k
 ·subst h;exact hj ok hk e he hb
 ·rw [getD_set_ne false h] at hl
  exact hc k ok hk hl e he hb

theorem sX.first{ops:List Oper}{base:Nat}{out:Nat→xC}{fin:St}{i:Nat}{oi:Oper}(hi:ops[i]? = some oi):∀ (fuel:Nat) (listed:Array Bool) (st:St),
  (∀ j oj,ops[j]? = some oj→j≠i→listed.getD j true=false→(∀ e∈oj.after,Region.binds .any e=true→e.on≠i)→oi.apart ops.toArray oj=true∧(aLs (aLn (out i)) (aLn (out j))=true∨oU ops.toArray 10 i j=true))→yH ops listed →
  i∈Region.ready .any ops.toArray listed→oV P T E ops oi (ido ops base i) st (out i).1 (out i).2.1 (out i).2.2→sX P T E ops base out fin fuel (listed.setIfInBounds i true) (next oi (out i) st)→sX P T E ops base out fin (fuel+1) listed st:=by
 intro fuel
 induction fuel with
 | zero =>
  intro listed st _ _ hr hs H;refine ⟨fun h=>(by rw [h] at hr;cases hr),fun j hj => ?_⟩
  by_cases hji:j=i
  ·subst hji;exact ⟨oi,hi,hs,H⟩
  ·have:=ready_mono hj hji
   rw [H.1] at this
   cases this
 | succ fuel ih =>
  intro listed st hfree hcl hr hs H;refine ⟨fun h=>(by rw [h] at hr;cases hr),fun j hj => ?_⟩
  by_cases hji:j=i
  ·subst hji;exact ⟨oi,hi,hs,H⟩
  ·obtain ⟨oj,hoj,hsj,hH⟩:=H.2 j (ready_mono hj hji)
   obtain ⟨hjun,Js,J0,hall⟩:=mem_ready.1 hj;have:Js=oj:=by
    rw [List.getElem?_toArray,hoj] at J0
    cases J0;rfl
   subst this;have hnot:∀ e∈Js.after,Region.binds .any e=true→e.on≠i:=fun e he hb heq=>by
    have h1:=hall e he hb;have h0:=(mem_ready.1 hr).1;rw [heq] at h1
    rcases Nat.lt_or_ge i listed.size with h' | h'
    ·simp [h'] at h0 h1;rw [h0] at h1;cases h1
    ·simp [Array.getElem?_eq_none h'] at h1
   have Ih:listed.getD j true=false:=by
    rcases Nat.lt_or_ge j listed.size with h' | h'
    ·simpa [h'] using hjun
    ·exact hjun
   obtain ⟨hap,hok⟩:=hfree j Js hoj hji Ih hnot;have hjall:∀ oj,ops[j]? = some oj→∀ e∈oj.after,Region.binds .any e=true→listed.getD e.on false=true:=fun o ho e he hb=>by
    rw [hoj] at ho;cases ho;exact hall e he hb
   have hiun:listed.getD i false=false:=by
    have h0:=(mem_ready.1 hr).1
    rcases Nat.lt_or_ge i listed.size with h' | h'
    ·simp [h'] at h0 ⊢;exact h0
    ·simp [Nat.not_lt.2 h']
   replace hok:=hok.resolve_right (by rw [aCa hcl hiun 10 j hjall];simp)
   obtain ⟨m1,m2,m3,m4⟩:=oV.move hap hok hs hsj;have hnx:next Js (out j) (next oi (out i) st)=next oi (out i) (next Js (out j) st):=by
    unfold next;simp only [m3,m4]
   refine ⟨Js,hoj,m1,ih _ _ (fun k ok hk hki hun hno=>hfree k ok hk hki ?_ hno) (yI hcl hjall) (ready_mono hr (Ne.symm hji)) m2 ?_⟩
   ·by_cases hjk:j=k
    ·subst hjk;exact Ih
    ·rw [getD_set_ne true hjk] at hun;exact hun
   ·rw [hnx,Array.setIfInBounds_comm _ _ (Ne.symm hji)] at hH
    exact hH

theorem bCk{ops:List Oper}{base k:Nat}{o:Oper}(h:ops[k]? = some o):ido ops base (k+1)=ido ops base k+cost o:=by
 unfold ido;rw [List.take_add_one,h];simp [Nat.add_assoc]

theorem sX.lex{ops:List Oper}{base:Nat}{out:Nat→xC}{fin:St}:∀ (l:List Oper) (k:Nat) (listed:Array Bool) (st:St) (os:List xC),(∀ j,l[j]? = ops[k+j]?)→(∀ j q,os[j]? = some q→out (k+j)=q)→(∀ j,j<k→listed.getD j true=true)→yH ops listed →
  (∀ i j,k≤i→i<j→(ops[j]?).isSome→aLs (aLn (out i)) (aLn (out j))=true∨oU ops.toArray 10 i j=true) →
  Region.lexFrom .any ops.toArray l.length k listed=true→aTg P T E ops (ido ops base k) l st os fin→sX P T E ops base out fin l.length listed st
 | [],k,listed,st,os,_,_,_,_,_,hB,h=>by
  cases h;exact ⟨by simpa [Region.lexFrom] using hB,rfl⟩
 | o::l,k,listed,st,os,hl,ho,hk,hcl,hA,hB,h=>by
  cases h with
  | cons _ _ _ _ q os _ hs hr =>
   have h0:ops[k]? = some o:=by simpa using (hl 0).symm
   have hq:out k=q:=ho 0 q rfl;simp only [eT,Region.lexFrom,B0] at hB
   obtain ⟨⟨hrd,hf⟩,K9⟩:=hB;have N1:ops.toArray[k]? = some o:=by rw [List.getElem?_toArray];exact h0
   have J1:k∈Region.ready .any ops.toArray listed:=by simpa using hrd
   have hkall:∀ oj,ops[k]? = some oj→∀ e∈oj.after,Region.binds .any e=true→listed.getD e.on false=true:=fun o' Cq e he hb=>by
    obtain ⟨_,o2,N2,hall⟩:=mem_ready.1 J1;rw [N1] at N2;cases N2
    rw [h0] at Cq;cases Cq
    exact hall e he hb
   refine sX.first h0 l.length listed st (fun j oj hj hjk hun hno => ?_) hcl J1 (by rw [hq];exact hs) ?_
   ·refine ⟨Region.free_spec N1 hf j oj (by rw [List.getElem?_toArray];exact hj) hjk hun hno,?_⟩
    have hlt:k<j:=by
     rcases Nat.lt_trichotomy k j with h1 | h1 | h1
     ·exact h1
     ·exact absurd h1.symm hjk
     ·rw [hk j h1] at hun;cases hun
    exact hA k j (Bb _) hlt (by rw [hj];rfl)
   ·rw [hq]
    refine sX.lex l (k+1) _ _ os (fun j=>by have:=hl (j+1);simpa [Nat.add_assoc,Nat.add_comm 1 j] using this) (fun j q' hj=>by have:=ho (j+1) q' (by simpa using hj);rw [← this];congr 1;omega) (fun j hj => ?_) (yI hcl hkall)
     (fun i j hi=>hA i j (by omega)) K9 (by rw [bCk h0];exact hr)
    by_cases e:k=j
    ·subst e
     rcases Nat.lt_or_ge k listed.size with h' | h'
     ·simp [h']
     ·simp [Nat.not_lt.2 h']
    ·rw [getD_set_ne true e];exact hk j (by omega)

theorem wF{ops:Array Oper}{k:Nat}{f:Ft}:∀ (l:List Ft) (j:Nat),aEn ops k f j l=true→∀ i g,l[i]? = some g→aLs f g=true∨oU ops 10 k (j+i)=true
 | [],_,_,i,g,h=>by simp at h
 | x::l,j,h,i,g,hi=>by
  unfold aEn at h
  rw [B0,aBp] at h
  cases i with
  | zero=>simp at hi;subst hi;exact h.1
  | succ i =>
   have:=wF l (j+1) h.2 i g (by simpa using hi)
   rwa [show j+1+i=j+(i+1) by omega] at this
theorem wG{ops:Array Oper}:∀ (l:List Ft) (k:Nat),aEo ops k l=true→∀ i j f g,i<j→l[i]? = some f→l[j]? = some g→aLs f g=true∨oU ops 10 (k+i) (k+j)=true
 | [],_,_,i,j,f,g,_,h,_=>by simp at h
 | x::l,k,h,i,j,f,g,hij,hi,hj=>by
  unfold aEo at h
  rw [B0] at h
  cases j with
  | zero=>omega
  | succ j =>
   cases i with
   | zero =>
    simp at hi;subst hi
    have:=wF l (k+1) h.1 j g (by simpa using hj)
    rwa [show k+1+j=k+(j+1) by omega] at this
   | succ i =>
    have:=wG l (k+1) h.2 i j f g (by omega) (by simpa using hi) (by simpa using hj)
    rwa [show k+1+i=k+(i+1) by omega,show k+1+j=k+(j+1) by omega] at this

theorem sX.sound(hT:∀ t i,T t=some i→cL P t=some i)(hE:oF P E){ops:List Oper}{base:Nat}{out:Nat→xC}{fin:St}{ro:Option Nat}{n:Nat}{Q:Exit→Act→World→Prop}(hQ:∀ a' w',Sim P C0 M0 w0 fin a' w'→Q .normal a' w') :
  ∀ (fuel:Nat) (listed:Array Bool) (st:St) (a:Act) (w:World),sX P T E ops base out fin fuel listed st→Sim P C0 M0 w0 st a w→wpAnyIn (Fen ro) n P .any ops.toArray Q fuel listed a w
 | 0,listed,st,a,w,h,hs=>⟨h.1,hQ _ _ (h.2 ▸ hs)⟩
 | fuel+1,listed,st,a,w,h,hs=>by
  refine ⟨fun h0=>hQ _ _ (h.1 h0 ▸ hs),fun j hj => ?_⟩
  obtain ⟨o,ho,hst,hr⟩:=h.2 j hj;have:=hst.op hT hE C0 M0 w0 a w hs ro n (wpAnyIn (Fen ro) n P .any ops.toArray Q fuel (listed.setIfInBounds j true)) Q (fun a' w' B6=>sX.sound hT hE hQ fuel _ _ _ _ hr B6)
  unfold wpOpIn;simp only [List.getElem?_toArray,ho];exact this
end
section
variable {P:Program} {T:TT} {E:Env} {C C0:Cx} {M M0:Mem} {w w0:World}

mutual
def fzA(id n:Nat)(cs:List PV):AV→AV
 | .own i=>match Nat.beq i id with
  | true => .p (.sl n cs)
  | false => .own i
 | .arr i off k=>match Nat.beq i id with
  | true => .p (.sl k ((cs.drop off).take (k*(cs.length / n))))
  | false => .arr i off k
 | .ptr i off=>match Nat.beq i id with
  | true => .rp cs off
  | false => .ptr i off
 | .agg l=>iC (fzL id n cs l)
 | .tup l => .tup (fzL id n cs l)
 | .fn f a b => .fn f (fzL id n cs a) (fzL id n cs b)
 | .p x => .p x
 | .rp cs o => .rp cs o
 | .yld l => .yld l
 | .kb b => .kb b
 | .mp i => .mp i
 | .pa i q => .pa i q
 | .any => .any
def fzL(id n:Nat)(cs:List PV):List AV→List AV
 | []=>[]
 | x::r=>fzA id n cs x::fzL id n cs r
end

theorem sV(id n:Nat)(cs:List PV):∀ l:List AV,(fzL id n cs l).length=l.length
 | []=>by simp [fzL]
 | x::r=>by simp [fzL,sV id n cs r]

section
variable {id ty n:Nat} {cs:List PV} (hM:aW P C M w) (ho:M[id]? = some (some (.row ty n cs)))
include hM ho
mutual
theorem aBz:∀ {x:AV} {u:Value},Rep C M w x u→Rep (C.close id true) (aZ M id (some .dead)) w (fzA id n cs x) u
 | .own i,u,h=>by
  have hL:=hM.le (cT true ho rfl);simp only [fzA]
  split
  ·rename_i hb
   have:=Nat.eq_of_beq_eq_true hb;subst this;exact .p _ _ (sF hM ho h)
  ·exact h.mono hL
 | .arr i off k,u,h=>by
  have hL:=hM.le (cT true ho rfl);simp only [fzA]
  split
  ·rename_i hb
   have:=Nat.eq_of_beq_eq_true hb;subst this;cases h with
   | arr _ _ _ u h0 ha hrow =>
    rcases hrow _ ho rfl with ⟨rfl,p,cap,rfl,hc⟩ | ⟨b,cap,rfl,hn,hc,hb⟩
    ·rw [Nat.zero_mul,List.take_zero]
     exact .p _ _ (.sl 0 [] p cap (fun _=>undef) (Nat.zero_le _) hc (fun i h=>by simp at h) (fun i h=>by simp at h) (fun i h=>by simp at h))
    ·rcases hM.row _ _ _ _ ho with ⟨Gq,_⟩ | ⟨b',arr,inf,Ap,q1,q2,q3,q4,q5,q6,q7,q8⟩
     ·rw [hb] at Gq;cases Gq
     ·rw [hb] at Ap;cases Ap
      have hle:cs.length≤arr.size:=by rw [q3,q4];exact Nat.mul_le_mul_right _ q5
      have hlt:∀ i,i<((cs.drop off).take (k*(cs.length / n))).length→off+i<cs.length:=fun i hi=>by simp at hi;omega
      refine .p _ _ (.sl k _ _ cap (fun j=>arr.getD (off+j) undef) hn hc (fun j hj=>⟨b,off,rfl,.inr ⟨rfl,hb⟩,cV q1 (by have:=hlt j hj;omega)⟩) (fun j hj => ?_) (fun j hj=>q8 _ (hlt j hj)))
      simp only [List.getElem_take,List.getElem_drop];exact (q7 _ (hlt j hj)).mono (fun _ h => .inl h) (fun _ _=>rfl)
  ·exact h.mono hL
 | .ptr i off,u,h=>by
  have hL:=hM.le (cT true ho rfl);simp only [fzA]
  split
  ·rename_i hb
   have:=Nat.eq_of_beq_eq_true hb;subst this;obtain ⟨b,rfl,hb⟩:=fG h (gG ho rfl)
   rcases hM.row _ _ _ _ ho with ⟨hn,_⟩ | ⟨b',arr,inf,Ap,q1,q2,q3,q4,q5,q6,q7,q8⟩
   ·rw [hb] at hn;cases hn
   ·rw [hb] at Ap;cases Ap
    have hle:cs.length≤arr.size:=by rw [q3,q4];exact Nat.mul_le_mul_right _ q5
    have:=Rep.rp (C:=C.close i true) (M:=aZ M i (some .dead)) (w:=w) cs off b 0 (fun j=>arr.getD j undef) (fun i hi=>⟨.inr ⟨rfl,hb⟩,by rw [iT];exact cV q1 (by omega)⟩) (fun i hi=>(q7 i hi).mono (fun _ h => .inl h) (fun _ _=>rfl)) q8
    rwa [iT] at this
  ·exact h.mono hL
 | .agg l,u,h=>by
  cases h with
  | agg _ vs h0 h1 h2 =>
   simp only [fzA];obtain ⟨q1,q2⟩:=iQ (us:=fun i=>vs.getD i undef) h2
   exact jJ (fun i hi=>h0 i (by omega)) (by omega) q2
 | .tup l,u,h=>by
  cases h with
  | tup _ vs h1 h2 =>
   simp only [fzA];obtain ⟨q1,q2⟩:=iQ (us:=fun i=>vs.getD i undef) h2
   exact .tup _ _ (by omega) q2
 | .fn f a b,u,h=>by
  cases h with
  | fn _ _ _ us vs h1 h2 h3 h4 =>
   simp only [fzA];obtain ⟨q1,q2⟩:=iQ (us:=fun i=>us.getD i undef) h3
   obtain ⟨r1,r2⟩:=iQ (us:=fun i=>vs.getD i undef) h4
   exact .fn f _ _ us vs (by omega) (by omega) q2 r2
 | .p x,u,h=>by simp only [fzA];exact h.mono (hM.le (cT true ho rfl))
 | .rp cs o,u,h=>by simp only [fzA];exact h.mono (hM.le (cT true ho rfl))
 | .yld l,u,h=>by simp only [fzA];exact h.mono (hM.le (cT true ho rfl))
 | .kb b,u,h=>by simp only [fzA];exact h.mono (hM.le (cT true ho rfl))
 | .mp i,u,h=>by simp only [fzA];exact h.mono (hM.le (cT true ho rfl))
 | .pa i q,u,h=>by simp only [fzA];exact h.mono (hM.le (cT true ho rfl))
 | .any,u,h=>by simp only [fzA];exact .any _
theorem iQ:∀ {l:List AV} {us:Nat→Value},(∀ i (h:i<l.length),Rep C M w l[i] (us i))→(fzL id n cs l).length=l.length∧∀ i (h:i<(fzL id n cs l).length),Rep (C.close id true) (aZ M id (some .dead)) w (fzL id n cs l)[i] (us i)
 | [],_,_=>⟨sV ..,  fun i h=>by simp [fzL] at h⟩
 | x::r,us,h=>by
  refine ⟨sV ..,fun i hi => ?_⟩
  have:=hM;have:=ho;obtain ⟨_,q2⟩:=iQ (l:=r) (us:=fun i=>us (i+1)) (fun i hi=>h (i+1) (by simpa using hi))
  have e:fzL id n cs (x::r)=fzA id n cs x::fzL id n cs r:=by simp only [fzL]
  simp only [e];cases i with
  | zero=>exact aBz (h 0 (by simp))
  | succ i=>exact q2 i (by simpa [sV] using hi)
end
end

def fzO(id n:Nat)(cs:List PV):Option AO→Option AO
 | some (.box ty l)=>some (.box ty (fzL id n cs l))
 | x=>x
def L8(id:Nat)(st:St):Option St:=match eP st.m id with
 | some r=>some ⟨fzL id r.2.1 r.2.2 st.t,(aZ st.m id (some .dead)).map (fzO id r.2.1 r.2.2)⟩
 | none=>none

theorem gW{id n:Nat}{cs:List PV}{m:Mem}{j:Nat}{o':AO}(h:(m.map (fzO id n cs))[j]? = some (some o')):∃ o,m[j]? = some (some o)∧fzO id n cs (some o)=some o':=by
 rw [tX] at h
 cases hm:m[j]? with
 | none=>rw [hm] at h;cases h
 | some x =>
  rw [hm] at h
  cases x with
  | none=>simp [fzO] at h
  | some o=>exact ⟨o,rfl,by simpa using h⟩
theorem aPt{id n:Nat}{cs:List PV}{o:AO}{ty k:Nat}{ds:List PV}(h:fzO id n cs (some o)=some (.row ty k ds)):o = .row ty k ds:=by cases o <;> simp [fzO] at h ⊢;exact h
theorem mH{id n:Nat}{cs:List PV}{o o':AO}(h:fzO id n cs (some o)=some o'):o'.live=o.live:=by cases o <;> (simp [fzO] at h;subst h;rfl)

theorem aTf{id:Nat}{st Ai:St}{a:Act}(hf:L8 id st=some Ai)(hs:Sim P C0 M0 w0 st a w):Sim P C0 M0 w0 Ai a w:=by
 obtain ⟨C,hS,hM,hF,hD⟩:=hs;unfold L8 at hf
 split at hf
 ·rename_i r hr
  cases hf;have ho:=dC hr;have hk:=cT (C:=C) (w:=w) true ho rfl;have hm:=kR hM true ho rfl;have hL:Le (C.close id true) (C.close id true) (aZ st.m id (some .dead)) ((aZ st.m id (some .dead)).map (fzO id r.2.1 r.2.2)) w w:=by
   refine ⟨fun i o h => ?_,fun i o h ty n cs hm => ?_,fun i o h o' hm hl => ?_,fun _ h=>h,fun _ _=>rfl⟩
   ·rw [tX,h]
    cases o <;> exact ⟨_,rfl⟩
   ·obtain ⟨o2,h2,h3⟩:=gW hm
    rw [aPt h3] at h2
    exact ⟨_,h2⟩
   ·obtain ⟨o2,h2,h3⟩:=gW hm
    rw [h] at h2;cases h2
    exact ⟨by rw [← mH h3];exact hl,rfl,rfl⟩
  have Hw:Fr (C.close id true) (aZ st.m id (some .dead)) w (C.close id true) ((aZ st.m id (some .dead)).map (fzO id r.2.1 r.2.2)) w:=by
   refine ⟨rfl,rfl,rfl,Bb _,fun _ _ _=>rfl,fun i o h=>⟨hL.ids i o h,rfl,rfl⟩,hL.row,fun i o h o' hm hl=>(hL.liv i o h o' hm hl).1,fun i o b h hl hb => ?_,fun _ h=>h,fun _ h => .inl h⟩
   obtain ⟨o2,h2,h3⟩:=gW h;exact .inr ⟨i,o2,h2,by rw [← mH h3];exact hl,hb⟩
  refine ⟨C.close id true,⟨?_,fun i hi => ?_⟩,⟨fun i ty n cs h => ?_,fun i ty cs h => ?_,fun i es cl h => ?_,fun i i' o1 o2 b h1 l1 h2 l2 => ?_,fun i o b h hl => ?_,hm.Fs,fun i o b h hl => ?_,hm.lib.le hL⟩,(hF.trans hk).trans Hw,(hD.fr hM (fF rfl) hk).fr hm (fun i tO ti sz L q=>by
   obtain ⟨o2,h2,h3⟩:=gW q;cases o2 with
   | pk=>simp only [fzO,Option.some.injEq] at h3;rw [← h3];exact h2
   | _=>simp [fzO] at h3) Hw⟩
  ·rw [sV];exact hS.size
  ·exact ((iQ hM ho hS.rep).2 i hi).mono hL
  ·obtain ⟨o2,h2,h3⟩:=gW h
   rw [aPt h3] at h2
   exact hm.row _ _ _ _ h2
  ·obtain ⟨o2,h2,h3⟩:=gW h
   cases o2 with
   | box C3 l =>
    simp only [fzO,Option.some.injEq,AO.box.injEq] at h3
    obtain ⟨rfl,rfl⟩:=h3;have hne:i≠id:=fun e=>by
     subst e;rw [aY] at h2;cases h2
    obtain ⟨b,arr,q0,q1,q2,q3,q4⟩:=hM.box _ _ _ ((aO st.m id i _ _ (Ne.symm hne)).1 h2);obtain ⟨r1,r2⟩:=iQ hM ho (us:=fun j=>arr.getD j undef) q3
    exact ⟨b,arr,q0,q1,by rw [r1];exact q2,fun j hj=>(r2 j hj).mono hL,fun j hj=>q4 j (by rw [r1] at hj;exact hj)⟩
   | row=>simp [fzO] at h3
   | mp=>simp [fzO] at h3
   | pk=>simp [fzO] at h3
   | dead=>simp [fzO] at h3
  ·obtain ⟨o2,h2,h3⟩:=gW h
   have:o2 = .mp es cl:=by cases o2 <;> simp [fzO] at h3 ⊢;exact h3
   subst this;obtain ⟨b,arr,q0,q1,q2,q3⟩:=hm.mp _ _ _ h2;refine ⟨b,arr,q0,q1,q2,fun j hj => ?_⟩
   obtain ⟨en,r1,r2,r3,r4⟩:=q3 j hj;exact ⟨en,r1,r2,r3,r4.mono hL.F hL.fz⟩
  ·obtain ⟨o3,h3,h4⟩:=gW h1
   obtain ⟨o5,h5,h6⟩:=gW h2;exact hm.inj i i' o3 o5 b h3 (by rw [← mH h4];exact l1) h5 (by rw [← mH h6];exact l2)
  ·obtain ⟨o3,h3,h4⟩:=gW h
   exact hm.nF i o3 b h3 (by rw [← mH h4];exact hl)
  ·obtain ⟨o3,h3,h4⟩:=gW h
   exact hm.lt i o3 b h3 (by rw [← mH h4];exact hl)
 ·cases hf

def forget:List Nat→List AV→List AV
 | [],l=>l
 | i::r,l=>forget r (l.set i .any)
theorem sW:∀ (g:List Nat) {ts:List AV} {us:Array Value},cP C M w ts us→cP C M w (forget g ts) us
 | [],_,_,h=>h
 | i::r,ts,us,h=>by
  refine sW r ⟨by simpa using h.size,fun j hj => ?_⟩
  simp only [aNe] at hj
  rw [aUn]
  split
  ·exact .any _
  ·exact h.rep j hj
theorem aEm(g:List Nat){st:St}{a:Act}(hs:Sim P C0 M0 w0 st a w):Sim P C0 M0 w0 ⟨forget g st.t,st.m⟩ a w:=by
 obtain ⟨C,hS,hM,hF,hD⟩:=hs;exact ⟨C,sW g hS,hM,hF,hD⟩
end
section
variable {P:Program} {T:TT} {E:Env} {C C0:Cx} {M M0:Mem} {w w0:World}

def Cx.shut(C:Cx)(id:Nat):Cx:={ ι:=C.ι,κ:=C.κ,F:=fun b=>C.F b∨aMh (C.κ id) b }
section
variable {id tO ti sz:Nat} {L:List (Nat × List PV)}
variable (q:aMi C M w id tO ti sz L) (ho:M[id]? = some (some (.pk tO ti sz L))) (hL:Le C (C.shut id) M (aZ M id (some .dead)) w w)
include q ho hL
end

def fzP(id:Nat)(st:St):Option St:=none
theorem aTd{id:Nat}{st Ai:St}{a:Act}(h:fzP id st=some Ai)(hs:Sim P C0 M0 w0 st a w):Sim P C0 M0 w0 Ai a w:=by
 unfold fzP at h
 cases h
def nlP(i tO ti sz:Nat)(st:St):Option St:=none
theorem aTe{i tO ti sz:Nat}{st Ai:St}{a:Act}(h:nlP i tO ti sz st=some Ai)(hs:Sim P C0 M0 w0 st a w):Sim P C0 M0 w0 Ai a w:=by
 unfold nlP at h
 cases h
end
section
variable {P:Program} {T:TT} {E:Env} {C C0:Cx} {M M0:Mem} {w w0:World}

inductive Cz where
 | bx (cs:List PV)
 | mp (es:List (Value × PV))
mutual
def czA(id:Nat)(y:Cz):AV→AV
 | .ptr i off=>match Nat.beq i id with
  | true=>match y with
   | .bx cs => .rp cs off
   | .mp _ => .ptr i off
  | false => .ptr i off
 | .mp i=>match Nat.beq i id with
  | true=>match y with
   | .mp es => .p (.mp es)
   | .bx _ => .mp i
  | false => .mp i
 | .agg l=>iC (czL id y l)
 | .tup l => .tup (czL id y l)
 | .fn f a b => .fn f (czL id y a) (czL id y b)
 | .own i => .own i
 | .arr i off k => .arr i off k
 | .p x => .p x
 | .rp cs o => .rp cs o
 | .yld l => .yld l
 | .kb b => .kb b
 | .pa i q => .pa i q
 | .any => .any
def czL(id:Nat)(y:Cz):List AV→List AV
 | []=>[]
 | x::r=>czA id y x::czL id y r
end
theorem sU(id:Nat)(y:Cz):∀ l:List AV,(czL id y l).length=l.length
 | []=>rfl
 | x::r=>by simp only [czL,eT,sU id y r]

def Hv:AV→Option PV
 | .p x=>some x
 | .kb b=>some (.v (.bool b))
 | .rp cs off=>some (.rp cs off)
 | _=>none
def aTa:List AV→Option (List PV)
 | []=>some []
 | x::r=>match Hv x with
  | some y=>match aTa r with
   | some l=>some (y::l)
   | none=>none
  | none=>none
theorem aPr:∀ {l:List AV} {cs:List PV},aTa l=some cs→cs.length=l.length∧∀ (i:Nat) (h:i<l.length) (h':i<cs.length),Hv l[i]=some cs[i]
 | [],cs,h=>by cases h;exact ⟨rfl,fun i h=>by simp at h⟩
 | x::r,cs,h=>by
  unfold aTa at h
  split at h
  ·rename_i y hy
   split at h
   ·rename_i k hk
    cases h;obtain ⟨q1,q2⟩:=aPr hk;refine ⟨by simp [q1],fun i h1 h2 => ?_⟩
    cases i with
    | zero=>exact hy
    | succ i=>exact q2 i (by simpa using h1) (by simpa using h2)
   ·cases h
  ·cases h
theorem bCh{x:AV}{y:PV}{u:Value}(e:Hv x=some y)(h:Rep C M w x u):cQ C.F w y u:=by
 cases x <;> simp [Hv] at e
 ·subst e;cases h;assumption
 ·subst e;cases h;exact .rp _ _ _ _ _ ‹_› ‹_› ‹_›
 ·subst e;cases h;exact .v _
def bJn(y:Cz)(o:AO):Prop:=match y with
 | .bx cs=>∃ ty l,o = .box ty l∧aTa l=some cs
 | .mp es=>∃ cl,o = .mp es cl
theorem bJn.live{y:Cz}{o:AO}(h:bJn y o):o.live=true:=by
 cases y with
 | bx cs=>obtain ⟨ty,l,rfl,_⟩:=h;rfl
 | mp es=>obtain ⟨cl,rfl⟩:=h;rfl

section
variable {id:Nat} {y:Cz} {o:AO} (hM:aW P C M w) (ho:M[id]? = some (some o)) (hz:bJn y o)
include hM ho hz
mutual
theorem aTb:∀ {x:AV} {u:Value},Rep C M w x u→Rep (C.close id true) (aZ M id (some .dead)) w (czA id y x) u
 | .ptr i off,u,h=>by
  have hL:=hM.le (cT true ho hz.live);simp only [czA]
  split
  ·rename_i hb
   have:=Nat.eq_of_beq_eq_true hb;subst this;cases y with
   | mp es=>exact h.mono hL
   | bx cs =>
    obtain ⟨ty,l,rfl,hl⟩:=hz;obtain ⟨b,rfl,hb⟩:=fG h (gG ho rfl);obtain ⟨b',arr,Ap,q1,q2,q3,q4⟩:=hM.box _ _ _ ho;rw [hb] at Ap;cases Ap
    obtain ⟨r1,r2⟩:=aPr hl;have:=Rep.rp (C:=C.close i true) (M:=aZ M i (some .dead)) (w:=w) cs off b 0 (fun j=>arr.getD j undef) (fun i hi=>⟨.inr ⟨rfl,hb⟩,by rw [iT];exact cV q1 (by omega)⟩)
     (fun i hi=>(bCh (r2 i (by omega) hi) (q3 i (by omega))).mono (fun _ h => .inl h) (fun _ _=>rfl)) (fun i hi=>q4 i (by omega))
    rwa [iT] at this
  ·exact h.mono hL
 | .mp i,u,h=>by
  have hL:=hM.le (cT true ho hz.live);simp only [czA]
  split
  ·rename_i hb
   have:=Nat.eq_of_beq_eq_true hb;subst this;cases y with
   | bx cs=>exact h.mono hL
   | mp es =>
    obtain ⟨cl,rfl⟩:=hz;obtain ⟨b,arr,rfl,hb,q1,q2,q3⟩:=aEz hM h (bG.2 ho);refine .p _ _ (.mp es b cl arr (fun j=>(arr.getD j ⟨undef,undef,0⟩).val) (.inr ⟨rfl,hb⟩) q1 q2 (fun j hj => ?_) fun j hj => ?_)
    ·obtain ⟨e,r1,r2,r3,r4⟩:=q3 j hj
     exact ⟨e,r1,r2,r3,by rw [Bw,r1];rfl⟩
    ·obtain ⟨e,r1,r2,r3,r4⟩:=q3 j hj
     rw [Bw,r1];exact r4.mono (fun _ h => .inl h) (fun _ _=>rfl)
  ·exact h.mono hL
 | .agg l,u,h=>by
  cases h with
  | agg _ vs h0 h1 h2 =>
   simp only [czA];obtain ⟨q1,q2⟩:=iP (us:=fun i=>vs.getD i undef) h2
   exact jJ (fun i hi=>h0 i (by omega)) (by omega) q2
 | .tup l,u,h=>by
  cases h with
  | tup _ vs h1 h2 =>
   simp only [czA];obtain ⟨q1,q2⟩:=iP (us:=fun i=>vs.getD i undef) h2
   exact .tup _ _ (by omega) q2
 | .fn f a b,u,h=>by
  cases h with
  | fn _ _ _ us vs h1 h2 h3 h4 =>
   simp only [czA];obtain ⟨q1,q2⟩:=iP (us:=fun i=>us.getD i undef) h3
   obtain ⟨r1,r2⟩:=iP (us:=fun i=>vs.getD i undef) h4
   exact .fn f _ _ us vs (by omega) (by omega) q2 r2
 | .own i,u,h=>by simp only [czA];exact h.mono (hM.le (cT true ho hz.live))
 | .arr i off k,u,h=>by simp only [czA];exact h.mono (hM.le (cT true ho hz.live))
 | .p x,u,h=>by simp only [czA];exact h.mono (hM.le (cT true ho hz.live))
 | .rp cs o,u,h=>by simp only [czA];exact h.mono (hM.le (cT true ho hz.live))
 | .yld l,u,h=>by simp only [czA];exact h.mono (hM.le (cT true ho hz.live))
 | .kb b,u,h=>by simp only [czA];exact h.mono (hM.le (cT true ho hz.live))
 | .pa i q,u,h=>by simp only [czA];exact h.mono (hM.le (cT true ho hz.live))
 | .any,u,h=>by simp only [czA];exact .any _
theorem iP:∀ {l:List AV} {us:Nat→Value},(∀ i (h:i<l.length),Rep C M w l[i] (us i))→(czL id y l).length=l.length∧∀ i (h:i<(czL id y l).length),Rep (C.close id true) (aZ M id (some .dead)) w (czL id y l)[i] (us i)
 | [],_,_=>by
  have:=hM;have:=ho;have:=hz;exact ⟨sU ..,fun i h=>by simp [czL] at h⟩
 | x::r,us,h=>by
  refine ⟨sU ..,fun i hi => ?_⟩
  obtain ⟨_,q2⟩:=iP (l:=r) (us:=fun i=>us (i+1)) (fun i hi=>h (i+1) (by simpa using hi))
  have e:czL id y (x::r)=czA id y x::czL id y r:=by simp only [czL]
  simp only [e];cases i with
  | zero=>exact aTb (h 0 (by simp))
  | succ i=>exact q2 i (by simpa [sU] using hi)
end
end

def czO(id:Nat)(y:Cz):Option AO→Option AO
 | some (.box ty l)=>some (.box ty (czL id y l))
 | x=>x
def bQx(m:Mem)(id:Nat):Option Cz:=match bQ m id with
 | some (.box _ l)=>(aTa l).map .bx
 | some (.mp es _)=>some (.mp es)
 | _=>none
def fzM(id:Nat)(st:St):Option St:=match bQx st.m id with
 | some y=>some ⟨czL id y st.t,(aZ st.m id (some .dead)).map (czO id y)⟩
 | none=>none
theorem bCi{m:Mem}{id:Nat}{y:Cz}(h:bQx m id=some y):∃ o,m[id]? = some (some o)∧bJn y o:=by
 unfold bQx at h
 split at h
 ·rename_i ty l ho
  cases hl:aTa l with
  | none=>rw [hl] at h;cases h
  | some cs=>rw [hl] at h;cases h;exact ⟨_,bG.1 ho,ty,l,rfl,hl⟩
 ·rename_i es cl ho
  cases h;exact ⟨_,bG.1 ho,cl,rfl⟩
 ·cases h
theorem gV{id:Nat}{y:Cz}{m:Mem}{j:Nat}{o':AO}(h:(m.map (czO id y))[j]? = some (some o')):∃ o,m[j]? = some (some o)∧czO id y (some o)=some o':=by
 rw [tX] at h
 cases hm:m[j]? with
 | none=>rw [hm] at h;cases h
 | some x =>
  rw [hm] at h
  cases x with
  | none=>simp [czO] at h
  | some o=>exact ⟨o,rfl,by simpa using h⟩
theorem aPs{id:Nat}{y:Cz}{o:AO}{ty k:Nat}{ds:List PV}(h:czO id y (some o)=some (.row ty k ds)):o = .row ty k ds:=by cases o <;> simp [czO] at h ⊢;exact h
theorem mG{id:Nat}{y:Cz}{o o':AO}(h:czO id y (some o)=some o'):o'.live=o.live:=by cases o <;> (simp [czO] at h;subst h;rfl)

theorem aTc{id:Nat}{st Ai:St}{a:Act}(hf:fzM id st=some Ai)(hs:Sim P C0 M0 w0 st a w):Sim P C0 M0 w0 Ai a w:=by
 obtain ⟨C,hS,hM,hF,hD⟩:=hs;unfold fzM at hf
 split at hf
 ·rename_i y hr
  cases hf;obtain ⟨o,ho,hz⟩:=bCi hr;have hk:=cT (C:=C) (w:=w) true ho hz.live;have hm:=kR hM true ho hz.live;have hL:Le (C.close id true) (C.close id true) (aZ st.m id (some .dead)) ((aZ st.m id (some .dead)).map (czO id y)) w w:=by
   refine ⟨fun i o h => ?_,fun i o h ty n cs hm => ?_,fun i o h o' hm hl => ?_,fun _ h=>h,fun _ _=>rfl⟩
   ·rw [tX,h]
    cases o <;> exact ⟨_,rfl⟩
   ·obtain ⟨o2,h2,h3⟩:=gV hm
    rw [aPs h3] at h2
    exact ⟨_,h2⟩
   ·obtain ⟨o2,h2,h3⟩:=gV hm
    rw [h] at h2;cases h2
    exact ⟨by rw [← mG h3];exact hl,rfl,rfl⟩
  have Hw:Fr (C.close id true) (aZ st.m id (some .dead)) w (C.close id true) ((aZ st.m id (some .dead)).map (czO id y)) w:=by
   refine ⟨rfl,rfl,rfl,Bb _,fun _ _ _=>rfl,fun i o h=>⟨hL.ids i o h,rfl,rfl⟩,hL.row,fun i o h o' hm hl=>(hL.liv i o h o' hm hl).1,fun i o b h hl hb => ?_,fun _ h=>h,fun _ h => .inl h⟩
   obtain ⟨o2,h2,h3⟩:=gV h;exact .inr ⟨i,o2,h2,by rw [← mG h3];exact hl,hb⟩
  refine ⟨C.close id true,⟨?_,fun i hi => ?_⟩,⟨fun i ty n cs h => ?_,fun i ty cs h => ?_,fun i es cl h => ?_,fun i i' o1 o2 b h1 l1 h2 l2 => ?_,fun i o b h hl => ?_,hm.Fs,fun i o b h hl => ?_,hm.lib.le hL⟩,(hF.trans hk).trans Hw,(hD.fr hM (fF rfl) hk).fr hm (fun i tO ti sz L q=>by
   obtain ⟨o2,h2,h3⟩:=gV q;cases o2 with
   | pk=>simp only [czO,Option.some.injEq] at h3;rw [← h3];exact h2
   | _=>simp [czO] at h3) Hw⟩
  ·rw [sU];exact hS.size
  ·exact ((iP hM ho hz hS.rep).2 i hi).mono hL
  ·obtain ⟨o2,h2,h3⟩:=gV h
   rw [aPs h3] at h2
   exact hm.row _ _ _ _ h2
  ·obtain ⟨o2,h2,h3⟩:=gV h
   cases o2 with
   | box C3 l =>
    simp only [czO,Option.some.injEq,AO.box.injEq] at h3
    obtain ⟨rfl,rfl⟩:=h3;have hne:i≠id:=fun e=>by
     subst e;rw [aY] at h2;cases h2
    obtain ⟨b,arr,q0,q1,q2,q3,q4⟩:=hM.box _ _ _ ((aO st.m id i _ _ (Ne.symm hne)).1 h2);obtain ⟨r1,r2⟩:=iP hM ho hz (us:=fun j=>arr.getD j undef) q3
    exact ⟨b,arr,q0,q1,by rw [r1];exact q2,fun j hj=>(r2 j hj).mono hL,fun j hj=>q4 j (by rw [r1] at hj;exact hj)⟩
   | row=>simp [czO] at h3
   | mp=>simp [czO] at h3
   | pk=>simp [czO] at h3
   | dead=>simp [czO] at h3
  ·obtain ⟨o2,h2,h3⟩:=gV h
   have:o2 = .mp es cl:=by cases o2 <;> simp [czO] at h3 ⊢;exact h3
   subst this;obtain ⟨b,arr,q0,q1,q2,q3⟩:=hm.mp _ _ _ h2;refine ⟨b,arr,q0,q1,q2,fun j hj => ?_⟩
   obtain ⟨en,r1,r2,r3,r4⟩:=q3 j hj;exact ⟨en,r1,r2,r3,r4.mono hL.F hL.fz⟩
  ·obtain ⟨o3,h3,h4⟩:=gV h1
   obtain ⟨o5,h5,h6⟩:=gV h2;exact hm.inj i i' o3 o5 b h3 (by rw [← mG h4];exact l1) h5 (by rw [← mG h6];exact l2)
  ·obtain ⟨o3,h3,h4⟩:=gV h
   exact hm.nF i o3 b h3 (by rw [← mG h4];exact hl)
  ·obtain ⟨o3,h3,h4⟩:=gV h
   exact hm.lt i o3 b h3 (by rw [← mG h4];exact hl)
 ·cases hf
end
section
variable {P:Program} {T:TT} {E:Env} {C C0:Cx} {M M0:Mem} {w w0:World}

def idx:List Nat→Nat→Nat→Option Nat
 | [],_,_=>none
 | j::r,i,n=>match Nat.beq j i with
  | true=>some n
  | false=>idx r i (n+1)
def rnI(k:Nat)(ids:List Nat)(i:Nat):Option Nat:=match Nat.blt i k with
 | true=>some i
 | false=>idx ids i k
mutual
def mpA(f:Nat→Option Nat):AV→Option AV
 | .own i=>(f i).map .own
 | .arr i off n=>(f i).map fun j => .arr j off n
 | .ptr i off=>(f i).map fun j => .ptr j off
 | .mp i=>(f i).map .mp
 | .pa i q=>(f i).map fun j => .pa j q
 | .agg l=>(mpL f l).map .agg
 | .tup l=>(mpL f l).map .tup
 | .fn g a b=>match mpL f a with
  | some a'=>(mpL f b).map fun b' => .fn g a' b'
  | none=>none
 | .p x=>some (.p x)
 | .rp cs o=>some (.rp cs o)
 | .yld l=>some (.yld l)
 | .kb b=>some (.kb b)
 | .any=>some .any
def mpL(f:Nat→Option Nat):List AV→Option (List AV)
 | []=>some []
 | x::r=>match mpA f x with
  | some y=>(mpL f r).map (y :: ·)
  | none=>none
end
def mpO(f:Nat→Option Nat):AO→Option AO
 | .row ty n cs=>some (.row ty n cs)
 | .box ty l=>(mpL f l).map (.box ty ·)
 | .mp es cl=>some (.mp es cl)
 | .pk tO ti sz L=>some (.pk tO ti sz L)
 | .dead=>some .dead
def mpM(f:Nat→Option Nat):Mem→Option Mem
 | []=>some []
 | none::r=>(mpM f r).map (none :: ·)
 | some o::r=>match mpO f o with
  | some o'=>(mpM f r).map (some o' :: ·)
  | none=>none
abbrev rnL(k:Nat)(ids:List Nat):=mpL (rnI k ids)
abbrev rnM(k:Nat)(ids:List Nat):=mpM (rnI k ids)
def at?(m:Mem)(i:Nat):Option AO:=bQ m i
def distinct(k:Nat):List Nat→Bool
 | []=>true
 | i::r=>match Nat.ble k i with
  | true=>match r.all (fun j => !Nat.beq j i) with
   | true=>distinct k r
   | false=>false
  | false=>false
def firsts(m:Mem):Nat→Nat→Mem
 | 0,_=>[]
 | k+1,i=>at? m i::firsts m k (i+1)
def pick(k:Nat)(ids:List Nat)(st:St):Option St:=match distinct k ids with
 | true=>match rnL k ids st.t with
  | some t=>(rnM k ids (firsts st.m k 0++ids.map (at? st.m))).map (⟨t,·⟩)
  | none=>none
 | false=>none

theorem sS:∀ (ids:List Nat) (i n j:Nat),idx ids i n=some j→n≤j∧ids[j-n]? = some i
 | [],i,n,j,h=>by cases h
 | a::r,i,n,j,h=>by
  unfold idx at h
  split at h
  ·rename_i hb
   cases h;exact ⟨Bb _,by rw [aNf];simp [Nat.eq_of_beq_eq_true hb]⟩
  ·obtain ⟨h1,h2⟩:=sS r i (n+1) j h
   refine ⟨by omega,?_⟩
   rw [show j-n=(j-(n+1))+1 by omega]
   simpa using h2
theorem gA{k:Nat}:∀ {ids:List Nat},distinct k ids=true→(∀ i∈ids,k≤i)∧ids.Nodup
 | [],_=>⟨by simp,.nil⟩
 | a::r,h=>by
  unfold distinct at h
  split at h
  ·rename_i h1
   split at h
   ·rename_i h2
    obtain ⟨h3,h4⟩:=gA h;refine ⟨fun i hi => ?_,?_⟩
    ·rcases lA.1 hi with rfl | hi
     ·exact Nat.le_of_ble_eq_true h1
     ·exact h3 i hi
    ·refine List.nodup_cons.2 ⟨fun hm => ?_,h4⟩
     have:=iD.1 h2 a hm;simp at this
   ·cases h
  ·cases h
theorem aBx(m:Mem):∀ (k i j:Nat),j<k→(firsts m k i)[j]? = some (bQ m (i+j))
 | 0,i,j,h=>by omega
 | k+1,i,j,h=>by
  unfold firsts;cases j with
  | zero=>simp [at?]
  | succ j =>
   have:=aBx m k (i+1) j (by omega)
   rw [List.getElem?_cons_succ,this,show i+1+j=i+(j+1) by omega]
theorem kO(m:Mem):∀ (k i:Nat),(firsts m k i).length=k
 | 0,_=>rfl
 | k+1,i=>by simp [firsts,kO m k]

def kZ(k:Nat)(ids:List Nat)(j:Nat):Option Nat:=if j<k then some j else ids[j-k]?
theorem aEl{k:Nat}{ids:List Nat}{i j:Nat}(h:rnI k ids i=some j):kZ k ids j=some i:=by
 unfold rnI at h
 split at h
 ·rename_i hb
  cases h;have:i<k:=by simpa [Nat.blt_eq] using hb
  simp [kZ,this]
 ·obtain ⟨h1,h2⟩:=sS _ _ _ _ h
  simp [kZ,Nat.not_lt.2 h1,h2]
theorem aPp{k:Nat}{ids:List Nat}(hd:distinct k ids=true){j j' i:Nat}(h:kZ k ids j=some i)(h':kZ k ids j'=some i):j=j':=by
 obtain ⟨h1,h2⟩:=gA hd;unfold kZ at h h'
 split at h <;> split at h'
 ·cases h;cases h';rfl
 ·cases h
  have:=h1 _ (Ch h');omega
 ·cases h'
  have:=h1 _ (Ch h);omega
 ·obtain ⟨q1,q2⟩:=Cf.1 h
  obtain ⟨q3,q4⟩:=Cf.1 h';have hp:=List.pairwise_iff_getElem.1 h2
  rcases Nat.lt_trichotomy (j-k) (j'-k) with hl | hl | hl
  ·exact absurd (q2.trans q4.symm) (hp _ _ q1 q3 hl)
  ·omega
  ·exact absurd (q4.trans q2.symm) (hp _ _ q3 q1 hl)

def Cx.rn(C:Cx)(k:Nat)(ids:List Nat):Cx:={ ι:=fun j=>(kZ k ids j).bind C.ι,κ:=fun j=>match kZ k ids j with | some i=>C.κ i | none=>0,F:=C.F }

theorem yE{f:Nat→Option Nat}:∀ {m m':Mem},mpM f m=some m'→m'.length=m.length∧(∀ (j:Nat) (o':AO),m'[j]? = some (some o')→∃ o,m[j]? = some (some o)∧mpO f o=some o')∧(∀ (j:Nat) (o:AO),m[j]? = some (some o)→∃ o',m'[j]? = some (some o')∧mpO f o=some o')
 | [],m',h=>by cases h;exact ⟨rfl,fun j o h=>by simp at h,fun j o h=>by simp at h⟩
 | none::r,m',h=>by
  unfold mpM at h
  cases hr:mpM f r with
  | none=>rw [hr] at h;cases h
  | some r' =>
   rw [hr] at h;cases h
   obtain ⟨h1,h2,h3⟩:=yE hr;refine ⟨by simp [h1],fun j o hj => ?_,fun j o hj => ?_⟩
   ·cases j with
    | zero=>simp at hj
    | succ j=>exact h2 j o (by simpa using hj)
   ·cases j with
    | zero=>simp at hj
    | succ j=>exact h3 j o (by simpa using hj)
 | some o::r,m',h=>by
  unfold mpM at h
  split at h
  ·rename_i o' Cq
   cases hr:mpM f r with
   | none=>rw [hr] at h;cases h
   | some r' =>
    rw [hr] at h;cases h
    obtain ⟨h1,h2,h3⟩:=yE hr;refine ⟨by simp [h1],fun j o hj => ?_,fun j o hj => ?_⟩
    ·cases j with
     | zero=>simp at hj;subst hj;exact ⟨_,rfl,Cq⟩
     | succ j=>exact h2 j o (by simpa using hj)
    ·cases j with
     | zero=>simp at hj;subst hj;exact ⟨_,rfl,Cq⟩
     | succ j=>exact h3 j o (by simpa using hj)
  ·cases h

theorem bO{f:Nat→Option Nat}{o o':AO}(h:mpO f o=some o'):o'.live=o.live:=by
 cases o <;> simp only [mpO,C9,Option.some.injEq] at h
 ·subst h;rfl
 ·obtain ⟨_,_,rfl⟩:=h;rfl
 ·subst h;rfl
 ·subst h;rfl
 ·subst h;rfl
theorem jE{f:Nat→Option Nat}{o:AO}{ty n:Nat}{cs:List PV}(h:mpO f o=some (.row ty n cs)):o = .row ty n cs:=by
 cases o <;> simp only [mpO,C9,Option.some.injEq] at h
 ·exact h
 ·obtain ⟨_,_,h⟩:=h;cases h
 ·cases h
 ·cases h
 ·cases h
structure aSw (f:Nat→Option Nat) (C C':Cx) (M M':Mem):Prop where
 bk:∀ (i j:Nat) (o':AO),f i=some j→M'[j]? = some (some o')→∃ o,M[i]? = some (some o)∧mpO f o=some o'
 fw:∀ (i j:Nat) (o:AO),f i=some j→M[i]? = some (some o)→∃ o',M'[j]? = some (some o')∧mpO f o=some o'
 at_:∀ i j,f i=some j→C'.ι j=C.ι i∧C'.κ j=C.κ i
 F:∀ b,C.F b→C'.F b

section
variable {f:Nat→Option Nat} {C':Cx} {M':Mem} (hm:aSw f C C' M M')
include hm
set_option linter.unusedSectionVars false in
mutual
theorem qH:∀ {x y:AV} {u:Value},Rep C M w x u→mpA f x=some y→Rep C' M' w y u
 | .own i,y,u,h,hr=>by
  simp only [mpA,C9] at hr
  obtain ⟨j,hj,rfl⟩:=hr;cases h with
  | own _ u h0 ha h =>
   obtain ⟨o,ho⟩:=ha;obtain ⟨o',Cq,_⟩:=hm.fw _ _ _ hj ho;refine .own j u h0 ⟨o',Cq⟩ fun ty n cs hx => ?_
   obtain ⟨o2,e2,e3⟩:=hm.bk _ _ _ hj hx;rw [jE e3] at e2
   rw [(hm.at_ _ _ hj).1,(hm.at_ _ _ hj).2];exact h _ _ _ e2
 | .arr i off n,y,u,h,hr=>by
  simp only [mpA,C9] at hr
  obtain ⟨j,hj,rfl⟩:=hr;cases h with
  | arr _ _ _ u h0 ha h =>
   obtain ⟨o,ho⟩:=ha;obtain ⟨o',Cq,_⟩:=hm.fw _ _ _ hj ho;refine .arr j off n u h0 ⟨o',Cq⟩ fun o3 hx hl => ?_
   obtain ⟨o2,e2,e3⟩:=hm.bk _ _ _ hj hx;rw [(hm.at_ _ _ hj).1];exact h _ e2 (by rw [← bO e3];exact hl)
 | .ptr i off,y,u,h,hr=>by
  simp only [mpA,C9] at hr
  obtain ⟨j,hj,rfl⟩:=hr;cases h with
  | ptr _ _ u h0 ha h hp =>
   obtain ⟨o,ho⟩:=ha;obtain ⟨o',Cq,_⟩:=hm.fw _ _ _ hj ho;refine .ptr j off u h0 ⟨o',Cq⟩ (fun o3 hx hl => ?_) hp
   obtain ⟨o2,e2,e3⟩:=hm.bk _ _ _ hj hx;rw [(hm.at_ _ _ hj).1];exact h _ e2 (by rw [← bO e3];exact hl)
 | .mp i,y,u,h,hr=>by
  simp only [mpA,C9] at hr
  obtain ⟨j,hj,rfl⟩:=hr;cases h with
  | mp _ u h0 ha h =>
   obtain ⟨o,ho⟩:=ha;obtain ⟨o',Cq,_⟩:=hm.fw _ _ _ hj ho;refine .mp j u h0 ⟨o',Cq⟩ fun o3 hx hl => ?_
   obtain ⟨o2,e2,e3⟩:=hm.bk _ _ _ hj hx;rw [(hm.at_ _ _ hj).1];exact h _ e2 (by rw [← bO e3];exact hl)
 | .pa i q,y,u,h,hr=>by
  simp only [mpA,C9] at hr
  obtain ⟨j,hj,rfl⟩:=hr;cases h with
  | pa _ _ u h0 ha h =>
   obtain ⟨o,ho⟩:=ha;obtain ⟨o',Cq,_⟩:=hm.fw _ _ _ hj ho;refine .pa j q u h0 ⟨o',Cq⟩ fun o3 hx hl => ?_
   obtain ⟨o2,e2,e3⟩:=hm.bk _ _ _ hj hx;rw [(hm.at_ _ _ hj).2];exact h _ e2 (by rw [← bO e3];exact hl)
 | .agg l,y,u,h,hr=>by
  simp only [mpA,C9] at hr
  obtain ⟨l',hl,rfl⟩:=hr;cases h with
  | agg _ vs h0 h1 h4 =>
   obtain ⟨q1,q2⟩:=eR (us:=fun i=>vs.getD i undef) h4 hl
   exact .agg _ _ (fun i hi=>h0 i (by omega)) (by omega) q2
 | .tup l,y,u,h,hr=>by
  simp only [mpA,C9] at hr
  obtain ⟨l',hl,rfl⟩:=hr;cases h with
  | tup _ vs h1 h4 =>
   obtain ⟨q1,q2⟩:=eR (us:=fun i=>vs.getD i undef) h4 hl
   exact .tup _ _ (by omega) q2
 | .fn g a b,y,u,h,hr=>by
  simp only [mpA] at hr
  split at hr
  ·rename_i a' ha
   simp only [C9] at hr
   obtain ⟨b',hb,rfl⟩:=hr;cases h with
   | fn _ _ _ us vs h1 h4 h5 h6 =>
    obtain ⟨q1,q2⟩:=eR (us:=fun i=>us.getD i undef) h5 ha
    obtain ⟨r1,r2⟩:=eR (us:=fun i=>vs.getD i undef) h6 hb
    exact .fn g _ _ us vs (by omega) (by omega) q2 r2
  ·cases hr
 | .p x,y,u,h,hr=>by simp only [mpA] at hr;cases hr;cases h with | p _ _ h=>exact .p _ _ (h.mono hm.F (fun _ _=>rfl))
 | .rp cs o,y,u,h,hr=>by
  simp only [mpA] at hr;cases hr
  cases h with | rp _ _ b o us h1 h2 h3=>exact .rp cs _ b o us (fun i hi=>⟨hm.F _ (h1 i hi).1,(h1 i hi).2⟩) (fun i hi=>(h2 i hi).mono hm.F (fun _ _=>rfl)) h3
 | .yld l,y,u,h,hr=>by simp only [mpA] at hr;cases hr;cases h;exact .yld _
 | .kb b,y,u,h,hr=>by simp only [mpA] at hr;cases hr;cases h;exact .kb _
 | .any,y,u,h,hr=>by simp only [mpA] at hr;cases hr;exact .any _
theorem eR:∀ {l ys:List AV} {us:Nat→Value},(∀ i (h:i<l.length),Rep C M w l[i] (us i))→mpL f l=some ys→ys.length=l.length∧∀ i (h:i<ys.length),Rep C' M' w ys[i] (us i)
 | [],_,_,_,hr=>by simp only [mpL] at hr;cases hr;exact ⟨rfl,fun i h=>by simp at h⟩
 | x::r,ys,us,h,hr=>by
  simp only [mpL] at hr
  split at hr
  ·rename_i y hy
   simp only [C9] at hr
   obtain ⟨r',Dv,rfl⟩:=hr;obtain ⟨q1,q2⟩:=eR (us:=fun i=>us (i+1)) (fun i hi=>h (i+1) (by simpa using hi)) Dv
   refine ⟨by simp [q1],fun i hi => ?_⟩
   cases i with
   | zero=>exact qH (h 0 (by simp)) hy
   | succ i=>exact q2 i (by simpa using hi)
  ·cases hr
end
end

theorem oT{k:Nat}{ids:List Nat}{M':Mem}(hM:aW P C M w)(hd:distinct k ids=true)(Cn:rnM k ids (firsts M k 0++ids.map (at? M))=some M') :
  aW P (C.rn k ids) M' w∧aSw (rnI k ids) C (C.rn k ids) M M'∧∀ (j:Nat) (o':AO),M'[j]? = some (some o')→∃ i o,kZ k ids j=some i∧M[i]? = some (some o)∧mpO (rnI k ids) o=some o':=by
 obtain ⟨g1,g2,g3⟩:=yE Cn;have hat:∀ (i j:Nat) (o:AO),kZ k ids j=some i→((firsts M k 0++ids.map (at? M))[j]? = some (some o)↔M[i]? = some (some o)):=fun i j o hs=>by
  unfold kZ at hs
  split at hs
  ·rename_i hj
   cases hs;rw [aFn (by rw [kO];exact hj),aBx _ _ _ _ hj,iT,Option.some.injEq,bG]
  ·rename_i hj
   rw [aBn (by rw [kO];omega),kO,tX,hs,Option.map_some,Option.some.injEq]
   exact bG
 have hsrc:∀ (j:Nat) (o:AO),(firsts M k 0++ids.map (at? M))[j]? = some (some o)→∃ i,kZ k ids j=some i:=fun j o hj=>by
  unfold kZ
  split
  ·exact ⟨_,rfl⟩
  ·obtain ⟨hl,_⟩:=Cf.1 hj
   rw [Bz,kO,mR] at hl
   exact ⟨_,B4 (by omega)⟩
 have h2:∀ (j:Nat) (o':AO),M'[j]? = some (some o')→∃ i o,kZ k ids j=some i∧M[i]? = some (some o)∧mpO (rnI k ids) o=some o':=fun j o' hj=>by
  obtain ⟨o,q1,q2⟩:=g2 j o' hj;obtain ⟨i,hi⟩:=hsrc j o q1;exact ⟨i,o,hi,(hat i j o hi).1 q1,q2⟩
 have hi:∀ j i,kZ k ids j=some i→(C.rn k ids).ι j=C.ι i∧(C.rn k ids).κ j=C.κ i:=fun j i h=>by simp [Cx.rn,h]
 have hmp:aSw (rnI k ids) C (C.rn k ids) M M':=⟨fun i j o' hf hj=>by
  obtain ⟨i',o,q1,q2,q3⟩:=h2 j o' hj;rw [aEl hf] at q1;cases q1
  exact ⟨o,q2,q3⟩,fun i j o hf ho=>g3 j o ((hat i j o (aEl hf)).2 ho),fun i j hf=>hi j i (aEl hf),fun _ h=>h⟩
 refine ⟨⟨fun j ty n cs h => ?_,fun j ty cs h => ?_,fun j es cl h => ?_,fun j j' o1 o2 b q1 l1 q2 l2 e1 e2 => ?_,fun j o b h hl hb => ?_,hM.Fs,fun j o b h hl hb => ?_,hM.lib.mono (fun _ h=>h) fun _ _=>rfl⟩,hmp,h2⟩
 ·obtain ⟨i,o,q1,q2,q3⟩:=h2 _ _ h
  rw [jE q3] at q2
  obtain ⟨r1,r2⟩:=hi j i q1;rw [r1,r2];exact hM.row _ _ _ _ q2
 ·obtain ⟨i,o,q1,q2,q3⟩:=h2 _ _ h
  obtain ⟨r1,r2⟩:=hi j i q1;cases o with
  | box C3 l =>
   simp only [mpO,C9] at q3
   obtain ⟨l',De,e⟩:=q3;cases e;obtain ⟨b,arr,p0,p1,p2,p3,p4⟩:=hM.box _ _ _ q2;obtain ⟨n1,n2⟩:=eR hmp (w:=w) (us:=fun j=>arr.getD j undef) p3 De
   exact ⟨b,arr,by rw [r1];exact p0,p1,by omega,n2,fun j hj=>p4 j (by omega)⟩
  | row=>simp [mpO] at q3
  | mp=>simp [mpO] at q3
  | pk=>simp [mpO] at q3
  | dead=>simp [mpO] at q3
 ·obtain ⟨i,o,q1,q2,q3⟩:=h2 _ _ h
  obtain ⟨r1,r2⟩:=hi j i q1;cases o with
  | mp E8 Jr =>
   simp only [mpO,Option.some.injEq] at q3
   cases q3;obtain ⟨b,arr,p0,p1,p2,p3⟩:=hM.mp _ _ _ q2;exact ⟨b,arr,by rw [r1];exact p0,p1,p2,p3⟩
  | row=>simp [mpO] at q3
  | box=>simp [mpO] at q3
  | pk=>simp [mpO] at q3
  | dead=>simp [mpO] at q3
 ·obtain ⟨i,o,q3,q4,q5⟩:=h2 _ _ q1
  obtain ⟨i',o',q6,q7,q8⟩:=h2 _ _ q2;rw [(hi _ _ q3).1] at e1
  rw [(hi _ _ q6).1] at e2
  have:=hM.inj i i' o o' b q4 (by rw [← bO q5];exact l1) q7 (by rw [← bO q8];exact l2) e1 e2
  subst this;exact aPp hd q3 q6
 ·obtain ⟨i,o',q3,q4,q5⟩:=h2 _ _ h
  rw [(hi _ _ q3).1] at hb
  exact hM.nF i o' b q4 (by rw [← bO q5];exact hl) hb
 ·obtain ⟨i,o',q3,q4,q5⟩:=h2 _ _ h
  rw [(hi _ _ q3).1] at hb
  exact hM.lt i o' b q4 (by rw [← bO q5];exact hl) hb

theorem aLm{k:Nat}{ids:List Nat}{st Ai:St}{a:Act}(hk:M0.length≤k)(hp:pick k ids st=some Ai)(hs:Sim P C0 M0 w0 st a w):Sim P C0 M0 w0 Ai a w:=by
 obtain ⟨C,hS,hM,hF,hD⟩:=hs;unfold pick at hp
 split at hp
 ·rename_i hd
  split at hp
  ·rename_i t ht
   simp only [C9] at hp
   obtain ⟨M',Cn,rfl⟩:=hp;obtain ⟨Eh,hmp,h2⟩:=oT hM hd Cn;obtain ⟨t1,t2⟩:=eR hmp (w:=w) (us:=fun i=>a.tmps.getD i undef) hS.rep ht
   have hi:∀ j i,kZ k ids j=some i→(C.rn k ids).ι j=C.ι i∧(C.rn k ids).κ j=C.κ i:=fun j i h=>by simp [Cx.rn,h]
   have small:∀ (i:Nat) (o:AO),M0[i]? = some (some o)→kZ k ids i=some i∧rnI k ids i=some i:=fun i o h=>by
    obtain ⟨hl,_⟩:=Cf.1 h;have hik:i<k:=by omega
    have hb:Nat.blt i k=true:=by rw [Nat.blt_eq];exact hik
    exact ⟨by simp [kZ,hik],by simp only [rnI,hb]⟩
   refine ⟨C.rn k ids,⟨by rw [hS.size];exact t1.symm,t2⟩,Eh,
    ⟨hF.os,hF.tape,hF.out,hF.size,hF.keep,fun i o h => ?_,fun i o h ty n cs hx => ?_,fun i o h o' hx hl => ?_,fun j o b h hl hb => ?_,hF.F1,hF.F2⟩,hD.1,fun p hp => ?_,?_⟩
   ·obtain ⟨⟨o',q1⟩,q2,q3⟩:=hF.ids i o h
    obtain ⟨o2,q4,_⟩:=hmp.fw i i o' (small i o h).2 q1;obtain ⟨r1,r2⟩:=hi i i (small i o h).1;exact ⟨⟨o2,q4⟩,r1.trans q2,r2.trans q3⟩
   ·obtain ⟨i',o',q3,q4,q5⟩:=h2 _ _ hx
    rw [(small i o h).1] at q3;cases q3
    rw [jE q5] at q4
    exact hF.row _ _ h _ _ _ q4
   ·obtain ⟨i',o2,q3,q4,q5⟩:=h2 _ _ hx
    rw [(small i o h).1] at q3;cases q3
    exact hF.liv _ _ h _ q4 (by rw [← bO q5];exact hl)
   ·obtain ⟨i,o',q3,q4,q5⟩:=h2 _ _ h
    rw [(hi _ _ q3).1] at hb
    exact hF.new i o' b q4 (by rw [← bO q5];exact hl) hb
   ·obtain ⟨r1,r2,r3,r4,r5⟩:=hD.2.1 p hp
    refine ⟨r1,r2,r3,r4,fun j o h hl hb => ?_⟩
    obtain ⟨i,o',q3,q4,q5⟩:=h2 _ _ h;rw [(hi _ _ q3).1] at hb
    exact r5 i o' q4 (by rw [← bO q5];exact hl) hb
   ·have lv:∀ (j:Nat) (o:AO),M'[j]? = some (some o)→o.live=true→∃ i o',kZ k ids j=some i∧st.m[i]? = some (some o')∧o'.live=true:=fun j o h hl=>by
     obtain ⟨i,o',q3,q4,q5⟩:=h2 _ _ h;exact ⟨i,o',q3,q4,by rw [← bO q5];exact hl⟩
    have pk:∀ (j tO ti sz:Nat) (L:List (Nat × List PV)),M'[j]? = some (some (.pk tO ti sz L))→∃ i,kZ k ids j=some i∧st.m[i]? = some (some (.pk tO ti sz L)):=fun j tO ti sz L h=>by
     obtain ⟨i,o',q3,q4,q5⟩:=h2 _ _ h;refine ⟨i,q3,?_⟩;cases o' with
     | pk=>simp only [mpO,Option.some.injEq] at q5;rw [← q5];exact q4
     | box=>simp [mpO] at q5
     | _=>simp [mpO] at q5
    refine ⟨fun j tO ti sz L h => ?_,fun j j' tO ti sz L4 L5 L6 L L' h h' hne b hb Ap => ?_⟩
    ·obtain ⟨i,q3,q4⟩:=pk _ _ _ _ _ h
     obtain ⟨p,p0,p1⟩:=hD.2.2.1 _ _ _ _ _ q4;obtain ⟨r1,r2⟩:=hi j i q3;refine ⟨p.move (r1.trans p.io) r2 (fun _ h=>h) (fun _ _=>rfl) fun b hb=>⟨rfl,(p.own b hb).1,fun j2 o2 ho hl => ?_⟩,fun o ho => ?_,by rw [r2];exact p1⟩
     ·obtain ⟨i2,o3,s1,s2,s3⟩:=lv j2 o2 ho hl
      rw [(hi _ _ s1).1];exact (p.own b hb).2 i2 o3 s2 s3
     ·have:=(small j o ho).1
      rw [this] at q3;cases q3
      exact p0 o ho
    ·obtain ⟨i,q3,q4⟩:=pk _ _ _ _ _ h
     obtain ⟨i',Ie,Ox⟩:=pk _ _ _ _ _ h';rw [(hi j i q3).2] at hb
     rw [(hi j' i' Ie).2] at Ap
     refine hD.2.2.2 _ _ _ _ _ _ _ _ _ _ q4 Ox (fun e=>hne ?_) b hb Ap
     subst e;exact aPp hd q3 Ie
  ·cases hp
 ·cases hp

def aBy:List Nat→St→Option St
 | [],st=>some st
 | i::r,st=>match L8 i st with
  | some Ai=>aBy r Ai
  | none=>match fzP i st with
   | some Ai=>aBy r Ai
   | none=>match fzM i st with
    | some Ai=>aBy r Ai
    | none=>none
def nlC(id off ty:Nat)(st:St):Option St:=match st.m[id]? with
 | some (some (.box bty cs))=>match cs[off]? with
  | some (.p (.v (.slice none 0 0)))=>match Nat.beq ty 99999 with
   | true=>some ⟨st.t,aZ st.m id (some (.box bty (cs.set off (.p (.sl 0 [])))))⟩
   | false=>match eZ st.m st.m.length with
    | true=>some ⟨st.t,aZ (aZ st.m st.m.length (some (.row ty 0 []))) id (some (.box bty (cs.set off (.own st.m.length))))⟩
    | false=>none
  | some (.kb b)=>some ⟨st.t,aZ st.m id (some (.box bty (cs.set off (.p (.v (.bool b))))))⟩
  | _=>none
 | _=>none
def nlS(i ty:Nat)(st:St):Option St:=match st.t[i]? with
 | some (.p (.v (.slice none 0 0)))=>match Nat.beq ty 99999 with
  | true=>some ⟨st.t.set i (.p (.sl 0 [])),st.m⟩
  | false=>match eZ st.m st.m.length with
   | true=>some ⟨st.t.set i (.own st.m.length),aZ st.m st.m.length (some (.row ty 0 []))⟩
   | false=>none
 | some (.kb b)=>some ⟨st.t.set i (.p (.v (.bool b))),st.m⟩
 | _=>none
def L9(i ty:Nat)(st:St):Option St:=match Nat.ble 100000 i with
 | true=>nlC ((i-100000) / 1000) ((i-100000) % 1000) ty st
 | false=>match Nat.ble 1000000000 ty with
  | true=>nlP i ((ty-1000000000) / 1000000) ((ty-1000000000) / 100 % 10000) ((ty-1000000000) % 100) st
  | false=>nlS i ty st
def aPq:List (Nat × Nat)→St→Option St
 | [],st=>some st
 | (i,ty)::r,st=>match L9 i ty st with
  | some Ai=>aPq r Ai
  | none=>none
def gh(k:Nat)(g:Gh)(st:St):Option St:=match aBy g.fz st with
 | some st1=>match aPq g.nl st1 with
  | some st2=>pick k g.ids ⟨forget g.fg st2.t,st2.m⟩
  | none=>none
 | none=>none
theorem yF(hM:aW P C M w){id bty off:Nat}{cs:List AV}{x:AV}(hb:M[id]? = some (some (.box bty cs)))(hoff:off<cs.length)
  (hx:∀ u,Rep C M w cs[off] u→Rep C (aZ M id (some (.box bty (cs.set off x)))) w x u):aW P C (aZ M id (some (.box bty (cs.set off x)))) w∧Fr C M w C (aZ M id (some (.box bty (cs.set off x)))) w:=by
 have hold:∀ (i:Nat) (o:AO),i≠id→(aZ M id (some (.box bty (cs.set off x))))[i]? = some (some o)→M[i]? = some (some o):=fun i o h=>(aO M id i _ o (fun e=>h e.symm)).1
 have hnew:∀ (o:AO),(aZ M id (some (.box bty (cs.set off x))))[id]? = some (some o)→o = .box bty (cs.set off x):=fun o h=>by rw [aY] at h;cases h;rfl
 have hliv:∀ (i:Nat) (o:AO),(aZ M id (some (.box bty (cs.set off x))))[i]? = some (some o)→o.live=true→∃ o1,M[i]? = some (some o1)∧o1.live=true:=fun i o h hl=>by
  by_cases e:i=id
  ·subst e;exact ⟨_,hb,rfl⟩
  ·exact ⟨o,hold i o e h,hl⟩
 have f:Fr C M w C (aZ M id (some (.box bty (cs.set off x)))) w:=by
  refine ⟨rfl,rfl,rfl,Bb _,fun _ _ _=>rfl,fun i o h=>⟨?_,rfl,rfl⟩,fun i o h ty n Ma hm => ?_,fun i o h o' h' hl => ?_,fun i o b h hl hbb => ?_,fun b h=>h,fun b h => .inl h⟩
  ·by_cases e:i=id
   ·subst e;exact ⟨_,aY ..⟩
   ·exact ⟨o,(aO M id i _ o (fun e'=>e e'.symm)).2 h⟩
  ·by_cases e:i=id
   ·subst e;cases hnew _ hm
   ·exact ⟨Ma,hold i _ e hm⟩
  ·obtain ⟨o1,q1,q2⟩:=hliv i o' h' hl
   rw [h] at q1;cases q1;exact q2
  ·obtain ⟨o1,q1,q2⟩:=hliv i o h hl
   exact .inr ⟨i,o1,q1,q2,hbb⟩
 have hL:=hM.le f;refine ⟨⟨fun i ty n Ma hm => ?_,fun i ty Ma hm => ?_,fun i es cl hm => ?_,fun i i' o1 o2 b hm hl Cn De h1 h2 => ?_,fun i o b hm hl hbb => ?_,hM.Fs,fun i o b hm hl hbb => ?_,hM.lib.le hL⟩,f⟩
 ·by_cases e:i=id
  ·subst e;cases hnew _ hm
  ·exact hM.row _ _ _ _ (hold i _ e hm)
 ·by_cases e:i=id
  ·subst e
   cases hnew _ hm;obtain ⟨b,arr,q0,q1,q2,q3,q4⟩:=hM.box _ _ _ hb;refine ⟨b,arr,q0,q1,by simpa using q2,fun j hj => ?_,fun j hj=>q4 j (by simpa using hj)⟩
   rw [aUn]
   split
   ·rename_i e2;subst e2;exact hx _ (q3 _ hoff)
   ·exact (q3 j (by simpa using hj)).mono hL
  ·obtain ⟨b,arr,q0,q1,q2,q3,q4⟩:=hM.box _ _ _ (hold i _ e hm)
   exact ⟨b,arr,q0,q1,q2,fun j hj=>(q3 j hj).mono hL,q4⟩
 ·by_cases e:i=id
  ·subst e;cases hnew _ hm
  ·obtain ⟨b,arr,q0,q1,q2,q3⟩:=hM.mp _ _ _ (hold i _ e hm)
   refine ⟨b,arr,q0,q1,q2,fun j hj => ?_⟩
   obtain ⟨en,r1,r2,r3,r4⟩:=q3 j hj;exact ⟨en,r1,r2,r3,r4.mono hL.F hL.fz⟩
 ·obtain ⟨x1,y1,z1⟩:=hliv i o1 hm hl
  obtain ⟨x2,y2,z2⟩:=hliv i' o2 Cn De;exact hM.inj _ _ _ _ _ y1 z1 y2 z2 h1 h2
 ·obtain ⟨x1,y1,z1⟩:=hliv i o hm hl
  exact hM.nF _ _ _ y1 z1 hbb
 ·obtain ⟨x1,y1,z1⟩:=hliv i o hm hl
  exact hM.lt _ _ _ y1 z1 hbb
theorem aSx{id off ty:Nat}{st Ai:St}{a:Act}(h:nlC id off ty st=some Ai)(hs:Sim P C0 M0 w0 st a w):Sim P C0 M0 w0 Ai a w:=by
 obtain ⟨C,hS,hM,hF,hD⟩:=hs;unfold nlC at h
 split at h
 ·rename_i bty cs hi
  split at h
  ·rename_i hc
   split at h
   ·cases h
    obtain ⟨hoff,hcv⟩:=Cf.1 hc;obtain ⟨F7,f2⟩:=yF hM hi hoff (x := .p (.sl 0 [])) (fun u hu=>by
     rw [hcv] at hu
     cases hu with
     | p _ _ h =>
      cases h;exact .p _ _ (.sl 0 [] none 0 (fun _=>undef) (Bb _) (Nat.zero_le _) (fun i hi=>by simp at hi) (fun i hi=>by simp at hi) (fun i hi=>by simp at hi)))
    exact ⟨C,hS.le (hM.le f2),F7,hF.trans f2,hD.fr hM (fF rfl) f2⟩
   ·split at h
    ·rename_i hb
     cases h;have hf:=cU hb;have f:=tK (C:=C) (w:=w) (ty:=ty) hf;have Bq:=tM (ty:=ty) hM hf;have hne:id≠st.m.length:=fun e=>hf _ (e ▸ hi)
     have G0:(aZ st.m st.m.length (some (.row ty 0 [])))[id]? = some (some (.box bty cs)):=(aO st.m st.m.length id _ _ (fun e=>hne e.symm)).2 hi
     obtain ⟨hoff,hcv⟩:=Cf.1 hc;have hnw:(aZ (aZ st.m st.m.length (some (.row ty 0 []))) id (some (.box bty (cs.set off (.own st.m.length)))))[st.m.length]? = some (some (.row ty 0 [])):=(aO _ id st.m.length _ _ hne).2 (aY ..);obtain ⟨F7,f2⟩:=yF Bq G0 hoff (x := .own st.m.length) (fun u hu=>by
      rw [hcv] at hu
      cases hu with
      | p _ _ h =>
       cases h;exact .own _ _ rfl ⟨_,hnw⟩ fun ty n cs h=>by rw [hnw] at h;cases h;exact .inl ⟨rfl,by simp [Cx.nil],rfl⟩)
     exact ⟨C.nil st.m.length,(hS.le (hM.le f)).le (Bq.le f2),F7,(hF.trans f).trans f2,hD.fr hM ((fF rfl).trans (fF rfl)) (f.trans f2)⟩
    ·cases h
  ·rename_i b hc
   cases h;obtain ⟨hoff,hcv⟩:=Cf.1 hc;obtain ⟨F7,f2⟩:=yF hM hi hoff (x := .p (.v (.bool b))) (fun u hu=>by
    rw [hcv] at hu
    cases hu;exact .p _ _ (.v _))
   exact ⟨C,hS.le (hM.le f2),F7,hF.trans f2,hD.fr hM (fF rfl) f2⟩
  ·cases h
 ·cases h
theorem aSy{i ty:Nat}{st Ai:St}{a:Act}(h:nlS i ty st=some Ai)(hs:Sim P C0 M0 w0 st a w):Sim P C0 M0 w0 Ai a w:=by
 obtain ⟨C,hS,hM,hF,hD⟩:=hs;unfold nlS at h
 split at h
 ·rename_i hi
  split at h
  ·cases h
   refine ⟨C,⟨by simpa using hS.size,fun j hj => ?_⟩,hM,hF,hD⟩
   simp only [aNe] at hj
   rw [aUn]
   split
   ·rename_i e
    subst e;have hr:=hS.at hi
    generalize a.tmps.getD i undef=u at hr ⊢
    cases hr with
    | p _ _ h =>
     cases h;exact .p _ _ (.sl 0 [] none 0 (fun _=>undef) (Bb _) (Nat.zero_le _) (fun i hi=>by simp at hi) (fun i hi=>by simp at hi) (fun i hi=>by simp at hi))
   ·exact hS.rep j hj
  ·split at h
   ·rename_i hb
    cases h;have hf:=cU hb;have f:=tK (C:=C) (w:=w) (ty:=ty) hf;have hL:=hM.le f;refine ⟨C.nil st.m.length,⟨by simpa using hS.size,fun j hj => ?_⟩,tM hM hf,hF.trans f,hD.fr hM (fF rfl) f⟩
    simp only [aNe] at hj
    rw [aUn]
    split
    ·rename_i e
     subst e;have hr:=hS.at hi
     generalize a.tmps.getD i undef=u at hr ⊢
     cases hr with
     | p _ _ h =>
      cases h;exact .own _ _ rfl ⟨_,aY ..⟩ fun ty n cs h=>by rw [aY] at h;cases h;exact .inl ⟨rfl,by simp [Cx.nil],rfl⟩
    ·exact (hS.rep j hj).mono hL
   ·cases h
 ·rename_i b hi
  cases h;refine ⟨C,⟨by simpa using hS.size,fun j hj => ?_⟩,hM,hF,hD⟩
  simp only [aNe] at hj
  rw [aUn]
  split
  ·rename_i e
   subst e;have hr:=hS.at hi
   generalize a.tmps.getD i undef=u at hr ⊢
   cases hr;exact .p _ _ (.v _)
  ·exact hS.rep j hj
 ·cases h
theorem aSz{i ty:Nat}{st Ai:St}{a:Act}(h:L9 i ty st=some Ai)(hs:Sim P C0 M0 w0 st a w):Sim P C0 M0 w0 Ai a w:=by
 unfold L9 at h
 split at h
 ·exact aSx h hs
 ·split at h
  ·exact aTe h hs
  ·exact aSy h hs
theorem wE:∀ (l:List (Nat × Nat)) {st Ai:St} {a:Act},aPq l st=some Ai→Sim P C0 M0 w0 st a w→Sim P C0 M0 w0 Ai a w
 | [],st,Ai,a,h,hs=>by cases h;exact hs
 | (i,ty)::r,st,Ai,a,h,hs=>by
  unfold aPq at h
  split at h
  ·rename_i h1
   exact wE r h (aSz h1 hs)
  ·cases h
theorem lC:∀ (l:List Nat) {st Ai:St} {a:Act},aBy l st=some Ai→Sim P C0 M0 w0 st a w→Sim P C0 M0 w0 Ai a w
 | [],st,Ai,a,h,hs=>by cases h;exact hs
 | i::r,st,Ai,a,h,hs=>by
  unfold aBy at h
  split at h
  ·rename_i h1
   exact lC r h (aTf h1 hs)
  ·split at h
   ·rename_i h1
    exact lC r h (aTd h1 hs)
   ·split at h
    ·rename_i h1
     exact lC r h (aTc h1 hs)
    ·cases h
theorem mF{k:Nat}{g:Gh}{st Ai:St}{a:Act}(hk:M0.length≤k)(h:gh k g st=some Ai)(hs:Sim P C0 M0 w0 st a w):Sim P C0 M0 w0 Ai a w:=by
 unfold gh at h
 split at h
 ·rename_i h1
  split at h
  ·rename_i h2
   exact aLm hk h (aEm g.fg (wE _ h2 (lC _ h1 hs)))
  ·cases h
 ·cases h
end
section
variable {P:Program} {T:TT} {E:Env} {C C0:Cx} {M M0:Mem} {w w0:World}

theorem bCf(hM:aW P C M w){w1:World}(hw:w1.heap=w.heap):aW P C M w1∧Le C C M M w w1:=by
 have hL:Le C C M M w w1:=⟨fun _ o h=>⟨o,h⟩,fun _ _ _ _ _ cs h=>⟨cs,h⟩,fun _ o h o' h' hl=>by rw [h] at h';cases h';exact ⟨hl,rfl,rfl⟩,fun _ h=>h,fun _ _=>by rw [hw]⟩
 have hsz:w1.heap.size=w.heap.size:=by rw [hw]
 refine ⟨⟨fun i C3 n cs hm => ?_,fun i C3 cs hm => ?_,fun i es cl hm => ?_,hM.inj,hM.nF,fun b hb=>by rw [hsz];exact hM.Fs b hb,fun i x b hm hl hb=>by rw [hsz];exact hM.lt i x b hm hl hb,hM.lib.le hL⟩,hL⟩
 ·rcases hM.row _ _ _ _ hm with h4 | ⟨b,arr,inf,q0,q1,q2,q3,q4,q5,q6,q7,q8⟩
  ·exact .inl h4
  ·exact .inr ⟨b,arr,inf,q0,by rw [hw];exact q1,q2,q3,q4,q5,q6,fun j hj=>(q7 j hj).mono hL.F hL.fz,q8⟩
 ·obtain ⟨b,arr,q0,q1,q2,q3,q4⟩:=hM.box _ _ _ hm
  exact ⟨b,arr,q0,by rw [hw];exact q1,q2,fun j hj=>(q3 j hj).mono hL,q4⟩
 ·obtain ⟨b,arr,q0,q1,q2,q3⟩:=hM.mp _ _ _ hm
  refine ⟨b,arr,q0,by rw [hw];exact q1,q2,fun j hj => ?_⟩
  obtain ⟨en,r1,r2,r3,r4⟩:=q3 j hj;exact ⟨en,r1,r2,r3,r4.mono hL.F hL.fz⟩
theorem aPo{w1:World}(hw:w1.heap=w.heap)(ho:w1.os=w.os)(ht:w1.tape=w.tape)(hu:w1.output=w.output):Fr C M w C M w1 :=
 ⟨ho,ht,hu,by rw [hw];exact Bb _,fun b _ _=>by rw [hw],fun _ x h=>⟨⟨x,h⟩,rfl,rfl⟩,fun _ _ _ _ _ cs h=>⟨cs,h⟩,fun _ o h o' h' hl=>by rw [h] at h';cases h';exact hl,fun i x _ h hl hb => .inr ⟨i,x,h,hl,hb⟩,fun _ h=>h,fun _ h => .inl h⟩

theorem Sim.drawn{st:St}{a:Act}(h:Sim P C0 M0 w0 st a w)(k:Nat):Sim P C0 M0 w0 st a { w with drawn:=k }:=by
 obtain ⟨C,hS,hM,hF,hD⟩:=h;obtain ⟨m,l⟩:=bCf hM (w1:={ w with drawn:=k }) rfl
 exact ⟨C,hS.le l,m,hF.trans (aPo rfl rfl rfl rfl),hD.fr hM .refl (aPo rfl rfl rfl rfl)⟩

def bJk(ops:Array Oper)(k:Nat)(o:Oper):List Oper→Bool
 | []=>true
 | y::r=>(o.apart ops y || y.after.toList.any fun e=>Region.binds .any e && e.on == k) && bJk ops k o r
def bJl(ops:Array Oper):Nat→List Oper→Bool
 | _,[]=>true
 | k,o::r=>(o.after.toList.all fun e => !Region.binds .any e || Nat.blt e.on k) && bJk ops k o r && bJl ops (k+1) r
def bQw(ops:Array Oper):Bool:=Region.noSelect ops && bJl ops 0 ops.toList
theorem aBu{ops:Array Oper}{k:Nat}{o:Oper}:∀ {r:List Oper},bJk ops k o r=true→∀ y∈r,(y.after.any fun e=>Region.binds .any e && e.on == k)=true∨o.apart ops y=true
 | [],_,y,hy=>by cases hy
 | z::r,h,y,hy=>by
  unfold bJk at h
  rw [B0,aBp] at h
  rcases lA.1 hy with rfl | hy
  ·rcases h.1 with h1 | h1
   ·exact .inr h1
   ·rw [Array.any_toList] at h1;exact .inl h1
  ·exact aBu h.2 y hy
theorem aBv{ops:Array Oper}:∀ (r:List Oper) (k:Nat) (listed:Array Bool),ops.toList.drop k=r→k+r.length=ops.size→listed.size=ops.size→(∀ j,j<ops.size→listed[j]? = some (decide (j<k))) →
  bJl ops k r=true→Region.lexFrom .any ops r.length k listed=true
 | [],k,listed,hd,hk,hz,hl,h=>by
  show (Region.ready .any ops listed).isEmpty=true;unfold Region.ready;rw [List.isEmpty_iff,List.filter_eq_nil_iff];intro i hi;have hi:=aUo.1 hi;have h1:listed.getD i true=true:=by
   rw [Bw,hl i hi];have:k=ops.size:=by simpa using hk
   simp;omega
  rw [h1];simp
 | o::r,k,listed,hd,hk,hz,hl,h=>by
  unfold bJl at h
  rw [B0,B0] at h
  obtain ⟨⟨h1,h2⟩,h3⟩:=h;rw [eT] at hk
  have hko:ops[k]? = some o:=by
   have:(ops.toList.drop k)[0]? = some o:=by rw [hd];rfl
   rw [List.getElem?_drop] at this
   simpa using this
  have hdr:ops.toList.drop (k+1)=r:=by
   have:=congrArg List.tail hd;rw [List.tail_drop] at this
   exact this
  have hlk:listed.getD k true=false:=by
   rw [Bw,hl k (by omega)];simp
  show ((Region.ready .any ops listed).contains k && Region.free .any ops listed k && Region.lexFrom .any ops r.length (k+1) (listed.setIfInBounds k true))=true;rw [B0,B0];refine ⟨⟨?_,?_⟩,?_⟩
  ·rw [List.contains_iff_mem]
   unfold Region.ready;rw [List.mem_filter];refine ⟨aUo.2 (by omega),?_⟩
   rw [hlk,hko];show (!false && o.after.all fun e => !Region.binds .any e || listed.getD e.on false)=true
   rw [Bool.not_false,aUp,← Array.all_toList,iD];intro e he;have:=iD.1 h1 e he;rw [aBp] at this ⊢
   rcases this with q | q
   ·exact .inl q
   ·have q:e.on<k:=by simpa using q
    refine .inr ?_;rw [Bw,hl e.on (by omega)]
    simp [q]
  ·unfold Region.free
   rw [hko];show ((List.range ops.size).all _)=true;rw [iD];intro j hj;have hj:=aUo.1 hj
   rcases Nat.lt_trichotomy j k with q | q | q
   ·have:listed.getD j true=true:=by rw [Bw,hl j hj];simp [q]
    rw [this];simp
   ·subst q;simp
   ·obtain ⟨y,hy⟩:∃ y,ops[j]? = some y:=⟨_,rA hj⟩
    rw [hy];have hm:y∈r:=by
     rw [← hdr];have:(ops.toList.drop (k+1))[j-(k+1)]? = some y:=by
      rw [List.getElem?_drop,show k+1+(j-(k+1))=j by omega]
      simpa using hy
     exact Ch this
    have:=aBu h2 y hm;show (j == k || listed.getD j true || ((y.after.any fun e=>Region.binds .any e && e.on == k) || o.apart ops y))=true
    rw [aBp,aBp (_) (o.apart ops y)];exact .inr this
  ·refine aBv r (k+1) _ hdr (by omega) (by rw [Array.size_setIfInBounds];exact hz) (fun j hj => ?_) h3
   rw [Array.getElem?_setIfInBounds]
   by_cases q:k=j
   ·subst q
    rw [if_pos rfl,if_pos (by omega)];simp
   ·rw [if_neg q,hl j hj]
    congr 1
    rw [decide_eq_decide];omega
theorem aSu{ops:Array Oper}(h:bQw ops=true):Region.lexB .any ops=true:=by
 unfold bQw at h
 rw [B0] at h
 unfold Region.lexB;rw [B0];refine ⟨h.1,?_⟩;have:=aBv ops.toList 0 (Array.replicate ops.size false) rfl (by simp) (by simp) (fun j hj=>by simp [hj]) h.2
 simpa using this
def bJm(P:Program)(T:TT)(E:Env)(ops:Array Oper)(draw:Bool)(st:St):Ask St:=match draw with
 | false=>bJs P T E ops.toList ops.toList st
 | true=>do
  lift (if bQw ops then some () else none)
  let r ← aLp P T E ops.toList ops.toList st.m.length st
  lift (if aEo ops 0 r.1 then some () else none)
  pure r.2

def Ex.toExit:Ex→Exit
 | .normal => .normal
 | .ret => .ret
 | .exit id => .exit id

def aBw(body:St→Ask (Ex × St)):Nat→St→Ask (Ex × St)
 | 0,_=>fail
 | n+1,st=>do
  let r ← body st
  match r.1 with
  | .normal=>aBw body n r.2
  | e=>pure (e,r.2)

def nrf:Code→Bool
 | .region _ _ _=>true
 | .seq a b=>nrf a && nrf b
 | .cond _ a b=>nrf a && nrf b
 | .block _ b=>nrf b
 | .loop b=>nrf b
 | .scope b=>nrf b
 | .rangeFunc _ _ _ _=>false
 | _=>true
def jS(ro:Option Nat)(c:Code):Prop:=ro=none∨nrf c=true
section
variable {ro:Option Nat} {a b:Code} {x:Operand} {id:Nat}
theorem jS.seq1(h:jS ro (.seq a b)):jS ro a:=h.imp (fun h=>h) fun h=>by unfold nrf at h;rw [B0] at h;exact h.1
theorem jS.seq2(h:jS ro (.seq a b)):jS ro b:=h.imp (fun h=>h) fun h=>by unfold nrf at h;rw [B0] at h;exact h.2
theorem jS.cond1(h:jS ro (.cond x a b)):jS ro a:=h.imp (fun h=>h) fun h=>by unfold nrf at h;rw [B0] at h;exact h.1
theorem jS.cond2(h:jS ro (.cond x a b)):jS ro b:=h.imp (fun h=>h) fun h=>by unfold nrf at h;rw [B0] at h;exact h.2
theorem jS.block(h:jS ro (.block id b)):jS ro b:=h
theorem jS.loop(h:jS ro (.loop b)):jS ro b:=h
theorem jS.scope(h:jS ro (.scope b)):jS ro b:=h
end

def aA(P:Program)(k:Nat)(c:Code)(st:St)(e:Ex)(Ai:St):Prop:=∀ (C0:Cx) (M0:Mem) (w0:World) (a:Act) (w:World),M0.length≤k→Sim P C0 M0 w0 st a w→∀ (ro:Option Nat),jS ro c→∀ (n:Nat),c.wpIn (Fen ro) n P (fun e' a' w'=>e'=e.toExit∧Sim P C0 M0 w0 Ai a' w') a w

def aBd(P:Program)(k:Nat)(c:Code)(m:St→Ask (Ex × St))(st:St):Ask (Ex × St):=fun s=>match s.auto with
 | true=>m st s
 | false=>match s.o with
  | .k 0 g e Ai::r=>match gh k g st with
   | some st1=>some ((e,Ai),{ s with o:=r,obs:=aA P k c st1 e Ai::s.obs })
   | none=>none
  | .k (n+1) g e Ai::r=>m st { s with o := .k n g e Ai::r }
  | .g 0 g::r=>match gh k g st with
   | some st1=>m st1 { s with o:=r }
   | none=>none
  | .g (n+1) g::r=>m st { s with o := .g n g::r }
  | _=>m st s
def oS{α:Type}(m:Ask α):Ask α:=fun s=>match s.auto with
 | true=>m s
 | false=>none

def xB(P:Program)(T:TT)(E:Env)(k fuel:Nat):Code→St→Ask (Ex × St)
 | .skip,st=>pure (.normal,st)
 | .region id ops d,st=>aBd P k (.region id ops d) (fun st=>do let Ai ← bJm P T E ops d st;pure (.normal,Ai)) st
 | .seq a b,st=>aBd P k (.seq a b) (fun st=>do
  let r ← xB P T E k fuel a st
  match r.1 with
  | .normal=>xB P T E k fuel b r.2
  | e=>pure (e,r.2)) st
 | .cond c a b,st=>aBd P k (.cond c a b) (fun st=>do
  let x ← lift (ev st c)
  let d ← aMx x
  match d with
  | true=>xB P T E k fuel a st
  | false=>xB P T E k fuel b st) st
 | .block id b,st=>aBd P k (.block id b) (fun st=>do
  let r ← xB P T E k fuel b st
  match r.1 with
  | .exit i=>match Nat.beq i id with
   | true=>pure (.normal,r.2)
   | false=>pure (.exit i,r.2)
  | e=>pure (e,r.2)) st
 | .loop b,st=>aBd P k (.loop b) (fun st=>oS (aBw (fun st=>xB P T E k fuel b st) fuel st)) st
 | .exit id,st=>pure (.exit id,st)
 | .label _,st=>pure (.normal,st)
 | .scope b,st=>xB P T E k fuel b st
 | .ret,st=>pure (.ret,st)
 | c,st=>aBd P k c (fun _=>fail) st

theorem aA.pre{k:Nat}{c:Code}{st st1 Ai:St}{e:Ex}{g:Gh}(hg:gh k g st=some st1)(h:aA P k c st1 e Ai):aA P k c st e Ai:=fun C0 M0 w0 a w hk hs ro hro n=>h C0 M0 w0 a w hk (mF hk hg hs) ro hro n
theorem aA.post{k:Nat}{c:Code}{st st1 Ai:St}{e:Ex}{g:Gh}(hg:gh k g st1=some Ai)(h:aA P k c st e st1):aA P k c st e Ai:=fun C0 M0 w0 a w hk hs ro hro n=>wpIn_mono (h C0 M0 w0 a w hk hs ro hro n) (fun _ _ _ hq=>⟨hq.1,mF hk hg hq.2⟩)
theorem iO{k:Nat}{c:Code}{m:St→Ask (Ex × St)}(hm:∀ {st Ai:St} {e:Ex} {s s':AS},m st s=some ((e,Ai),s')→bA s'→aA P k c st e Ai){st Ai:St}{e:Ex}{s s':AS}(h:aBd P k c m st s=some ((e,Ai),s'))(g:bA s'):aA P k c st e Ai:=by
 unfold aBd at h
 cases ha:s.auto with
 | true=>rw [ha] at h;exact hm h g
 | false =>
  rw [ha] at h
  dsimp only at h
  split at h
  ·split at h
   ·rename_i hg
    cases h;exact (g.tail.1).pre hg
   ·cases h
  ·exact hm h g
  ·split at h
   ·rename_i hg
    exact (hm h g).pre hg
   ·cases h
  ·exact hm h g
  ·exact hm h g
theorem kK{k:Nat}{c:Code}{m:St→Ask (Ex × St)}(hm:∀ st,bX (m st))(st:St):bX (aBd P k c m st):=fun s r s' h p hp=>by
 unfold aBd at h
 cases ha:s.auto with
 | true=>rw [ha] at h;exact hm _ _ _ _ h p hp
 | false =>
  rw [ha] at h
  dsimp only at h
  split at h
  ·split at h
   ·cases h;exact C7 _ hp
   ·cases h
  ·exact hm _ _ _ _ h p hp
  ·split at h
   ·exact hm _ _ _ _ h p hp
   ·cases h
  ·exact hm _ _ _ _ h p hp
  ·exact hm _ _ _ _ h p hp
theorem aSv{α:Type}{m:Ask α}(hm:bX m):bX (oS m):=fun s r s' h p hp=>by
 unfold oS at h
 split at h
 ·exact hm _ _ _ h p hp
 ·cases h
theorem bCg{α:Type}{m:Ask α}{s s':AS}{r:α}(h:oS m s=some (r,s')):m s=some (r,s'):=by
 unfold oS at h
 split at h
 ·exact h
 ·cases h

theorem aLk(hT:∀ t i,T t=some i→cL P t=some i)(hE:oF P E)(hm:P.follows .mixedOrders=true){id:Nat}{ops:Array Oper}{d:Bool}{st Ai:St}{s s':AS}(h:bJm P T E ops d st s=some (Ai,s'))(g:bA s'){k:Nat}:aA P k (.region id ops d) st .normal Ai:=by
 intro C0 M0 w0 a w _ hs ro hro n;cases d with
 | false =>
  refine wpIn_region ?_;have:=yS hT hE ops.toList 0 (fun j=>by simp) h g C0 M0 w0 a w hs ro n (fun e' a' w'=>e'=Ex.normal.toExit∧Sim P C0 M0 w0 Ai a' w') (fun a' w' h'=>⟨rfl,h'⟩)
  simpa using this
 | true =>
  obtain ⟨_,s1,h1,k1⟩:=aC h;obtain ⟨e1,rfl⟩:=aE h1;obtain ⟨r,s2,h2,k2⟩:=aC k1;obtain ⟨_,s3,h3,k3⟩:=aC k2;obtain ⟨e3,rfl⟩:=aE h3;obtain ⟨rfl,rfl⟩:=aH k3;obtain ⟨hB,_⟩:=bW e1;obtain ⟨hA,_⟩:=bW e3;obtain ⟨os,hfts,hlex⟩:=yG ops.toList _ (fts:=r.1) (fin:=r.2) h2 g
  replace hB:=aSu hB
  unfold Region.lexB at hB
  rw [B0] at hB
  have hlen:os.length=ops.toList.length:=by
   have:∀ {l:List Oper} {id:Nat} {st:St} {os:List xC} {fin:St},aTg P T E ops.toList id l st os fin→os.length=l.length:=by
    intro l
    induction l with
    | nil=>intro id st os fin h;cases h;rfl
    | cons o l ih=>intro id st os fin h;cases h with | cons _ _ _ _ q os _ h hr=>simp [ih hr]
   exact this hlex
  have key:sX P T E ops.toList st.m.length (fun k=>os.getD k (.any,[],none)) r.2 ops.toList.length (Array.replicate ops.size false) st:=by
   refine sX.lex ops.toList 0 _ st os (fun j=>by simp) (fun j q hj=>by simp [tV,hj]) (fun j hj=>absurd hj (Nat.not_lt_zero _)) (fun j oj hj hl => ?_) (fun i j _ hij hj => ?_) (by simpa using hB.2) (by simpa [ido] using hlex)
   ·exfalso
    rcases Nat.lt_or_ge j ops.size with h' | h'
    ·simp [h'] at hl
    ·simp [Nat.not_lt.2 h'] at hl
   have Gz:j<os.length:=by
    rw [hlen];obtain ⟨o,ho⟩:=Option.isSome_iff_exists.1 hj;exact (Cf.1 ho).1
   have:=wG r.1 0 hA i j (aLn os[i]) (aLn os[j]) hij (by rw [hfts,tX,B4 (by omega)];rfl) (by rw [hfts,tX,B4 Gz];rfl)
   rw [iT,iT] at this
   simp only [tV,B4 Gz,B4 (show i<os.length by omega),Option.getD_some,Array.toArray_toList]
   exact this
  refine wpIn_region_any hm ?_;have:=sX.sound hT hE (C0:=C0) (M0:=M0) (w0:=w0) (ro:=ro) (n:=n) (Q:=fun e' a' w'=>e'=Ex.normal.toExit∧Sim P C0 M0 w0 r.2 a' w') (fun a' w' h'=>⟨rfl,h'⟩) _ _ _ a _ key (hs.drawn (w.drawn+1))
  simpa using this

theorem gJ{b:Frame}{a:Act}{k:List Item}{cs:List Frame}{c:Code}:step P (lone (b.atR a (.code (.scope c)::k)) cs w) = .next (lone (b.atR a (.code c :: .inScope c::k)) cs w) :=
 step_lone_go (by simp [stepG,stepG.exec,Frame.atR])
theorem aBe{b:Frame}{a:Act}{k:List Item}{cs:List Frame}{c:Code}:step P (lone (b.atR a (.inScope c::k)) cs w) = .next (lone (b.atR a k) cs w) :=
 step_lone_go (by simp [stepG,stepG.exec,Frame.atR])
theorem aLl{F:Fence}{n:Nat}{c:Code}{Q:Exit→Act→World→Prop}{a:Act}(h:c.wpIn F n P (fun e a w=>(∀ l,e ≠ .goto l)∧Q e a w) a w):(Code.scope c).wpIn F n P Q a w:=by
 intro b k cs hro hb hr;have h0:(lone (b.atR a (.code (.scope c)::k)) cs w).fenced P F:=fenced_calm hb hr rfl;obtain ⟨e,a₁,w₁,⟨hg,hq⟩,harr⟩:=h b (.inScope c::k) cs hro hb hr;cases e with
 | normal=>exact ⟨.normal,a₁,w₁,hq,.head h0 gJ (StepsIn.trans harr (.one (fenced_calm hb hr rfl) aBe))⟩
 | exit id =>
  have hx:exitTo id (.inScope c::k)=exitTo id k:=by simp [exitTo]
  exact ⟨.exit id,a₁,w₁,hq,fun k' hk => .head h0 gJ (harr.1 k' (by rw [hx];exact hk)),
   fun Dv hk=>let ⟨k₁,h1,h2⟩:=harr.2 Dv (by rw [hx];exact hk);⟨k₁,h1,.head h0 gJ h2⟩⟩
 | goto l=>exact absurd rfl (hg l)
 | ret=>exact ⟨_,a₁,w₁,hq,.of_steps (.one h0 gJ) harr⟩
 | panic ch=>exact ⟨_,a₁,w₁,hq,.of_steps (.one h0 gJ) harr⟩
 | outgrown=>exact ⟨_,a₁,w₁,hq,.of_steps (.one h0 gJ) harr⟩

def LoopIn(F:Fence)(n:Nat)(P:Program)(c:Code)(Q:Exit→Act→World→Prop)(a:Act)(w:World):Prop :=
 ∀ (b:Frame) (k:List Item) (cs:List Frame),b.roundOf=F.round→F.fn b.fn→F.room (cs.length+1+n) →
  ∃ e a' w',Q e a' w'∧ArrivesIn (Machine.fenced P F) P (lone (b.atR a (.code c :: .inLoop c::k)) cs w) b k cs e a' w'

theorem LoopIn.step{F:Fence}{n:Nat}{c:Code}{Q:Exit→Act→World→Prop}{a:Act}(h:c.wpIn F n P (Exit.then (LoopIn F n P c Q) Q) a w):LoopIn F n P c Q a w:=by
 intro b k cs hro hb hr;obtain ⟨e,a₁,w₁,hq,harr⟩:=h b (.inLoop c::k) cs hro hb hr;cases e with
 | normal =>
  obtain ⟨e₂,a₂,w₂,hq₂,harr₂⟩:=hq b k cs hro hb hr;exact ⟨e₂,a₂,w₂,hq₂,.of_steps (StepsIn.trans harr (.one (fenced_calm hb hr rfl) stepR_inLoop)) harr₂⟩
 | exit id=>exact ⟨_,a₁,w₁,hq,.pass (x := .inLoop c) rfl (fun _ _ => .inl (by simp)) harr⟩
 | goto l=>exact ⟨_,a₁,w₁,hq,.pass (x := .inLoop c) rfl (fun _ _ => .inl (by simp)) harr⟩
 | ret=>exact ⟨_,a₁,w₁,hq,.pass (x := .inLoop c) rfl (fun _ _ => .inl (by simp)) harr⟩
 | panic ch=>exact ⟨_,a₁,w₁,hq,.pass (x := .inLoop c) rfl (fun _ _ => .inl (by simp)) harr⟩
 | outgrown=>exact ⟨_,a₁,w₁,hq,.pass (x := .inLoop c) rfl (fun _ _ => .inl (by simp)) harr⟩
theorem LoopIn.wp{F:Fence}{n:Nat}{c:Code}{Q:Exit→Act→World→Prop}{a:Act}(h:LoopIn F n P c Q a w):(Code.loop c).wpIn F n P Q a w:=by
 intro b k cs hro hb hr;obtain ⟨e,a',w',hq,harr⟩:=h b k cs hro hb hr;exact ⟨e,a',w',hq,.of_steps (.one (fenced_calm hb hr rfl) stepR_loop) harr⟩
end
section
variable {P:Program} {T:TT} {E:Env} {C C0:Cx} {M M0:Mem} {w w0:World}

theorem aSt{ops:Array Oper}{d:Bool}{st:St}:bX (bJm P T E ops d st):=by
 unfold bJm;split
 ·exact uV
 ·exact aG fun _=>bB mI fun _=>aG fun _=>aI _
theorem rV{b:St→Ask (Ex × St)}(h:∀ st,bX (b st)):∀ (n:Nat) (st:St),bX (aBw b n st)
 | 0,_=>aP
 | n+1,st=>by
  unfold aBw;refine bB (h st) fun r => ?_
  split
  ·exact rV h n _
  ·exact aI _
theorem qG{k fuel:Nat}:∀ (c:Code) (st:St),bX (xB P T E k fuel c st):=by
 intro c
 induction c with
 | skip=>exact fun st=>aI _
 | region id ops d=>exact kK fun st=>bB aSt fun _=>aI _
 | seq a b iha ihb =>
  refine kK fun st => ?_
  refine bB (iha st) fun r => ?_
  split
  ·exact ihb _
  ·exact aI _
 | cond c a b iha ihb =>
  refine kK fun st => ?_
  refine aG fun _=>bB aLz fun _ => ?_
  split
  ·exact iha _
  ·exact ihb _
 | block id b ih =>
  refine kK fun st => ?_
  refine bB (ih st) fun r => ?_
  split
  ·split <;> exact aI _
  ·exact aI _
 | loop b ih=>exact kK fun st=>aSv (rV ih _ _)
 | exit id=>exact fun st=>aI _
 | label l=>exact fun st=>aI _
 | scope b ih=>exact ih
 | ret=>exact fun st=>aI _
 | _=>exact kK fun st=>aP

theorem wD{K:Nat}{c:Code}{b:St→Ask (Ex × St)}(hm:∀ st,bX (b st))(h:∀ {st e Ai s s'},b st s=some ((e,Ai),s')→bA s'→aA P K c st e Ai):∀ (n:Nat) {st:St} {e:Ex} {Ai:St} {s s':AS},aBw b n st s=some ((e,Ai),s')→bA s' →
  ∀ (C0:Cx) (M0:Mem) (w0:World) (a:Act) (w:World),M0.length≤K→Sim P C0 M0 w0 st a w→∀ (ro:Option Nat),jS ro c→∀ (k:Nat),LoopIn (Fen ro) k P c (fun e' a' w'=>e'=e.toExit∧e' ≠ .normal∧Sim P C0 M0 w0 Ai a' w') a w
 | 0,st,e,Ai,s,s',h0,_=>(aR h0).elim
 | n+1,st,e,Ai,s,s',h0,g=>by
  intro C0 M0 w0 a w hK hs ro hro k;unfold aBw at h0
  obtain ⟨⟨e1,st1⟩,s1,h1,k1⟩:=aC h0;refine LoopIn.step ?_;cases e1 with
  | normal =>
   have g1:=(rV hm n st1).good k1 g;have ih:=wD hm h n k1 g C0 M0 w0;refine wpIn_mono (h h1 g1 C0 M0 w0 a w hK hs ro hro k) ?_;rintro e' a' w' ⟨rfl,B6⟩;exact ih a' w' hK B6 ro hro k
  | ret =>
   obtain ⟨he,rfl⟩:=aH k1;cases he;refine wpIn_mono (h h1 g C0 M0 w0 a w hK hs ro hro k) ?_;rintro e' a' w' ⟨rfl,B6⟩;exact ⟨rfl,nofun,B6⟩
  | exit id =>
   obtain ⟨he,rfl⟩:=aH k1;cases he;refine wpIn_mono (h h1 g C0 M0 w0 a w hK hs ro hro k) ?_;rintro e' a' w' ⟨rfl,B6⟩;exact ⟨rfl,nofun,B6⟩

theorem yD(hT:∀ t i,T t=some i→cL P t=some i)(hE:oF P E)(hm:P.follows .mixedOrders=true){k fuel:Nat}:∀ (c:Code) {st:St} {e:Ex} {Ai:St} {s s':AS},xB P T E k fuel c st s=some ((e,Ai),s')→bA s'→aA P k c st e Ai:=by
 intro c
 induction c with
 | skip =>
  intro st e Ai s s' h g C0 M0 w0 a w hk hs ro hro n;obtain ⟨he,rfl⟩:=aH h;cases he;exact wpIn_skip ⟨rfl,hs⟩
 | region id ops d =>
  intro st e Ai s s' h g;refine iO ?_ h g;intro st Ai e s s' h g;obtain ⟨st1,s1,h1,k1⟩:=aC h;obtain ⟨he,rfl⟩:=aH k1;cases he;exact aLk hT hE hm h1 g
 | seq a b iha ihb =>
  intro st e Ai s s' h g;refine iO ?_ h g;intro st Ai e s s' h g C0 M0 w0 ac w hk hs ro hro n;obtain ⟨⟨e1,st1⟩,s1,h1,k1⟩:=aC h;refine wpIn_seq ?_;cases e1 with
  | normal =>
   have g1:=(qG b st1).good k1 g;refine wpIn_mono (iha h1 g1 C0 M0 w0 ac w hk hs ro hro.seq1 n) ?_;rintro e' a' w' ⟨rfl,B6⟩;exact ihb k1 g C0 M0 w0 a' w' hk B6 ro hro.seq2 n
  | ret =>
   obtain ⟨he,rfl⟩:=aH k1;cases he;refine wpIn_mono (iha h1 g C0 M0 w0 ac w hk hs ro hro.seq1 n) ?_;rintro e' a' w' ⟨rfl,B6⟩;exact ⟨rfl,B6⟩
  | exit id =>
   obtain ⟨he,rfl⟩:=aH k1;cases he;refine wpIn_mono (iha h1 g C0 M0 w0 ac w hk hs ro hro.seq1 n) ?_;rintro e' a' w' ⟨rfl,B6⟩;exact ⟨rfl,B6⟩
 | cond c a b iha ihb =>
  intro st e Ai s s' h g;refine iO ?_ h g;intro st Ai e s s' h g C0 M0 w0 ac w hk hs ro hro n;obtain ⟨x,s1,h1,k1⟩:=aC h;obtain ⟨e1,rfl⟩:=aE h1;obtain ⟨d,s2,h2,k2⟩:=aC k1;have Hm:=hs;obtain ⟨C,hS,_⟩:=Hm;cases d with
  | true =>
   obtain ⟨hb,_⟩:=nW (hS.ev e1) h2 ((qG a st).good k2 g);exact wpIn_cond_true hb (iha k2 g C0 M0 w0 ac w hk hs ro hro.cond1 n)
  | false =>
   obtain ⟨hb,_⟩:=nW (hS.ev e1) h2 ((qG b st).good k2 g);exact wpIn_cond_false hb (ihb k2 g C0 M0 w0 ac w hk hs ro hro.cond2 n)
 | block id b ih =>
  intro st e Ai s s' h g;refine iO ?_ h g;intro st Ai e s s' h g C0 M0 w0 ac w hk hs ro hro n;obtain ⟨⟨e1,st1⟩,s1,h1,k1⟩:=aC h;refine wpIn_block ?_;cases e1 with
  | normal =>
   obtain ⟨he,rfl⟩:=aH k1;cases he;refine wpIn_mono (ih h1 g C0 M0 w0 ac w hk hs ro hro.block n) ?_;rintro e' a' w' ⟨rfl,B6⟩;exact ⟨rfl,B6⟩
  | ret =>
   obtain ⟨he,rfl⟩:=aH k1;cases he;refine wpIn_mono (ih h1 g C0 M0 w0 ac w hk hs ro hro.block n) ?_;rintro e' a' w' ⟨rfl,B6⟩;exact ⟨rfl,B6⟩
  | exit i =>
   dsimp only at k1
   cases hb:Nat.beq i id with
   | true =>
    rw [hb] at k1
    obtain ⟨he,rfl⟩:=aH k1;cases he;have hid:i=id:=Nat.eq_of_beq_eq_true hb;refine wpIn_mono (ih h1 g C0 M0 w0 ac w hk hs ro hro.block n) ?_;rintro e' a' w' ⟨rfl,B6⟩;simp only [Ex.toExit,Exit.inBlock,hid,if_true];exact ⟨trivial,B6⟩
   | false =>
    rw [hb] at k1
    obtain ⟨he,rfl⟩:=aH k1;cases he;have hid:i≠id:=Nat.ne_of_beq_eq_false hb;refine wpIn_mono (ih h1 g C0 M0 w0 ac w hk hs ro hro.block n) ?_;rintro e' a' w' ⟨rfl,B6⟩;simp only [Ex.toExit,Exit.inBlock,hid,if_false];exact ⟨trivial,B6⟩
 | loop b ih =>
  intro st e Ai s s' h g;refine iO ?_ h g;intro st Ai e s s' h g C0 M0 w0 ac w hk hs ro hro n;refine wpIn_mono (LoopIn.wp (wD (qG b) ih fuel (bCg h) g C0 M0 w0 ac w hk hs ro hro.loop n)) ?_;rintro e' a' w' ⟨h1,_,h2⟩;exact ⟨h1,h2⟩
 | exit id =>
  intro st e Ai s s' h g C0 M0 w0 a w hk hs ro hro n;obtain ⟨he,rfl⟩:=aH h;cases he;exact wpIn_exit ⟨rfl,hs⟩
 | label l =>
  intro st e Ai s s' h g C0 M0 w0 a w hk hs ro hro n;obtain ⟨he,rfl⟩:=aH h;cases he;exact wpIn_label ⟨rfl,hs⟩
 | scope b ih =>
  intro st e Ai s s' h g C0 M0 w0 a w hk hs ro hro n;refine aLl (wpIn_mono (ih h g C0 M0 w0 a w hk hs ro hro.scope n) ?_);rintro e' a' w' ⟨rfl,B6⟩;exact ⟨fun l=>by cases e <;> simp [Ex.toExit],rfl,B6⟩
 | ret =>
  intro st e Ai s s' h g C0 M0 w0 a w hk hs ro hro n;obtain ⟨he,rfl⟩:=aH h;cases he;exact wpIn_ret ⟨rfl,hs⟩
 | _ =>
  intro st e Ai s s' h g;refine iO ?_ h g;intro st Ai e s s' h g;exact (aR h).elim
end
section
variable {P:Program} {T:TT} {E:Env} {C C0:Cx} {M M0:Mem} {w w0:World}

def cAi(T:TT)(st:St):ResultVar→Ask AV
 | .tmp t=>lift st.t[t]?
 | .cell a t=>do
  let x ← lift st.t[a]?
  vload T st.m t x
def aLh(T:TT)(st:St):List ResultVar→Ask (List AV)
 | []=>pure []
 | r::l=>do
  let x ← cAi T st r
  let xs ← aLh T st l
  pure (x::xs)
def bCe:List AV→AV
 | [x]=>x
 | l => .tup l

def yA:Mem→Bool
 | []=>true
 | some (.pk _ _ _ _)::_=>false
 | _::r=>yA r
theorem gH:∀ {m:Mem},yA m=true→xD m
 | [],_,i,o,h=>by simp at h
 | none::r,hm,i,o,h=>by
  cases i with
  | zero=>simp at h
  | succ i=>exact gH (m:=r) hm i o (by simpa using h)
 | some x::r,hm,i,o,h=>by
  cases i with
  | zero =>
   simp at h;subst h
   cases x with
   | pk=>simp [yA] at hm
   | _=>rfl
  | succ i =>
   refine gH (m:=r) ?_ i o (by simpa using h)
   cases x with
   | pk=>simp [yA] at hm
   | _=>simpa [yA] using hm
def aLi(P:Program)(T:TT)(E:Env)(fuel:Nat)(fn:Func)(c:Code)(args:List AV)(m:Mem):Ask (AV × Mem):=do
 lift (if yA m=true then some () else none)
 let r ← xB P T E m.length fuel c ⟨args++List.replicate (fn.ntmps-args.length) .any,m⟩
 match r.1 with
 | .exit _=>fail
 | _=>do
  let l ← aLh T r.2 fn.results.toList
  pure (bCe l,r.2.m)

def FMM(P:Program)(f:Nat)(args:List AV)(M:Mem)(r:AV)(M':Mem):Prop :=
 ∀ (C:Cx) (w:World) (us:List Value),cS C M w args us→aW P C M w→∀ n,CallsIn Fence.wide n P f us.toArray w (fun e w'=>∃ u,e = .returned u∧∃ C',Fr C M w C' M' w'∧aW P C' M' w'∧Rep C' M' w' r u)

def rU(P:Program)(f:Nat)(args:List AV)(M:Mem)(r:AV)(M':Mem):Prop :=
 ∀ (C:Cx) (w:World) (us:List Value),cS C M w args us→aW P C M w→∀ n,CallsIn Fence.wide n P f us.toArray w (fun e w'=>∃ u,e = .returned u∧∃ C',Fr C M w C' M' w'∧aW P C' M' w'∧Rep C' M' w' r u∧kP (C.with []) M M' C' w w')
theorem rU.fmm{f:Nat}{args:List AV}{M M':Mem}{r:AV}(h:rU P f args M r M'):FMM P f args M r M':=fun C w us hus hM n=>(h C w us hus hM n).mono fun _ w' ⟨u,q,C',h1,h2,h3,_⟩=>⟨u,q,C',h1,h2,h3⟩

theorem uT{st:St}:∀ (l:List ResultVar),bX (aLh T st l)
 | []=>aI _
 | r::l=>by
  unfold aLh;refine bB ?_ fun _=>bB (uT l) fun _=>aI _
  cases r with
  | tmp t=>exact kM _
  | cell a t=>exact aG fun _=>yV

def yB(tmps:Array Value):ResultVar→Sem Value
 | .tmp t=>pure (tmps.getD t undef)
 | .cell a t=>do loadVar t (← asAddr (tmps.getD a undef))

theorem aSs{t:Nat}{y x:AV}{u:Value}{s s':AS}(h:vload T M t y s=some (x,s'))(hy:Rep C M w y u):∃ p,u = .pointer (some p):=by
 unfold vload at h
 obtain ⟨i,s1,h1,k1⟩:=aC h
 split at k1
 ·rename_i id off
  obtain ⟨o,s2,h2,k2⟩:=aC k1;obtain ⟨e2,rfl⟩:=aE h2;have hl:o.live=true:=by
   cases o with
   | dead=>exact (aR k2).elim
   | _=>rfl
  obtain ⟨b,hu,_⟩:=fG hy (gG (dO e2) hl);exact ⟨_,hu⟩
 ·cases hy;exact ⟨_,rfl⟩
 ·exact (aR k1).elim

theorem aLj(hT:∀ t i,T t=some i→cL P t=some i)(hM:aW P C M w){ts:List AV}{us:Array Value}(hS:cP C M w ts us){r:ResultVar}{x:AV}{s s':AS}(h:cAi T ⟨ts,M⟩ r s=some (x,s'))(g:bA s') :
  ∃ u,(yB us r).run P w = .ok u w∧Rep C M w x u:=by
 cases r with
 | tmp t =>
  obtain ⟨e1,rfl⟩:=aE h;exact ⟨_,rfl,hS.at e1⟩
 | cell a t =>
  obtain ⟨y,s1,h1,k1⟩:=aC h;obtain ⟨e1,rfl⟩:=aE h1;obtain ⟨_,u,h2,h3⟩:=wT hT hM (hS.at e1) k1 g
  refine ⟨u,?_,h3⟩;obtain ⟨p,hp⟩:=aSs k1 (hS.at e1)
  unfold Instr.loadAt at h2
  simp only [yB];rw [hp] at h2 ⊢
  exact h2

theorem yC(hT:∀ t i,T t=some i→cL P t=some i)(hM:aW P C M w){ts:List AV}{us:Array Value}(hS:cP C M w ts us):∀ (l:List ResultVar) {xs:List AV} {s s':AS},aLh T ⟨ts,M⟩ l s=some (xs,s')→bA s' →
  ∃ vs:List Value,(l.mapM (yB us)).run P w = .ok vs w∧cS C M w xs vs
 | [],xs,s,s',h,g=>by
  obtain ⟨rfl,rfl⟩:=aH h;exact ⟨[],rfl,.nil⟩
 | r::l,xs,s,s',h,g=>by
  obtain ⟨x,s1,h1,k1⟩:=aC h;obtain ⟨ys,s2,h2,k2⟩:=aC k1;obtain ⟨rfl,rfl⟩:=aH k2;obtain ⟨u,e1,r1⟩:=aLj hT hM hS h1 ((uT l).good h2 g);obtain ⟨vs,e2,r2⟩:=yC hT hM hS l h2 g;refine ⟨u::vs,?_,.cons _ _ _ _ r1 r2⟩;rw [List.mapM_cons,Sem.run_bind,e1,Result.andThen_ok,Sem.run_bind,e2,Result.andThen_ok,Sem.run_pure]

theorem aHc{fn:Func}{us:Array Value}{vs:List Value}(h:(fn.results.toList.mapM (yB us)).run P w = .ok vs w):(results fn us).run P w = .ok (if _:vs.length=1 then vs[0] else .tuple vs.toArray) w:=by
 have e:(results fn us)=(do let vs ← fn.results.mapM (yB us);pure (if h:vs.size=1 then vs[0] else .tuple vs)):=by
  unfold results
  congr 1
 rw [e,Sem.run_bind,Array.mapM_eq_mapM_toList,Sem.run_map,h,Result.andThen_ok,Result.andThen_ok,Sem.run_pure]
 congr 1

theorem bJj{xs:List AV}{vs:List Value}(h:cS C M w xs vs):Rep C M w (bCe xs) (if _:vs.length=1 then vs[0] else .tuple vs.toArray):=by
 have hl:=h.len;cases h with
 | nil=>exact .tup [] _ rfl (fun i h=>by simp at h)
 | cons x u l k hx hr =>
  cases hr with
  | nil=>exact hx
  | cons y v l k hy hr =>
   have hne:¬ (u::v::k).length=1:=by simp
   rw [dif_neg hne];refine .tup _ _ (by simpa using hl) (fun i hi => ?_)
   have:=(cS.cons x u _ _ hx (cS.cons y v l k hy hr)).at i hi
   rwa [← cD] at this

theorem Sim.take{st:St}{a:Act}{d:Deferred}{ds:List Deferred}(h:Sim P C0 M0 w0 st a w)(hd:a.defers=d::ds):∃ D,d=mark D∧w.heap[D]? = some (.deferred (some []))∧Sim P C0 M0 w0 st { a with defers:=ds } (w.putObj D (.deferred none)):=by
 obtain ⟨C,hS,hM,hF,⟨l,h1,h2,h3⟩,hR,hP⟩:=h;rw [hd] at h1
 cases l with
 | nil=>simp at h1
 | cons D l =>
  rw [fV,List.cons.injEq] at h1
  obtain ⟨rfl,rfl⟩:=h1;obtain ⟨q1,q2,q3⟩:=h3 D (by simp)
  obtain ⟨hnd,Lz⟩:=List.nodup_cons.1 h2;have hg:=grownBy_putObj' w D (.deferred none);have hsz:(w.putObj D (.deferred none)).heap.size=w.heap.size:=by simp [World.putObj]
  have hk:∀ b,b≠D→(w.putObj D (.deferred none)).heap[b]? = w.heap[b]? := fun b hb=>by
   rcases Nat.lt_or_ge b w.heap.size with h | h
   ·exact hg.block b h (by simpa using hb)
   ·rw [Array.getElem?_eq_none h,Array.getElem?_eq_none (by omega)]
  have hlive:∀ (id:Nat) (o:AO) (b:Nat),st.m[id]? = some (some o)→o.live=true→C.ι id=some b→b≠D:=fun id o b ho hl hb e=>by
   subst e;exact aHp hM hP ho hl hb q1
  have hL:Le C C st.m st.m w (w.putObj D (.deferred none)):=⟨fun _ o h=>⟨o,h⟩,fun _ _ _ _ _ cs h=>⟨cs,h⟩,fun _ o h o' h' hl=>by rw [h] at h';cases h';exact ⟨hl,rfl,rfl⟩,fun _ h=>h,fun b hb=>hk b fun e=>q3 (e ▸ hb)⟩
  refine ⟨D,rfl,q1,C,hS.le hL,⟨fun i C3 n cs hm => ?_,fun i C3 cs hm => ?_,fun i es cl hm => ?_,hM.inj,hM.nF,fun b hb=>by rw [hsz];exact hM.Fs b hb,fun i x b hm hl hb=>by rw [hsz];exact hM.lt i x b hm hl hb,hM.lib.le hL⟩,
   ⟨hg.os.trans hF.os,hg.tape.trans hF.tape,hg.output.trans hF.out,iE hF.size hg.size,fun b hb hn=>(hk b (by omega)).trans (hF.keep b hb hn),hF.ids,hF.row,hF.liv,hF.new,hF.F1,hF.F2⟩,⟨l,rfl,Lz,fun D' Ic => ?_⟩,fun p hp => ?_,fun i tO ti sz L hm => ?_,hP.2⟩
  ·rcases hM.row _ _ _ _ hm with h4 | ⟨b,arr,inf,q0,Jy,Jz,Ie,q4,q5,q6,q7,q8⟩
   ·exact .inl h4
   ·exact .inr ⟨b,arr,inf,q0,by rw [hk b (hlive _ _ _ hm rfl q0)];exact Jy,Jz,Ie,q4,q5,q6,fun j hj=>(q7 j hj).mono hL.F hL.fz,q8⟩
  ·obtain ⟨b,arr,q0,Jy,Jz,Ie,q4⟩:=hM.box _ _ _ hm
   exact ⟨b,arr,q0,by rw [hk b (hlive _ _ _ hm rfl q0)];exact Jy,Jz,fun j hj=>(Ie j hj).mono hL,q4⟩
  ·obtain ⟨b,arr,q0,Jy,Jz,Ie⟩:=hM.mp _ _ _ hm
   refine ⟨b,arr,q0,by rw [hk b (hlive _ _ _ hm rfl q0)];exact Jy,Jz,fun j hj => ?_⟩
   obtain ⟨en,r1,r2,r3,r4⟩:=Ie j hj;exact ⟨en,r1,r2,r3,r4.mono hL.F hL.fz⟩
  ·obtain ⟨r1,r2,r3⟩:=h3 D' (C7 _ Ic)
   exact ⟨by rw [hk D' (fun e=>hnd (e ▸ Ic))];exact r1,r2,r3⟩
  ·obtain ⟨r1,r2,r3,r4,r5⟩:=hR p hp
   exact ⟨by rw [hk p.1 (fun e=>r3 (by rw [e,q1] at r1;exact (Option.some.inj r1).symm))];exact r1,r2,r3,r4,r5⟩
  ·obtain ⟨p,p0,p1⟩:=hP.1 _ _ _ _ _ hm
   exact ⟨p.move p.io rfl (fun _ h=>h) hL.fz fun b hb=>⟨hk b (fun e=>by
    obtain ⟨_,arr,ty,r1⟩:=p.lt hb;rw [e,q1] at r1;cases r1),p.own b hb⟩,p0,p1⟩

theorem wC(hT:∀ t i,T t=some i→cL P t=some i)(hE:oF P E)(hm:P.follows .mixedOrders=true){fuel f:Nat}{fn:Func}{c:Code}(hf:P.funcs[f]? = some fn)(hb:fn.body=some c){args:List AV}{r:AV}{M':Mem}{s s':AS}
  (h:aLi P T E fuel fn c args M s=some ((r,M'),s')) (g:bA s'):rU P f args M r M':=by
 intro C w us hus hM n;unfold aLi at h
 obtain ⟨_,s0,h0,k0⟩:=aC h;obtain ⟨e0,rfl⟩:=aE h0;have hnp:=gH (bW e0).1;obtain ⟨⟨e,st⟩,s1,h1,k1⟩:=aC k0;have hlen:=hus.len;have hS:cP C M w (args++List.replicate (fn.ntmps-args.length) .any) (us.toArray++Array.replicate (fn.ntmps-us.toArray.size) undef):=by
  refine ⟨by simp [hlen],fun i hi => ?_⟩
  by_cases c1:i<args.length
  ·rw [xG c1,Bw,Array.getElem?_append_left (by simp;omega)]
   have:=hus.at i c1
   rwa [← cD,Bw] at this
  ·rw [aJc (by omega),List.getElem_replicate]
   exact .any _
 have hsim:Sim P (C.with []) M w ⟨args++List.replicate (fn.ntmps-args.length) .any,M⟩ { tmps:=us.toArray++Array.replicate (fn.ntmps-us.toArray.size) undef,defers:=[] } w:=⟨C,hS,hM,(Fr.refl ..).based [],.nil rfl hnp⟩
 refine callsIn_of_wp_marks hf hb trivial ?_;have fin:∀ (e':Exit) (a':Act) (w':World),(e' = .normal∨e' = .ret)→Sim P (C.with []) M w st a' w'→(∃ l s2,aLh T st fn.results.toList s1=some (l,s2)∧bA s2∧r=bCe l∧M'=st.m)→bodyPostM Fence.wide n P fn (fun e w'=>∃ u,e = .returned u∧∃ C',Fr C M w C' M' w'∧aW P C' M' w'∧Rep C' M' w' r u∧kP (C.with []) M M' C' w w') e' a' w':=by
  rintro e' a' w' he B6 ⟨l,s2,h2,g2,rfl,rfl⟩;have key:∀ (ds:List Deferred) (a':Act) (w':World),a'.defers=ds→Sim P (C.with []) M w st a' w'→LeavesInM Fence.wide n P fn a'.tmps (fun e w'=>∃ u,e = .returned u∧∃ C',Fr C M w C' st.m w'∧aW P C' st.m w'∧Rep C' st.m w' (bCe l) u∧kP (C.with []) M st.m C' w w') ds .returning w':=by
   intro ds
   induction ds with
   | nil =>
    rintro a' w' hd ⟨C',L3,Eh,Ig,_,_,Ow⟩;obtain ⟨ts,m⟩:=st;obtain ⟨vs,e2,r2⟩:=yC hT Eh L3 fn.results.toList h2 g2;exact ⟨_,aHc e2,_,rfl,C',Ig.unbased,Eh,bJj r2,Ow⟩
   | cons d ds ih =>
    intro a' w' hd B6;obtain ⟨D,rfl,hD,Df⟩:=B6.take hd;exact ⟨by simp,.inl ⟨_,_,rfl,run_takeDeferred hD,ih { a' with defers:=ds } _ rfl Df⟩⟩
  rcases he with rfl | rfl
  ·exact key _ a' w' rfl B6
  ·exact key _ a' w' rfl B6
 have out:(e = .normal∨e = .ret)∧∃ l s2,aLh T st fn.results.toList s1=some (l,s2)∧bA s2∧r=bCe l∧M'=st.m:=by
  cases e with
  | exit id=>exact (aR k1).elim
  | normal =>
   obtain ⟨l,s2,h2,k2⟩:=aC k1;obtain ⟨he,rfl⟩:=aH k2;cases he;exact ⟨.inl rfl,l,_,h2,g,rfl,rfl⟩
  | ret =>
   obtain ⟨l,s2,h2,k2⟩:=aC k1;obtain ⟨he,rfl⟩:=aH k2;cases he;exact ⟨.inr rfl,l,_,h2,g,rfl,rfl⟩
 obtain ⟨he,l,s2,h2,g2,e3,e4⟩:=out;have g1:=(uT _).good h2 g2;refine wpIn_mono (yD hT hE hm c h1 g1 (C.with []) M w _ w (Bb _) hsim none (.inl rfl) n) ?_
 rintro e' a' w' ⟨rfl,B6⟩;exact fin _ a' w' (by rcases he with rfl | rfl <;> simp [Ex.toExit]) B6 ⟨l,s2,h2,g2,e3,e4⟩
end
section
variable {P:Program} {T:TT} {E:Env} {C C0:Cx} {M M0:Mem} {w w0:World}

mutual
def aEk:PV→Bool
 | .v _=>true
 | .sl _ cs=>match cs with
  | []=>true
  | _=>false
 | .agg cs=>aBt cs
 | .mp _=>false
 | .rp _ _=>false
 | .fn _ _ _=>false
def aBt:List PV→Bool
 | []=>true
 | x::r=>match aEk x with
  | true=>aBt r
  | false=>false
end
mutual
def rig:AV→Bool
 | .p x=>aEk x
 | .kb _=>true
 | .any=>true
 | .yld _=>true
 | .agg cs=>aLg cs
 | .fn _ a b=>match aLg a with
  | true=>aLg b
  | false=>false
 | _=>false
def aLg:List AV→Bool
 | []=>true
 | x::r=>match rig x with
  | true=>aLg r
  | false=>false
end
mutual
def noRef:AV→Bool
 | .p _=>true
 | .kb _=>true
 | .any=>true
 | .yld _=>true
 | .rp _ _=>true
 | .agg cs=>gU cs
 | .fn _ a b=>match gU a with
  | true=>gU b
  | false=>false
 | _=>false
def gU:List AV→Bool
 | []=>true
 | x::r=>match noRef x with
  | true=>gU r
  | false=>false
end

theorem xZ:∀ {l:List PV},aBt l=true→∀ i (h:i<l.length),aEk l[i]=true
 | [],_,i,h=>by simp at h
 | x::r,hr,i,h=>by
  unfold aBt at hr
  split at hr
  ·cases i with
   | zero=>assumption
   | succ i=>exact xZ hr i (by simpa using h)
  ·cases hr
theorem xI:∀ {l:List AV},aLg l=true→∀ i (h:i<l.length),rig l[i]=true
 | [],_,i,h=>by simp at h
 | x::r,hr,i,h=>by
  unfold aLg at hr
  split at hr
  ·cases i with
   | zero=>assumption
   | succ i=>exact xI hr i (by simpa using h)
  ·cases hr
theorem mE:∀ {l:List AV},gU l=true→∀ i (h:i<l.length),noRef l[i]=true
 | [],_,i,h=>by simp at h
 | x::r,hr,i,h=>by
  unfold gU at hr
  split at hr
  ·cases i with
   | zero=>assumption
   | succ i=>exact mE hr i (by simpa using h)
  ·cases hr

theorem cQ.rig{F G:Nat→Prop}{w w':World}{x:PV}{u:Value}(h:cQ F w x u)(hr:aEk x=true):cQ G w' x u:=by
 induction h with
 | v x=>exact .v x
 | sl n cs p cap us h1 h2 h3 _ h5 ih =>
  cases cs with
  | nil=>exact .sl n [] p cap us h1 h2 (fun i h=>by simp at h) (fun i h=>by simp at h) (fun i h=>by simp at h)
  | cons=>simp [aEk] at hr
 | agg cs vs h0 h1 _ ih =>
  have Dv:aBt cs=true:=by simpa [aEk] using hr
  exact .agg cs vs h0 h1 fun i hi=>ih i hi (xZ Dv i hi)
 | mp=>simp [aEk] at hr
 | rp=>simp [aEk] at hr
 | fn=>simp [aEk] at hr

theorem Rep.rig{C C':Cx}{M M':Mem}{w w':World}{x:AV}{u:Value}(h:Rep C M w x u)(hr:rig x=true):Rep C' M' w' x u:=by
 induction h with
 | p x u h=>exact .p x u (h.rig (by simpa [KV.rig] using hr))
 | any u=>exact .any u
 | kb b=>exact .kb b
 | yld l=>exact .yld l
 | agg cs vs h0 h1 _ ih =>
  have Dv:aLg cs=true:=by simpa [KV.rig] using hr
  exact .agg cs vs h0 h1 fun i hi=>ih i hi (xI Dv i hi)
 | fn f cs ds us vs h1 h2 _ _ Gj Gk =>
  simp only [KV.rig] at hr
  split at hr
  ·rename_i Gx
   exact .fn f cs ds us vs h1 h2 (fun i hi=>Gj i hi (xI Gx i hi)) (fun i hi=>Gk i hi (xI hr i hi))
  ·cases hr
 | _=>simp [KV.rig] at hr

theorem Rep.noRef{C C':Cx}{M M':Mem}{w w':World}{x:AV}{u:Value}(h:Rep C M w x u)(hr:noRef x=true)(hF:∀ b,C.F b→C'.F b)(hz:∀ b,C.F b→w'.heap[b]? = w.heap[b]?):Rep C' M' w' x u:=by
 induction h with
 | p x u h=>exact .p x u (h.mono hF hz)
 | any u=>exact .any u
 | kb b=>exact .kb b
 | yld l=>exact .yld l
 | rp cs off b o us h1 h2 h3=>exact .rp cs off b o us (fun i hi=>⟨hF _ (h1 i hi).1,(gO (hz _ (h1 i hi).1) _).trans (h1 i hi).2⟩) (fun i hi=>(h2 i hi).mono hF hz) h3
 | agg cs vs h0 h1 _ ih =>
  have Dv:gU cs=true:=by simpa [KV.noRef] using hr
  exact .agg cs vs h0 h1 fun i hi=>ih i hi (mE Dv i hi)
 | fn f cs ds us vs h1 h2 _ _ Gj Gk =>
  simp only [KV.noRef] at hr
  split at hr
  ·rename_i Gx
   exact .fn f cs ds us vs h1 h2 (fun i hi=>Gj i hi (mE Gx i hi)) (fun i hi=>Gk i hi (mE hr i hi))
  ·cases hr
 | _=>simp [KV.noRef] at hr

def Cx.bare(C:Cx)(G:Nat→Prop):Cx:={ ι:=fun _=>none,κ:=C.κ,F:=G }

section
variable {G:Nat→Prop} (hM:aW P C M w) (hG:∀ b,C.F b→G b) (hO:∀ (id:Nat) (o:AO) (b:Nat),M[id]? = some (some o)→o.live=true→C.ι id=some b→G b)
include hM hG hO

theorem wA{x:AV}{u:Value}{y:PV}(h:Rep C M w x u)(hv:Dz M x=some y):cQ G w y u:=by
 unfold Dz at hv
 split at hv
 ·cases hv;cases h with | p _ _ h=>exact h.mono hG (fun _ _=>rfl)
 ·cases hv;cases h;exact .v _
 ·split at hv
  ·rename_i id _ r hr
   cases hv;have ho:=dC hr;refine (sF hM ho h).mono (fun b hb => ?_) (fun _ _=>rfl)
   rcases hb with hb | ⟨_,hb⟩
   ·exact hG b hb
   ·exact hO _ _ b ho rfl hb
  ·cases hv
 ·cases hv
  cases h with
  | fn _ _ _ us vs h1 h2 _ _=>exact .fn _ [] [] us vs h1 h2 (fun i hi=>by simp at hi) (fun i hi=>by simp at hi)
 ·cases hv

theorem wB:∀ {l:List AV} {us:Nat→Value} {ys:List PV},(∀ i (h:i<l.length),Rep C M w l[i] (us i))→yZ M l=some ys→ys.length=l.length∧∀ i (h:i<ys.length),cQ G w ys[i] (us i)
 | [],_,ys,_,hv=>by cases hv;exact ⟨rfl,fun i h=>by simp at h⟩
 | x::r,us,ys,h,hv=>by
  unfold yZ at hv
  split at hv
  ·rename_i y h1
   split at hv
   ·rename_i l h2
    cases hv;obtain ⟨q1,q2⟩:=wB (us:=fun i=>us (i+1)) (fun i hi=>h (i+1) (by simpa using hi)) h2
    refine ⟨by simp [q1],fun i hi => ?_⟩
    cases i with
    | zero=>exact wA hM hG hO (h 0 (by simp)) h1
    | succ i=>exact q2 i (by simpa using hi)
   ·cases hv
  ·cases hv

set_option linter.unusedSectionVars false in
mutual
theorem rS:∀ {x:AV} {u:Value} {y:AV},Rep C M w x u→view M x=some y→Rep (C.bare G) [] w y u
 | .p x,u,y,h,hv=>by
  simp only [view] at hv
  cases hv;cases h with | p _ _ h=>exact .p _ _ (h.mono hG (fun _ _=>rfl))
 | .kb b,u,y,h,hv=>by simp only [view] at hv;cases hv;cases h;exact .kb _
 | .any,u,y,h,hv=>by simp only [view] at hv;cases hv;exact .any _
 | .yld l,u,y,h,hv=>by simp only [view] at hv;cases hv;cases h;exact .yld _
 | .own id,u,y,h,hv=>by
  simp only [view] at hv
  split at hv
  ·rename_i r hr
   cases hv;exact .p _ _ (wA hM hG hO h (by simp only [Dz,hr]))
  ·cases hv
 | .rp cs off,u,y,h,hv=>by
  simp only [view] at hv
  cases hv;cases h with
  | rp _ _ b o us h1 h2 h3=>exact .rp cs off b o us (fun i hi=>⟨hG _ (h1 i hi).1,(h1 i hi).2⟩) (fun i hi=>(h2 i hi).mono hG (fun _ _=>rfl)) h3
 | .ptr id off,u,y,h,hv=>by
  simp only [view] at hv
  split at hv
  ·rename_i ty n cs ho
   cases hv;have ho:=dO ho;obtain ⟨b,rfl,hb⟩:=fG h (gG ho rfl)
   rcases hM.row _ _ _ _ ho with ⟨hn,_⟩ | ⟨b',arr,inf,Ap,q1,q2,q3,q4,q5,q6,q7,q8⟩
   ·rw [hb] at hn;cases hn
   ·rw [hb] at Ap;cases Ap
    have hle:cs.length≤arr.size:=by rw [q3,q4];exact Nat.mul_le_mul_right _ q5
    have:=Rep.rp (C:=C.bare G) (M:=[]) (w:=w) cs off b 0 (fun j=>arr.getD j undef) (fun i hi=>⟨hO _ _ b ho rfl hb,by rw [iT];exact cV q1 (by omega)⟩) (fun i hi=>(q7 i hi).mono hG (fun _ _=>rfl)) q8
    rwa [iT] at this
  ·rename_i ty cs ho
   have ho:=dO ho
   split at hv
   ·rename_i xs hx
    cases hv;obtain ⟨b,rfl,hb⟩:=fG h (gG ho rfl);obtain ⟨b',arr,Ap,q1,q2,q3,q4⟩:=hM.box _ _ _ ho;rw [hb] at Ap;cases Ap
    obtain ⟨r1,r2⟩:=wB hM hG hO (us:=fun j=>arr.getD j undef) q3 hx
    have:=Rep.rp (C:=C.bare G) (M:=[]) (w:=w) xs off b 0 (fun j=>arr.getD j undef) (fun i hi=>⟨hO _ _ b ho rfl hb,by rw [iT];exact cV q1 (by omega)⟩) r2 (fun i hi=>q4 i (by omega))
    rwa [iT] at this
   ·cases hv
  ·cases hv
 | .agg cs,u,y,h,hv=>by
  simp only [view] at hv
  split at hv
  ·rename_i xs hx
   cases hv;cases h with
   | agg _ vs h0 h1 h2 =>
    obtain ⟨q1,q2⟩:=jH (us:=fun i=>vs.getD i undef) h2 hx
    exact jJ (fun i hi=>h0 i (by omega)) (by omega) q2
  ·cases hv
 | .fn f a b,u,y,h,hv=>by
  simp only [view] at hv
  split at hv
  ·rename_i a' ha
   split at hv
   ·rename_i b' hb
    cases hv;cases h with
    | fn _ _ _ us vs h1 h2 h3 h4 =>
     obtain ⟨q1,q2⟩:=jH (us:=fun i=>us.getD i undef) h3 ha
     obtain ⟨r1,r2⟩:=jH (us:=fun i=>vs.getD i undef) h4 hb
     exact .fn f a' b' us vs (by omega) (by omega) q2 r2
   ·cases hv
  ·cases hv
 | .arr id off n,u,y,h,hv=>by
  simp only [view] at hv
  split at hv
  ·rename_i r hr
   cases hv;have ho:=dC hr;cases h with
   | arr _ _ _ u h0 ha hrow =>
    rcases hrow _ ho rfl with ⟨rfl,p,cap,rfl,hc⟩ | ⟨b,cap,rfl,hn,hc,hb⟩
    ·rw [Nat.zero_mul,List.take_zero]
     exact .p _ _ (.sl 0 [] p cap (fun _=>undef) (Nat.zero_le _) hc (fun i h=>by simp at h) (fun i h=>by simp at h) (fun i h=>by simp at h))
    ·rcases hM.row _ _ _ _ ho with ⟨Gq,_⟩ | ⟨b',arr,inf,Ap,q1,q2,q3,q4,q5,q6,q7,q8⟩
     ·rw [hb] at Gq;cases Gq
     ·rw [hb] at Ap;cases Ap
      have hle:r.2.2.length≤arr.size:=by rw [q3,q4];exact Nat.mul_le_mul_right _ q5
      have hlt:∀ i,i<((r.2.2.drop off).take (n*(r.2.2.length / r.2.1))).length→off+i<r.2.2.length:=fun i hi=>by simp at hi;omega
      refine .p _ _ (.sl n _ _ cap (fun j=>arr.getD (off+j) undef) hn hc (fun i hi=>⟨b,off,rfl,hO _ _ b ho rfl hb,cV q1 (by have:=hlt i hi;omega)⟩) (fun i hi => ?_) (fun i hi=>q8 _ (hlt i hi)))
      simp only [List.getElem_take,List.getElem_drop];exact (q7 _ (hlt i hi)).mono hG (fun _ _=>rfl)
  ·cases hv
 | .tup _,_,_,_,hv=>by simp [view] at hv
 | .mp _,_,_,_,hv=>by simp [view] at hv
 | .pa _ _,_,_,_,hv=>by simp [view] at hv
theorem jH:∀ {l:List AV} {us:Nat→Value} {ys:List AV},(∀ i (h:i<l.length),Rep C M w l[i] (us i))→lF M l=some ys→ys.length=l.length∧∀ i (h:i<ys.length),Rep (C.bare G) [] w ys[i] (us i)
 | [],_,ys,_,hv=>by simp only [lF] at hv;cases hv;exact ⟨rfl,fun i h=>by simp at h⟩
 | x::r,us,ys,h,hv=>by
  simp only [lF] at hv
  split at hv
  ·rename_i y h1
   split at hv
   ·rename_i l h2
    cases hv;obtain ⟨q1,q2⟩:=jH (us:=fun i=>us (i+1)) (fun i hi=>h (i+1) (by simpa using hi)) h2
    refine ⟨by simp [q1],fun i hi => ?_⟩
    cases i with
    | zero=>exact rS (h 0 (by simp)) h1
    | succ i=>exact q2 i (by simpa using hi)
   ·cases hv
  ·cases hv
end
end
end
section
variable {P:Program} {T:TT} {E:Env} {C C':Cx} {M M1:Mem} {w w':World}

def Cx.after(C:Cx)(w w':World)(kb:Option Nat):Cx:={ ι:=C.ι,κ:=C.κ,F:=fun b=>C.F b∨(w.heap.size≤b∧b<w'.heap.size∧kb≠some b) }

theorem oR(hM:aW P C M w){kb:Option Nat}(ho:w'.os=w.os)(ht:w'.tape=w.tape)(hu:w'.output=w.output)(hs:w.heap.size≤w'.heap.size)(hk:∀ b,b<w.heap.size→w'.heap[b]? = w.heap[b]?):Fr C M w (C.after w w' kb) M w'∧aW P (C.after w w' kb) M w':=by
 have hf:Fr C M w (C.after w w' kb) M w':=⟨ho,ht,hu,hs,fun b hb _=>hk b hb,fun _ x h=>⟨⟨x,h⟩,rfl,rfl⟩,fun _ _ _ _ _ cs h=>⟨cs,h⟩,fun _ o h o' h' hl=>by rw [h] at h';cases h';exact hl,
  fun i x _ h hl hb => .inr ⟨i,x,h,hl,hb⟩,fun _ h => .inl h,fun b h=>by rcases h with h | ⟨h,_⟩;exact .inl h;exact .inr (.inl h)⟩
 have hL:=hM.le hf;refine ⟨hf,fun i C3 n cs hm => ?_,fun i C3 cs hm => ?_,fun i es cl hm => ?_,hM.inj,fun i x b hm hl hb => ?_,fun b hb => ?_,fun i x b hm hl hb=>tW (hM.lt i x b hm hl hb) hs,hM.lib.le hL⟩
 ·rcases hM.row _ _ _ _ hm with h4 | ⟨b,arr,inf,q0,q1,q2,q3,q4,q5,q6,q7,q8⟩
  ·exact .inl h4
  ·exact .inr ⟨b,arr,inf,q0,(hk b (hM.lt _ _ _ hm rfl q0)).trans q1,q2,q3,q4,q5,q6,fun j hj=>(q7 j hj).mono hL.F hL.fz,q8⟩
 ·obtain ⟨b,arr,q0,q1,q2,q3,q4⟩:=hM.box _ _ _ hm
  exact ⟨b,arr,q0,(hk b (hM.lt _ _ _ hm rfl q0)).trans q1,q2,fun j hj=>(q3 j hj).mono hL,q4⟩
 ·obtain ⟨b,arr,q0,q1,q2,q3⟩:=hM.mp _ _ _ hm
  refine ⟨b,arr,q0,(hk b (hM.lt _ _ _ hm rfl q0)).trans q1,q2,fun j hj => ?_⟩
  obtain ⟨en,r1,r2,r3,r4⟩:=q3 j hj;exact ⟨en,r1,r2,r3,r4.mono hL.F hL.fz⟩
 ·rintro (h | ⟨h,_⟩)
  ·exact hM.nF i x b hm hl hb h
  ·have:=hM.lt i x b hm hl hb
   omega
 ·rcases hb with h | ⟨_,h,_⟩
  ·exact tW (hM.Fs b h) hs
  ·exact h

theorem bCd{C1:Cx}(hM:aW P C1 M w'){base b k ty n:Nat}{cs:List PV}(hf:zO M base)(hnF:¬ C1.F b)(hold:∀ (i:Nat) (x:AO) (j:Nat),M[i]? = some (some x)→x.live=true→C1.ι i=some j→j<b)(hb:b<w'.heap.size)
  (hrow:∃ arr i,w'.heap[b]? = some (.cells arr ty (0,0))∧P.info? ty=some i∧arr.size=k*i.size∧cs.length=n*i.size∧n≤k∧k≤maxLen∧(∀ j (h:j<cs.length),cQ C1.F w' cs[j] (arr.getD j undef))∧∀ j,j<cs.length→(arr.getD j undef).oneCell'=true) :
  aW P (C1.grow base b k) (aZ M base (some (.row ty n cs))) w'∧Le C1 (C1.grow base b k) M (aZ M base (some (.row ty n cs))) w' w':=by
 have hne:∀ (i:Nat) (x:AO),M[i]? = some (some x)→i≠base:=fun i x h e=>hf x (e ▸ h)
 have hL:Le C1 (C1.grow base b k) M (aZ M base (some (.row ty n cs))) w' w':=by
  refine ⟨fun i x h=>⟨x,(aO M base i _ x (fun e=>hne i x h e.symm)).2 h⟩,fun i x h ty n cs hm=>⟨cs,(aO M base i _ _ (fun e=>hne i x h e.symm)).1 hm⟩,fun i x h o' hm hl => ?_,fun _ h=>h,fun _ _=>rfl⟩
  have h4:=(aO M base i _ _ (fun e=>hne i x h e.symm)).1 hm
  rw [h] at h4;cases h4
  exact ⟨hl,by simp [Cx.grow,hne i x h],by simp [Cx.grow,hne i x h]⟩
 have C8:∀ (i:Nat) (x:AO),i≠base→(aZ M base (some (.row ty n cs)))[i]? = some (some x)→M[i]? = some (some x):=fun i x h=>(aO M base i _ x (fun e=>h e.symm)).1
 have hnew:∀ (x:AO),(aZ M base (some (.row ty n cs)))[base]? = some (some x)→x = .row ty n cs:=fun x h=>by rw [aY] at h;cases h;rfl
 have hι:∀ i,i≠base→(C1.grow base b k).ι i=C1.ι i:=fun i h=>by simp [Cx.grow,h]
 have hκ:∀ i,i≠base→(C1.grow base b k).κ i=C1.κ i:=fun i h=>by simp [Cx.grow,h]
 have hιs:(C1.grow base b k).ι base=some b:=by simp [Cx.grow]
 have hκs:(C1.grow base b k).κ base=k:=by simp [Cx.grow]
 refine ⟨⟨fun i C3 n' Bh hm => ?_,fun i C3 Bh hm => ?_,fun i es cl hm => ?_,fun i i' o1 o2 j hm hl Cn De Dd Gp => ?_,fun i x j hm hl hj => ?_,fun j hj=>hM.Fs j hj,fun i x j hm hl hj => ?_,hM.lib.le hL⟩,hL⟩
 ·by_cases e:i=base
  ·subst e
   cases hnew _ hm;obtain ⟨arr,inf,q0,q1,q2,q3,q4,q5,q6,q7⟩:=hrow;exact .inr ⟨b,arr,inf,hιs,q0,q1,by rw [hκs];exact q2,q3,by rw [hκs];exact q4,by rw [hκs];exact q5,q6,q7⟩
  ·rw [hι i e,hκ i e]
   rcases hM.row _ _ _ _ (C8 i _ e hm) with h4 | ⟨j,arr,inf,q0,q1,q2,q3,q4,q5,q6,q7,q8⟩
   ·exact .inl h4
   ·exact .inr ⟨j,arr,inf,q0,q1,q2,q3,q4,q5,q6,q7,q8⟩
 ·by_cases e:i=base
  ·subst e;cases hnew _ hm
  ·rw [hι i e]
   obtain ⟨j,arr,q0,q1,q2,q3,q4⟩:=hM.box _ _ _ (C8 i _ e hm);exact ⟨j,arr,q0,q1,q2,fun j hj=>(q3 j hj).mono hL,q4⟩
 ·by_cases e:i=base
  ·subst e;cases hnew _ hm
  ·rw [hι i e]
   obtain ⟨j,arr,q0,q1,q2,q3⟩:=hM.mp _ _ _ (C8 i _ e hm);refine ⟨j,arr,q0,q1,q2,fun j hj => ?_⟩
   obtain ⟨en,r1,r2,r3,r4⟩:=q3 j hj;exact ⟨en,r1,r2,r3,r4.mono hL.F hL.fz⟩
 ·by_cases e:i=base
  ·by_cases e':i'=base
   ·rw [e,e']
   ·subst e
    rw [hιs] at Dd;cases Dd
    rw [hι i' e'] at Gp
    have:=hold i' _ _ (C8 i' _ e' Cn) De Gp;omega
  ·by_cases e':i'=base
   ·subst e'
    rw [hιs] at Gp;cases Gp
    rw [hι i e] at Dd
    have:=hold i _ _ (C8 i _ e hm) hl Dd;omega
   ·rw [hι i e] at Dd;rw [hι i' e'] at Gp
    exact hM.inj _ _ _ _ _ (C8 i _ e hm) hl (C8 i' _ e' Cn) De Dd Gp
 ·by_cases e:i=base
  ·subst e;rw [hιs] at hj;cases hj;exact hnF
  ·rw [hι i e] at hj;exact hM.nF _ _ _ (C8 i _ e hm) hl hj
 ·by_cases e:i=base
  ·subst e;rw [hιs] at hj;cases hj;exact hb
  ·rw [hι i e] at hj;exact hM.lt _ _ _ (C8 i _ e hm) hl hj
end
section
variable {P:Program} {T:TT} {E:Env} {C C':Cx} {M M1:Mem} {w w':World}

def aPm:List AV→Option Nat
 | []=>none
 | .own id::_=>some id
 | _::r=>aPm r
def bQv:AV→Option Nat
 | .own id=>some id
 | .tup l=>aPm l
 | _=>none
def bCc(m:Mem)(base k:Nat)(x:AV):Option AV:=match x with
 | .own id=>match Nat.beq id k with
  | true=>some (.own base)
  | false=>view m (.own id)
 | x=>view m x
def aPn(m:Mem)(base k:Nat):List AV→Option (List AV)
 | []=>some []
 | x::r=>match bCc m base k x with
  | some y=>match aPn m base k r with
   | some l=>some (y::l)
   | none=>none
  | none=>none
def bJi(m:Mem)(base k:Nat):AV→Option AV
 | .tup l=>match aPn m base k l with
  | some ys=>some (.tup ys)
  | none=>none
 | x=>bCc m base k x
def aSo(m:Mem)(base:Nat)(r:AV):Option (AV × Upd):=match bQv r with
 | some k=>match eP m k with
  | some q=>match bJi (upds m [(k,.dead)]) base k r with
   | some y=>some (y,[(base,.row q.1 q.2.1 q.2.2)])
   | none=>none
  | none=>none
 | none=>match bJi m base m.length r with
  | some y=>some (y,[])
  | none=>none

def aSp:AV→Bool
 | .own _=>true
 | x=>rig x
def xX:List AV→Bool
 | []=>true
 | x::r=>match aSp x with
  | true=>xX r
  | false=>false
def aSq:AV→Bool
 | .tup l=>xX l
 | x=>aSp x
def aSr:Upd→Bool
 | []=>true
 | (_,.row _ _ cs)::r=>match aBt cs with
  | true=>aSr r
  | false=>false
 | _=>false
theorem aGz:∀ {l:List AV},xX l=true→∀ i (h:i<l.length),aSp l[i]=true
 | [],_,i,h=>by simp at h
 | x::r,hr,i,h=>by
  unfold xX at hr
  split at hr
  ·cases i with
   | zero=>assumption
   | succ i=>exact aGz hr i (by simpa using h)
  ·cases hr

theorem aHa{cs l:List AV}(h:iC cs = .tup l):False:=by
 unfold iC at h;split at h <;> cases h
theorem aHb{m:Mem}{x:AV}{l:List AV}(h:view m x=some (.tup l)):False:=by
 cases x with
 | agg cs =>
  simp only [view] at h
  split at h
  ·injection h with h;exact aHa h
  ·cases h
 | fn f a b =>
  simp only [view] at h
  split at h
  ·split at h <;> cases h
  ·cases h
 | ptr id off =>
  simp only [view] at h
  split at h
  ·cases h
  ·split at h <;> cases h
  ·cases h
 | own id=>simp only [view] at h;split at h <;> cases h
 | arr id off n=>simp only [view] at h;split at h <;> cases h
 | _=>simp [view] at h

theorem xY{C2:Cx}{M2 m:Mem}{Ck:Cx}{base k:Nat}{A:Prop}(hM:aW P Ck m w')
  (hA:A→(∀ b,Ck.F b→C2.F b)∧∀ (id:Nat) (o:AO) (b:Nat),m[id]? = some (some o)→o.live=true→Ck.ι id=some b→C2.F b)
  (hk:∀ u,Rep C' M1 w' (.own k) u→Rep C2 M2 w' (.own base) u) (hL:Le C' Ck M1 m w' w') {x y:AV} {u:Value} (h:Rep C' M1 w' x u) (hx:bCc m base k x=some y) (hr:A∨aSp y=true):Rep C2 M2 w' y u:=by
 have sv:∀ {x y:AV} {u:Value},Rep C' M1 w' x u→view m x=some y→(A∨aSp y=true)→Rep C2 M2 w' y u:=fun {x y u} h hv hr=>by
  rcases hr with hr | hr
  ·obtain ⟨h1,h2⟩:=hA hr
   have:=rS hM h1 h2 (h.mono hL) hv;have hle:Le (Ck.bare C2.F) C2 [] M2 w' w':=⟨fun _ _ h=>by simp at h,fun _ _ h=>by simp at h,fun _ _ h=>by simp at h,fun _ h=>h,fun _ _=>rfl⟩
   exact this.mono hle
  ·have:=rS (G:=fun b=>Ck.F b∨∃ (id:Nat) (o:AO),m[id]? = some (some o)∧o.live=true∧Ck.ι id=some b) hM (fun _ h => .inl h) (fun id o b h1 h2 h3 => .inr ⟨id,o,h1,h2,h3⟩) (h.mono hL) hv
   cases y with
   | own id=>cases this with | own _ _ _ ha _=>obtain ⟨o,ho⟩:=ha;simp at ho
   | _=>exact this.rig hr
 unfold bCc at hx
 split at hx
 ·rename_i id
  split at hx
  ·rename_i hb
   cases hx;have:=Nat.eq_of_beq_eq_true hb;subst this;exact hk u h
  ·exact sv h hx hr
 ·exact sv h hx hr

theorem vZ{C2:Cx}{M2 m:Mem}{Ck:Cx}{base k:Nat}{A:Prop}(hM:aW P Ck m w')
  (hA:A→(∀ b,Ck.F b→C2.F b)∧∀ (id:Nat) (o:AO) (b:Nat),m[id]? = some (some o)→o.live=true→Ck.ι id=some b→C2.F b)
  (hk:∀ u,Rep C' M1 w' (.own k) u→Rep C2 M2 w' (.own base) u) (hL:Le C' Ck M1 m w' w'):∀ {l ys:List AV} {us:Nat→Value},(∀ i (h:i<l.length),Rep C' M1 w' l[i] (us i))→aPn m base k l=some ys→(A∨xX ys=true) →
   ys.length=l.length∧∀ i (h:i<ys.length),Rep C2 M2 w' ys[i] (us i)
 | [],ys,us,_,hx,_=>by cases hx;exact ⟨rfl,fun i h=>by simp at h⟩
 | x::r,ys,us,h,hx,hr=>by
  unfold aPn at hx
  split at hx
  ·rename_i y h1
   split at hx
   ·rename_i l h2
    cases hx;have Gx:A∨aSp y=true:=hr.imp id fun hr=>aGz (l:=y::l) hr 0 (by simp)
    have Dp:A∨xX l=true:=hr.imp id fun hr=>by
     unfold xX at hr
     split at hr
     ·exact hr
     ·cases hr
    obtain ⟨q1,q2⟩:=vZ hM hA hk hL (us:=fun i=>us (i+1)) (fun i hi=>h (i+1) (by simpa using hi)) h2 Dp
    refine ⟨by simp [q1],fun i hi => ?_⟩
    cases i with
    | zero=>exact xY hM hA hk hL (h 0 (by simp)) h1 Gx
    | succ i=>exact q2 i (by simpa using hi)
   ·cases hx
  ·cases hx

theorem rR{C2:Cx}{M2 m:Mem}{Ck:Cx}{base k:Nat}{A:Prop}(hM:aW P Ck m w')
  (hA:A→(∀ b,Ck.F b→C2.F b)∧∀ (id:Nat) (o:AO) (b:Nat),m[id]? = some (some o)→o.live=true→Ck.ι id=some b→C2.F b)
  (hk:∀ u,Rep C' M1 w' (.own k) u→Rep C2 M2 w' (.own base) u) (hL:Le C' Ck M1 m w' w') {x y:AV} {u:Value} (h:Rep C' M1 w' x u) (hx:bJi m base k x=some y) (hr:A∨aSq y=true):Rep C2 M2 w' y u:=by
 unfold bJi at hx
 split at hx
 ·rename_i l
  split at hx
  ·rename_i ys hy
   cases hx;cases h with
   | tup _ vs h1 h2 =>
    obtain ⟨q1,q2⟩:=vZ hM hA hk hL (us:=fun i=>vs.getD i undef) h2 hy hr
    exact .tup _ _ (by omega) q2
  ·cases hx
 ·rename_i hn
  refine xY hM hA hk hL h hx (hr.imp id fun hr => ?_)
  unfold aSq at hr
  split at hr
  ·exfalso
   unfold bCc at hx
   split at hx
   ·split at hx
    ·cases hx
    ·exact aHb hx
   ·exact aHb hx
  ·exact hr

theorem uS{f:Nat}{args Am:List AV}{r y:AV}{L:Upd}{base:Nat}(hm:gU args=true∧Am=args∨lF M args=some Am∧aSq y=true∧aSr L=true)(hb:eZ M base=true)
  (ho:aSo M1 base r=some (y,L)) (h:FMM P f Am [] r M1):FM P f args M y L:=by
 intro C w us hus hM n;obtain ⟨G,hG,hGs,hA,Ly⟩:∃ G:Nat→Prop,(∀ b,C.F b→G b)∧(∀ b,G b→b<w.heap.size)∧((∀ b,G b→C.F b)∨aSq y=true∧aSr L=true)∧cS (C.bare G) [] w Am us:=by
  rcases hm with ⟨hn,rfl⟩ | ⟨hv,Gx,Dp⟩
  ·refine ⟨C.F,fun _ h=>h,hM.Fs,.inl fun _ h=>h,?_⟩
   have:∀ {l:List AV} {us:List Value},gU l=true→cS C M w l us→cS (C.bare C.F) [] w l us:=by
    intro l
    induction l with
    | nil=>intro us _ h;cases h;exact .nil
    | cons x l ih =>
     intro us hn h;cases h with
     | cons _ u _ k hx hr =>
      have h0:=mE hn 0 (by simp)
      unfold gU at hn
      split at hn
      ·exact .cons _ _ _ _ (hx.noRef h0 (fun _ h=>h) (fun _ _=>rfl)) (ih hn hr)
      ·cases hn
   exact this hn hus
  ·refine ⟨fun b=>C.F b∨∃ (id:Nat) (o:AO),M[id]? = some (some o)∧o.live=true∧C.ι id=some b,fun _ h => .inl h,fun b h => ?_,.inr ⟨Gx,Dp⟩,?_⟩
   ·rcases h with h | ⟨id,o,h1,h2,h3⟩
    ·exact hM.Fs b h
    ·exact hM.lt id o b h1 h2 h3
   ·obtain ⟨q1,q2⟩:=jH (G:=fun b=>C.F b∨∃ (id:Nat) (o:AO),M[id]? = some (some o)∧o.live=true∧C.ι id=some b) hM (fun _ h => .inl h) (fun id o b h1 h2 h3 => .inr ⟨id,o,h1,h2,h3⟩) (us:=fun i=>us.getD i undef) (fun i hi=>hus.at i hi) hv
    have:=cS.ofArr (l:=Am) (us:=us.toArray) (by simp [hus.len,q1]) (fun i hi=>by rw [cD];exact q2 i hi)
    exact this
 have Hu:aW P (C.bare G) [] w:=⟨fun _ _ _ _ h=>by simp at h,fun _ _ _ h=>by simp at h,fun _ _ _ h=>by simp at h,fun _ _ _ _ _ h=>by simp at h,fun _ _ _ h=>by simp at h,hGs,fun _ _ _ h=>by simp at h,hM.lib.mono hG fun _ _=>rfl⟩
 refine (h (C.bare G) w us Ly Hu n).mono ?_;rintro e w' ⟨u,rfl,C',hF,Bq,hr⟩;refine ⟨u,rfl,?_⟩;have hkeep:∀ b,b<w.heap.size→w'.heap[b]? = w.heap[b]? := fun b hb=>hF.keep b hb (fun id o h=>by simp at h)
 have hnew:∀ (id:Nat) (o:AO) (b:Nat),M1[id]? = some (some o)→o.live=true→C'.ι id=some b→w.heap.size≤b:=fun id o b h1 h2 h3=>by
  rcases hF.new id o b h1 h2 h3 with h4 | ⟨_,_,h4,_⟩
  ·exact h4
  ·simp at h4
 have Et:∀ b,C'.F b→G b∨w.heap.size≤b:=fun b hb=>by
  rcases hF.F2 b hb with h4 | h4 | ⟨_,_,h4,_⟩
  ·exact .inl h4
  ·exact .inr h4
  ·simp at h4
 have hfree:=cU hb;unfold aSo at ho
 split at ho
 ·rename_i k hk
  split at ho
  ·rename_i q hq
   split at ho
   ·rename_i y' hy
    cases ho;have hok:=dC hq;have hmk:=kR Bq (id:=k) false hok rfl;have hlk:=Bq.le (cT (C:=C') (w:=w') (id:=k) false hok rfl);obtain ⟨f1,m1⟩:=oR (C:=C) (M:=M) (w:=w) (w':=w') (kb:=C'.ι k) hM hF.os hF.tape hF.out hF.size hkeep;have hAA:(∀ b,G b→C.F b)→(∀ b,(C'.close k false).F b→(C.after w w' (C'.ι k)).F b)∧∀ (id:Nat) (o:AO) (b:Nat),(upds M1 [(k,.dead)])[id]? = some (some o)→o.live=true→(C'.close k false).ι id=some b→(C.after w w' (C'.ι k)).F b:=by
     intro hGC;refine ⟨fun b hb => ?_,fun id o b h1 h2 h3 => ?_⟩
     ·have Ap:C'.F b:=by rcases hb with hb | ⟨hb,_⟩;exact hb;cases hb
      rcases Et b Ap with h4 | h4
      ·exact .inl (hGC b h4)
      ·exact .inr ⟨h4,Bq.Fs b Ap,fun e=>Bq.nF _ _ _ hok rfl e Ap⟩
     ·simp only [upds] at h1
      have hne:k≠id:=fun e=>by subst e;rw [aY] at h1;cases h1;cases h2
      have Gy:=(aO M1 k id _ _ hne).1 h1;exact .inr ⟨hnew id o b Gy h2 h3,Bq.lt id o b Gy h2 h3,fun e=>hne (Bq.inj _ _ _ _ _ hok rfl Gy h2 e h3)⟩
    cases hkb:C'.ι k with
    | none =>
     rw [hkb] at hAA f1 m1
     obtain ⟨hz,hcs⟩:q.2.1=0∧q.2.2=[]:=by
      rcases Bq.row _ _ _ _ hok with ⟨_,hz,hcs⟩ | ⟨b,_,_,hb,_⟩
      ·exact ⟨hz,hcs⟩
      ·rw [hkb] at hb;cases hb
     rw [hz,hcs];have m2:=tM (ty:=q.1) m1 hfree;have f2:=tK (ty:=q.1) (C:=C.after w w' none) (w:=w') hfree;have hle:=m1.le f2;refine ⟨_,f1.trans f2,m2,?_⟩;refine rR (C2:=(C.after w w' none).nil base) (M2:=upds M [(base,.row q.1 0 [])]) (A:=∀ b,G b→C.F b) hmk (fun h=>⟨fun b hb=>(hAA h).1 b hb,fun id o b h1 h2 h3=>(hAA h).2 id o b h1 h2 h3⟩) (fun v hv => ?_) hlk hr hy (hA.imp id (·.1))
     cases hv with
     | own _ _ h0 ha hrow =>
      rcases hrow _ _ _ hok with ⟨rfl,_,_⟩ | ⟨b,_,hb⟩
      ·exact .own base _ rfl ⟨_,aY ..⟩ (fun ty n cs h=>by simp only [upds] at h;rw [aY] at h;cases h;exact .inl ⟨rfl,by simp [Cx.nil],rfl⟩)
      ·rw [hkb] at hb;cases hb
    | some b =>
     rw [hkb] at hAA f1 m1
     rcases Bq.row _ _ _ _ hok with ⟨hn,_⟩ | ⟨b',arr,inf,Ap,q1,q2,q3,q4,q5,q6,q7,q8⟩
     ·rw [hkb] at hn;cases hn
     rw [hkb] at Ap;cases Ap
     have hbn:=hnew k _ b hok rfl hkb;have hbl:=Bq.lt k _ b hok rfl hkb;have hcell:∀ j (h:j<q.2.2.length),cQ (C.after w w' (some b)).F w' q.2.2[j] (arr.getD j undef):=fun j hj=>by
      rcases hA with hGC | ⟨_,Dp⟩
      ·exact (q7 j hj).mono (fun b hb=>(hAA hGC).1 b (.inl hb)) (fun _ _=>rfl)
      ·simp only [aSr] at Dp
       split at Dp
       ·rename_i hcs
        exact (q7 j hj).rig (xZ hcs j hj)
       ·cases Dp
     obtain ⟨m2,Bp⟩:=bCd (base:=base) (b:=b) (k:=C'.κ k) (ty:=q.1) (n:=q.2.1) (cs:=q.2.2) m1 hfree (fun hF=>by
      rcases hF with hF | ⟨_,_,hF⟩
      ·have:=hM.Fs b hF;omega
      ·exact hF rfl) (fun i x j h1 h2 h3=>by have:=hM.lt i x j h1 h2 h3;omega) hbl ⟨arr,inf,q1,q2,q3,q4,q5,q6,hcell,q8⟩
     refine ⟨_,?_,m2,?_⟩
     ·have hne:∀ (i:Nat) (x:AO),M[i]? = some (some x)→i≠base:=fun i x h e=>hfree x (e ▸ h)
      refine ⟨f1.os,f1.tape,f1.out,f1.size,f1.keep,fun i x h=>⟨Bp.ids i x h,by simp [Cx.grow,Cx.after,hne i x h],by simp [Cx.grow,Cx.after,hne i x h]⟩,Bp.row,fun i x h o' h1 h2=>(Bp.liv i x h o' h1 h2).1,fun i x j h1 h2 h3 => ?_,f1.F1,f1.F2⟩
      by_cases e:i=base
      ·subst e
       simp only [Cx.grow,if_true] at h3
       cases h3;exact .inl hbn
      ·simp only [Cx.grow,e,if_false] at h3
       exact f1.new i x j ((aO M base i _ _ (fun e'=>e e'.symm)).1 h1) h2 h3
     ·refine rR (C2:=(C.after w w' (some b)).grow base b (C'.κ k)) (M2:=upds M [(base,.row q.1 q.2.1 q.2.2)]) (A:=∀ b,G b→C.F b) hmk (fun h=>⟨fun b hb=>(hAA h).1 b hb,fun id o b h1 h2 h3=>(hAA h).2 id o b h1 h2 h3⟩) (fun v hv => ?_) hlk hr hy (hA.imp id (·.1))
      cases hv with
      | own _ _ h0 ha hrow =>
       rcases hrow _ _ _ hok with ⟨_,hn,_⟩ | ⟨b',rfl,hb⟩
       ·rw [hkb] at hn;cases hn
       ·rw [hkb] at hb;cases hb
        exact .own base _ rfl ⟨_,aY ..⟩ (fun ty n cs h=>by simp only [upds] at h;rw [aY] at h;cases h;exact .inr ⟨b,by simp [Cx.grow],by simp [Cx.grow]⟩)
   ·cases ho
  ·cases ho
 ·rename_i hk
  split at ho
  ·rename_i y' hy
   cases ho;obtain ⟨f1,m1⟩:=oR (C:=C) (M:=M) (w:=w) (w':=w') (kb:=none) hM hF.os hF.tape hF.out hF.size hkeep;refine ⟨_,f1,m1,?_⟩;refine rR (C2:=C.after w w' none) (M2:=upds M []) (A:=∀ b,G b→C.F b) Bq (fun hGC=>⟨fun b hb => ?_,fun id o b h1 h2 h3 => .inr ⟨hnew id o b h1 h2 h3,Bq.lt id o b h1 h2 h3,nofun⟩⟩) (fun v hv => ?_) ⟨fun i o h=>⟨o,h⟩,fun _ _ _ _ _ cs h=>⟨cs,h⟩,fun _ o h o' h' hl=>by rw [h] at h';cases h';exact ⟨hl,rfl,rfl⟩,fun _ h=>h,fun _ _=>rfl⟩ hr hy (hA.imp id (·.1))
   ·rcases Et b hb with h4 | h4
    ·exact .inl (hGC b h4)
    ·exact .inr ⟨h4,Bq.Fs b hb,nofun⟩
   ·cases hv with
    | own _ _ h0 ha hrow =>
     obtain ⟨o,ho⟩:=ha;rw [List.getElem?_eq_none (Bb _)] at ho
     cases ho
  ·cases ho
end
section
variable {P:Program} {T:TT} {E:Env} {C C':Cx} {M M1 M2:Mem} {w w':World}

end
section
noncomputable abbrev Tp:=Tryz.prog

inductive Tr (α:Type) where
 | nil
 | node (v:Option α) (l r:Tr α)
def Tr.get{α:Type}:Tr α→Nat→Option α
 | .nil,_=>none
 | .node v l r,k=>match Nat.beq k 0 with
  | true=>v
  | false=>match Nat.beq (Nat.mod k 2) 1 with
   | true=>l.get (Nat.div k 2)
   | false=>r.get (Nat.sub (Nat.div k 2) 1)
def Tr.all{α:Type}(f:Nat→Nat):Tr α→List (Nat × α)
 | .nil=>[]
 | .node v l r=>(match v with | some x=>[(f 0,x)] | none=>[])++l.all (fun k=>f (2*k+1))++r.all (fun k=>f (2*k+2))
theorem Tr.get_all{α:Type}:∀ (t:Tr α) (f:Nat→Nat) (k:Nat) (x:α),t.get k=some x→(f k,x)∈t.all f
 | .nil,_,_,_,h=>by cases h
 | .node v l r,f,k,x,h=>by
  unfold Tr.get at h
  unfold Tr.all
  split at h
  ·rename_i hb
   have hk:=Nat.eq_of_beq_eq_true hb;subst hk;subst h;exact aBo _ (aBo _ (mP ..))
  ·rename_i hb
   have hk:=Nat.ne_of_beq_eq_false hb
   split at h
   ·rename_i h1
    have h1:k % 2=1:=Nat.eq_of_beq_eq_true h1;have:=Tr.get_all l (fun k=>f (2*k+1)) _ x h
    refine aBo _ (aUm _ ?_);have e:2*(k / 2)+1=k:=by omega
    have e':2*Nat.div k 2+1=k:=e;simp only [e'] at this
    exact this
   ·rename_i h1
    have h1:k % 2≠1:=Nat.ne_of_beq_eq_false h1;have:=Tr.get_all r (fun k=>f (2*k+2)) _ x h
    refine aUm _ ?_;have e:2*(k / 2-1)+2=k:=by omega
    have e':2*Nat.sub (Nat.div k 2) 1+2=k:=e;simp only [e'] at this
    exact this

abbrev tL(v:Option TI):Tr TI := .node v .nil .nil
abbrev E4:Option TI:=some ⟨.func,1,8,[.nilFunc],true⟩
abbrev Jq:Option TI:=some ⟨.int .i64,1,8,[.int .i64 0],true⟩
def tTr:Tr TI := .node none (.node E4 (.node Jq (.node none (.node none (.node none .nil (.node none (tL E4) .nil)) (.node none (.node none .nil (tL (some ⟨.array 5 9,5,80,.string ⟨#[]⟩::List.replicate 4 (.string ⟨#[]⟩),true⟩))) (.node none .nil (.node none (tL (some ⟨.struct [(0,5,true),(1,5,true)],2,2,[.int .u8 0,.int .u8 0],true⟩)) .nil)))) (.node Jq (.node (some ⟨.slice 68,1,24,[.slice none 0 0],true⟩) (tL Jq) (.node none (tL (some ⟨.array 3 27,3,24,[.int .i64 0,.int .i64 0,.int .i64 0],true⟩)) (tL E4))) (.node (some ⟨.slice 9,1,24,[.slice none 0 0],true⟩) .nil (.node none .nil (tL (some ⟨.map 186 78,1,8,[.map none],true⟩)))))) (.node none (.node none .nil (.node none (.node none (.node none (tL E4) .nil) (tL E4)) (.node none .nil (tL E4)))) (.node Jq (.node none (.node none .nil (tL (some ⟨.int .u32,1,4,[.int .u32 0],true⟩))) (.node none .nil (.node (some ⟨.struct [(0,233,true),(1,48,true)],2,32,[.pointer none,.slice none 0 0],true⟩) (tL (some ⟨.array 20 305,20,160,.int .u64 0::List.replicate 19 (.int .u64 0),true⟩)) .nil))) (.node E4 .nil (.node none (.node none (tL Jq) .nil) .nil))))) (.node (some ⟨.int .u8,1,1,[.int .u8 0],true⟩) (.node (some ⟨.str,1,16,[.string ⟨#[]⟩],true⟩) (.node none (.node none (tL (some ⟨.slice 71,1,24,[.slice none 0 0],true⟩)) (.node none (.node none (tL E4) .nil) .nil)) (.node none (.node none .nil (tL E4)) (.node none (.node none (tL (some ⟨.int .u64,1,8,[.int .u64 0],true⟩)) .nil) .nil))) (.node none (.node none .nil (.node none .nil (tL (some ⟨.ptr 235,1,8,[.pointer none],true⟩)))) .nil)) (.node none (.node (some ⟨.int .i32,1,4,[.int .i32 0],true⟩) (.node none (.node none (.node none (tL (some ⟨.str,1,16,[.string ⟨#[]⟩],true⟩)) .nil) .nil) (.node none (.node none (tL (some ⟨.ptr 5,1,8,[.pointer none],true⟩)) .nil) (tL E4))) (.node none (.node none .nil (tL (some ⟨.struct [(0,209,true),(1,210,true),(2,211,true)],3,24,[.nilFunc,.nilFunc,.nilFunc],true⟩))) .nil)) (.node none (.node none (.node none .nil (tL (some ⟨.struct [(0,48,true),(1,3,true),(2,203,true)],3,40,[.slice none 0 0,.int .i64 0,.int .u32 0],true⟩))) (.node none .nil (.node none (tL (some ⟨.array 256 5,256,256,.int .u8 0::List.replicate 255 (.int .u8 0),true⟩)) .nil))) (.node none (.node (some ⟨.slice 112,1,24,[.slice none 0 0],true⟩) .nil (.node none (tL (some ⟨.ptr 372,1,8,[.pointer none],true⟩)) .nil)) .nil))))) (.node Jq (.node (some ⟨.bool,1,1,[.bool false],true⟩) (.node none (.node (some ⟨.ptr 389,1,8,[.pointer none],true⟩) (.node none (.node none (.node none (tL E4) .nil) .nil) (.node none (tL E4) .nil)) (.node (some ⟨.slice 5,1,24,[.slice none 0 0],true⟩) (tL (some ⟨.struct [(0,3,true),(1,9,true)],2,24,[.int .i64 0,.string ⟨#[]⟩],true⟩)) (.node (some ⟨.struct [(0,78,true),(1,78,true)],2,48,[.slice none 0 0,.slice none 0 0],true⟩) .nil (.node none (tL (some ⟨.array 16 367,32,32,.int .u8 0::List.replicate 31 (.int .u8 0),true⟩)) .nil)))) (.node (some ⟨.slice 78,1,24,[.slice none 0 0],true⟩) (.node none (.node none (.node none (tL (some ⟨.int .u64,1,8,[.int .u64 0],true⟩)) .nil) .nil) .nil) (.node none .nil (.node none (tL (some ⟨.map 186 112,1,8,[.map none],true⟩)) (tL (some ⟨.map 186 78,1,8,[.map none],true⟩)))))) (.node none (.node none (.node E4 (.node (some ⟨.slice 3,1,24,[.slice none 0 0],true⟩) (.node none (tL E4) .nil) .nil) .nil) (.node none (.node none .nil (.node none (tL (some ⟨.array 24 5,24,24,.int .u8 0::List.replicate 23 (.int .u8 0),true⟩)) .nil)) .nil)) (.node none (.node none .nil (.node none (.node none (tL (some ⟨.slice 302,1,24,[.slice none 0 0],true⟩)) .nil) (.node none (tL (some ⟨.array 65 5,65,65,.int .u8 0::List.replicate 64 (.int .u8 0),true⟩)) .nil))) (.node none (.node none (.node (some ⟨.ptr 158,1,8,[.pointer none],true⟩) (tL E4) .nil) .nil) .nil)))) (.node none (.node none (.node none (.node none .nil (.node none (tL E4) .nil)) (.node (some ⟨.ptr 205,1,8,[.pointer none],true⟩) (.node none .nil (tL E4)) .nil)) (.node (some ⟨.struct [(0,23,true),(1,24,true)],2,32,[.int .i64 0,.slice none 0 0],true⟩) .nil (.node E4 .nil (.node none (tL (some ⟨.array 3 3,3,24,[.int .i64 0,.int .i64 0,.int .i64 0],true⟩)) .nil)))) (.node none (.node none (.node none .nil (.node none (.node none (tL (some ⟨.array 2 27,2,16,[.int .i64 0,.int .i64 0],true⟩)) .nil) .nil)) (.node none (.node none .nil (tL (some ⟨.array 4 213,12,96,.nilFunc::List.replicate 11 (.nilFunc),true⟩))) (.node none (tL (some ⟨.array 3 26,6,96,[.int .i64 0,.slice none 0 0,.int .i64 0,.slice none 0 0,.int .i64 0,.slice none 0 0],true⟩)) (tL (some ⟨.array 2 26,4,64,[.int .i64 0,.slice none 0 0,.int .i64 0,.slice none 0 0],true⟩))))) (.node none (.node none (tL (some ⟨.slice 80,1,24,[.slice none 0 0],true⟩)) (.node none (.node none (tL (some ⟨.struct [(0,3,true),(1,3,true)],2,16,[.int .i64 0,.int .i64 0],true⟩)) .nil) .nil)) (.node none (.node none (tL (some ⟨.struct [(0,26,true),(2,3,true),(3,3,true),(4,27,true)],5,56,[.int .i64 0,.slice none 0 0,.int .i64 0,.int .i64 0,.int .i64 0],true⟩)) .nil) .nil)))))
def tT:TT:=tTr.get

set_option maxRecDepth 100000 in
theorem bQs:(tTr.all id).map (fun p=>cL Tryz.prog p.1)=(tTr.all id).map fun p=>some p.2:=by kernel_rfl
theorem bCb:∀ t i,tT t=some i→cL Tryz.prog t=some i:=fun t i h=>by
 have h1:=Tr.get_all tTr id t i h;obtain ⟨j,hj,hx⟩:=List.getElem_of_mem h1;have h2:=congrArg (fun l=>l[j]?) bQs
 simp only [tX,B4 hj,hx,Option.map_some,id,Option.some.injEq] at h2
 exact h2

def okF(P:Program)(f:Nat):Bool:=match P.funcs[f]? with
 | some fn => !(fn.name == "runtime.NumGoroutine") && fn.body.isSome
 | none=>false
theorem bJh{P:Program}{f:Nat}(h:okF P f=true)(args:Array Value)(w:World):(callFunc f args).run P w = .ok (.enter f args) w:=by
 unfold okF at h
 split at h
 ·rename_i fn hf
  simp only [B0,Bool.not_eq_true'] at h
  have hn : ¬ fn.name = "runtime.NumGoroutine" := by simpa using h.1
  have hb:¬ fn.body=none:=fun e=>by rw [e] at h;cases h.2
  unfold callFunc;simp [hf,hn,hb]
 ·cases h
def exF:List Nat:=[125,235,252,253,279,314,315,316,317,318,319,320,321,322,323,324,325,326,327,328,329,330,331,332,333]
def ok(f:Nat):Bool:=match Nat.ble 2 f with
 | true=>match Nat.ble f 333 with
  | true => !(inN f exF)
  | false=>false
 | false=>false
set_option maxRecDepth 100000 in
theorem bQt:((List.range 334).drop 2).all (fun f=>inN f exF || okF Tryz.prog f)=true:=by kernel_rfl
theorem bQu:∀ f,ok f=true→∀ args w,(callFunc f args).run Tryz.prog w = .ok (.enter f args) w:=fun f h=>by
 unfold ok at h
 split at h
 ·rename_i h2
  split at h
  ·rename_i h3
   have h2:=Nat.le_of_ble_eq_true h2;have h3:=Nat.le_of_ble_eq_true h3;have:=bQt;rw [iD] at this
   have h4:=this f (by
    rw [List.mem_iff_getElem];exact ⟨f-2,by simp;omega,by simp;omega⟩)
   rw [Bool.not_eq_true'] at h
   rw [h,Bool.false_or] at h4
   exact bJh h4
  ·cases h
 ·cases h
theorem mixed:Tryz.prog.follows .mixedOrders=true:=by kernel_rfl
end
section
variable {P:Program} {T:TT} {E:Env} {C C0:Cx} {M M0:Mem} {w w0:World}

def aF(P:Program)(k:Nat)(b:Code)(st:St)(e:Ex)(Ai:St):Prop:=∀ (C0:Cx) (M0:Mem) (w0:World) (a:Act) (w:World),M0.length≤k→Sim P C0 M0 w0 st a w→∀ (ro:Option Nat),jS ro b→∀ (n:Nat),LoopIn (Fen ro) n P b (fun e' a' w'=>e'=e.toExit∧Sim P C0 M0 w0 Ai a' w') a w

section
variable {k:Nat} {b:Code} {st st1 Ai:St} {e:Ex}
theorem aF.step(h:aA P k b st .normal st1)(hr:aF P k b st1 e Ai):aF P k b st e Ai:=fun C0 M0 w0 a w hk hs ro hro n=>LoopIn.step (wpIn_mono (h C0 M0 w0 a w hk hs ro hro n) fun e' a' w' hq=>by
 obtain ⟨rfl,B6⟩:=hq;exact hr C0 M0 w0 a' w' hk B6 ro hro n)
theorem aF.exit(h:aA P k b st e Ai)(he:e ≠ .normal):aF P k b st e Ai:=fun C0 M0 w0 a w hk hs ro hro n=>LoopIn.step (wpIn_mono (h C0 M0 w0 a w hk hs ro hro n) fun e' a' w' hq=>by
 obtain ⟨rfl,B6⟩:=hq;cases e with
 | normal=>exact absurd rfl he
 | ret=>exact ⟨rfl,B6⟩
 | exit id=>exact ⟨rfl,B6⟩)
theorem aF.code(h:aF P k b st e Ai):aA P k (.loop b) st e Ai:=fun C0 M0 w0 a w hk hs ro hro n=>LoopIn.wp (h C0 M0 w0 a w hk hs ro hro.loop n)
theorem aF.range{α β:Type}(S:Nat→β→St)(R:β→St)(f:β→α→β)(Inv:Nat→β→Prop)(he:e ≠ .normal)(l:List α){a0:β}(h0:Inv 0 a0)
  (hs:∀ (i:Nat) (x:α) (acc:β),l[i]? = some x→Inv i acc→Inv (i+1) (f acc x)∧aA P k b (S i acc) .normal (S (i+1) (f acc x)))
  (hx:∀ acc,Inv l.length acc→aA P k b (S l.length acc) e (R acc)):aF P k b (S 0 a0) e (R (l.foldl f a0)):=by
 have key:∀ (r:List α) (i:Nat) (acc:β),l.drop i=r→i≤l.length→Inv i acc→aF P k b (S i acc) e (R (r.foldl f acc)):=by
  intro r
  induction r with
  | nil =>
   intro i acc hd hi hI;have:i=l.length:=by have:=congrArg List.length hd;simp at this;omega
   subst this;exact .exit (hx _ hI) he
  | cons x r ih =>
   intro i acc hd hi hI;have hl:l[i]? = some x:=by
    have:=congrArg (·[0]?) hd
    simpa using this
   obtain ⟨h1,h2⟩:=hs i x acc hl hI;have hlt:i<l.length:=(Cf.1 hl).1;refine .step h2 (ih (i+1) _ ?_ (by omega) h1)
   have:=congrArg List.tail hd;simpa [List.tail_drop] using this
 exact key l 0 a0 (by simp) (Nat.zero_le _) h0

end

def FV(P:Program)(f:Nat)(args:List AV)(base:Nat)(y:AV)(L:Upd):Prop:=∃ r M1,FMM P f args [] r M1∧aSo M1 base r=some (y,L)

theorem FV.fc{f base:Nat}{args:List AV}{y:AV}{L:Upd}{bs:List (Nat × AO)}(h:FV P f args base y L)(hn:gU args=true):FC P f args bs base y L:=fun M _ hb _=>by
 obtain ⟨r,M1,h1,h2⟩:=h;exact uS (.inl ⟨hn,rfl⟩) hb h2 h1

def aNh(m M:Mem):Prop:=∀ (id:Nat) (o:AO),bQ m id=some o→bQ M id=some o
section
variable {m:Mem}
theorem aFp(hs:aNh m M){id:Nat}{r:Nat × Nat × List PV}(h:eP m id=some r):eP M id=some r:=by
 have:=bG.2 (dC h);unfold eP;rw [hs _ _ this]
theorem aUr(hs:aNh m M){x:AV}{y:PV}(h:Dz m x=some y):Dz M x=some y:=by
 unfold Dz at h ⊢
 split at h
 ·exact h
 ·exact h
 ·split at h
  ·rename_i hr
   rw [aFp hs hr];exact h
  ·cases h
 ·exact h
 ·cases h
theorem aDb(hs:aNh m M):∀ {l:List AV} {ys:List PV},yZ m l=some ys→yZ M l=some ys
 | [],_,h=>h
 | x::r,ys,h=>by
  unfold yZ at h ⊢
  split at h
  ·rename_i h1
   split at h
   ·rename_i h2
    rw [aUr hs h1,aDb hs h2];exact h
   ·cases h
  ·cases h
mutual
theorem bDv(hs:aNh m M):∀ {x y:AV},view m x=some y→view M x=some y
 | .p x,y,h=>by simp only [view] at h ⊢;exact h
 | .kb b,y,h=>by simp only [view] at h ⊢;exact h
 | .any,y,h=>by simp only [view] at h ⊢;exact h
 | .yld l,y,h=>by simp only [view] at h ⊢;exact h
 | .rp cs o,y,h=>by simp only [view] at h ⊢;exact h
 | .own id,y,h=>by
  simp only [view] at h ⊢
  split at h
  ·rename_i hr
   rw [aFp hs hr];exact h
  ·cases h
 | .arr id off n,y,h=>by
  simp only [view] at h ⊢
  split at h
  ·rename_i hr
   rw [aFp hs hr];exact h
  ·cases h
 | .ptr id off,y,h=>by
  simp only [view] at h ⊢
  split at h
  ·rename_i hr
   rw [hs _ _ hr];exact h
  ·rename_i hr
   rw [hs _ _ hr]
   split at h
   ·rename_i hc
    simp only [aDb hs hc];exact h
   ·cases h
  ·cases h
 | .agg l,y,h=>by
  simp only [view] at h ⊢
  split at h
  ·rename_i hr
   rw [mS hs hr];exact h
  ·cases h
 | .fn f a b,y,h=>by
  simp only [view] at h ⊢
  split at h
  ·rename_i ha
   split at h
   ·rename_i hb
    rw [mS hs ha,mS hs hb];exact h
   ·cases h
  ·cases h
 | .tup l,y,h=>by simp [view] at h
 | .mp i,y,h=>by simp [view] at h
theorem mS(hs:aNh m M):∀ {l ys:List AV},lF m l=some ys→lF M l=some ys
 | [],_,h=>by simp only [lF] at h ⊢;exact h
 | x::r,ys,h=>by
  simp only [lF] at h ⊢
  split at h
  ·rename_i h1
   split at h
   ·rename_i h2
    rw [bDv hs h1,mS hs h2];exact h
   ·cases h
  ·cases h
end
end
theorem pG:∀ (bs:Upd) (m:Mem) (id:Nat) (o:AO),bQ (upds m bs) id=some o→(id,o)∈bs∨bQ m id=some o
 | [],_,_,_,h => .inr h
 | (i,x)::r,m,id,o,h=>by
  rcases pG r _ id o h with h1 | h1
  ·exact .inl (C7 _ h1)
  ·rw [dA] at h1
   split at h1
   ·rename_i e
    subst e;cases h1;exact .inl (mP ..)
   ·exact .inr h1
theorem FV.view{f base:Nat}{args Am:List AV}{y:AV}{L:Upd}{bs:List (Nat × AO)}(h:FV P f Am base y L)(hv:lF (upds [] bs) args=some Am)(h1:aSq y=true)(h2:aSr L=true):FC P f args bs base y L:=fun M hb hf _=>by
 obtain ⟨r,M1,h3,h4⟩:=h;refine uS (.inr ⟨mS (fun id o ho => ?_) hv,h1,h2⟩) hf h4 h3
 rcases pG bs [] id o ho with h5 | h5
 ·exact hb _ h5
 ·simp [bQ] at h5
end
section
variable {P:Program} {T:TT} {E:Env} {C C0:Cx} {M M0 M1:Mem} {w w0:World}

def bkI(ids:List Nat)(base j:Nat):Option Nat:=match ids[j]? with
 | some i=>some i
 | none=>match Nat.beq j ids.length with
  | true=>some base
  | false=>none
def lS(ids:List Nat)(base:Nat):List Nat→Mem→Option Upd
 | i::r,some o::m=>match mpO (bkI ids base) o with
  | some o'=>(lS ids base r m).map ((i,o') :: ·)
  | none=>none
 | [],[]=>some []
 | [],[some o]=>match mpO (bkI ids base) o with
  | some o'=>some [(base,o')]
  | none=>none
 | _,_=>none

theorem aCz{Gl:List Nat}{base:Nat}:∀ {ids:List Nat} {m:Mem} {L:Upd},lS Gl base ids m=some L→ids.Nodup→base∉ids →
  (m.length=ids.length∨m.length=ids.length+1) ∧
  ∀ (N:Mem),(∀ (p i:Nat) (o':AO),ids[p]? = some i→(bQ (upds N L) i=some o'↔∃ o,m[p]? = some (some o)∧mpO (bkI Gl base) o=some o')) ∧
   (m.length=ids.length+1→∀ (o':AO),(bQ (upds N L) base=some o'↔∃ o,m[ids.length]? = some (some o)∧mpO (bkI Gl base) o=some o')) ∧
   (m.length=ids.length→bQ (upds N L) base=bQ N base) ∧
   ∀ j,j∉ids→j≠base→bQ (upds N L) j=bQ N j
 | [],[],L,h,_,_=>by
  unfold lS at h;cases h
  refine ⟨.inl rfl,fun N=>⟨fun p i o' hp=>by simp at hp,fun h=>by simp at h,fun _=>rfl,fun _ _ _=>rfl⟩⟩
 | [],[some o],L,h,_,_=>by
  unfold lS at h
  split at h
  ·rename_i o' ho
   cases h;refine ⟨.inr rfl,fun N=>⟨fun p i o' hp=>by simp at hp,fun _ o2 => ?_,fun h=>by simp at h,fun j _ hj => ?_⟩⟩
   ·simp only [upds]
    rw [dA,if_pos rfl];constructor
    ·intro h;cases h;exact ⟨o,rfl,ho⟩
    ·rintro ⟨o3,h3,h4⟩
     simp at h3;subst h3
     rw [ho] at h4;exact h4
   ·simp only [upds]
    rw [dA,if_neg (Ne.symm hj)]
  ·cases h
 | i::r,some o::m,L,h,hd,hb=>by
  unfold lS at h
  split at h
  ·rename_i o' ho
   simp only [C9] at h
   obtain ⟨L',I0,rfl⟩:=h;obtain ⟨Hq,Fl⟩:=List.nodup_cons.1 hd;have Dd:base≠i:=fun e=>hb (by simp [e])
   have Gp:base∉r:=fun e=>hb (C7 _ e)
   obtain ⟨q1,q2⟩:=aCz (ids:=r) I0 Fl Gp;refine ⟨by simpa using q1,fun N => ?_⟩
   obtain ⟨r1,r2,r3,r4⟩:=q2 (aZ N i (some o'));refine ⟨fun p j o2 hp => ?_,fun hl o2 => ?_,fun hl => ?_,fun j hj hne => ?_⟩
   ·cases p with
    | zero =>
     simp at hp;subst hp
     simp only [upds];rw [r4 i Hq (Ne.symm Dd),dA,if_pos rfl];constructor
     ·intro h;cases h;exact ⟨o,rfl,ho⟩
     ·rintro ⟨o3,h3,h4⟩
      simp at h3;subst h3
      rw [ho] at h4;exact h4
    | succ p =>
     simp only [upds];rw [List.getElem?_cons_succ] at hp
     rw [r1 p j o2 hp];rfl
   ·have:=r2 (by simpa using hl) o2
    simpa [upds] using this
   ·simp only [upds]
    rw [r3 (by simpa using hl),dA,if_neg (Ne.symm Dd)]
   ·simp only [upds]
    rw [r4 j (fun e=>hj (C7 _ e)) hne,dA,if_neg (fun e=>hj (by simp [e]))]
  ·cases h
 | [],none::_,L,h,_,_=>by unfold lS at h;cases h
 | [],some _::_::_,L,h,_,_=>by unfold lS at h;cases h
 | _::_,[],L,h,_,_=>by unfold lS at h;cases h
 | _::_,none::_,L,h,_,_=>by unfold lS at h;cases h

theorem zX{Gl:List Nat}{base:Nat}:∀ {ids:List Nat} {m:Mem} {L:Upd},lS Gl base ids m=some L→∀ (p:Nat) (o1:AO),m[p]? = some (some o1)→∃ o',mpO (bkI Gl base) o1=some o'
 | [],[],L,h,p,o1,hp=>by simp at hp
 | [],[some o],L,h,p,o1,hp=>by
  unfold lS at h
  split at h
  ·rename_i hx
   cases p with
   | zero=>simp at hp;subst hp;exact ⟨_,hx⟩
   | succ p=>simp at hp
  ·cases h
 | i::r,some o::m,L,h,p,o1,hp=>by
  unfold lS at h
  split at h
  ·rename_i hx
   simp only [C9] at h
   obtain ⟨L',I0,_⟩:=h;cases p with
   | zero=>simp at hp;subst hp;exact ⟨_,hx⟩
   | succ p=>exact zX I0 p o1 (by simpa using hp)
  ·cases h
 | [],none::_,L,h,_,_,_=>by unfold lS at h;cases h
 | [],some _::_::_,L,h,_,_,_=>by unfold lS at h;cases h
 | _::_,[],L,h,_,_,_=>by unfold lS at h;cases h
 | _::_,none::_,L,h,_,_,_=>by unfold lS at h;cases h

def Cx.back(C C1:Cx)(ids:List Nat)(base:Nat):Cx :=
 {ι:=fun j=>match idx ids j 0 with | some p=>C1.ι p | none=>if j=base then C1.ι ids.length else C.ι j
  κ:=fun j=>match idx ids j 0 with | some p=>C1.κ p | none=>if j=base then C1.κ ids.length else C.κ j
  F:=C1.F }
theorem nY:∀ {ids:List Nat},ids.Nodup→∀ {p i:Nat} (n:Nat),ids[p]? = some i→idx ids i n=some (n+p)
 | [],_,p,i,n,h=>by simp at h
 | a::r,hd,p,i,n,h=>by
  obtain ⟨h1,h2⟩:=List.nodup_cons.1 hd;unfold idx;cases p with
  | zero=>simp at h;subst h;simp
  | succ p =>
   rw [List.getElem?_cons_succ] at h
   have hne:a≠i:=fun e=>h1 (e ▸ Ch h)
   have hb:Nat.beq a i=false:=by
    cases hq:Nat.beq a i with
    | false=>rfl
    | true=>exact absurd (Nat.eq_of_beq_eq_true hq) hne
   rw [hb];have:=nY h2 (n+1) h;simp only [this]
   congr 1;omega

theorem aFo{f:Nat→Option Nat}{C':Cx}{M':Mem}(hm:aSw f C C' M M'):∀ {l ys:List AV} {us:List Value},cS C M w l us→mpL f l=some ys→cS C' M' w ys us
 | [],ys,us,h,hr=>by cases h;simp only [mpL] at hr;cases hr;exact .nil
 | x::r,ys,us,h,hr=>by
  cases h with
  | cons _ u _ k hx hk =>
   simp only [mpL] at hr
   split at hr
   ·rename_i y hy
    simp only [C9] at hr
    obtain ⟨r',Dv,rfl⟩:=hr;exact .cons _ _ _ _ (qH hm hx hy) (aFo hm hk Dv)
   ·cases hr

theorem bKj{base:Nat}{ids:List Nat}{r y:AV}{L:Upd}{C1:Cx}{w':World}{u:Value}(hd:distinct 0 ids=true)(hb:eZ M base=true)
  (hs:rnM 0 ids (ids.map (at? M))=some M0) (hlv:∀ i∈ids,dQ M i=true) (hU:lS ids base ids M1=some L) (hy:mpA (bkI ids base) r=some y)
  (hM:aW P C M w) (hF:Fr (C.rn 0 ids) M0 w C1 M1 w') (Bq:aW P C1 M1 w') (hr:Rep C1 M1 w' r u):Fr C M w (C.back C1 ids base) (upds M L) w'∧aW P (C.back C1 ids base) (upds M L) w'∧Rep (C.back C1 ids base) (upds M L) w' y u:=by
 obtain ⟨_,hnd⟩:=gA hd;obtain ⟨Hu,hmp,hsrc⟩:=oT (k:=0) hM hd hs;have hlen:M0.length=ids.length:=by have:=(yE hs).1;simpa using this
 have hbn:base∉ids:=fun hm=>by
  obtain ⟨o,h1,_⟩:=dG (hlv _ hm);exact cU hb o h1
 obtain ⟨An,hup⟩:=aCz hU hnd hbn;obtain ⟨u1,u2,u3,u4⟩:=hup M;have hL:=Hu.le hF;have srcp:∀ p i,ids[p]? = some i→kZ 0 ids p=some i:=fun p i h=>by simp [kZ,h]
 have rnp:∀ p i,ids[p]? = some i→rnI 0 ids i=some p:=fun p i h=>by
  have:=nY hnd 0 h;unfold rnI;rw [show Nat.blt i 0=false from rfl,this,iT]
 have Cg:∀ p i,ids[p]? = some i→∃ o o0,M[i]? = some (some o)∧o.live=true∧M0[p]? = some (some o0)∧o0.live=true∧(C.rn 0 ids).ι p=C.ι i∧(C.rn 0 ids).κ p=C.κ i:=fun p i hp=>by
  obtain ⟨o,h1,h2⟩:=dG (hlv i (Ch hp));obtain ⟨o0,h3,h4⟩:=hmp.fw _ _ _ (rnp p i hp) h1;exact ⟨o,o0,h1,h2,h3,by rw [bO h4];exact h2,hmp.at_ _ _ (rnp p i hp)⟩
 have sh_of:∀ (p:Nat) (o0:AO),M0[p]? = some (some o0)→∃ i o,ids[p]? = some i∧M[i]? = some (some o)∧o.live=true∧o0.live=true∧(C.rn 0 ids).ι p=C.ι i:=fun p o0 hp=>by
  obtain ⟨hl,_⟩:=Cf.1 hp;have J6:ids[p]? = some ids[p]:=B4 (by omega)
  obtain ⟨o,o1,h1,h2,h3,h4,h5,_⟩:=Cg p _ J6;rw [hp] at h3;cases h3
  exact ⟨_,o,J6,h1,h2,h4,h5⟩
 have apart:∀ (j:Nat) (o:AO) (b:Nat),j∉ids→M[j]? = some (some o)→o.live=true→C.ι j=some b→w'.heap[b]? = w.heap[b]? ∧ ¬ C1.F b∧∀ (p:Nat) (o1:AO),M1[p]? = some (some o1)→o1.live=true→C1.ι p≠some b:=fun j o b hj h1 h2 h3=>by
  have Dd:=hM.lt j o b h1 h2 h3;have I1:∀ (p:Nat) (o0:AO),M0[p]? = some (some o0)→o0.live=true→(C.rn 0 ids).ι p≠some b:=fun p o0 hp _ he=>by
   obtain ⟨i,o2,q1,q2,q3,_,q4⟩:=sh_of p o0 hp;rw [q4] at he
   have:=hM.inj j i o o2 b h1 h2 q2 q3 h3 he;subst this;exact hj (Ch q1)
  refine ⟨hF.keep b Dd I1,fun hf => ?_,fun p o1 hp hl he => ?_⟩
  ·rcases hF.F2 b hf with q | q | ⟨p,o0,q1,q2,q3⟩
   ·exact hM.nF j o b h1 h2 h3 q
   ·omega
   ·exact I1 p o0 q1 q2 q3
  ·rcases hF.new p o1 b hp hl he with q | ⟨p0,o0,q1,q2,q3⟩
   ·omega
   ·exact I1 p0 o0 q1 q2 q3
 have ix:∀ j,(j∈ids→∃ p,idx ids j 0=some p∧ids[p]? = some j)∧(j∉ids→idx ids j 0=none):=fun j=>by
  refine ⟨fun hj => ?_,fun hj => ?_⟩
  ·obtain ⟨p,hp,he⟩:=List.mem_iff_getElem.1 hj
   have:ids[p]? = some j:=by rw [B4 hp,he]
   exact ⟨p,by simpa using nY hnd 0 this,this⟩
  ·cases h1:idx ids j 0 with
   | none=>rfl
   | some p =>
    obtain ⟨_,h2⟩:=sS _ _ _ _ h1;exact absurd (Ch h2) hj
 have cls:∀ (j:Nat) (o':AO),(upds M L)[j]? = some (some o')→(∃ p o1,ids[p]? = some j∧M1[p]? = some (some o1)∧mpO (bkI ids base) o1=some o'∧(C.back C1 ids base).ι j=C1.ι p∧(C.back C1 ids base).κ j=C1.κ p) ∨
   (∃ o1,j=base∧j∉ids∧M1[ids.length]? = some (some o1)∧mpO (bkI ids base) o1=some o'∧(C.back C1 ids base).ι j=C1.ι ids.length∧(C.back C1 ids base).κ j=C1.κ ids.length) ∨
   (j∉ids∧j≠base∧M[j]? = some (some o')∧(C.back C1 ids base).ι j=C.ι j∧(C.back C1 ids base).κ j=C.κ j):=fun j o' hj=>by
  rw [← bG] at hj
  by_cases hm:j∈ids
  ·obtain ⟨p,Fo,Ei⟩:=(ix j).1 hm
   obtain ⟨o1,h1,h2⟩:=(u1 p j o' Ei).1 hj;exact .inl ⟨p,o1,Ei,h1,h2,by simp [Cx.back,Fo],by simp [Cx.back,Fo]⟩
  ·have hn:=(ix j).2 hm
   by_cases hjb:j=base
   ·subst hjb
    rcases An with hl | hl
    ·rw [u3 hl] at hj
     have:=cU hb o';exact absurd (bG.1 hj) this
    ·obtain ⟨o1,h1,h2⟩:=(u2 hl o').1 hj
     exact .inr (.inl ⟨o1,rfl,hm,h1,h2,by simp [Cx.back,hn],by simp [Cx.back,hn]⟩)
   ·rw [u4 j hm hjb] at hj
    exact .inr (.inr ⟨hm,hjb,bG.1 hj,by simp [Cx.back,hn,hjb],by simp [Cx.back,hn,hjb]⟩)
 have Et:Fr C M w (C.back C1 ids base) (upds M L) w':=by
  refine ⟨hF.os,hF.tape,hF.out,hF.size,fun b Dd hn => ?_,fun i o ho => ?_,fun i o ho ty n cs hx => ?_,fun i o ho o' hx hl => ?_,fun j o b hj hl hjb => ?_,fun b hb=>hF.F1 b hb,fun b hb => ?_⟩
  ·exact hF.keep b Dd fun p o0 hp hl he=>by
    obtain ⟨i,o2,q1,q2,q3,_,q4⟩:=sh_of p o0 hp;rw [q4] at he
    exact hn i o2 q2 q3 he
  ·by_cases hm:i∈ids
   ·obtain ⟨p,Fo,Ei⟩:=(ix i).1 hm
    obtain ⟨_,o0,_,_,h3,h4,h5,h6⟩:=Cg p i Ei;obtain ⟨⟨o1,q1⟩,q2,q3⟩:=hF.ids p o0 h3;refine ⟨?_,by simp only [Cx.back,Fo];rw [q2,h5],by simp only [Cx.back,Fo];rw [q3,h6]⟩
    have hq:∃ o',mpO (bkI ids base) o1=some o':=by
     exact zX hU p o1 q1
    obtain ⟨o',hq⟩:=hq;exact ⟨o',bG.1 ((u1 p i o' Ei).2 ⟨o1,q1,hq⟩)⟩
   ·have hne:i≠base:=fun e=>by subst e;exact cU hb o ho
    refine ⟨⟨o,bG.1 (by rw [u4 i hm hne];exact bG.2 ho)⟩,by simp [Cx.back,(ix i).2 hm,hne],by simp [Cx.back,(ix i).2 hm,hne]⟩
  ·rcases cls i _ hx with ⟨p,o1,q1,q2,q3,_⟩ | ⟨o1,rfl,_⟩ | ⟨_,_,q3,_⟩
   ·rw [jE q3] at q2
    obtain ⟨o2,o0,h1,_,h3,_⟩:=Cg p i q1;obtain ⟨Bh,h5⟩:=hF.row p o0 h3 _ _ _ q2;obtain ⟨o4,h6,h7⟩:=hmp.bk _ _ _ (rnp p i q1) h5;rw [jE h7] at h6
    exact ⟨Bh,h6⟩
   ·exact absurd ho (cU hb o)
   ·exact ⟨cs,q3⟩
  ·rcases cls i _ hx with ⟨p,o1,q1,q2,q3,_⟩ | ⟨o1,rfl,_⟩ | ⟨_,_,q3,_⟩
   ·obtain ⟨o2,o0,h1,h2,h3,_⟩:=Cg p i q1
    rw [ho] at h1;cases h1
    exact h2
   ·exact absurd ho (cU hb o)
   ·rw [ho] at q3;cases q3;exact hl
  ·have fin:∀ (p:Nat) (o1:AO),M1[p]? = some (some o1)→o1.live=true→C1.ι p=some b→w.heap.size≤b∨∃ (Ef:Nat) (o0:AO),M[Ef]? = some (some o0)∧o0.live=true∧C.ι Ef=some b:=fun p o1 h1 h2 h3=>by
    rcases hF.new p o1 b h1 h2 h3 with q | ⟨p0,o0,q1,q2,q3⟩
    ·exact .inl q
    ·obtain ⟨i,o2,r1,r2,r3,_,r4⟩:=sh_of p0 o0 q1
     rw [r4] at q3
     exact .inr ⟨i,o2,r2,r3,q3⟩
   rcases cls j _ hj with ⟨p,o1,q1,q2,q3,q4,_⟩ | ⟨o1,rfl,_,q2,q3,q4,_⟩ | ⟨_,_,q3,q4,_⟩
   ·rw [q4] at hjb
    exact fin p o1 q2 (by rw [← bO q3];exact hl) hjb
   ·rw [q4] at hjb
    exact fin _ o1 q2 (by rw [← bO q3];exact hl) hjb
   ·rw [q4] at hjb
    exact .inr ⟨j,o,q3,hl,hjb⟩
  ·rcases hF.F2 b hb with q | q | ⟨p,o0,q1,q2,q3⟩
   ·exact .inl q
   ·exact .inr (.inl q)
   ·obtain ⟨i,o2,r1,r2,r3,_,r4⟩:=sh_of p o0 q1
    rw [r4] at q3
    exact .inr (.inr ⟨i,o2,r2,r3,q3⟩)
 have G2:=hM.le Et;have hbk:aSw (bkI ids base) C1 (C.back C1 ids base) M1 (upds M L):=by
  have two:∀ i j,bkI ids base i=some j→(ids[i]? = some j)∨(i=ids.length∧j=base):=fun i j h=>by
   unfold bkI at h
   split at h
   ·rename_i hi;cases h;exact .inl hi
   ·split at h
    ·rename_i hq;cases h;exact .inr ⟨Nat.eq_of_beq_eq_true hq,rfl⟩
    ·cases h
  have big:∀ (o:AO),M1[ids.length]? = some (some o)→M1.length=ids.length+1:=fun o h=>by
   obtain ⟨hl,_⟩:=Cf.1 h;omega
  refine ⟨fun i j o' hij hj => ?_,fun i j o hij hi => ?_,fun i j hij => ?_,fun _ h=>h⟩
  ·rcases two i j hij with h1 | ⟨rfl,rfl⟩
   ·exact (u1 i j o' h1).1 (bG.2 hj)
   ·rcases An with hl | hl
    ·have:=bG.2 hj
     rw [u3 hl] at this
     exact absurd (bG.1 this) (cU hb o')
    ·exact (u2 hl o').1 (bG.2 hj)
  ·have hq:∃ o',mpO (bkI ids base) o=some o':=by
    exact zX hU i o hi
   obtain ⟨o',hq⟩:=hq
   rcases two i j hij with h1 | ⟨rfl,rfl⟩
   ·exact ⟨o',bG.1 ((u1 i j o' h1).2 ⟨o,hi,hq⟩),hq⟩
   ·exact ⟨o',bG.1 ((u2 (big o hi) o').2 ⟨o,hi,hq⟩),hq⟩
  ·rcases two i j hij with h1 | ⟨rfl,rfl⟩
   ·have:=nY hnd 0 h1
    rw [iT] at this
    simp [Cx.back,this]
   ·simp [Cx.back,(ix _).2 hbn]
 refine ⟨Et,⟨fun j ty n cs h => ?_,fun j ty cs h => ?_,fun j es cl h => ?_,fun j j' o1 o2 b q1 l1 q2 l2 e1 e2 => ?_,fun j o b h hl hb => ?_,Bq.Fs,fun j o b h hl hb => ?_,Bq.lib.mono (fun _ h=>h) fun _ _=>rfl⟩,qH hbk hr hy⟩
 ·rcases cls j _ h with ⟨p,o1,q1,q2,q3,q4,q5⟩ | ⟨o1,rfl,_,q2,q3,q4,q5⟩ | ⟨q1,_,q3,q4,q5⟩
  ·rw [jE q3] at q2
   rw [q4,q5];exact Bq.row _ _ _ _ q2
  ·rw [jE q3] at q2
   rw [q4,q5];exact Bq.row _ _ _ _ q2
  ·rw [q4,q5]
   rcases hM.row _ _ _ _ q3 with q | ⟨b,arr,inf,p0,p1,p2,p3,p4,p5,p6,p7,p8⟩
   ·exact .inl q
   ·exact .inr ⟨b,arr,inf,p0,by rw [(apart j _ b q1 q3 rfl p0).1];exact p1,p2,p3,p4,p5,p6,fun i hi=>(p7 i hi).mono G2.F G2.fz,p8⟩
 ·rcases cls j _ h with ⟨p,o1,q1,q2,q3,q4,q5⟩ | ⟨o1,rfl,_,q2,q3,q4,q5⟩ | ⟨q1,_,q3,q4,q5⟩
  ·cases o1 with
   | box C3 l =>
    simp only [mpO,C9] at q3
    obtain ⟨l',De,e⟩:=q3;cases e;obtain ⟨b,arr,p0,p1,p2,p3,p4⟩:=Bq.box _ _ _ q2;obtain ⟨n1,n2⟩:=eR hbk (w:=w') (us:=fun j=>arr.getD j undef) p3 De
    exact ⟨b,arr,by rw [q4];exact p0,p1,by omega,n2,fun j hj=>p4 j (by omega)⟩
   | row=>simp [mpO] at q3
   | mp=>simp [mpO] at q3
   | pk=>simp [mpO] at q3
   | dead=>simp [mpO] at q3
  ·cases o1 with
   | box C3 l =>
    simp only [mpO,C9] at q3
    obtain ⟨l',De,e⟩:=q3;cases e;obtain ⟨b,arr,p0,p1,p2,p3,p4⟩:=Bq.box _ _ _ q2;obtain ⟨n1,n2⟩:=eR hbk (w:=w') (us:=fun j=>arr.getD j undef) p3 De
    exact ⟨b,arr,by rw [q4];exact p0,p1,by omega,n2,fun j hj=>p4 j (by omega)⟩
   | row=>simp [mpO] at q3
   | mp=>simp [mpO] at q3
   | pk=>simp [mpO] at q3
   | dead=>simp [mpO] at q3
  ·obtain ⟨b,arr,p0,p1,p2,p3,p4⟩:=hM.box _ _ _ q3
   exact ⟨b,arr,by rw [q4];exact p0,by rw [(apart j _ b q1 q3 rfl p0).1];exact p1,p2,fun i hi=>(p3 i hi).mono G2,p4⟩
 ·rcases cls j _ h with ⟨p,o1,q1,q2,q3,q4,q5⟩ | ⟨o1,rfl,_,q2,q3,q4,q5⟩ | ⟨q1,_,q3,q4,q5⟩
  ·cases o1 with
   | mp E8 Jr =>
    simp only [mpO,Option.some.injEq] at q3
    cases q3;obtain ⟨b,arr,p0,p1,p2,p3⟩:=Bq.mp _ _ _ q2;refine ⟨b,arr,by rw [q4];exact p0,p1,p2,fun j hj => ?_⟩
    obtain ⟨en,s1,s2,s3,s4⟩:=p3 j hj;exact ⟨en,s1,s2,s3,s4.mono hbk.F (fun _ _=>rfl)⟩
   | row=>simp [mpO] at q3
   | box=>simp [mpO] at q3
   | pk=>simp [mpO] at q3
   | dead=>simp [mpO] at q3
  ·cases o1 with
   | mp E8 Jr =>
    simp only [mpO,Option.some.injEq] at q3
    cases q3;obtain ⟨b,arr,p0,p1,p2,p3⟩:=Bq.mp _ _ _ q2;refine ⟨b,arr,by rw [q4];exact p0,p1,p2,fun j hj => ?_⟩
    obtain ⟨en,s1,s2,s3,s4⟩:=p3 j hj;exact ⟨en,s1,s2,s3,s4.mono hbk.F (fun _ _=>rfl)⟩
   | row=>simp [mpO] at q3
   | box=>simp [mpO] at q3
   | pk=>simp [mpO] at q3
   | dead=>simp [mpO] at q3
  ·obtain ⟨b,arr,p0,p1,p2,p3⟩:=hM.mp _ _ _ q3
   refine ⟨b,arr,by rw [q4];exact p0,by rw [(apart j _ b q1 q3 rfl p0).1];exact p1,p2,fun i hi => ?_⟩
   obtain ⟨en,s1,s2,s3,s4⟩:=p3 i hi;exact ⟨en,s1,s2,s3,s4.mono G2.F G2.fz⟩
 ·rcases cls j _ q1 with ⟨p,a1,r1,r2,r3,r4,_⟩ | ⟨a1,rfl,r1,r2,r3,r4,_⟩ | ⟨r1,rb,r3,r4,_⟩ <;> rcases cls j' _ q2 with ⟨p',a2,t1,t2,t3,t4,_⟩ | ⟨a2,rfl,t1,t2,t3,t4,_⟩ | ⟨t1,tb,t3,t4,_⟩
  all_goals try rfl
  all_goals (rw [r4] at e1;rw [t4] at e2)
  ·have:=Bq.inj p p' a1 a2 b r2 (by rw [← bO r3];exact l1) t2 (by rw [← bO t3];exact l2) e1 e2
   subst this;rw [r1] at t1;cases t1;rfl
  ·have:=Bq.inj p _ a1 a2 b r2 (by rw [← bO r3];exact l1) t2 (by rw [← bO t3];exact l2) e1 e2
   obtain ⟨hl,_⟩:=Cf.1 r1;omega
  ·exact absurd e1 ((apart j' o2 b t1 t3 l2 e2).2.2 p a1 r2 (by rw [← bO r3];exact l1))
  ·have:=Bq.inj _ p' a1 a2 b r2 (by rw [← bO r3];exact l1) t2 (by rw [← bO t3];exact l2) e1 e2
   obtain ⟨hl,_⟩:=Cf.1 t1;omega
  ·exact absurd e1 ((apart j' o2 b t1 t3 l2 e2).2.2 _ a1 r2 (by rw [← bO r3];exact l1))
  ·exact absurd e2 ((apart j o1 b r1 r3 l1 e1).2.2 p' a2 t2 (by rw [← bO t3];exact l2))
  ·exact absurd e2 ((apart j o1 b r1 r3 l1 e1).2.2 _ a2 t2 (by rw [← bO t3];exact l2))
  ·exact hM.inj j j' o1 o2 b r3 l1 t3 l2 e1 e2
 ·rcases cls j _ h with ⟨p,o1,q1,q2,q3,q4,q5⟩ | ⟨o1,rfl,_,q2,q3,q4,q5⟩ | ⟨q1,_,q3,q4,q5⟩
  ·rw [q4] at hb
   exact Bq.nF _ _ b q2 (by rw [← bO q3];exact hl) hb
  ·rw [q4] at hb
   exact Bq.nF _ _ b q2 (by rw [← bO q3];exact hl) hb
  ·rw [q4] at hb
   exact (apart j o b q1 q3 hl hb).2.1
 ·rcases cls j _ h with ⟨p,o1,q1,q2,q3,q4,q5⟩ | ⟨o1,rfl,_,q2,q3,q4,q5⟩ | ⟨q1,_,q3,q4,q5⟩
  ·rw [q4] at hb
   exact Bq.lt _ _ b q2 (by rw [← bO q3];exact hl) hb
  ·rw [q4] at hb
   exact Bq.lt _ _ b q2 (by rw [← bO q3];exact hl) hb
  ·rw [q4] at hb
   exact tW (hM.lt j o b q3 hl hb) hF.size

theorem aNg{f base:Nat}{ids:List Nat}{args A3:List AV}{r y:AV}{L:Upd}(hd:distinct 0 ids=true)(hb:eZ M base=true)
  (hs:rnM 0 ids (ids.map (at? M))=some M0) (hlv:∀ i∈ids,dQ M i=true) (ha:rnL 0 ids args=some A3) (hU:lS ids base ids M1=some L) (hy:mpA (bkI ids base) r=some y)
  (h:FMM P f A3 M0 r M1):FM P f args M y L:=by
 intro C w us hus hM n;obtain ⟨Hu,hmp,_⟩:=oT (k:=0) hM hd hs;refine (h (C.rn 0 ids) w us (aFo hmp hus ha) Hu n).mono ?_;rintro e w' ⟨u,rfl,C1,hF,Bq,hr⟩;exact ⟨u,rfl,C.back C1 ids base,bKj hd hb hs hlv hU hy hM hF Bq hr⟩
def shown(ids:List Nat)(base:Nat)(args:List AV)(bs:Upd)(M1:Mem)(r:AV):Option (List AV × Mem × AV × Upd):=match distinct 0 ids && ids.all (dQ (upds [] bs)) with
 | true=>match rnM 0 ids (ids.map (at? (upds [] bs))) with
  | some M0=>match rnL 0 ids args with
   | some A3=>match lS ids base ids M1 with
    | some L=>match mpA (bkI ids base) r with
     | some y=>some (A3,M0,y,L)
     | none=>none
    | none=>none
   | none=>none
  | none=>none
 | false=>none
theorem FMM.fc{f base:Nat}{ids:List Nat}{args A3:List AV}{bs:Upd}{r y:AV}{L:Upd}(h:FMM P f A3 M0 r M1)(hs:shown ids base args bs M1 r=some (A3,M0,y,L)):FC P f args bs base y L:=fun M hb hf _=>by
 unfold shown at hs
 have hsub:aNh (upds [] bs) M:=fun id o ho=>by
  rcases pG bs [] id o ho with h5 | h5
  ·exact hb _ h5
  ·simp [bQ] at h5
 split at hs
 ·rename_i hd
  rw [B0,iD] at hd
  have hlv:∀ i∈ids,∃ o,bQ (upds [] bs) i=some o∧bQ M i=some o∧o.live=true:=fun i hi=>by
   obtain ⟨o,h1,h2⟩:=dG (hd.2 i hi);exact ⟨o,bG.2 h1,hsub _ _ (bG.2 h1),h2⟩
  split at hs
  ·rename_i h1
   split at hs
   ·rename_i h2
    split at hs
    ·rename_i h3
     split at hs
     ·rename_i h4
      cases hs;have he:ids.map (at? M)=ids.map (at? (upds [] bs)):=bDu fun i hi=>by
       obtain ⟨o,q1,q2,_⟩:=hlv i hi;unfold at?
       rw [q1,q2]
      refine aNg hd.1 hf (by rw [he];exact h1) (fun i hi => ?_) h2 h3 h4 h
      obtain ⟨o,_,q2,q3⟩:=hlv i hi;exact gG (bG.1 q2) q3
     ·cases hs
    ·cases hs
   ·cases hs
  ·cases hs
 ·cases hs

theorem aJd{id ty n:Nat}{cs:List PV}(hM:aW P C M w)(ho:M[id]? = some (some (.row ty n cs))):∀ {l:List AV} {us:List Value},cS C M w l us→cS (C.close id true) (aZ M id (some .dead)) w (fzL id n cs l) us
 | [],us,h=>by cases h;simp only [fzL];exact .nil
 | x::r,us,h=>by
  cases h with
  | cons _ u _ k hx hr =>
   simp only [fzL];exact .cons _ _ _ _ (aBz hM ho hx) (aJd hM ho hr)
theorem FM.close1{f id ty n:Nat}{cs:List PV}{args:List AV}{y:AV}{L:Upd}(ho:bQ M id=some (.row ty n cs))(h:FM P f (fzL id n cs args) (aZ M id (some .dead)) y L):FM P f args M y ((id,.dead)::L):=fun C w us hus hM k=>by
 have ho:=bG.1 ho;have fk:=cT (C:=C) (w:=w) true ho rfl;refine (h _ w us (aJd hM ho hus) (kR hM true ho rfl) k).mono ?_;rintro e w' ⟨u,rfl,C',hF,Eh,hr⟩;exact ⟨u,rfl,C',fk.trans hF,Eh,hr⟩
def zY(bs:Upd):List Nat→List AV→Option (List AV)
 | [],args=>match gU args with
  | true=>some args
  | false=>none
 | id::r,args=>match bQ (upds [] bs) id with
  | some (.row _ n cs)=>match r.all (fun j => !Nat.beq j id) with
   | true=>zY bs r (fzL id n cs args)
   | false=>none
  | _=>none
def kills:List Nat→Upd→Upd
 | [],L=>L
 | id::r,L=>(id,.dead)::kills r L
theorem aDa{f base:Nat}{bs:Upd}{y:AV}{L:Upd}:∀ {ids:List Nat} {M:Mem} {args Am:List AV},zY bs ids args=some Am→(∀ id∈ids,∀ o,bQ (upds [] bs) id=some o→bQ M id=some o)→eZ M base=true→FV P f Am base y L→FM P f args M y (kills ids L)
 | [],M,args,Am,hc,_,hf,h=>by
  unfold zY at hc
  split at hc
  ·rename_i hn
   cases hc;obtain ⟨r,M1,h1,h2⟩:=h;exact uS (.inl ⟨hn,rfl⟩) hf h2 h1
  ·cases hc
 | id::r,M,args,Am,hc,hb,hf,h=>by
  unfold zY at hc
  split at hc
  ·rename_i ty n cs ho
   split at hc
   ·rename_i hd
    have hoM:=hb id (mP ..) _ ho;refine FM.close1 hoM (aDa hc (fun j hj o hjo => ?_) ?_ h)
    ·have hne:j≠id:=fun e=>by
      have:=iD.1 hd j hj;subst e;simp at this
     rw [dA,if_neg (Ne.symm hne)];exact hb j (C7 _ hj) o hjo
    ·have hne:id≠base:=fun e=>by
      subst e;exact cU hf _ (bG.1 hoM)
     unfold eZ at hf ⊢
     rw [dA,if_neg hne];exact hf
   ·cases hc
  ·cases hc
theorem FV.close{f base:Nat}{ids:List Nat}{args Am:List AV}{y:AV}{L bs:Upd}(h:FV P f Am base y L)(hc:zY bs ids args=some Am):FC P f args bs base y (kills ids L):=fun M hb hf _=>by
 refine aDa hc (fun id _ o ho => ?_) hf h
 rcases pG bs [] id o ho with h5 | h5
 ·exact hb _ h5
 ·simp [bQ] at h5

def unA:AV→AV
 | .tup l => .tup (l.map un)
 | x=>un x
theorem bKk{x:AV}{u:Value}(h:Rep C M w x u):Rep C M w (unA x) u:=by
 cases h with
 | tup cs vs h1 h2 =>
  refine .tup _ _ (by simpa using h1) (fun i hi => ?_)
  simp only [gS];exact bDo (h2 i (by simpa using hi))
 | p x u h=>exact .p _ _ h
 | any u=>exact .any u
 | kb b=>exact bDo (.kb b)
 | yld l=>exact .yld l
 | own id u h0 ha h=>exact .own id u h0 ha h
 | arr id off n u h0 ha h=>exact .arr id off n u h0 ha h
 | ptr id off u h0 ha h hp=>exact .ptr id off u h0 ha h hp
 | mp id u h0 ha h=>exact .mp id u h0 ha h
 | pa id q u h0 ha h=>exact .pa id q u h0 ha h
 | rp cs off b o us h1 h2 h3=>exact .rp cs off b o us h1 h2 h3
 | agg cs vs h0 h1 h2=>exact .agg cs vs h0 h1 h2
 | fn f cs ds us vs h1 h2 h3 h4=>exact .fn f cs ds us vs h1 h2 h3 h4
theorem rU.un{f:Nat}{args:List AV}{M M1:Mem}{r:AV}(h:rU P f args M r M1):rU P f args M (unA r) M1:=fun C w us hus hM n=>by
 refine (h C w us hus hM n).mono ?_;rintro e w' ⟨u,rfl,C1,hF,Bq,hr,hP⟩;exact ⟨u,rfl,C1,hF,Bq,bKk hr,hP⟩

def bKl(k:Nat)(g:Gh)(x:Option ((AV × Mem) × AS)):Option (AV × Mem × List Prop × List OI):=match x with
 | some ((r,M1),s)=>match gh k g ⟨[unA r],M1⟩ with
  | some ⟨[r'],M'⟩=>some (r',M',s.obs,s.o)
  | _=>none
 | none=>none
theorem rU.gh{f k:Nat}{args:List AV}{M M1 M':Mem}{r r':AV}{g:Gh}(hk:M.length≤k)(h:rU P f args M r M1)(hg:KV.gh k g ⟨[r],M1⟩=some ⟨[r'],M'⟩):rU P f args M r' M':=fun C w us hus hM n=>by
 refine (h C w us hus hM n).mono ?_;rintro e w' ⟨u,rfl,C1,hF,Bq,hr,hP⟩;have hs:Sim P (C.with []) M w ⟨[r],M1⟩ { tmps := #[u],defers:=[] } w':=⟨C1,⟨rfl,fun i hi=>by
  obtain rfl:i=0:=by simpa using hi
  exact hr⟩,Bq,hF.based [],⟨[],rfl,.nil,fun D h=>by simp at h⟩,fun p hp=>(by cases hp),hP⟩
 obtain ⟨C2,hS,F7,Et,_,_,Pe⟩:=mF hk hg hs;exact ⟨u,rfl,C2,Et.unbased,F7,hS.rep 0 (by simp),Pe⟩
end
section
/-- numbers, by runs -/
def rng:List (Nat × Nat)→List Nat
 | []=>[]
 | (a,n)::r=>List.range' a n++rng r

abbrev aB(n:Int):PV := .v (.int .i64 n)
abbrev blP(b:Bool):PV := .v (.bool b)
abbrev bK(l:List Int):PV := .sl l.length (l.map aB)
abbrev bM:PV := .v (.slice none 0 0)

def EO:Env:=⟨fun _ _ _ _=>none,ok⟩
theorem bCa:oF Tp EO:=⟨fun _ _ _ _ _ _ h=>(by cases h),bQu⟩

def cd(f:Func):Code:=f.body.getD .skip
def sub:Code→List Nat→Code
 | c,[]=>c
 | .seq a b,i::r=>match i with | 0=>sub a r | _=>sub b r
 | .cond _ a b,i::r=>match i with | 0=>sub a r | _=>sub b r
 | .block _ b,_::r=>sub b r
 | .loop b,_::r=>sub b r
 | .scope b,_::r=>sub b r
 | .rangeFunc _ _ a b,i::r=>match i with | 0=>sub a r | _=>sub b r
 | _,_::_ => .skip
def look:List (Nat × AV)→Nat→AV
 | [],_ => .any
 | (i,x)::r,k=>match Nat.beq i k with
  | true=>x
  | false=>look r k
def frm(l:List (Nat × AV)):Nat→Nat→List AV
 | 0,_=>[]
 | n+1,k=>look l k::frm l n (k+1)
abbrev fr(n:Nat)(l:List (Nat × AV)):List AV:=frm l n 0

abbrev asg(o:List OI):AS:=⟨false,o,[]⟩
abbrev out(l:List Prop):AS:=⟨false,[],l⟩
theorem gn:bA (out []):=fun _ h=>by simp at h
theorem gc{p:Prop}{l:List Prop}(hp:p)(h:bA (out l)):bA (out (p::l)):=fun q hq=>by
 rcases lA.1 hq with rfl | hq
 ·exact hp
 ·exact h q hq

def bQq(base:Nat)(x:Option ((AV × Mem) × AS)):Option (AV × Upd × List Prop × List OI):=match x with
 | some ((r,M1),s)=>match aSo M1 base (unA r) with
  | some (y,L)=>some (y,L,s.obs,s.o)
  | none=>none
 | none=>none
theorem FV.fin{f base:Nat}{fn:Func}{args:List AV}{y:AV}{L:Upd}{o:List OI}{l:List Prop}(hf:Tryz.prog.funcs[f]? = some fn)(hb:fn.body.isSome=true)
  (h:bQq base (aLi Tp tT EO 0 fn (cd fn) args [] (asg o))=some (y,L,l,[])) (g:bA (out l)):FV Tp f args base y L:=by
 unfold bQq at h
 split at h
 ·rename_i r M1 s hr
  split at h
  ·rename_i y' L' ho
   simp only [Option.some.injEq,Prod.mk.injEq] at h
   obtain ⟨rfl,rfl,rfl,hs⟩:=h;refine ⟨unA r,M1,(rU.un (wC bCb bCa mixed hf ?_ hr (fun p hp=>g p hp))).fmm,ho⟩
   unfold cd;cases h1:fn.body with
   | none=>rw [h1] at hb;cases hb
   | some c=>rfl
  ·cases h
 ·cases h
def bQr(k:Nat)(g:Gh)(x:Option ((Ex × St) × AS)):Option (Ex × St × List Prop × List OI):=match x with
 | some ((e,st1),s)=>match gh k g st1 with
  | some Ai=>some (e,Ai,s.obs,s.o)
  | none=>none
 | none=>none
theorem aA.fin{k:Nat}{c:Code}{st Ai:St}{e:Ex}{g:Gh}{o:List OI}{l:List Prop}(h:bQr k g (xB Tp tT EO k 0 c st (asg o))=some (e,Ai,l,[]))(gd:bA (out l)):aA Tp k c st e Ai:=by
 unfold bQr at h
 split at h
 ·rename_i e1 st1 s hr
  split at h
  ·rename_i st2 hg
   simp only [Option.some.injEq,Prod.mk.injEq] at h
   obtain ⟨rfl,rfl,rfl,hs⟩:=h;exact (yD bCb bCa mixed c hr (fun p hp=>gd p hp)).post hg
  ·cases h
 ·cases h
theorem rU.fin{f k:Nat}{fn:Func}{args:List AV}{M M':Mem}{r:AV}{g:Gh}{o:List OI}{l:List Prop}(hk:M.length=k)(hf:Tryz.prog.funcs[f]? = some fn)(hb:fn.body.isSome=true)
  (h:bKl k g (aLi Tp tT EO 0 fn (cd fn) args M (asg o))=some (r,M',l,[])) (gd:bA (out l)):rU Tp f args M r M':=by
 unfold bKl at h
 split at h
 ·rename_i r1 M1 s hr
  split at h
  ·rename_i r2 M2 hg
   simp only [Option.some.injEq,Prod.mk.injEq] at h
   obtain ⟨rfl,rfl,rfl,hs⟩:=h;refine rU.gh (Nat.le_of_eq hk) (rU.un (wC bCb bCa mixed hf ?_ hr (fun p hp=>gd p hp))) hg
   unfold cd;cases h1:fn.body with
   | none=>rw [h1] at hb;cases hb
   | some c=>rfl
  ·cases h
 ·cases h
theorem FMM.fin{f k:Nat}{fn:Func}{args:List AV}{M M':Mem}{r:AV}{g:Gh}{o:List OI}{l:List Prop}(hk:M.length=k)(hf:Tryz.prog.funcs[f]? = some fn)(hb:fn.body.isSome=true)
  (h:bKl k g (aLi Tp tT EO 0 fn (cd fn) args M (asg o))=some (r,M',l,[])) (gd:bA (out l)):FMM Tp f args M r M':=(rU.fin hk hf hb h gd).fmm
theorem FV.frz{P:Program}{f base:Nat}{args:List AV}{y:AV}(h:FMM P f args [] y [])(ho:aSo [] base y=some (y,[])):FV P f args base y []:=⟨y,[],h,ho⟩
theorem aA.cast{P:Program}{k:Nat}{c:Code}{st st1 Ai:St}{e:Ex}(h:aA P k c st e st1)(he:st1=Ai):aA P k c st e Ai:=he ▸ h
def cK(st:St)(l:List (Nat × AV)):St:=⟨l.foldl (fun t p=>t.set p.1 p.2) st.t,st.m⟩

theorem dF{x y:Int}(h:x=y):(x == y)=true:=by simpa using h
theorem bL{x y:Int}(h:x≠y):(x == y)=false:=by simpa using h
theorem fD{x y:Int}(h:x≠y):(x != y)=true:=by simpa using h
theorem bV{x y:Int}(h:x=y):(x != y)=false:=by simpa using h
theorem cN{x y:Int}(h:x<y):decide (x<y)=true:=by simpa using h
theorem bC{x y:Int}(h:y≤x):decide (x<y)=false:=by simpa using h
theorem mD{x y:Int}(h:x≤y):decide (x≤y)=true:=by simpa using h
theorem eE{x y:Int}(h:y<x):decide (x≤y)=false:=by simpa using h
theorem cZ{b:Bool}(h:b=false):(!b)=true:=by simpa using h
theorem aX{b:Bool}(h:b=true):(!b)=false:=by simpa using h

theorem rP{α:Type}{g:α→PV}{l:List α}{i:Nat}{x:α}(h:l[i]? = some x):(l.map g)[i*1]? = some (g x):=by rw [Nat.mul_one,tX,h];rfl
theorem rQ{α:Type}{g:α→PV}{l:List α}{i:Int}{x:α}(h0:0≤i)(h:l[i.toNat]? = some x):0≤i∧i<(l.length:Int)∧i.toNat*1<(l.map g).length:=by
 obtain ⟨h1,_⟩:=Cf.1 h;refine ⟨h0,by omega,by simpa using h1⟩
theorem fk{P:Program}{f:Nat}{args:List AV}{y:AV}{L:Upd}(base:Nat)(h:FV P f args base y L)(hn:gU args=true):FC P f args [] base y L:=h.fc hn
theorem fv{P:Program}{f base:Nat}{args Am:List AV}{y:AV}{L:Upd}{bs:List (Nat × AO)}(h:FV P f Am base y L)(hv:lF (upds [] bs) args=some Am:=by kernel_rfl)(h1:aSq y=true:=by kernel_rfl)(h2:aSr L=true:=by kernel_rfl):FC P f args bs base y L:=h.view hv h1 h2
theorem ixn{α:Type}{l:List α}{i:Nat}{x:α}(g:α→PV)(h:l[i]? = some x):0≤(i:Int)∧(i:Int)<(l.length:Int)∧(i:Int).toNat*1<(l.map g).length:=rQ (Bu _) (by rwa [Int.toNat_natCast])
theorem atm{α:Type}{l:List α}{i:Nat}{x:α}(g:α→PV)(h:l[i]? = some x):(l.map g)[i*1]? = some (g x):=rP h
abbrev bF:OI := .b false
abbrev bT:OI := .b true
abbrev pI (n:Int):AV:=.p (aB n)
abbrev pB (b:Bool):AV:=.p (blP b)
abbrev fS (l:Lqq):PV:=.sl l.length (l.flatten.map aB)
theorem A9 {p:Prop}{l:List Prop}(hp:p)(h:bA (out l)):bA (out (p::p::l)):=gc hp (gc hp (h))
theorem A1 {p:Prop}{l:List Prop}(hp:p)(h:bA (out l)):bA (out (p::p::p::l)):=gc hp (gc hp (gc hp (h)))
theorem F6 {p:Prop}{l:List Prop}(hp:p)(h:bA (out l)):bA (out (p::p::p::p::l)):=gc hp (gc hp (gc hp (gc hp (h))))
theorem Cy {p:Prop}{l:List Prop}(hp:p)(h:bA (out l)):bA (out (p::p::p::p::p::l)):=gc hp (gc hp (gc hp (gc hp (gc hp (h)))))
theorem Ht {p:Prop}{l:List Prop}(hp:p)(h:bA (out l)):bA (out (p::p::p::p::p::p::l)):=gc hp (gc hp (gc hp (gc hp (gc hp (gc hp (h))))))
theorem Jp {p:Prop}{l:List Prop}(hp:p)(h:bA (out l)):bA (out (p::p::p::p::p::p::p::l)):=gc hp (gc hp (gc hp (gc hp (gc hp (gc hp (gc hp (h)))))))
theorem Ib {p:Prop}{l:List Prop}(hp:p)(h:bA (out l)):bA (out (p::p::p::p::p::p::p::p::l)):=gc hp (gc hp (gc hp (gc hp (gc hp (gc hp (gc hp (gc hp (h))))))))
theorem gt (p:Prop){l:List Prop}(hp:p)(h:bA (out l)):bA (out (p::l)):=gc hp h
theorem gr (v:PV){l:List Prop}(h:bA (out l)):bA (out ((some v=some v)::l)):=gc rfl h
theorem gf{l:List Prop}(h:bA (out l)):bA (out ((false=false)::l)):=gc rfl h
def FC.o{P:Program}{f:Nat}{args:List AV}{bs:List (Nat × AO)}{base:Nat}{y:AV}{L:Upd}(_:FC P f args bs base y L):OI:=.c y L
def aF.k{P:Program}{k:Nat}{c:Code}{st Ai:St}{e:Ex}(_:aF P k c st e Ai)(n:Nat)(g:Gh):OI:=.k n g e Ai
def aA.k{P:Program}{k:Nat}{c:Code}{st Ai:St}{e:Ex}(_:aA P k c st e Ai)(n:Nat)(g:Gh):OI:=.k n g e Ai
def qI(ids:List Nat)(base:Nat)(x:AV):AV:=(mpA (bkI ids base) x).getD .any
def qM(f:Nat→Option Nat):List Nat→Mem→Upd
 | i::r,some o::M=>match mpO f o with
  | some q=>(i,q)::qM f r M
  | none=>[]
 | i::r,none::M=>qM f r M
 | _,_=>[]
def qS(ids:List Nat)(f:Nat→Option Nat)(args:List AV)(M:Mem):Upd:=blocks (upds [] (qM f ids M)) (clos (upds [] (qM f ids M)) (sB args))
theorem mq(ids:List Nat)(base:Nat){P:Program}{f:Nat}{A3:List AV}{M0 M1:Mem}{r:AV}(h:FMM P f A3 M0 r M1)(hs:shown ids base (A3.map (qI ids base)) (qS ids (bkI ids base) (A3.map (qI ids base)) M0) M1 r=some (A3,M0,qI ids base r,(lS ids base ids M1).getD []):=by kernel_rfl):FC P f (A3.map (qI ids base)) (qS ids (bkI ids base) (A3.map (qI ids base)) M0) base (qI ids base r) ((lS ids base ids M1).getD []):=FMM.fc h hs
theorem FV.fi{f base:Nat}{fn:Func}{args:List AV}{y:AV}{L:Upd}{l:List Prop}(hf:Tryz.prog.funcs[f]? = some fn)(o:List OI)(g:bA (out l))(h:bQq base (aLi Tryz.prog tT EO 0 fn (cd fn) args [] (asg o))=some (y,L,l,[]):=by kernel_rfl)(hb:fn.body.isSome=true:=by kernel_rfl):FV Tryz.prog f args base y L:=FV.fin hf hb h g
theorem aA.fi{k:Nat}{c:Code}{st Ai:St}{e:Ex}(g:Gh)(o:List OI){l:List Prop}(gd:bA (out l))(h:bQr k g (xB Tryz.prog tT EO k 0 c st (asg o))=some (e,Ai,l,[]):=by kernel_rfl):aA Tryz.prog k c st e Ai:=aA.fin h gd
theorem FMM.fi(k:Nat)(g:Gh){f:Nat}{fn:Func}{args:List AV}{M M':Mem}{r:AV}{l:List Prop}(hf:Tryz.prog.funcs[f]? = some fn)(o:List OI)(gd:bA (out l))(h:bKl k g (aLi Tryz.prog tT EO 0 fn (cd fn) args M (asg o))=some (r,M',l,[]):=by kernel_rfl)(hb:fn.body.isSome=true:=by kernel_rfl)(hk:M.length=k:=by kernel_rfl):FMM Tryz.prog f args M r M':=FMM.fin hk hf hb h gd
theorem g0{a b:Int}(h:a<b):bA (out [(decide (a<b))=true]):=gc (cN h) gn
def K8:List Nat→List Nat
 | a::n::r=>List.range' a n++K8 r
 | _=>[]
abbrev gE:Gh:=⟨[],[],[],[]⟩
abbrev gZ(l:List Nat):Gh:=⟨K8 l,[],[],[]⟩
abbrev gI(l i:List Nat):Gh:=⟨K8 l,i,[],[]⟩
abbrev gN(l i:List Nat)(n:List (Nat × Nat)):Gh:=⟨K8 l,i,[],n⟩
abbrev rF(n:Nat):List OI:=List.replicate n (.b false)
abbrev rT(n:Nat):List OI:=List.replicate n (.b true)
abbrev pS(c:Code)(n:Nat)(l:List Nat):Code:=sub c (List.replicate n 1++l)
end
section
section
variable {l:Lqq} {j i:Nat} {xs:List Int} {v:Int}
end
end
section
section
variable {P:Program} {k:Nat} {b:Code} {α:Type}
theorem aF.find(S:Nat→St)(R1:Nat→α→St)(R2:St)(e1 e2:Ex)(h1:e1 ≠ .normal)(h2:e2 ≠ .normal)(p:α→Bool)(l:List α)
  (hs:∀ (i:Nat) (x:α),l[i]? = some x→p x=false→aA P k b (S i) .normal (S (i+1)))
  (hq:∀ (i:Nat) (x:α),l[i]? = some x→p x=true→aA P k b (S i) e1 (R1 i x))
  (hx:aA P k b (S l.length) e2 R2) :
  (∃ i x,l[i]? = some x∧l.findIdx? p=some i∧p x=true∧aF P k b (S 0) e1 (R1 i x))∨(l.findIdx? p=none∧l.any p=false∧aF P k b (S 0) e2 R2):=by
 have key:∀ (r:List α) (i:Nat),l.drop i=r→i≤l.length→(∃ j x,l[i+j]? = some x∧r.findIdx? p=some j∧p x=true∧aF P k b (S i) e1 (R1 (i+j) x))∨(r.findIdx? p=none∧r.any p=false∧aF P k b (S i) e2 R2):=by
  intro r
  induction r with
  | nil =>
   intro i hd hi;have:i=l.length:=by have:=congrArg List.length hd;simp at this;omega
   subst this;exact .inr ⟨rfl,rfl,.exit hx h2⟩
  | cons x r ih =>
   intro i hd hi;have hl:l[i]? = some x:=by
    have:=congrArg (·[0]?) hd
    simpa using this
   have hlt:i<l.length:=(Cf.1 hl).1;cases hp:p x with
   | true=>exact .inl ⟨0,x,by simpa using hl,by simp [List.findIdx?_cons,hp],hp,.exit (hq i x hl hp) h1⟩
   | false =>
    have Ga:l.drop (i+1)=r:=by
     have:=congrArg List.tail hd;simpa [List.tail_drop] using this
    rcases ih (i+1) Ga (by omega) with ⟨j,y,q1,q2,q3,q4⟩ | ⟨q1,q2,q3⟩
    ·refine .inl ⟨j+1,y,by rw [← q1];congr 1;omega,by simp [List.findIdx?_cons,hp,q2],q3,?_⟩
     rw [show i+(j+1)=i+1+j by omega]
     exact .step (hs i x hl hp) q4
    ·exact .inr ⟨by simp [List.findIdx?_cons,hp,q1],by simp [hp,q2],.step (hs i x hl hp) q3⟩
 rcases key l 0 (by simp) (Nat.zero_le _) with ⟨j,x,q1,q2,q3,q4⟩ | q
 ·exact .inl ⟨j,x,by simpa using q1,q2,q3,by simpa using q4⟩
 ·exact .inr q
end
def mT{α:Type}(p:α→Bool)(l:List α):Int:=match l.findIdx? p with
 | some i=>(i:Int)
 | none => -1
theorem iU{α:Type}{p:α→Bool}{l:List α}{i:Nat}(h:l.findIdx? p=some i):mT p l=(i:Int):=by unfold mT;rw [h]
theorem iV{α:Type}{p:α→Bool}{l:List α}(h:l.findIdx? p=none):mT p l = -1:=by unfold mT;rw [h]
theorem kT{α:Type}(p:α→Bool)(l:List α):decide (mT p l ≥ 0)=l.any p:=by
 unfold mT;cases h:l.findIdx? p with
 | none =>
  have:l.any p=false:=by simpa using h
  simp [this]
 | some i =>
  have:l.any p=true:=by
   have h2:(l.findIdx? p).isSome=true:=by rw [h];rfl
   rwa [List.findIdx?_isSome] at h2
  simp [this]
theorem aT{n:Nat}(h:n≤1000000):inR ((n:Nat):Int):=by unfold inR;omega
theorem bI{α:Type}{l:List α}{i:Nat}{x:α}(h:l[i]? = some x):i<l.length:=(Cf.1 h).1
abbrev small(n:Nat):Prop:=n<1000000
end
section
abbrev aD(l:List UInt8):PV := .v (.string ⟨l.toArray⟩)
theorem bQp(b:UInt8):inR (b.toNat:Int):=by
 have:=b.toNat_lt;unfold inR;omega
theorem xV{l:List UInt8}{i:Nat}{b:UInt8}(h:l[i]? = some b):(l[i]?).map (fun b:UInt8=>PV.v (.int .u8 (b.toNat:Int)))=some (.v (.int .u8 (b.toNat:Int))):=by rw [h];rfl
theorem xW(b:UInt8):0≤(b.toNat:Int)∧(b.toNat:Int)<256:=by
 have:=b.toNat_lt;omega
end
end KV
end Go.Proofs
section
namespace Go.Proofs
open Go.RowKit
namespace KV
open Tryz
theorem FV.ofc{f base:Nat}{args:List AV}{y:AV}(ho:aSo [] base y=some (y,[]))(h:∀ (C:Cx) (w:World) (us:List Value),cS C [] w args us→aW Tp C [] w→Calls Tp f us.toArray w fun e w'=>∃ v,e = .returned v∧Below w.heap.size w w'∧Rep (C.after w w' none) [] w' y v):FV Tp f args base y [] :=
 ⟨y,[],fun C w us hus hM n=>(callsIn_wide.2 (h C w us hus hM)).mono (by
  rintro e w' ⟨v,rfl,hb,hr⟩;obtain ⟨f1,m1⟩:=oR (C:=C) (M:=[]) (w:=w) (w':=w') (kb:=none) hM hb.os hb.tape hb.output hb.size (fun b Ap=>hb.block b Ap)
  exact ⟨v,rfl,_,f1,m1,hr⟩),ho⟩
theorem Iu{C:Cx}{M:Mem}{w:World}{x:PV}{us:List Value}{v:Value}(e:x = .v v)(h:cS C M w [.p x] us):us=[v]:=by
 subst e;cases h with | cons _ u _ k h hr =>
 cases hr;cases h with | p _ _ h=>cases h;rfl
theorem Gw{C:Cx}{M:Mem}{w:World}{x y:PV}{us:List Value}{v u:Value}(e:x = .v v)(e2:y = .v u)(h:cS C M w [.p x,.p y] us):us=[v,u]:=by
 subst e;subst e2;cases h with | cons _ u _ k h hr =>
 cases hr with | cons _ u2 _ k2 h2 Dp =>
 cases Dp;cases h with | p _ _ h=>cases h with | v _=>cases h2 with | p _ _ h2=>cases h2 with | v _=>rfl
theorem aEj{C : Cx}{w : World}(h : oJ C w) : (∃ m, w.cell? ⟨0, 0, none⟩ = some (.int .i64 m)) ∧ Lib.TabIs Tp w "internal/strconv.uint64pow10" .u64 Lib.pow10Tab := by
 obtain ⟨_,cs0,h0,m,hm⟩:=h (0,_) (mP ..);obtain ⟨_,Eg,h1,h2⟩:=h (1,_) (C7 _ (mP ..));dsimp only at h0 hm h1 h2
 refine ⟨⟨m,?_⟩,?_⟩
 ·unfold vH at h0
  split at h0
  ·rename_i he
   cases h0;unfold World.cell?;simp [he,hm]
  ·cases h0
 ·unfold Lib.TabIs World.var?
  have hg : Tryz.prog.globalNamed "internal/strconv.uint64pow10" = some 1 := by kernel_rfl
  rw [hg];unfold vH at h1
  split at h1
  ·rename_i he
   cases h1;show (match w.heap[1]? with | some (Obj.cells cs _ _)=>some cs | _=>none)=_
   rw [he,h2];rfl
  ·cases h1
theorem aLf{w:World}{k:Nat}{os:Array Obj}:Below w.heap.size w (Go.Sort.grow (w.drewN k) os):=⟨rfl,rfl,rfl,by simp [Go.Sort.grow,World.drewN],fun b hb=>by simp [Go.Sort.grow,World.drewN,Array.getElem?_append,hb]⟩
theorem vY{w:World}{k:Nat}:Below w.heap.size w (w.drewN k):=⟨rfl,rfl,rfl,Bb _,fun b hb=>rfl⟩
theorem dD(n:Int)(h:inR n){base:Nat}:FV Tp 120 [.p (aB n)] base (.p (aD (Lib.itoa n))) []:=FV.ofc rfl fun C w us hus hM=>by
 obtain rfl:=Iu rfl hus;refine (Tryz.strconv_Itoa n h.1 h.2 w (aEj hM.lib).2).mono ?_;rintro e w' ⟨rfl,k,os,rfl⟩;exact ⟨_,rfl,aLf,.p _ _ (.v _)⟩
theorem fU(s sep:List UInt8)(h:s.length<4294967281){base:Nat}:FV Tp 130 [.p (aD s),.p (aD sep)] base (.tup [.p (aD (Lib.cut s sep).1),.p (aD (Lib.cut s sep).2.1),.p (blP (Lib.cut s sep).2.2)]) []:=FV.ofc rfl fun C w us hus hM=>by
 obtain rfl:=Gw rfl rfl hus;obtain ⟨m,hm⟩:=(aEj hM.lib).1;refine (Tryz.strings_Cut ⟨s.toArray⟩ ⟨sep.toArray⟩ m w (by rw [Lib.size_eq];exact h) hm).mono ?_
 rintro e w' ⟨rfl,k,rfl⟩;refine ⟨_,rfl,vY,.tup _ _ rfl fun i hi => ?_⟩
 match i,hi with
 | 0,_=>exact .p _ _ (.v _)
 | 1,_=>exact .p _ _ (.v _)
 | 2,_=>exact .p _ _ (.v _)
theorem bQo(s p:List UInt8){base:Nat}:FV Tp 32 [.p (aD s),.p (aD p)] base (.p (blP (Lib.hasPrefix s p))) []:=FV.ofc rfl fun C w us hus hM=>by
 obtain rfl:=Gw rfl rfl hus;refine (Tryz.strings_HasPrefix ⟨s.toArray⟩ ⟨p.toArray⟩ w).mono ?_;rintro e w' ⟨rfl,rfl⟩;exact ⟨_,rfl,Below.refl _ _,.p _ _ (.v _)⟩
theorem bJg{s:List UInt8}{v:Int}(hs:s.length≤1000)(h:Lib.atoiAll s = .ok v){base:Nat}:FV Tp 198 [.p (aD s)] base (.tup [.p (aB v),.p (.v .nilIface)]) []:=FV.ofc rfl fun C w us hus hM=>by
 obtain rfl:=Iu rfl hus;refine (Tryz.strconv_Atoi_ok ⟨s.toArray⟩ (by rw [Lib.size_eq];show s.length≤_;omega) v h w).mono ?_
 rintro e w' ⟨rfl,hw⟩;refine ⟨_,rfl,?_,.tup _ _ rfl fun i hi => ?_⟩
 ·rcases hw with rfl | ⟨t,rfl⟩
  ·exact Below.refl _ _
  ·exact ⟨by simp [Lib.bytesWorld,World.freeze,World.alloc,World.drew,-World.alloc_eq,-World.drew_eq],by simp [Lib.bytesWorld,World.freeze,World.alloc,World.drew,-World.alloc_eq,-World.drew_eq],by simp [Lib.bytesWorld,World.freeze,World.alloc,World.drew,-World.alloc_eq,-World.drew_eq],by rw [Lib.bytesWorld_size];omega,fun b hb=>Lib.bytesWorld_at_old w 5 t b hb⟩
 ·match i,hi with
  | 0,_=>exact .p _ _ (.v _)
  | 1,_=>exact .p _ _ (.v _)
end KV
end Go.Proofs
end
section
namespace Go.Proofs
open Go.ChangeShapes Go.WideShapes Go.ChangeAt Go.RowKit
namespace KV
open Tryz
variable {P:Program} {W W':World}
def CxW(W:World):Cx:={ ι:=fun _=>none,κ:=fun _=>0,F:=fun b=>b<W.heap.size }
theorem cCg{W:World}(hl:oJ (CxW W) W):aW P (CxW W) [] W:=⟨fun i ty n cs h=>by simp at h,fun i ty cs h=>by simp at h,fun i es cl h=>by simp at h,fun i i' o o' b h=>by simp at h,fun i o b h=>by simp at h,fun b h=>h,fun i o b h=>by simp at h,hl⟩
theorem FV.law{f:Nat}{args:List AV}{us:List Value}(hl:oJ (CxW W) W)(h:∀ base:Nat,FV P f args base (.p (blP true)) [])(hn:gU args=true)(hus:cS (CxW W) [] W args us):Calls P f us.toArray W fun e W'=>e = .returned (.bool true)∧Below W.heap.size W W':=by
 have hc:=(h 0).fc (bs:=[]) hn [] (fun p hp=>by simp at hp) rfl
 refine (callsIn_wide (n:=0)).1 ((hc (fun j _=>by rw [iT];cases j <;> rfl) (CxW W) W us hus (cCg hl) 0).mono ?_)
 rintro e w' ⟨u,rfl,C',hF,hM,hr⟩;cases hr with
 | p _ _ h =>
  cases h;exact ⟨rfl,hF.os,hF.tape,hF.out,hF.size,fun b hb=>hF.keep b hb fun id o ho=>by simp at ho⟩
theorem aSn{w:World}{b:Nat}{v:Value}(h:w.cell? ⟨b,0,none⟩=some v):∃ cs,vH w b=some cs∧cs[0]? = some v:=by
 unfold World.cell? at h
 unfold vH
 split at h
 ·rename_i cs _ _ hh
  rw [hh];exact ⟨cs,rfl,by simpa using h⟩
 ·cases h
theorem bBz{w:World}{n:String}{g:Nat}{cs:Array Value}(hg:P.globalNamed n=some g)(h:w.var? P n=some cs):vH w g=some cs:=by
 simp only [World.var?,hg,Option.bind_some] at h
 exact h
theorem Ia{W:World}(hL:laidMetH Tp YtfekapdegmfgaaaGreatDoor.Rows.sheetFieldsRow.laid W):vH W 1=some ((List.range 20).map fun i=>Value.int .u64 ((10:Int) ^ i)).toArray:=by
 rw [MakeChecks.laidMetH_plain _ _ _ (by kernel_rfl)] at hL
 obtain ⟨g, t, cs, fuel, p, h1, h2, h3, h4⟩ := Lib.laidMet.reads hL (n := "internal/strconv.uint64pow10") (d := YtfekapdegmfgaaaGreatDoor.Rows.laid_internal_strconv_uint64pow10) (.tail _ (.tail _ (.head _)));have hg : Tryz.prog.globalNamed "internal/strconv.uint64pow10" = some 1 := by kernel_rfl
 obtain rfl:=Option.some.inj (hg.symm.trans h1);obtain rfl:=Option.some.inj ((show (Tryz.prog.globals[1]?).map (·.type)=some 363 by kernel_rfl).symm.trans h2)
 have e:=Lib.cells_of_tab (zs:=(List.range 20).map fun i=>(10:Int) ^ i) (k := .u64) Tryz.underlying363 Tryz.underlying305 (by kernel_rfl) (by kernel_rfl) h4
 refine bBz hg (h3.trans ?_);rw [zW] at e
 obtain ⟨l⟩:=cs;exact congrArg some (congrArg List.toArray e)
theorem bJf{W:World}(h:W.ShapedOpen Tp):∃ cs,vH W 0=some cs∧∃ m,cs[0]? = some (Value.int .i64 m):=by
 obtain ⟨m,hm⟩:=cell_of_shapedOpen_int (P:=Tp) (g:=0) (t:=3) (zero := #[.int .i64 0]) h (of_decide_eq_true (by kernel_rfl)) (by kernel_rfl) rfl (by kernel_rfl) (by kernel_rfl) Tryz.underlying3
 obtain ⟨cs,h1,h2⟩:=aSn hm;exact ⟨cs,h1,m,h2⟩
theorem aPl{w:World}{b:Nat}{cs:Array Value}(h:vH w b=some cs):b<w.heap.size:=by
 unfold vH at h
 split at h
 ·rename_i hh
  exact (lR.1 hh).1
 ·cases h
theorem cCh{W:World}(hL:laidMetH Tp YtfekapdegmfgaaaGreatDoor.Rows.sheetFieldsRow.laid W)(h:W.ShapedOpen Tp):oJ (CxW W) W:=by
 intro p hp;simp only [bRe,lA,List.mem_nil_iff,or_false] at hp
 rcases hp with rfl | rfl
 ·obtain ⟨cs,h1,h2⟩:=bJf h
  exact ⟨aPl h1,cs,h1,h2⟩
 ·exact ⟨aPl (Ia hL),_,Ia hL,rfl⟩
section
variable {H:Type} {enc:TypeId × Value→H}
theorem rD(hl:laidOutB P=true)(hb:Below W.heap.size W W'):∀ {ts:List TypeId} {vs:List Value} {ds:List (DataW H)} {ps:List MemPlace},(ts.all fun t=>P.readableRec t && decide (t<P.types.size))=true→DataW.TrodAll enc P W 0 (fun _=>true) true ts vs ds ps→(∀ x∈ps,x.block<W.heap.size) →
  DataW.TrodAll enc P W' 0 (fun b=>decide (b<W.heap.size)) true ts vs ds ps
 | [],[],[],_,_,h,_=>h
 | t::ts,v::vs,d::ds,ps,hr,⟨p,q,h1,h2,e⟩,hlt=>by
  rw [List.all_cons,B0,B0,decide_eq_true_eq] at hr
  subst e;exact ⟨p,q,Below.trod hl hr.1.1 hr.1.2 h1 hb (fun x hx=>hlt x (aBo _ hx)),rD hl hb hr.2 h2 (fun x hx=>hlt x (aUm _ hx)),rfl⟩
 | [],_::_,_,_,_,h,_=>h.elim
 | _::_,[],_,_,_,h,_=>h.elim
 | [],[],_::_,_,_,h,_=>h.elim
 | _::_,_::_,[],_,_,h,_=>h.elim
theorem aLe{a:Assume}{C:Checked}{os:Os}{f:FuncId}{fn:Func}{s:ChangeSpec}{conds:List PathCond}{apart fresh handsOn again:Bool}{X:World→Array Value→Prop}
  (hX:∀ (w w':World) (args:Array Value),w.heap=w'.heap→X w args→X w' args)
  (own:ownKnob C.prog.godebug=none) (started:os.Started) (noInit:C.prog.inits.idxOf? f=none) (hfn:C.prog.funcs[f]? = some fn)
  (witness:∃ (w:World) (tape:Tape) (i:Input),w.os=os∧(w.forCall tape i).Shaped C.prog∧i.vars=[]∧Input.okWide C.prog (w.forCall tape i) .any w.heap.size f i ∧
   ((s.pre enc C.prog fn conds apart (w.forCall tape i).memory i.args∧X (w.forCall tape i).memory i.args)∧sizedMet enc C.prog fn (OpenSpec.ofChange s) apart (w.forCall tape i).memory i.args)∧a.holds C.prog (lone (Frame.enter C.prog f i.args .normal) [] (w.forCall tape i)))
  (contract:∀ (W:World) (base:Nat) (args:Array Value) (ds gs:List (DataW H)) (before:List MemPlace),
   (∀ (j:Nat) t v,fn.params[j]? = some t→args[j]? = some v→Value.okWide C.prog W .any base t v) →
   DataW.Whole enc C.prog fn.params.toList s.vars apart W args.toList ds gs before→X W args→W.ShapedOpen C.prog →
   Calls C.prog f args W fun e W'=>∃ v,e = .returned v∧s.post enc C.prog fn apart fresh handsOn again W args v W') :
  ReturnsInHanded a C os f .any (fun w args=>(s.pre enc C.prog fn conds apart w args∧X w args)∧sizedMet enc C.prog fn (OpenSpec.ofChange s) apart w args) (s.post enc C.prog fn apart fresh handsOn again):=by
 refine returnsInHanded_of_calls own started noInit witness ?_;intro w tape i _ hsh _ hok hpre hholds;obtain ⟨_,_,_,Ou,Lx,_,_,_,_,hval⟩:=hok;have e:Ou=fn:=Option.some.inj (Lx.symm.trans hfn);subst e;obtain ⟨⟨⟨ds,gs,before,hw,hc⟩,hx⟩,hz⟩:=hpre;have Ov:=DataW.Whole.of_heap (w':=w.forCall tape i) (by rfl) hw
 refine (contract (w.forCall tape i) w.heap.size i.args ds gs before hval Ov (hX _ _ _ (by rfl) hx) hsh).mono fun e W' ⟨v,he,hp⟩ => ?_
 subst he;exact ChangeSpec.post_blind hp
end
end KV
end Go.Proofs
end
section
namespace Go.Proofs
open Go.ChangeShapes Go.WideShapes Go.ChangeAt Go.RowKit
namespace KV
open Tryz
variable {P:Program} {W W':World}
section
variable {H:Type} {enc:TypeId × Value→H}
theorem aUs{a:Addr}{v:Value}(h:W.cell? (a.add 0)=some v):a=⟨a.block,a.off,none⟩:=by
 obtain ⟨b,o,s⟩:=a;cases s with
 | none=>rfl
 | some x =>
  unfold World.cell? at h
  simp only [Addr.add,if_true] at h
  split at h <;> simp at h

theorem aUt{t e:TypeId}{k:IntKind}{v:Value}{d:DataW H}{ps:List MemPlace}{base:Nat}(ht:P.underlying t=some (.slice e))(he:P.underlying e=some (.int k))(hc:P.cellsOf e=1)(hok:Value.okWide P W .any base t v)
  (h:DataW.Trod enc P W 0 (fun _=>true) true t v d ps):∃ l:List Int,cQ (CxW W).F W (.sl l.length (l.map fun n => .v (.int k n))) v∧(∀ n∈l,(Lit.int k n).wf=true)∧l.length≤maxLen:=by
 obtain ⟨a0,len,cap,rfl⟩:=okWide_slice ht hok;obtain ⟨fuel,hf⟩:=h
 rcases open_ints ht he hc hf with ⟨hcs,hx⟩ | ⟨a,Pf,Pg,zs,hcs,_,hl,hm,hz,hx,hcell,hwz⟩
 ·simp [Value.cells] at hcs
  obtain ⟨rfl,rfl,rfl⟩:=hcs;exact ⟨[],.sl 0 [] none 0 (fun _=>undef) (Bb _) (Nat.zero_le _) (fun i h=>by simp at h) (fun i h=>by simp at h) (fun i h=>by simp at h),fun n h=>by simp at h,Nat.zero_le _⟩
 ·simp [Value.cells] at hcs
  obtain ⟨rfl,rfl,rfl⟩:=hcs;simp only [if_true] at hz
  have hlen:(zs.take len).length=len:=by rw [mQ];omega
  refine ⟨zs.take len,?_,fun n hn=>hwz n (List.mem_of_mem_take hn),by rw [hlen];omega⟩
  rw [hlen];refine .sl len _ (some a) cap (fun i => .int k (zs.getD i 0)) hl hm (fun i hi => ?_) (fun i hi => ?_) (fun i hi=>rfl)
  ·have C5:i<len:=by rw [mR,hlen] at hi;exact hi
   have q1:=aUs (hcell 0 (by omega))
   have q2:=hcell i (by omega)
   rw [q1,Addr.add_lit] at q2
   exact ⟨a.block,a.off,by rw [← q1],World.block_lt_of_cell? W ⟨a.block,a.off+i,none⟩ q2,q2⟩
  ·have C5:i<len:=by rw [mR,hlen] at hi;exact hi
   simp only [gS,List.getElem_take];have:zs.getD i 0=zs[i]'(by omega):=by rw [tV,B4 (by omega)];rfl
   rw [this];exact .v _
end
end KV
end Go.Proofs
end
section
namespace Go.Proofs
open Go.RowKit
namespace KV
open Tryz
theorem hid{p:Prop}(h:p):Hid p:=h
def lU(z:Bool)(most:Int):List UInt8→Nat→Int→Int × Int
 | [],i,acc=>if i=0 then (0,11) else if acc > most then (0,3) else (acc,0)
 | b::r,i,acc=>if (b.toNat<48∨57<b.toNat)∨(0<i∧z=true) then (0,11) else lU z most r (i+1) (min (10*acc+((b.toNat:Int)-48)) (most+1))
def aBq(l:List UInt8):Bool:=decide (l[0]? = some 48)
def bH(l:List UInt8)(most:Int):Int × Int:=lU (aBq l) most l 0 0
theorem cBc{b:UInt8}(h:((b.toNat:Int) == 48)=true):b=48:=by
 have:b.toNat=48:=by have:=eq_of_beq h;omega
 exact UInt8.toNat_inj.1 (by simpa using this)
theorem bGj(s:ByteArray)(w:World)(most:Int)(pos:Nat)(acc:Int)(b:Nat)(z:Bool)(hp:pos<s.size)(hm:0≤most∧most≤1000000000)(hacc:0≤acc∧acc≤most+1)(h1:48≤b)(h2:b≤57)
  (h:lU z most (s.data.toList.drop (pos+1)) (pos+1) (min (10*acc+((b:Int)-48)) (most+1))=bH s.data.toList most) :
  (∃ (p:Nat) (a:Int),w.iter s (pos+1)=w.iter s p∧Value.int .i64 (min (10*acc+((b:Int)-48)) (most+1)) = .int .i64 a∧p≤s.size∧(0≤a∧a≤most+1)∧lU z most (s.data.toList.drop p) p a=bH s.data.toList most) ∧
   s.size-(w.iter s (pos+1)).iterPos w.heap.size<s.size-(w.iter s pos).iterPos w.heap.size:=by
 refine ⟨⟨pos+1,_,rfl,rfl,hp,⟨by omega,by omega⟩,h⟩,?_⟩
 simp only [World.iterPos_iter];omega
theorem bMr{s:ByteArray}{pos:Nat}(h:pos=s.size):s.toList.isEmpty=decide (pos=0):=by
 subst h;rw [ByteArray.toList_eq,Lib.size_eq];cases s.data.toList <;> simp
theorem bMs(s:ByteArray)(most:Int)(hm:0≤most∧most≤1000000000)(w:World) :
  Calls Tp 131 #[.string s,.int .i64 most] w fun e w'=>e = .returned (.tuple #[.int .i64 (bH s.data.toList most).1,.int .i64 (bH s.data.toList most).2])∧∃ pos,w'=w.iter s pos:=by
 go_enter func131,Tryz.ntmps131
 go_wp2
 go_loopw [6] (fun n w'=>∃ (pos:Nat) (acc:Int),w'=w.iter s pos∧n = .int .i64 acc∧pos≤s.size∧(0≤acc∧acc≤most+1)∧lU (aBq s.data.toList) most (s.data.toList.drop pos) pos acc=bH s.data.toList most) (fun _ w'=>s.size-w'.iterPos w.heap.size)
 case atStart=>exact ⟨0,0,rfl,rfl,Nat.zero_le _,by omega,rfl⟩
 case round =>
  obtain ⟨pos,acc,rfl,rfl,hps,hacc,hpre⟩:=hrel
  by_cases hp:pos<s.size
  ·have hl:pos<s.data.toList.length:=by rw [← Lib.size_eq];exact hp
   have hd:s.data.toList.drop pos=s.data.toList[pos]::s.data.toList.drop (pos+1):=bDs hl;have hb:(s[pos]'hp)=s.data.toList[pos]:=(Array.getElem_toList _).symm;have h0:0<s.size:=by omega
   have hz:aBq s.data.toList=decide ((s[0]'h0)=48):=by
    unfold aBq;have:s.data.toList[0]? = some (s[0]'h0):=by
     rw [B4 (by rw [← Lib.size_eq];exact h0)]
     exact congrArg some (Array.getElem_toList _)
    rw [this];simp
   rw [hd,← hb,hz] at hpre
   simp only [lU,decide_eq_true_eq] at hpre
   have hz:=hid hz;clear hd hb
   by_cases ha:(s[pos]'hp).toNat<128
   ·have hnx:∀ ty,(Instr.next (.pointer (some ⟨w.heap.size,0,none⟩)) true ty).run Tp (w.iter s pos)=_:=fun ty=>run_next_ascii w s pos ty hp ha
    generalize hbb:(s[pos]'hp).toNat=b at *
    by_cases h1:b<48
    ·have hpre:=hid hpre
     go_wp2
     go_ret2
     have:=hpre.out;rw [if_pos (.inl (.inl h1))] at this
     exact ⟨by rw [← this];rfl,_,rfl⟩
    ·by_cases h2:57<b
     ·have hpre:=hid hpre
      go_wp2
      go_ret2
      have:=hpre.out;rw [if_pos (.inl (.inr h2))] at this
      exact ⟨by rw [← this];rfl,_,rfl⟩
     ·by_cases h3:0<pos
      ·by_cases h4:(s[0]'h0)=48
       ·have hpre:=hid hpre
        have hz:=hid hz
        go_wp2
        go_ret2
        have:=hpre.out;rw [if_pos (.inr ⟨h3,h4⟩)] at this
        exact ⟨by rw [← this];rfl,_,rfl⟩
       ·have hpre:=hid hpre
        have hz:=hid hz;have hne:(((s[0]'h0).toNat:Int) == 48)=false:=by
         rcases hq:(((s[0]'h0).toNat:Int) == 48) with _ | _
         ·rfl
         ·exact absurd (cBc hq) h4
        go_wp2
        all_goals first
         | (exfalso;rename_i hx;exact hno hne (by omega) (by omega) hx)
         | (exact bGj s w most pos acc b (aBq s.data.toList) hp hm hacc (by omega) (by omega) (by rw [hz.out];have:=hpre.out;rw [if_neg (by simp [h1,h2,h4])] at this;exact this))
      ·have hpre:=hid hpre
       have hz:=hid hz
       go_wp2
       all_goals exact bGj s w most pos acc b (aBq s.data.toList) hp hm hacc (by omega) (by omega) (by rw [hz.out];have:=hpre.out;rw [if_neg (by simp [h1,h2,h3])] at this;exact this)
   ·have hq:=decode_high s pos hp (by omega)
    have Iw:=decode_le s pos;have hnx:∀ ty,(Instr.next (.pointer (some ⟨w.heap.size,0,none⟩)) true ty).run Tp (w.iter s pos)=_:=fun ty=>run_next_any w s pos ty hp
    have hpre:=hid hpre;generalize hbb:(Utf8.decode s pos).1=b at *
    generalize hcc:(Utf8.decode s pos).2=c at *
    go_wp2
    go_ret2
    have:=hpre.out;rw [if_pos (.inl (.inr (by omega)))] at this
    exact ⟨by rw [← this];rfl,_,rfl⟩
  ·have hnx:∀ ty,(Instr.next (.pointer (some ⟨w.heap.size,0,none⟩)) true ty).run Tp (w.iter s pos)=_:=fun ty=>run_next_end w s pos ty hp
   have hpre:=hid hpre
   go_wp2
   all_goals have hpre:=hpre.out
   all_goals have hpe:pos=s.size:=by omega
   all_goals have he:s.toList.isEmpty=decide (pos=0):=bMr hpe
   all_goals rw [List.drop_eq_nil_of_le (by rw [← Lib.size_eq];omega)] at hpre
   all_goals simp only [lU] at hpre
   all_goals go_ret2
   ·rename_i h;rw [he] at h;rw [if_pos (of_decide_eq_true h)] at hpre;exact ⟨by rw [← hpre];rfl,_,rfl⟩
   ·rename_i h h2;rw [he] at h;rw [if_neg (of_decide_eq_false h),if_pos h2] at hpre;exact ⟨by rw [← hpre];rfl,_,rfl⟩
   ·rename_i h h2;rw [he] at h;rw [if_neg (of_decide_eq_false h),if_neg (by omega)] at hpre;exact ⟨by rw [← hpre];rfl,_,rfl⟩
theorem aOl{w:World}{s:ByteArray}{pos:Nat}:Below w.heap.size w (w.iter s pos):=⟨rfl,rfl,rfl,by simp [World.iter,World.alloc,-World.alloc_eq],fun b hb=>by simp [World.iter,World.alloc,-World.alloc_eq,Array.getElem?_push];omega⟩
theorem fY(s:List UInt8)(most:Int)(h:0≤most∧most≤1000000000){base:Nat}:FV Tp 131 [.p (aD s),.p (aB most)] base (.tup [.p (aB (bH s most).1),.p (aB (bH s most).2)]) []:=FV.ofc rfl fun C w us hus hM=>by
 obtain rfl:=Gw rfl rfl hus;refine (bMs ⟨s.toArray⟩ most h w).mono ?_;rintro e w' ⟨rfl,pos,rfl⟩;refine ⟨_,rfl,aOl,.tup _ _ rfl fun i hi => ?_⟩
 match i,hi with
 | 0,_=>exact .p _ _ (.v _)
 | 1,_=>exact .p _ _ (.v _)
theorem aRe(z:Bool)(most:Int)(hm:0≤most):∀ (l:List UInt8) (i:Nat) (acc:Int),0≤acc→0≤(lU z most l i acc).1∧(lU z most l i acc).1≤most∧((lU z most l i acc).2=0∨(lU z most l i acc).2=3∨(lU z most l i acc).2=11)
 | [],i,acc,h=>by
  unfold lU
  split
  ·simp [hm]
  ·split
   ·simp [hm]
   ·exact ⟨h,by show acc≤most;omega,.inl rfl⟩
 | b::r,i,acc,h=>by
  unfold lU
  split
  ·simp [hm]
  ·rename_i q
   exact aRe z most hm r _ _ (by have:48≤b.toNat:=Nat.le_of_not_lt fun h=>q (.inl (.inl h));omega)
theorem uI(l:List UInt8)(most:Int)(hm:0≤most):0≤(bH l most).1∧(bH l most).1≤most∧((bH l most).2=0∨(bH l most).2=3∨(bH l most).2=11):=aRe _ most hm l 0 0 (aUq _)
end KV
end Go.Proofs
end
namespace Go.Proofs
namespace KV
open Tryz
section
variable {r0:Bool}{k n o hi lo:Int}{i base:Nat}

noncomputable abbrev aRf:Code:=sub (cd Tryz.f30) [1,1,1,0,1,0,0]
theorem bWk(h0:lo≤n)(Al:r0=(decide (n≤hi))):FV Tp 128 [(pI n),(pI lo),(pI hi)] base (pB r0) []:=by
 subst Al;exact FV.fi func128 [bT,bT,bT,bT] (F6 (mD h0) gn)
theorem bWl(h0:n<lo):FV Tp 128 [(pI n),(pI lo),(pI hi)] base (pB false) []:=FV.fi func128 [bF,bF,bF,bF] (F6 (eE h0) gn)
def within(n lo hi:Int):Bool:=decide (lo≤n) && decide (n≤hi)
theorem cM{n lo hi:Int}:within n lo hi=true↔lo≤n∧n≤hi:=by simp [within]
theorem lV(n lo hi:Int){base:Nat}:FV Tp 128 [.p (aB n),.p (aB lo),.p (aB hi)] base (pB (within n lo hi)) []:=by
 by_cases h:lo≤n
 ·exact bWk h (by simp [within,h])
 ·have e:within n lo hi=false:=by simp [within,h]
  rw [e];exact bWl (show n<lo by omega)
theorem jW:FV Tp 119 [] base (.p (.agg [(aD ([115,116,97,114,116,115]:List UInt8)),(aD ([112,97,115,115,101,115]:List UInt8)),(aD ([116,97,114,103,101,116,115]:List UInt8)),(aD ([106,117,100,103,101,109,101,110,116,115]:List UInt8)),(aD ([99,117,112,115]:List UInt8))])) []:=FV.fi func119 [] gn
theorem bWm(Al:r0=(within k 0 4)):FV Tp 127 [(pI k)] base (pB r0) []:=by
 subst Al;have k1:=fk 0 (jW) rfl;have k2:=fk 0 (lV k 0 4) rfl;exact FV.fi func127 [k1.o,k2.o] (gc k2 (gt (inR 4) (by show _∧_;omega) (gc k1 gn)))
theorem pQ(k:Int){base:Nat}:FV Tp 127 [.p (aB k)] base (pB (within k 0 4)) []:=bWm rfl
theorem bGk(h0:k=0):FV Tp 103 [(pI k)] base (.tup [(.p (.sl 3 [(aB 0),(aB 1),(aB 0)])),(pI 1)]) []:=FV.frz (FMM.fi 0 ⟨[],[],[0],[]⟩ func103 [bT] (gc (dF h0) gn)) (by kernel_rfl)
theorem bWn(h0:k≠0)(h1:k=1):FV Tp 103 [(pI k)] base (.tup [(.p (.sl 4 [(aB 0),(aB 0),(aB 0),(aB 1)])),(pI 3)]) []:=FV.frz (FMM.fi 0 ⟨[],[],[0],[]⟩ func103 [bF,bT] (gc (dF h1) (gc (bL h0) gn))) (by kernel_rfl)
section
variable(h0:k≠0)(h1:k≠1)
include h0 h1
theorem bWo(h2:k=2):FV Tp 103 [(pI k)] base (.tup [(.p (.sl 3 [(aB 0),(aB 0),(aB 2)])),(pI 2)]) []:=FV.frz (FMM.fi 0 ⟨[],[],[0],[]⟩ func103 [bF,bF,bT] (gc (dF h2) (gc (bL h1) (gc (bL h0) gn)))) (by kernel_rfl)
theorem bWp(h2:k≠2)(h3:k=3):FV Tp 103 [(pI k)] base (.tup [(.p (.sl 4 [(aB 0),(aB 0),(aB 3),(aB 0)])),(pI 1)]) []:=FV.frz (FMM.fi 0 ⟨[],[],[0],[]⟩ func103 [bF,bF,bF,bT] (gc (dF h3) (gc (bL h2) (gc (bL h1) (gc (bL h0) gn))))) (by kernel_rfl)
theorem bWq(h2:k≠2)(h3:k≠3):FV Tp 103 [(pI k)] base (.tup [(.p (.sl 3 [(aB 0),(aB 0),(aB 0)])),(pI 1)]) []:=FV.frz (FMM.fi 0 ⟨[],[],[0],[]⟩ func103 [bF,bF,bF,bF] (gc (bL h3) (gc (bL h2) (gc (bL h1) (gc (bL h0) gn))))) (by kernel_rfl)
end
def aJ(k:Int):List Int:=if k=0 then [0,1,0] else if k=1 then [0,0,0,1] else if k=2 then [0,0,2] else if k=3 then [0,0,3,0] else [0,0,0]
def aN(k:Int):Int:=if k=1 then 3 else if k=2 then 2 else 1
theorem eY(k:Int){base:Nat}:FV Tp 103 [.p (aB k)] base (.tup [.p (bK (aJ k)),.p (aB (aN k))]) []:=by
 unfold aJ aN
 by_cases h0:k=0
 ·subst h0;exact bGk rfl
 ·rw [if_neg h0]
  by_cases h1:k=1
  ·subst h1;exact bWn (by decide) rfl
  ·rw [if_neg h1,if_neg h1]
   by_cases h2:k=2
   ·subst h2;exact bWo (by decide) (by decide) rfl
   ·rw [if_neg h2,if_neg h2]
    by_cases h3:k=3
    ·subst h3;exact bWp (by decide) (by decide) (by decide) rfl
    ·rw [if_neg h3];exact bWq h0 h1 h2 h3
def pR(s:List UInt8)(i:Nat)(o:Int):St:=⟨fr 25 [(2,(pI 0)),(3,(pI 0)),(4,(pI o)),(11,(.p (.sl s.length (s.map dE)))),(12,(pI (s.length:Int))),(13,(pI (i:Int)))],[]⟩
theorem bWr{s:List UInt8}(h0:(65536:Int)<(s.length:Int)):FV Tp 30 [(.p (aD s))] base (.tup [(pI 0),(pI 10)]) []:=FV.fi func30 [bT] (g0 h0)
theorem bWs{s:List UInt8}{Aq:Nat}{Ak:Int}(h0:(s.length:Int)≤65536)(h1:s.length≤1000000000)(Bp:aF Tp 0 aRf (pR s 0 0) (.exit 0) (pR s Aq Ak)):FV Tp 30 [(.p (aD s))] base (.tup [(pI Ak),(pI 0)]) []:=FV.fi func30 [bF,Bp.k 6 (gZ [0,2,5,6,14,10])] (gc Bp.code (gc h1 (gc (bC h0) gn)))
theorem aYi{s:List UInt8}{Ab:UInt8}{i':Nat}{o':Int}(h0:(i:Int)<(s.length:Int))(h1:s[i]? = some Ab)(h2:inR ((31:Int)*o))(h3:inR (((31:Int)*o)+(Ab.toNat:Int)))(h4:co i)(Aj:i'=(i+1))(Mq:o'=((((31:Int)*o)+(Ab.toNat:Int)).tmod 65521)):aA Tp 0 aRf (pR s i o) .normal (pR s i' o'):=by
 subst Aj Mq;exact aA.fi (gZ [0,2,5,6,14,10]) [bT,.x (.v (.int .u8 (Ab.toNat:Int)))] (gc h4 (gt ((65521:Int)≠0) (by first | decide | simp) (gc h3 (gt (inR (Ab.toNat:Int)) (bQp _) (gc h2 (gc (atm dE h1) (gc (ixn dE h1) (g0 h0))))))))
theorem aYj{s:List UInt8}(h0:(s.length:Int)≤(i:Int)):aA Tp 0 aRf (pR s i o) (.exit 0) (pR s i o):=aA.fi (gZ [0,2,5,6,14,10]) [bF] (gc (bC h0) gn)
def bJ(s:List UInt8):Int:=s.foldl (fun o b=>(31*o+(b.toNat:Int)).tmod 65521) 0
theorem aJs{o:Int}(b:UInt8)(h:0≤o∧o<65521):0≤(31*o+(b.toNat:Int)).tmod 65521∧(31*o+(b.toNat:Int)).tmod 65521<65521:=by
 have:=xW b;rw [Int.tmod_eq_emod_of_nonneg (by omega)]
 omega
theorem aOm:∀ (s:List UInt8) (o:Int),0≤o∧o<65521→0≤s.foldl (fun o b=>(31*o+(b.toNat:Int)).tmod 65521) o∧s.foldl (fun o b=>(31*o+(b.toNat:Int)).tmod 65521) o<65521
 | [],o,h=>h
 | b::s,o,h=>aOm s _ (aJs b h)
theorem bWt{s:List UInt8}(h:s.length≤65536){base:Nat}:FV Tp 30 [.p (aD s)] base (.tup [.p (aB (bJ s)),.p (aB 0)]) []:=by
 have:=aF.range (P:=Tp) (k:=0) (b:=aRf) (e := .exit 0) (fun i (o:Int)=>pR s i o) (fun o=>pR s s.length o) (fun o b=>(31*o+(b.toNat:Int)).tmod 65521) (fun _ o=>0≤o∧o<65521) (by simp) s (a0:=0) (by omega)
  (fun i b o hx ho=>by
   have hi:=bI hx;have hb:=xW b;exact ⟨aJs b ho,aYi (by omega) hx (by show _∧_;omega) (by show _∧_;omega) (aT (by omega)) rfl rfl⟩)
  (fun o _=>aYj (by omega))
 exact bWs (by omega) (by omega) this
theorem bMt{s:List UInt8}(h:65536<s.length){base:Nat}:FV Tp 30 [.p (aD s)] base (.tup [.p (aB 0),.p (aB 10)]) []:=bWr (by omega)
end
section
variable {r0:Bool}{b m n:Int}{i Aq base:Nat}

noncomputable abbrev aDq:Code:=sub (cd Tryz.f281) [1,0,1,0,0]
theorem bWc{x:UInt8}(h0:(48:Int)≤(x.toNat:Int))(Al:r0=(decide ((x.toNat:Int)≤57))):FV Tp 197 [(.p (.v (.int .u8 (x.toNat:Int))))] base (pB r0) []:=by
 subst Al;exact FV.fi func197 [bT,bT,bT] (A1 (mD h0) gn)
theorem bWd{x:UInt8}(h0:(x.toNat:Int)<48):FV Tp 197 [(.p (.v (.int .u8 (x.toNat:Int))))] base (pB false) []:=FV.fi func197 [bF,bF,bF] (A1 (eE h0) gn)
def isd(x:UInt8):Bool:=decide ((48:Int)≤(x.toNat:Int)) && decide ((x.toNat:Int)≤57)
theorem bWe(x:UInt8){base:Nat}:FV Tp 197 [.p (.v (.int .u8 (x.toNat:Int)))] base (pB (isd x)) []:=by
 by_cases h:(48:Int)≤(x.toNat:Int)
 ·exact bWc h (by simp [isd,h])
 ·have e:isd x=false:=by simp only [isd,h,decide_false,Bool.false_and]
  rw [e];exact bWd (by omega)
theorem bMk{x:UInt8}(Al:r0=(!(isd x))):FMM Tp 239 [(.p (.v (.int .u8 (x.toNat:Int)))),(.ptr 0 0)] [some (.box 289 [(.fn 197 [] [])])] (pB r0) [some (.box 289 [(.fn 197 [] [])])]:=by
 subst Al;exact FMM.fi 1 gE func239 [.c (pB (isd x)) []] (gc (fk 1 (bWe x) rfl) gn)
theorem aRc(x:UInt8):FMM Tp 239 [.p (.v (.int .u8 (x.toNat:Int))),.ptr 0 0] [some (.box 289 [(.fn 197 [] [])])] (pB (!(isd x))) [some (.box 289 [(.fn 197 [] [])])]:=bMk rfl
def fP(l:List UInt8)(i:Nat):St:=⟨fr 19 [(0,(.p (.sl l.length (l.map dE)))),(1,(.fn 239 [] [(.ptr 0 0)])),(7,(pI (l.length:Int))),(8,(pI (i:Int)))],[some (.box 289 [(.fn 197 [] [])])]⟩
theorem bMl{l:List UInt8}(hl0:aF Tp 1 aDq (fP l 0) (.exit 0) (fP l Aq)):FMM Tp 281 [(.p (.sl l.length (l.map dE))),(.fn 239 [] [(.ptr 0 0)])] [some (.box 289 [(.fn 197 [] [])])] (pI (-1)) [some (.box 289 [(.fn 197 [] [])])]:=FMM.fi 1 gE func281 [hl0.k 6 (gZ ce)] (gc hl0.code gn)
theorem bMm{l:List UInt8}(hl0:aF Tp 1 aDq (fP l 0) .ret (cK (fP l Aq) [(4,(pI (Aq:Int)))])):FMM Tp 281 [(.p (.sl l.length (l.map dE))),(.fn 239 [] [(.ptr 0 0)])] [some (.box 289 [(.fn 197 [] [])])] (pI (Aq:Int)) [some (.box 289 [(.fn 197 [] [])])]:=FMM.fi 1 gE func281 [hl0.k 6 (gZ ce)] (gc hl0.code gn)
section
variable{l:List UInt8}{Ab:UInt8}(h0:(i:Int)<(l.length:Int))(h1:l[i]? = some Ab)
include h0 h1
theorem aOi(h2:(isd Ab)=false):aA Tp 1 aDq (fP l i) .ret (cK (fP l i) [(4,(pI (i:Int)))]):=have k1:=mq [0] 1 (aRc Ab);aA.fi (gZ bq) [bT,.x (.v (.int .u8 (Ab.toNat:Int))),k1.o,bT] (gc (cZ h2) (gc k1 (gc (atm dE h1) (gc (ixn dE h1) (g0 h0)))))
theorem aOj{i':Nat}(h2:(isd Ab)=true)(h3:co i)(Aj:i'=(i+1)):aA Tp 1 aDq (fP l i) .normal (fP l i'):=by
 subst Aj;have k1:=mq [0] 1 (aRc Ab);exact aA.fi (gZ ce) [bT,.x (.v (.int .u8 (Ab.toNat:Int))),k1.o,bF] (gc h3 (gc (aX h2) (gc k1 (gc (atm dE h1) (gc (ixn dE h1) (g0 h0))))))
end
theorem aOk{l:List UInt8}(h0:(l.length:Int)≤(i:Int)):aA Tp 1 aDq (fP l i) (.exit 0) (fP l i):=aA.fi (gZ ce) [bF] (gc (bC h0) gn)
theorem bMn(l:List UInt8)(hl:l.length≤100000):FMM Tp 281 [.p (.sl l.length (l.map dE)),(.fn 239 [] [(.ptr 0 0)])] [some (.box 289 [(.fn 197 [] [])])] (pI (mT (fun x => !(isd x)) l)) [some (.box 289 [(.fn 197 [] [])])]:=by
 rcases aF.find (P:=Tp) (k:=1) (b:=aDq) (fun i=>fP l i) (fun i _=>cK (fP l i) [(4,.p (aB (i:Int)))]) (fP l l.length) .ret (.exit 0) (by simp) (by simp) (fun x => !(isd x)) l
  (fun i x hx hp=>aOj (by have:=bI hx;omega) hx (by simpa using hp) (aT (by have:=bI hx;omega)) rfl)
  (fun i x hx hp=>aOi (by have:=bI hx;omega) hx (by simpa using hp))
  (aOk (l:=l) (i:=l.length) (by omega)) with ⟨i,x,h1,h2,h3,h4⟩ | ⟨h1,h2,h3⟩
 ·rw [iU h2];exact bMm h4
 ·rw [iV h1];exact bMl h3
theorem bMo{l:List UInt8}(h0:l.length≤100000)(Al:r0=(decide ((mT (fun x => !(isd x)) l) ≥ 0))):FMM Tp 238 [(.p (.sl l.length (l.map dE))),(.fn 239 [] [(.ptr 0 0)])] [some (.box 289 [(.fn 197 [] [])])] (pB r0) [some (.box 289 [(.fn 197 [] [])])]:=by
 subst Al;have k1:=mq [0] 1 (bMn l h0);exact FMM.fi 1 gE func238 [k1.o] (gc k1 gn)
theorem bMp(l:List UInt8)(hl:l.length≤100000):FMM Tp 238 [.p (.sl l.length (l.map dE)),(.fn 239 [] [(.ptr 0 0)])] [some (.box 289 [(.fn 197 [] [])])] (pB (l.any (fun x => !(isd x)))) [some (.box 289 [(.fn 197 [] [])])]:=bMo hl (kT _ _).symm
theorem bMq{l:List UInt8}(h0:l.length≤100000)(Al:r0=(!(l.any (fun x => !(isd x))))):FV Tp 196 [(.p (.sl l.length (l.map dE))),(.fn 197 [] [])] base (pB r0) []:=by
 subst Al;have k1:=mq [0] 1 (bMp l h0);exact FV.fi func196 [k1.o] (gc k1 gn)
theorem aRd(l:List UInt8)(hl:l.length≤100000){base:Nat}:FV Tp 196 [.p (.sl l.length (l.map dE)),(.fn 197 [] [])] base (pB (l.all isd)) []:=bMq hl (by rw [List.all_eq_not_any_not])
theorem bWf{s:List UInt8}(h0:(s.length:Int)≠m):FV Tp 132 [(.p (aD s)),(pI m),(pI b)] base (.tup [(pI 0),(pB false)]) []:=FV.fi func132 (rT 5) (Cy (fD h0) gn)
section
variable{s:List UInt8}(h0:(s.length:Int)=m)(h1:s.length≤1000000000)(h2:s.length≤100000)
include h0 h1 h2
theorem bWg(h3:(s.all isd)=false):FV Tp 132 [(.p (aD s)),(pI m),(pI b)] base (.tup [(pI 0),(pB false)]) []:=FV.fi func132 [bF,bF,bF,.c (pB (s.all isd)) [],bF,bF,bT] (gc (cZ h3) (A9 (bV h0) (gc (fk 0 (aRd s h2) rfl) (gc (bV h0) (gc h1 (A9 (bV h0) gn))))))
theorem bWh{v0:Int}(h3:(s.all isd)=true)(h4:s.length≤1000)(h5:Lib.atoiAll s = .ok v0)(Al:r0=(decide (v0<b))):FV Tp 132 [(.p (aD s)),(pI m),(pI b)] base (.tup [(pI v0),(pB r0)]) []:=by
 subst Al;have k1:=fk 0 (bJg h4 h5) rfl;exact FV.fi func132 [bF,bF,bF,.c (pB (s.all isd)) [],bF,bF,bF,k1.o] (gc k1 (gc (aX h3) (A9 (bV h0) (gc (fk 0 (aRd s h2) rfl) (gc (bV h0) (gc h1 (A9 (bV h0) gn)))))))
end
def atV(s:List UInt8):Int:=match Lib.atoiAll s with
 | .ok v=>v
 | _=>0
def dgM(s:List UInt8)(m b:Int):Int × Bool:=if (s.length:Int)=m∧s.all isd=true then (atV s,decide (atV s<b)) else (0,false)
theorem fH{a:UInt8}(h:isd a=true):48≤a.toNat∧a.toNat≤57:=by
 simp only [isd,B0,decide_eq_true_eq] at h;omega
theorem bQb{a:UInt8}{r:List UInt8}{u:Nat}(h:isd a=true)(hp:Lib.parseUint10 0 (a::r) = .ok u)(hu:u<1000000):Lib.atoiAll (a::r) = .ok (u:Int):=by
 have:=fH h;have e1:¬ (a.toNat=43∨a.toNat=45):=by omega
 have e2:¬ a.toNat=45:=by omega
 have e3:Lib.parseMag (a::r) = .ok u:=by unfold Lib.parseMag;rw [if_neg (by simp)];exact hp
 unfold Lib.atoiAll;have e4:¬ a.toNat=43:=by omega
 simp only [e4,e2,or_self,if_false];rw [e3];show (if ¬ False∧9223372036854775808≤u then Lib.NumEnd.range else if False∧9223372036854775808<u then .range else .ok (u:Int))=_
 rw [if_neg (by omega),if_neg (by simp)]
theorem J7{a:UInt8}(h:isd a=true):Lib.atoiAll [a] = .ok ((a.toNat:Int)-48):=by
 have h1:=fH h;have:=bQb (r:=[]) (u:=a.toNat-48) h (by
  unfold Lib.parseUint10;rw [if_pos h1,if_neg (by omega),if_neg (by omega)]
  unfold Lib.parseUint10
  congr 1;omega) (by omega)
 rw [this];congr 1;omega
theorem at2{a c:UInt8}(h:isd a=true)(h2:isd c=true):Lib.atoiAll [a,c] = .ok (10*((a.toNat:Int)-48)+((c.toNat:Int)-48)):=by
 have h1:=fH h;have h3:=fH h2;have:=bQb (r:=[c]) (u:=10*(a.toNat-48)+(c.toNat-48)) h (by
  unfold Lib.parseUint10;rw [if_pos h1,if_neg (by omega),if_neg (by omega)]
  unfold Lib.parseUint10;rw [if_pos h3,if_neg (by omega),if_neg (by omega)]
  unfold Lib.parseUint10
  congr 1;omega) (by omega)
 rw [this];congr 1;omega
theorem fX(s:List UInt8)(m b:Int)(hm:m=1∨m=2){base:Nat}:FV Tp 132 [.p (aD s),.p (aB m),.p (aB b)] base (.tup [.p (aB (dgM s m b).1),.p (blP (dgM s m b).2)]) []:=by
 unfold dgM
 by_cases h:(s.length:Int)=m
 ·by_cases h2:s.all isd=true
  ·rw [if_pos ⟨h,h2⟩]
   have hv:Lib.atoiAll s = .ok (atV s):=by
    have hl:s.length=1∨s.length=2:=by omega
    unfold atV;rw [iD] at h2
    match s,hl,h2 with
    | [a],_,h2=>rw [J7 (h2 a (by simp))]
    | [a,c],_,h2=>rw [at2 (h2 a (by simp)) (h2 c (by simp))]
   exact bWh h (by omega) (by omega) h2 (by omega) hv rfl
  ·have h3:s.all isd=false:=by simpa using h2
   rw [if_neg (by simp [h3])]
   exact bWg h (by omega) (by omega) h3
 ·rw [if_neg (fun q=>h q.1)]
  exact bWf h
theorem cAq(h0:(within n 0 360000)=false):FV Tp 37 [(pI n)] base (.tup [(.p (aD ([]:List UInt8))),(pI 3)]) []:=have k1:=fk 0 (lV n 0 360000) rfl;FV.fi func37 [k1.o,bT] (gc (cZ h0) (gc k1 gn))
theorem cAr(h0:(within n 0 360000)=true)(h1:inR (n.tdiv 10))(h2:inR ((100:Int)+((n.tdiv 10).tmod 60)))(h3:inR (n.tdiv 600))(h4:(Lib.itoa (n.tdiv 600)).length+([58]:List UInt8).length≤4611686018427387904)(h5:0≤(1:Int)∧(1:Int)≤((Lib.itoa ((100:Int)+((n.tdiv 10).tmod 60))).length:Int)∧((Lib.itoa ((100:Int)+((n.tdiv 10).tmod 60))).length:Int)≤((Lib.itoa ((100:Int)+((n.tdiv 10).tmod 60))).length:Int))(h6:((Lib.itoa (n.tdiv 600))++([58]:List UInt8)).length+((Lib.itoa ((100:Int)+((n.tdiv 10).tmod 60))).drop 1).length≤4611686018427387904)(h7:(((Lib.itoa (n.tdiv 600))++([58]:List UInt8))++((Lib.itoa ((100:Int)+((n.tdiv 10).tmod 60))).drop 1)).length+([46]:List UInt8).length≤4611686018427387904)(h8:inR (n.tmod 10))(h9:((((Lib.itoa (n.tdiv 600))++([58]:List UInt8))++((Lib.itoa ((100:Int)+((n.tdiv 10).tmod 60))).drop 1))++([46]:List UInt8)).length+(Lib.itoa (n.tmod 10)).length≤4611686018427387904):FV Tp 37 [(pI n)] base (.tup [(.p (aD (((((Lib.itoa (n.tdiv 600))++([58]:List UInt8))++((Lib.itoa ((100:Int)+((n.tdiv 10).tmod 60))).drop 1))++([46]:List UInt8))++(Lib.itoa (n.tmod 10))))),(pI 0)]) []:=have k1:=fk 0 (lV n 0 360000) rfl;have k2:=fk 0 (dD ((100:Int)+((n.tdiv 10).tmod 60)) h2) rfl;have k3:=fk 0 (dD (n.tdiv 600) h3) rfl;have k4:=fk 8 (dD (n.tmod 10) h8) rfl;FV.fi func37 [k1.o,bF,k2.o,k3.o,k4.o] (gc h9 (gc k4 (gt ((10:Int)≠0) (by first | decide | simp) (gc h7 (gc h6 (gc h5 (gc h4 (gc k3 (gc h3 (gt ((600:Int)≠0) (by first | decide | simp) (gc k2 (gc h2 (gt ((60:Int)≠0) (by first | decide | simp) (gc h1 (gt ((10:Int)≠0) (by first | decide | simp) (gc (aX h0) (gc k1 gn)))))))))))))))))
section
variable{s:List UInt8}(h0:s.length<4294967281)(h1:((Lib.cut s ([58]:List UInt8)).2.1).length<4294967281)(h2:0≤(360000:Int)∧(360000:Int)≤1000000000)(h3:(2:Int)=1∨(2:Int)=2)(h4:(1:Int)=1∨(1:Int)=2)
include h0 h1 h2 h3 h4
theorem cAs(h5:((Lib.cut s ([58]:List UInt8)).2.2)=false):FV Tp 39 [(.p (aD s))] base (.tup [(pI 0),(pI 11)]) []:=have k1:=fk 0 (fU s ([58]:List UInt8) h0) rfl;have k2:=fk 0 (fU ((Lib.cut s ([58]:List UInt8)).2.1) ([46]:List UInt8) h1) rfl;have k3:=fk 0 (fY ((Lib.cut s ([58]:List UInt8)).1) 360000 h2) rfl;have k4:=fk 0 (fX ((Lib.cut ((Lib.cut s ([58]:List UInt8)).2.1) ([46]:List UInt8)).1) 2 60 h3) rfl;have k5:=fk 0 (fX ((Lib.cut ((Lib.cut s ([58]:List UInt8)).2.1) ([46]:List UInt8)).2.1) 1 10 h4) rfl;FV.fi func39 [k1.o,k2.o,k3.o,k4.o,k5.o,bT,bT,bT] (A1 (cZ h5) (gc k5 (gc k4 (gc k3 (gc k2 (gc k1 gn))))))
theorem cAt(h5:((Lib.cut s ([58]:List UInt8)).2.2)=true)(h6:((Lib.cut ((Lib.cut s ([58]:List UInt8)).2.1) ([46]:List UInt8)).2.2)=false):FV Tp 39 [(.p (aD s))] base (.tup [(pI 0),(pI 11)]) []:=have k1:=fk 0 (fU s ([58]:List UInt8) h0) rfl;have k2:=fk 0 (fU ((Lib.cut s ([58]:List UInt8)).2.1) ([46]:List UInt8) h1) rfl;have k3:=fk 0 (fY ((Lib.cut s ([58]:List UInt8)).1) 360000 h2) rfl;have k4:=fk 0 (fX ((Lib.cut ((Lib.cut s ([58]:List UInt8)).2.1) ([46]:List UInt8)).1) 2 60 h3) rfl;have k5:=fk 0 (fX ((Lib.cut ((Lib.cut s ([58]:List UInt8)).2.1) ([46]:List UInt8)).2.1) 1 10 h4) rfl;FV.fi func39 [k1.o,k2.o,k3.o,k4.o,k5.o,bF,bF,bF,bT,bT,bT] (A1 (cZ h6) (A1 (aX h5) (gc k5 (gc k4 (gc k3 (gc k2 (gc k1 gn)))))))
theorem cAu(h5:((Lib.cut s ([58]:List UInt8)).2.2)=true)(h6:((Lib.cut ((Lib.cut s ([58]:List UInt8)).2.1) ([46]:List UInt8)).2.2)=true)(h7:((dgM ((Lib.cut ((Lib.cut s ([58]:List UInt8)).2.1) ([46]:List UInt8)).1) 2 60).2)=false):FV Tp 39 [(.p (aD s))] base (.tup [(pI 0),(pI 11)]) []:=have k1:=fk 0 (fU s ([58]:List UInt8) h0) rfl;have k2:=fk 0 (fU ((Lib.cut s ([58]:List UInt8)).2.1) ([46]:List UInt8) h1) rfl;have k3:=fk 0 (fY ((Lib.cut s ([58]:List UInt8)).1) 360000 h2) rfl;have k4:=fk 0 (fX ((Lib.cut ((Lib.cut s ([58]:List UInt8)).2.1) ([46]:List UInt8)).1) 2 60 h3) rfl;have k5:=fk 0 (fX ((Lib.cut ((Lib.cut s ([58]:List UInt8)).2.1) ([46]:List UInt8)).2.1) 1 10 h4) rfl;FV.fi func39 ([k1.o,k2.o,k3.o,k4.o,k5.o]++rF 6++[bT,bT,bT]) (A1 (cZ h7) (A1 (aX h6) (A1 (aX h5) (gc k5 (gc k4 (gc k3 (gc k2 (gc k1 gn))))))))
end
section
variable{s:List UInt8}(h0:s.length<4294967281)(h1:((Lib.cut s ([58]:List UInt8)).2.1).length<4294967281)(h2:0≤(360000:Int)∧(360000:Int)≤1000000000)(h3:(2:Int)=1∨(2:Int)=2)(h4:(1:Int)=1∨(1:Int)=2)(h5:((Lib.cut s ([58]:List UInt8)).2.2)=true)(h6:((Lib.cut ((Lib.cut s ([58]:List UInt8)).2.1) ([46]:List UInt8)).2.2)=true)(h7:((dgM ((Lib.cut ((Lib.cut s ([58]:List UInt8)).2.1) ([46]:List UInt8)).1) 2 60).2)=true)
include h0 h1 h2 h3 h4 h5 h6 h7
theorem cAv(h8:((dgM ((Lib.cut ((Lib.cut s ([58]:List UInt8)).2.1) ([46]:List UInt8)).2.1) 1 10).2)=false):FV Tp 39 [(.p (aD s))] base (.tup [(pI 0),(pI 11)]) []:=have k1:=fk 0 (fU s ([58]:List UInt8) h0) rfl;have k2:=fk 0 (fU ((Lib.cut s ([58]:List UInt8)).2.1) ([46]:List UInt8) h1) rfl;have k3:=fk 0 (fY ((Lib.cut s ([58]:List UInt8)).1) 360000 h2) rfl;have k4:=fk 0 (fX ((Lib.cut ((Lib.cut s ([58]:List UInt8)).2.1) ([46]:List UInt8)).1) 2 60 h3) rfl;have k5:=fk 0 (fX ((Lib.cut ((Lib.cut s ([58]:List UInt8)).2.1) ([46]:List UInt8)).2.1) 1 10 h4) rfl;FV.fi func39 ([k1.o,k2.o,k3.o,k4.o,k5.o]++rF 9++[bT,bT,bT]) (A1 (cZ h8) (A1 (aX h7) (A1 (aX h6) (A1 (aX h5) (gc k5 (gc k4 (gc k3 (gc k2 (gc k1 gn)))))))))
theorem cAw(h8:((dgM ((Lib.cut ((Lib.cut s ([58]:List UInt8)).2.1) ([46]:List UInt8)).2.1) 1 10).2)=true)(h9:((bH ((Lib.cut s ([58]:List UInt8)).1) 360000).2)=11):FV Tp 39 [(.p (aD s))] base (.tup [(pI 0),(pI 11)]) []:=have k1:=fk 0 (fU s ([58]:List UInt8) h0) rfl;have k2:=fk 0 (fU ((Lib.cut s ([58]:List UInt8)).2.1) ([46]:List UInt8) h1) rfl;have k3:=fk 0 (fY ((Lib.cut s ([58]:List UInt8)).1) 360000 h2) rfl;have k4:=fk 0 (fX ((Lib.cut ((Lib.cut s ([58]:List UInt8)).2.1) ([46]:List UInt8)).1) 2 60 h3) rfl;have k5:=fk 0 (fX ((Lib.cut ((Lib.cut s ([58]:List UInt8)).2.1) ([46]:List UInt8)).2.1) 1 10 h4) rfl;FV.fi func39 ([k1.o,k2.o,k3.o,k4.o,k5.o]++rF 12++[bT]) (gc (dF h9) (A1 (aX h8) (A1 (aX h7) (A1 (aX h6) (A1 (aX h5) (gc k5 (gc k4 (gc k3 (gc k2 (gc k1 gn))))))))))
theorem cAx(h8:((dgM ((Lib.cut ((Lib.cut s ([58]:List UInt8)).2.1) ([46]:List UInt8)).2.1) 1 10).2)=true)(h9:((bH ((Lib.cut s ([58]:List UInt8)).1) 360000).2)≠11)(Ba:((bH ((Lib.cut s ([58]:List UInt8)).1) 360000).2)≠0):FV Tp 39 [(.p (aD s))] base (.tup [(pI 0),(pI 3)]) []:=have k1:=fk 0 (fU s ([58]:List UInt8) h0) rfl;have k2:=fk 0 (fU ((Lib.cut s ([58]:List UInt8)).2.1) ([46]:List UInt8) h1) rfl;have k3:=fk 0 (fY ((Lib.cut s ([58]:List UInt8)).1) 360000 h2) rfl;have k4:=fk 0 (fX ((Lib.cut ((Lib.cut s ([58]:List UInt8)).2.1) ([46]:List UInt8)).1) 2 60 h3) rfl;have k5:=fk 0 (fX ((Lib.cut ((Lib.cut s ([58]:List UInt8)).2.1) ([46]:List UInt8)).2.1) 1 10 h4) rfl;FV.fi func39 ([k1.o,k2.o,k3.o,k4.o,k5.o]++rF 13++rT 9) (Ib (fD Ba) (gc (fD Ba) (gc (bL h9) (A1 (aX h8) (A1 (aX h7) (A1 (aX h6) (A1 (aX h5) (gc k5 (gc k4 (gc k3 (gc k2 (gc k1 gn))))))))))))
end
section
variable{s:List UInt8}(h0:s.length<4294967281)(h1:((Lib.cut s ([58]:List UInt8)).2.1).length<4294967281)(h2:0≤(360000:Int)∧(360000:Int)≤1000000000)(h3:(2:Int)=1∨(2:Int)=2)(h4:(1:Int)=1∨(1:Int)=2)(h5:((Lib.cut s ([58]:List UInt8)).2.2)=true)(h6:((Lib.cut ((Lib.cut s ([58]:List UInt8)).2.1) ([46]:List UInt8)).2.2)=true)(h7:((dgM ((Lib.cut ((Lib.cut s ([58]:List UInt8)).2.1) ([46]:List UInt8)).1) 2 60).2)=true)(h8:((dgM ((Lib.cut ((Lib.cut s ([58]:List UInt8)).2.1) ([46]:List UInt8)).2.1) 1 10).2)=true)(h9:((bH ((Lib.cut s ([58]:List UInt8)).1) 360000).2)≠11)(Ba:((bH ((Lib.cut s ([58]:List UInt8)).1) 360000).2)=0)(C6:inR (((bH ((Lib.cut s ([58]:List UInt8)).1) 360000).1)*600))(A8:inR (((dgM ((Lib.cut ((Lib.cut s ([58]:List UInt8)).2.1) ([46]:List UInt8)).1) 2 60).1)*10))(Cm:inR ((((bH ((Lib.cut s ([58]:List UInt8)).1) 360000).1)*600)+(((dgM ((Lib.cut ((Lib.cut s ([58]:List UInt8)).2.1) ([46]:List UInt8)).1) 2 60).1)*10)))(Dh:inR (((((bH ((Lib.cut s ([58]:List UInt8)).1) 360000).1)*600)+(((dgM ((Lib.cut ((Lib.cut s ([58]:List UInt8)).2.1) ([46]:List UInt8)).1) 2 60).1)*10))+((dgM ((Lib.cut ((Lib.cut s ([58]:List UInt8)).2.1) ([46]:List UInt8)).2.1) 1 10).1)))
include h0 h1 h2 h3 h4 h5 h6 h7 h8 h9 Ba C6 A8 Cm Dh
theorem cAy(Eo:(360000:Int)<(((((bH ((Lib.cut s ([58]:List UInt8)).1) 360000).1)*600)+(((dgM ((Lib.cut ((Lib.cut s ([58]:List UInt8)).2.1) ([46]:List UInt8)).1) 2 60).1)*10))+((dgM ((Lib.cut ((Lib.cut s ([58]:List UInt8)).2.1) ([46]:List UInt8)).2.1) 1 10).1))):FV Tp 39 [(.p (aD s))] base (.tup [(pI 0),(pI 3)]) []:=have k1:=fk 0 (fU s ([58]:List UInt8) h0) rfl;have k2:=fk 0 (fU ((Lib.cut s ([58]:List UInt8)).2.1) ([46]:List UInt8) h1) rfl;have k3:=fk 0 (fY ((Lib.cut s ([58]:List UInt8)).1) 360000 h2) rfl;have k4:=fk 0 (fX ((Lib.cut ((Lib.cut s ([58]:List UInt8)).2.1) ([46]:List UInt8)).1) 2 60 h3) rfl;have k5:=fk 0 (fX ((Lib.cut ((Lib.cut s ([58]:List UInt8)).2.1) ([46]:List UInt8)).2.1) 1 10 h4) rfl;FV.fi func39 ([k1.o,k2.o,k3.o,k4.o,k5.o]++rF 22++[bT]) (gc (cN Eo) (A9 (bV Ba) (gc Dh (A9 (bV Ba) (gc Cm (gc (bV Ba) (gc A8 (A9 (bV Ba) (gc C6 (A9 (bV Ba) (gc (bL h9) (A1 (aX h8) (A1 (aX h7) (A1 (aX h6) (A1 (aX h5) (gc k5 (gc k4 (gc k3 (gc k2 (gc k1 gn))))))))))))))))))))
theorem cAz{r0:Int}(Eo:(((((bH ((Lib.cut s ([58]:List UInt8)).1) 360000).1)*600)+(((dgM ((Lib.cut ((Lib.cut s ([58]:List UInt8)).2.1) ([46]:List UInt8)).1) 2 60).1)*10))+((dgM ((Lib.cut ((Lib.cut s ([58]:List UInt8)).2.1) ([46]:List UInt8)).2.1) 1 10).1))≤360000)(Al:r0=(((((bH ((Lib.cut s ([58]:List UInt8)).1) 360000).1)*600)+(((dgM ((Lib.cut ((Lib.cut s ([58]:List UInt8)).2.1) ([46]:List UInt8)).1) 2 60).1)*10))+((dgM ((Lib.cut ((Lib.cut s ([58]:List UInt8)).2.1) ([46]:List UInt8)).2.1) 1 10).1))):FV Tp 39 [(.p (aD s))] base (.tup [(pI r0),(pI 0)]) []:=by
 subst Al;have k1:=fk 0 (fU s ([58]:List UInt8) h0) rfl;have k2:=fk 0 (fU ((Lib.cut s ([58]:List UInt8)).2.1) ([46]:List UInt8) h1) rfl;have k3:=fk 0 (fY ((Lib.cut s ([58]:List UInt8)).1) 360000 h2) rfl;have k4:=fk 0 (fX ((Lib.cut ((Lib.cut s ([58]:List UInt8)).2.1) ([46]:List UInt8)).1) 2 60 h3) rfl;have k5:=fk 0 (fX ((Lib.cut ((Lib.cut s ([58]:List UInt8)).2.1) ([46]:List UInt8)).2.1) 1 10 h4) rfl;exact FV.fi func39 ([k1.o,k2.o,k3.o,k4.o,k5.o]++rF 23) (gc Dh (gc Cm (gc A8 (gc C6 (gc (bC Eo) (A9 (bV Ba) (gc Dh (A9 (bV Ba) (gc Cm (gc (bV Ba) (gc A8 (A9 (bV Ba) (gc C6 (A9 (bV Ba) (gc (bL h9) (A1 (aX h8) (A1 (aX h7) (A1 (aX h6) (A1 (aX h5) (gc k5 (gc k4 (gc k3 (gc k2 (gc k1 gn))))))))))))))))))))))))
end
theorem bWi{s:List UInt8}(hl:s.length=1∨s.length=2)(h2:s.all isd=true):0≤atV s:=by
 unfold atV;rw [iD] at h2
 match s,hl,h2 with
 | [a],_,h2=>rw [J7 (h2 a (by simp))];have:=fH (h2 a (by simp));simp only;omega
 | [a,c],_,h2=>rw [at2 (h2 a (by simp)) (h2 c (by simp))];have:=fH (h2 a (by simp));have:=fH (h2 c (by simp));simp only;omega
theorem aFz{s:List UInt8}{m b:Int}(hm:m=1∨m=2)(h:(dgM s m b).2=true):0≤(dgM s m b).1∧(dgM s m b).1<b:=by
 unfold dgM at h ⊢
 split
 ·rename_i q
  rw [if_pos q] at h
  have:=bWi (s:=s) (by omega) q.2
  simp only [decide_eq_true_eq] at h
  exact ⟨this,h⟩
 ·rename_i q
  rw [if_neg q] at h
  cases h
theorem bWj(u:Nat):1≤(Lib.decDigits u).length:=by
 rw [Lib.decDigits];split <;> simp
def ptM(n:Int):List UInt8 × Int:=if within n 0 360000=true then (((((Lib.itoa (n.tdiv 600))++[58])++((Lib.itoa (100+(n.tdiv 10).tmod 60)).drop 1))++[46])++Lib.itoa (n.tmod 10),0) else ([],3)
theorem itl{n:Int}(h:0≤n∧n≤1000000):1≤(Lib.itoa n).length∧(Lib.itoa n).length≤21:=by
 refine ⟨?_,Lib.itoa_length_le n (by omega) (by omega)⟩
 unfold Lib.itoa;rw [if_neg (by omega)]
 exact bWj _
theorem cBa(n:Int){base:Nat}:FV Tp 37 [.p (aB n)] base (.tup [.p (aD (ptM n).1),.p (aB (ptM n).2)]) []:=by
 unfold ptM
 by_cases h:within n 0 360000=true
 ·rw [if_pos h]
  have hb:=cM.1 h;have h1:n.tdiv 10=n / 10:=Int.tdiv_eq_ediv_of_nonneg hb.1;have h2:n.tdiv 600=n / 600:=Int.tdiv_eq_ediv_of_nonneg hb.1;have h3:n.tmod 10=n % 10:=Int.tmod_eq_emod_of_nonneg hb.1;have h4:(n.tdiv 10).tmod 60=n.tdiv 10 % 60:=Int.tmod_eq_emod_of_nonneg (by omega)
  have b1:0≤n.tdiv 600∧n.tdiv 600≤1000000:=by omega
  have b2:0≤n.tmod 10∧n.tmod 10≤1000000:=by omega
  have b3:0≤100+(n.tdiv 10).tmod 60∧100+(n.tdiv 10).tmod 60≤1000000:=by omega
  have b4:0≤n.tdiv 10∧n.tdiv 10≤1000000:=by omega
  have l1:=itl b1;have l2:=itl b2;have l3:=itl b3;exact cAr h (by show _∧_;omega) (by show _∧_;omega) (by show _∧_;omega) (by simp;omega) (by omega) (by simp;omega) (by simp;omega) (by show _∧_;omega) (by simp;omega)
 ·rw [if_neg h]
  exact cAq (by simpa using h)
def paM(s:List UInt8):Int × Int :=
 if (Lib.cut s [58]).2.2=true∧(Lib.cut (Lib.cut s [58]).2.1 [46]).2.2=true∧(dgM (Lib.cut (Lib.cut s [58]).2.1 [46]).1 2 60).2=true∧(dgM (Lib.cut (Lib.cut s [58]).2.1 [46]).2.1 1 10).2=true∧(bH (Lib.cut s [58]).1 360000).2≠11 then
  if (bH (Lib.cut s [58]).1 360000).2≠0∨360000<(bH (Lib.cut s [58]).1 360000).1*600+(dgM (Lib.cut (Lib.cut s [58]).2.1 [46]).1 2 60).1*10+(dgM (Lib.cut (Lib.cut s [58]).2.1 [46]).2.1 1 10).1 then (0,3)
  else ((bH (Lib.cut s [58]).1 360000).1*600+(dgM (Lib.cut (Lib.cut s [58]).2.1 [46]).1 2 60).1*10+(dgM (Lib.cut (Lib.cut s [58]).2.1 [46]).2.1 1 10).1,0)
 else (0,11)
theorem cBb{s:List UInt8}(hl:s.length≤100000)(hc:(Lib.cut s [58]).2.1.length≤100000){base:Nat}:FV Tp 39 [.p (aD s)] base (.tup [.p (aB (paM s).1),.p (aB (paM s).2)]) []:=by
 have g0:s.length<4294967281:=by omega
 have g1:(Lib.cut s [58]).2.1.length<4294967281:=by omega
 have g2:0≤(360000:Int)∧(360000:Int)≤1000000000:=by omega
 have g3:(2:Int)=1∨(2:Int)=2 := .inr rfl;have g4:(1:Int)=1∨(1:Int)=2 := .inl rfl;have bn:=uI (Lib.cut s [58]).1 360000 (by omega)
 by_cases h5:(Lib.cut s [58]).2.2=true
 ·by_cases h6:(Lib.cut (Lib.cut s [58]).2.1 [46]).2.2=true
  ·by_cases h7:(dgM (Lib.cut (Lib.cut s [58]).2.1 [46]).1 2 60).2=true
   ·by_cases h8:(dgM (Lib.cut (Lib.cut s [58]).2.1 [46]).2.1 1 10).2=true
    ·by_cases h9:(bH (Lib.cut s [58]).1 360000).2=11
     ·have e:paM s=(0,11):=by unfold paM;rw [if_neg (fun q=>q.2.2.2.2 h9)]
      rw [e];exact cAw g0 g1 g2 g3 g4 h5 h6 h7 h8 h9
     ·have b1:=aFz (by omega) h7
      have b2:=aFz (by omega) h8
      unfold paM;rw [if_pos ⟨h5,h6,h7,h8,h9⟩]
      by_cases Ba:(bH (Lib.cut s [58]).1 360000).2=0
      ·by_cases C6:360000<(bH (Lib.cut s [58]).1 360000).1*600+(dgM (Lib.cut (Lib.cut s [58]).2.1 [46]).1 2 60).1*10+(dgM (Lib.cut (Lib.cut s [58]).2.1 [46]).2.1 1 10).1
       ·rw [if_pos (.inr C6)]
        exact cAy g0 g1 g2 g3 g4 h5 h6 h7 h8 h9 Ba (by show _∧_;omega) (by show _∧_;omega) (by show _∧_;omega) (by show _∧_;omega) C6
       ·rw [if_neg (by omega)]
        exact cAz g0 g1 g2 g3 g4 h5 h6 h7 h8 h9 Ba (by show _∧_;omega) (by show _∧_;omega) (by show _∧_;omega) (by show _∧_;omega) (by omega) rfl
      ·rw [if_pos (.inl Ba)]
       exact cAx g0 g1 g2 g3 g4 h5 h6 h7 h8 h9 Ba
    ·have e:paM s=(0,11):=by unfold paM;rw [if_neg (fun q=>h8 q.2.2.2.1)]
     rw [e];exact cAv g0 g1 g2 g3 g4 h5 h6 h7 (by simpa using h8)
   ·have e:paM s=(0,11):=by unfold paM;rw [if_neg (fun q=>h7 q.2.2.1)]
    rw [e];exact cAu g0 g1 g2 g3 g4 h5 h6 (by simpa using h7)
  ·have e:paM s=(0,11):=by unfold paM;rw [if_neg (fun q=>h6 q.2.1)]
   rw [e];exact cAt g0 g1 g2 g3 g4 h5 (by simpa using h6)
 ·have e:paM s=(0,11):=by unfold paM;rw [if_neg (fun q=>h5 q.1)]
  rw [e];exact cAs g0 g1 g2 g3 g4 (by simpa using h5)
end
section

theorem nB{u:Nat}(h:u<10):Lib.decDigits u=[UInt8.ofNat (48+u)]:=by rw [Lib.decDigits,dif_pos h]
theorem xP{u:Nat}(h:¬ u<10):Lib.decDigits u=Lib.decDigits (u / 10)++[UInt8.ofNat (48+u % 10)]:=by rw [Lib.decDigits,dif_neg h]
theorem bMj{x:Nat}(h:x<60):(Lib.decDigits (100+x)).drop 1=Lib.decDigits (x / 10)++Lib.decDigits (x % 10):=by
 rw [xP (by omega),xP (u:=(100+x) / 10) (by omega),nB (u:=(100+x) / 10 / 10) (by omega),nB (u:=x / 10) (by omega),nB (u:=x % 10) (by omega)]
 have e1:(100+x) / 10 % 10=x / 10:=by omega
 have e2:(100+x) % 10=x % 10:=by omega
 rw [e1,e2];rfl
def bWb(m:Int)(l:List UInt8)(n:Int):Int:=l.foldl (fun n b=>if m<10*n+(b.toNat:Int)-48 then m+1 else 10*n+(b.toNat:Int)-48) n
def aOh(s:List UInt8)(m:Int):Int:=if s=[]∨(1<s.length∧s[0]? = some 48)∨s.all isd=false then -1 else bWb m s 0
theorem cAp{c:UInt8}(h:isd c=false):c.toNat<48∨57<c.toNat:=by
 by_cases q:c.toNat<48
 ·exact .inl q
 ·refine .inr ?_
  by_cases q2:57<c.toNat
  ·exact q2
  ·exfalso
   have:isd c=true:=by simp only [isd,B0,decide_eq_true_eq];omega
   rw [this] at h;cases h
end
section

def dv(c:UInt8):Int:=(c.toNat:Int)-48
def Ln(p:List UInt8)(a b c d e:UInt8):Int × Int :=
 if a=58∧d=46∧isd b=true∧isd c=true∧isd e=true∧0≤aOh p 1000∧b.toNat≤53 then
  if 360000<aOh p 1000*600+dv b*100+dv c*10+dv e then (0,3) else (aOh p 1000*600+dv b*100+dv c*10+dv e,0)
 else (0,11)
end
section
theorem aDo(x:UInt8):∀ (s:List UInt8),x∉s→Lib.index s [x] = -1
 | [],_=>rfl
 | b::l,h=>by
  have hb:¬ x=b:=fun e=>h (by simp [e])
  have:=aDo x l (fun e=>h (by simp [e]))
  unfold Lib.index;rw [if_neg (by simp [List.isPrefixOf,hb]),this]
  rfl
theorem aJo(x:UInt8)(v:List UInt8):∀ (u:List UInt8),x∉u→Lib.index (u++x::v) [x]=(u.length:Int)
 | [],_=>by
  show Lib.index (x::v) [x]=_;unfold Lib.index;rw [if_pos (by simp [List.isPrefixOf])]
  rfl
 | b::u,h=>by
  have hb:¬ x=b:=fun e=>h (by simp [e])
  have:=aJo x v u (fun e=>h (by simp [e]))
  show Lib.index (b::(u++x::v)) [x]=_;unfold Lib.index;rw [if_neg (by simp [List.isPrefixOf,hb]),this,if_neg (by simp),eT]
  omega
theorem aYh{x:UInt8}{s:List UInt8}(h:x∉s):Lib.cut s [x]=(s,[],false):=by
 unfold Lib.cut;rw [aDo x s h,if_neg (by omega)]
theorem uG{x:UInt8}{u v:List UInt8}(h:x∉u):Lib.cut (u++x::v) [x]=(u,v,true):=by
 unfold Lib.cut;rw [aJo x v u h,if_pos (by omega)]
 have:(u.length:Int).toNat=u.length:=by omega
 rw [this,List.take_left]
 congr 2
 rw [List.length_singleton,← List.drop_drop,List.drop_left];rfl
theorem aDp{x:UInt8}{s:List UInt8}(h:(Lib.cut s [x]).2.2=true):∃ u v,x∉u∧s=u++x::v:=by
 by_cases hx:x∈s
 ·obtain ⟨u,v,e,hn⟩:=List.eq_append_cons_of_mem hx
  exact ⟨u,v,hn,e⟩
 ·rw [aYh hx] at h;cases h
def nA(l:List UInt8)(n:Int):Int:=l.foldl (fun n b=>10*n+dv b) n
theorem aQz:∀ (l:List UInt8) (n:Int),l.all isd=true→0≤n→n≤nA l n
 | [],n,_,h=>aUq n
 | b::l,n,ha,h=>by
  simp only [List.all_cons,B0] at ha
  have hb:=fH ha.1;have hd:0≤dv b:=by unfold dv;omega
  have:=aQz l (10*n+dv b) ha.2 (by omega)
  show n≤nA l (10*n+dv b);omega
theorem aJp(m:Int)(hm:0≤m):∀ (l:List UInt8) (n:Int),l.all isd=true→0≤n→bWb m l (min n (m+1))=min (nA l n) (m+1)
 | [],n,_,h=>rfl
 | b::l,n,ha,h=>by
  simp only [List.all_cons,B0] at ha
  have hb:=fH ha.1;have:=aJp m hm l (10*n+dv b) ha.2 (by unfold dv;omega)
  show bWb m l _=min (nA l (10*n+dv b)) (m+1);rw [← this]
  congr 1
  dsimp only [dv]
  split <;> omega
theorem aJq(z:Bool)(m:Int)(hm:0≤m):∀ (l:List UInt8) (i:Nat) (n:Int),l.all isd=true→0≤n→(0<i∨l≠[])→(z=false∨l=[]∨(i=0∧l.length=1)) →
  lU z m l i (min n (m+1))=if m<nA l n then (0,3) else (nA l n,0)
 | [],i,n,_,h,hi,hz=>by
  have hi:¬ i=0:=by rcases hi with q | q <;> first | omega | exact absurd rfl q
  unfold lU;rw [if_neg hi];show (if min n (m+1) > m then _ else _)=if m<n then _ else _
  by_cases q:m<n
  ·rw [if_pos q,if_pos (by omega)]
  ·rw [if_neg q,if_neg (by omega)]
   show (min n (m+1),(0:Int))=(n,0);rw [show min n (m+1)=n by omega]
 | b::l,i,n,ha,h,hi,hz=>by
  simp only [List.all_cons,B0] at ha
  have hb:=fH ha.1;unfold lU;rw [if_neg (by
   rintro (q | ⟨q1,q2⟩)
   ·omega
   ·rcases hz with q | q | ⟨q,_⟩
    ·rw [q] at q2;cases q2
    ·cases q
    ·omega)]
  have e:min (10*min n (m+1)+((b.toNat:Int)-48)) (m+1)=min (10*n+dv b) (m+1):=by unfold dv;omega
  rw [e];exact aJq z m hm l (i+1) (10*n+dv b) ha.2 (by unfold dv;omega) (.inl (by omega)) (by
   rcases hz with q | q | ⟨_,q⟩
   ·exact .inl q
   ·cases q
   ·exact .inr (.inl (pF (by simpa using q))))
theorem aJr(z:Bool)(m:Int):∀ (l:List UInt8) (i:Nat) (n:Int),l.all isd=false→(lU z m l i n).2=11
 | b::l,i,n,h=>by
  unfold lU
  by_cases hb:isd b=true
  ·have hl:l.all isd=false:=by simpa [hb] using h
   split
   ·rfl
   ·exact aJr z m l _ _ hl
  ·have hb:isd b=false:=by simpa using hb
   rw [if_pos (.inl (cAp hb))]
theorem aRa{p:List UInt8}{m:Int}(hm:0≤m)(ha:p.all isd=true)(hn:p≠[])(hz:¬ (1<p.length∧p[0]? = some 48)):bH p m=if m<nA p 0 then (0,3) else (nA p 0,0):=by
 have:=aJq (aBq p) m hm p 0 0 ha (by omega) (.inr hn) (by
  by_cases q:p[0]? = some 48
  ·refine .inr (.inr ⟨rfl,?_⟩)
   have:1≤p.length:=List.length_pos_iff.2 hn
   by_cases q2:1<p.length
   ·exact absurd ⟨q2,q⟩ hz
   ·omega
  ·exact .inl (by unfold aBq;simp [q]))
 rw [show min (0:Int) (m+1)=0 by omega] at this
 exact this
theorem uH{p:List UInt8}{m:Int}(h:p=[]∨(1<p.length∧p[0]? = some 48)∨p.all isd=false):(bH p m).2=11:=by
 rcases h with h | ⟨h1,h2⟩ | h
 ·subst h;rfl
 ·match p,h1,h2 with
  | b::c::r,_,h2 =>
   have hz:aBq (b::c::r)=true:=by unfold aBq;exact decide_eq_true h2
   unfold bH;rw [hz];unfold lU
   split
   ·rfl
   ·unfold lU
    rw [if_pos (.inr ⟨by omega,rfl⟩)]
 ·exact aJr _ _ p 0 0 h
theorem aRb{p:List UInt8}{m:Int}(hm:0≤m)(ha:p.all isd=true)(hn:p≠[])(hz:¬ (1<p.length∧p[0]? = some 48)):aOh p m=min (nA p 0) (m+1):=by
 unfold aOh;rw [if_neg (by simp only [hn,hz,ha,false_or];decide)]
 have:=aJp m hm p 0 ha (by omega)
 rw [show min (0:Int) (m+1)=0 by omega] at this
 exact this
theorem Ki{p:List UInt8}(h:p.all isd=true)(x:UInt8)(hx:isd x=false):x∉p:=fun q=>by
 rw [iD] at h
 rw [h x q] at hx;cases hx
theorem bGg{x:UInt8}:dgM [x] 1 10=if isd x=true then (dv x,true) else (0,false):=by
 unfold dgM
 by_cases h:isd x=true
 ·rw [if_pos ⟨rfl,by simp [h]⟩,if_pos h]
  have e:atV [x]=dv x:=by unfold atV;rw [J7 h];rfl
  have:=fH h;rw [e]
  congr 1
  exact decide_eq_true (by unfold dv;omega)
 ·rw [if_neg h,if_neg (fun q=>h (by simpa using q.2))]
theorem bGh{x y:UInt8}:dgM [x,y] 2 60=if isd x=true∧isd y=true then (10*dv x+dv y,decide (x.toNat≤53)) else (0,false):=by
 unfold dgM
 by_cases h:isd x=true∧isd y=true
 ·rw [if_pos ⟨rfl,by simp [h.1,h.2]⟩,if_pos h]
  have e:atV [x,y]=10*dv x+dv y:=by unfold atV;rw [at2 h.1 h.2];rfl
  have h1:=fH h.1;have h2:=fH h.2;rw [e]
  congr 1
  by_cases q:x.toNat≤53
  ·rw [decide_eq_true q];exact decide_eq_true (by unfold dv;omega)
  ·rw [decide_eq_false q];exact decide_eq_false (by unfold dv;omega)
 ·rw [if_neg h,if_neg (fun q=>h (by simpa using q.2))]
theorem bGi{s:List UInt8}{m b:Int}(h:(dgM s m b).2=true):(s.length:Int)=m∧s.all isd=true:=by
 unfold dgM at h
 split at h
 ·rename_i q;exact q
 ·cases h
theorem bMh{s:List UInt8}(h:paM s≠(0,11)):∃ p b c e,s=p++[58,b,c,46,e]∧p≠[]∧p.all isd=true∧¬ (1<p.length∧p[0]? = some 48)∧isd b=true∧isd c=true∧isd e=true:=by
 have hc:(Lib.cut s [58]).2.2=true∧(Lib.cut (Lib.cut s [58]).2.1 [46]).2.2=true∧(dgM (Lib.cut (Lib.cut s [58]).2.1 [46]).1 2 60).2=true∧(dgM (Lib.cut (Lib.cut s [58]).2.1 [46]).2.1 1 10).2=true∧(bH (Lib.cut s [58]).1 360000).2≠11:=by
  apply Classical.byContradiction;intro q;apply h;unfold paM;rw [if_neg q]
 obtain ⟨h1,h2,h3,h4,h5⟩:=hc;obtain ⟨p,r,hp,rfl⟩:=aDp h1;rw [uG hp] at h2 h3 h4 h5
 obtain ⟨x,y,hx,rfl⟩:=aDp h2;rw [uG hx] at h3 h4
 obtain ⟨l1,d1⟩:=bGi h3;obtain ⟨l2,d2⟩:=bGi h4;dsimp only at l1 d1 l2 d2 h5
 match x,y,l1,l2,d1,d2 with
 | [b,c],[e],_,_,d1,d2 =>
  simp only [List.all_cons,List.all_nil,Bool.and_true,B0] at d1 d2
  refine ⟨p,b,c,e,rfl,fun q=>h5 (uH (.inl q)),?_,fun q=>h5 (uH (.inr (.inl q))),d1.1,d1.2,d2⟩
  cases q:p.all isd
  ·exact absurd (uH (.inr (.inr q))) h5
  ·rfl
theorem bVz{p:List UInt8}{b c e:UInt8}(hn:p≠[])(ha:p.all isd=true)(hz:¬ (1<p.length∧p[0]? = some 48))(hb:isd b=true)(hc:isd c=true)(he:isd e=true):paM (p++[58,b,c,46,e])=Ln p 58 b c 46 e:=by
 have c1:Lib.cut (p++[58,b,c,46,e]) [58]=(p,[b,c,46,e],true):=uG (Ki ha 58 (by decide))
 have c2:Lib.cut [b,c,46,e] [46]=([b,c],[e],true):=uG (u:=[b,c]) (Ki (by simp [hb,hc]) 46 (by decide))
 have D1:=bGg (x:=e);rw [if_pos he] at D1
 have D2:=bGh (x:=b) (y:=c);rw [if_pos ⟨hb,hc⟩] at D2
 have N:=aRa (m:=360000) (by omega) ha hn hz
 have F:=aRb (m:=1000) (by omega) ha hn hz
 have hv:=aQz p 0 ha (by omega)
 have b1:=fH hb;have b2:=fH hc;have b3:=fH he;have v1:0≤dv b∧dv b≤9:=by unfold dv;omega
 have v2:0≤dv c∧dv c≤9:=by unfold dv;omega
 have v3:0≤dv e∧dv e≤9:=by unfold dv;omega
 have hp:paM (p++[58,b,c,46,e])=if b.toNat≤53∧(bH p 360000).2≠11 then
   if (bH p 360000).2≠0∨360000<(bH p 360000).1*600+(10*dv b+dv c)*10+dv e then (0,3) else ((bH p 360000).1*600+(10*dv b+dv c)*10+dv e,0)
   else (0,11):=by
  unfold paM;rw [c1];dsimp only;rw [c2];dsimp only;rw [D1,D2];dsimp only
  by_cases q:b.toNat≤53∧(bH p 360000).2≠11
  ·rw [if_pos ⟨rfl,rfl,decide_eq_true q.1,rfl,q.2⟩,if_pos q]
  ·rw [if_neg (fun k=>q ⟨of_decide_eq_true k.2.2.1,k.2.2.2.2⟩),if_neg q]
 have hr:Ln p 58 b c 46 e=if b.toNat≤53 then
   if 360000<aOh p 1000*600+dv b*100+dv c*10+dv e then (0,3) else (aOh p 1000*600+dv b*100+dv c*10+dv e,0)
   else (0,11):=by
  unfold Ln
  by_cases q:b.toNat≤53
  ·rw [if_pos ⟨rfl,rfl,hb,hc,he,by rw [F];omega,q⟩,if_pos q]
  ·rw [if_neg (fun k=>q k.2.2.2.2.2.2),if_neg q]
 rw [hp,hr,F]
 by_cases h5:b.toNat≤53
 ·by_cases hl:360000<nA p 0
  ·rw [if_pos hl] at N
   rw [N,if_pos ⟨h5,by decide⟩,if_pos h5,if_pos (.inl (by decide)),if_pos (by omega)]
  ·rw [if_neg hl] at N
   rw [N,if_pos ⟨h5,by simp⟩,if_pos h5]
   by_cases hq:360000<nA p 0*600+(10*dv b+dv c)*10+dv e
   ·rw [if_pos (Or.inr hq),if_pos (by omega)]
   ·rw [if_neg (by rintro (k | k) <;> first | exact k rfl | exact hq k),if_neg (by omega)]
    show (nA p 0*600+(10*dv b+dv c)*10+dv e,(0:Int))=(min (nA p 0) (1000+1)*600+dv b*100+dv c*10+dv e,0);have:nA p 0*600+(10*dv b+dv c)*10+dv e=min (nA p 0) (1000+1)*600+dv b*100+dv c*10+dv e:=by omega
    rw [this]
 ·rw [if_neg (fun k=>h5 k.1),if_neg h5]
theorem bMi{s x:List UInt8}:(Lib.cut s x).2.1.length≤s.length:=by
 unfold Lib.cut
 split
 ·simp
 ·simp
theorem bWa{s:List UInt8}(h:s.length≤90000){base:Nat}:FV Tp 39 [.p (aD s)] base (.tup [.p (aB (paM s).1),.p (aB (paM s).2)]) []:=cBb (by omega) (iE bMi (by omega))
end
section

theorem fO(s:List UInt8)(h:s.length≤65536){base:Nat}:FV Tp 30 [.p (aD s)] base (.tup [.p (aB (bJ s)),.p (aB 0)]) []:=bWt h
theorem pP(s:List UInt8)(h:65536<s.length){base:Nat}:FV Tp 30 [.p (aD s)] base (.tup [.p (aB 0),.p (aB 10)]) []:=bMt h
theorem bMg(s:List UInt8)(h:s.length≤90000){base:Nat}:FV Tp 39 [.p (aD s)] base (.tup [.p (aB (paM s).1),.p (aB (paM s).2)]) []:=bWa h
def bQa:Prop:=∀ (base:Nat),FV Tp 14 [] base (.p (blP true)) []
end
section
variable {m:Int}{base:Nat}

theorem bVv:FV Tp 187 [(pI m),(.fn 188 [] []),(.fn 120 [] [])] base (.agg [(.fn 224 [] [(.rp [(PV.fn 188 [] [])] 0)]),(.fn 225 [] [(.rp [(PV.fn 120 [] [])] 0)]),(.fn 226 [] [(.rp [(aB m)] 0)])]) []:=FV.fi func187 [] gn
theorem bVw:FV Tp 187 [(pI m),(.fn 39 [] []),(.fn 189 [] [])] base (.agg [(.fn 224 [] [(.rp [(PV.fn 39 [] [])] 0)]),(.fn 225 [] [(.rp [(PV.fn 189 [] [])] 0)]),(.fn 226 [] [(.rp [(aB m)] 0)])]) []:=FV.fi func187 [] gn
theorem bVx:FV Tp 190 [(.fn 191 [] [])] base (.agg [(.fn 227 [] [(.rp [(PV.fn 191 [] [])] 0)]),(.fn 228 [] []),(.fn 229 [] [(.rp [(PV.fn 191 [] [])] 0)])]) []:=FV.fi func190 [] gn
theorem bVy:FV Tp 190 [(.fn 192 [] [])] base (.agg [(.fn 227 [] [(.rp [(PV.fn 192 [] [])] 0)]),(.fn 228 [] []),(.fn 229 [] [(.rp [(PV.fn 192 [] [])] 0)])]) []:=FV.fi func190 [] gn
theorem eK:FV Tp 121 [] base (.agg [(.fn 224 [] [(.rp [(PV.fn 188 [] [])] 0)]),(.fn 225 [] [(.rp [(PV.fn 120 [] [])] 0)]),(.fn 226 [] [(.rp [(aB 999999)] 0)]),(.fn 224 [] [(.rp [(PV.fn 39 [] [])] 0)]),(.fn 225 [] [(.rp [(PV.fn 189 [] [])] 0)]),(.fn 226 [] [(.rp [(aB 360000)] 0)]),(.fn 227 [] [(.rp [(PV.fn 191 [] [])] 0)]),(.fn 228 [] []),(.fn 229 [] [(.rp [(PV.fn 191 [] [])] 0)]),(.fn 227 [] [(.rp [(PV.fn 192 [] [])] 0)]),(.fn 228 [] []),(.fn 229 [] [(.rp [(PV.fn 192 [] [])] 0)])]) []:=have k1:=fk 1 (bVv (m:=(999999:Int))) rfl;have k2:=fk 1 (bVw (m:=(360000:Int))) rfl;have k3:=fk 1 bVx rfl;have k4:=fk 1 bVy rfl;FV.fi func121 [k1.o,k2.o,k3.o,k4.o] (gc k4 (gc k3 (gc k2 (gc k1 gn))))
end
end KV
end Go.Proofs
