/- Parts of the proof of JSheetFirst: laws of walks, contracts of functions, plain models. No condition. -/
import Derived.RangeFuncLeaves
import Derived.OrdersIn
import Derived.Still
import Derived.Test.YtfekapdegmfgaaaGreatDoorProg
import Derived.Test.YtfekapdegmfgaaaGreatDoorRows
import Derived.ProofKit
import Derived.Carry
import Derived.Lib.LaidU8
import Derived.Lib.LaidTab
import Derived.MakeChecks
import Derived.Shelf.Vars
import Derived.Handed
import Derived.Lay
import Derived.SizedLaws
import Derived.WalkKit
import Derived.Laws.RangeAny
import Derived.LoopTactic
import Derived.Lib.ItoaLen
import Derived.Test.YtfekapdegmfgaaaGreatDoorPJSheetFirstC
set_option linter.unusedVariables false
set_option linter.unusedSimpArgs false
set_option linter.unnecessarySimpa false
set_option maxRecDepth 100000
namespace Go.Proofs
namespace KV
open Tryz
section

def bY{α:Type}(m:Ask α):Prop:=∀ s r s',m s=some (r,s')→∀ p∈s.obs,p∈s'.obs
theorem bY.good{α:Type}{m:Ask α}(h:bY m){s s':AS}{r:α}(e:m s=some (r,s'))(g:bA s'):bA s:=fun p hp=>g p (h s r s' e p hp)

theorem bE{α β:Type}{m:Ask α}{f:α→Ask β}(h:bY m)(k:∀ a,bY (f a)):bY (m >>= f):=fun s r s' e p hp=>by
 obtain ⟨a,s1,h1,h2⟩:=aC e;exact k a _ _ _ h2 p (h _ _ _ h1 p hp)
theorem aI{α:Type}(a:α):bY (pure a:Ask α):=fun s r s' e p hp=>by obtain ⟨_,rfl⟩:=aH e;exact hp
theorem kZ{α:Type}(o:Option α):bY (lift o):=fun s r s' e p hp=>by obtain ⟨_,rfl⟩:=aE e;exact hp
theorem aQ{α:Type}:bY (fail:Ask α):=fun _ _ _ e=>(aU e).elim
theorem sU{p:Prop}[d:Decidable p]:bY (eM p):=fun s r s' h q hq=>by
 unfold eM at h
 cases ha:s.auto with
 | true =>
  rw [ha] at h
  cases d with
  | isTrue hp=>cases h;exact hq
  | isFalse hp=>cases h
 | false=>rw [ha] at h;cases h;exact Cn _ hq
theorem aMt{b:Bool}:bY (aNw b):=fun s r s' h q hq=>by
 unfold aNw at h
 cases ha:s.auto with
 | true=>rw [ha] at h;cases h;exact hq
 | false =>
  rw [ha] at h
  dsimp only at h
  split at h
  ·cases h;exact Cn _ hq
  ·cases h
theorem aFl{x:Option PV}:bY (aJv x):=fun s r s' h q hq=>by
 unfold aJv at h
 cases ha:s.auto with
 | true =>
  rw [ha] at h
  cases x with
  | none=>cases h
  | some y=>cases h;exact hq
 | false =>
  rw [ha] at h
  dsimp only at h
  split at h
  ·cases h;exact Cn _ hq
  ·cases h
theorem tU{k:IntKind}{z:Int}:bY (wr k z):=fun s r s' h q hq=>by
 unfold wr at h
 cases ha:s.auto with
 | true=>rw [ha] at h;cases h;exact hq
 | false =>
  rw [ha] at h
  dsimp only at h
  split at h
  ·cases h;exact Cn _ hq
  ·cases h;exact hq
theorem bSt{P:Program}{E:Env}{f:Nat}{args:List AV}{m:Mem}{id:Nat}:bY (aIw P E f args m id):=fun s r s' h q hq=>by
 unfold aIw at h
 cases ha:s.auto with
 | true =>
  rw [ha] at h
  dsimp only at h
  split at h
  ·cases h;exact hq
  ·cases h
 | false =>
  rw [ha] at h
  dsimp only at h
  split at h
  ·split at h
   ·cases h;exact Cn _ hq
   ·cases h
  ·cases h

variable {P:Program} {T:TT} {E:Env}

theorem aMu{c:AV}:bY (aNs c):=by
 unfold aNs;split
 ·exact aI _
 ·exact aMt
 ·exact aQ
theorem aUu{op:BinOp}{k:IntKind}{x y:Int}:bY (bFn op k x y):=by
 cases op <;> unfold bFn <;> first | exact tU | exact aI _ | exact aQ | exact bE sU fun _=>tU | exact bE sU fun _=>aI _
theorem aUv{op:BinOp}{a b:Value}{t:Bool}:bY (aVr op a b t):=by
 unfold aVr;split
 ·split
  ·exact bE sU fun _=>aI _
  ·exact bE sU fun _=>tU
  ·split
   ·exact aUu
   ·exact aQ
 ·split
  ·split <;> first | exact aI _ | exact aQ
  ·exact aQ
 ·exact aQ
theorem dN{a:Ask AV}(h:bY a):bY (val a):=bE h fun _=>aI _
theorem aIm{vs:List AV}{f:Res}(h:bY f):bY (J0 vs f):=by unfold J0;split;exact h;exact aQ
theorem eN{vs:List AV}{f:AV→Res}(h:∀ x,bY (f x)):bY (Ew vs f):=by unfold Ew;split;exact h _;exact aQ
theorem gK{vs:List AV}{f:AV→AV→Res}(h:∀ x y,bY (f x y)):bY (Fb vs f):=by unfold Fb;split;exact h _ _;exact aQ
theorem zJ{vs:List AV}{f:AV→AV→AV→Res}(h:∀ x y z,bY (f x y z)):bY (Hw vs f):=by unfold Hw;split;exact h _ _ _;exact aQ
theorem aG{α β:Type}{o:Option α}{f:α→Ask β}(k:∀ a,bY (f a)):bY (lift o >>= f):=bE (kZ o) k
theorem cL{β:Type}{p:Prop}[Decidable p]{f:Unit→Ask β}(k:∀ a,bY (f a)):bY (eM p >>= f):=bE sU k

theorem aUw{op:BinOp}{a b:Value}{t:Nat}:bY (bLy T op t a b):=by
 unfold bLy;split
 ·unfold bLx
  split <;> first | exact cL fun _=>aI _ | exact aI _ | exact aQ
 ·exact aUv
theorem aUx{op:BinOp}{t:Nat}{a b:AV}:bY (bLz T op t a b):=aG fun _=>aG fun _=>bE aUw fun _=>aI _
theorem bEr{op:UnOp}{x:AV}:bY (vun op x):=by
 unfold vun;split
 ·split <;> first | exact aI _ | exact aQ
 ·split <;> first | exact bE tU fun _=>aI _ | exact aQ
 ·exact aQ
theorem aMv{a b:Nat}{x:AV}:bY (vconv T a b x):=by
 unfold vconv;refine aG fun _=>aG fun _ => ?_
 split
 ·exact bE tU fun _=>aI _
 ·exact cL fun _=>aI _
 ·exact aI _
 ·exact aQ
theorem aMw{m:Mem}{a b:Nat}{x:AV}:bY (xF T m a b x):=by
 unfold xF;have h1:bY (tZ x):=by
  unfold tZ;split
  ·exact cL fun _=>aI _
  ·exact aQ
 have h2:bY (aIz m x):=aG fun _=>cL fun _=>aG fun _=>aI _
 split
 ·exact h1
 ·split
  ·exact h2
  ·exact aMv
theorem aUy{x:AV}{i:Nat}:bY (vext x i):=by unfold vext;split;exact kZ _;exact aQ
theorem xU{m:Mem}{t f:Nat}{x:AV}:bY (oG T m t x f):=aG fun _=>aG fun _=>aG fun _=>aG fun _=>kZ _
theorem xV{m:Mem}{t:Nat}{x i:AV}:bY (eQ T m t x i):=by
 unfold eQ;refine aG fun _=>aG fun _ => ?_
 split
 ·refine aG fun _ => ?_
  split
  ·exact aG fun _=>cL fun _=>aI _
  ·exact aG fun _=>cL fun _=>aI _
  ·exact cL fun _=>aI _
  ·exact aQ
 ·refine aG fun _ => ?_
  split
  ·exact cL fun _=>aI _
  ·exact cL fun _=>aI _
  ·exact aQ
 ·exact aQ
theorem xA{i:TI}{cs:List PV}{off:Nat}:bY (vS i cs off):=by
 unfold vS;split
 ·exact cL fun _=>bE aFl fun _=>aI _
 ·exact bE aFl fun _=>aI _
theorem xB{i:TI}{cs:List AV}{off:Nat}:bY (vT i cs off):=by unfold vT;split <;> exact kZ _
theorem zK{m:Mem}{t:Nat}{x:AV}:bY (vload T m t x):=by
 unfold vload;refine aG fun _ => ?_
 split
 ·refine aG fun _ => ?_
  split
  ·exact xB
  ·exact xA
  ·exact aQ
 ·exact xA
 ·exact aQ
theorem zL{t:Nat}{x:AV}{off:Nat}:bY (vpart T t x off):=by
 unfold vpart;refine aG fun _ => ?_
 split
 ·split
  ·exact cL fun _=>aI _
  ·exact aG fun _=>aI _
 ·exact xB
 ·exact aQ
theorem aIn{t f:Nat}{x:AV}:bY (vfield T t x f):=aG fun _=>aG fun _=>aG fun _=>zL
theorem aIo{t:Nat}{x i:AV}:bY (vindex T t x i):=by
 unfold vindex;refine aG fun _=>aG fun _ => ?_
 split
 ·exact aG fun _=>cL fun _=>zL
 ·split
  ·exact cL fun _=>bE aFl fun _=>aI _
  ·exact aQ
 ·exact aQ
theorem lO{m:Mem}{t:Nat}{x:AV}{lo hi:Option AV}:bY (vslice T m t x lo hi):=by
 unfold vslice;refine aG fun _ => ?_
 split
 ·refine aG fun _=>aG fun _ => ?_
  split
  ·exact aG fun _=>aG fun _=>cL fun _=>aI _
  ·exact aG fun _=>aG fun _=>cL fun _=>aI _
  ·exact aG fun _=>cL fun _=>aI _
  ·exact aG fun _=>cL fun _=>aI _
  ·exact aQ
 ·refine aG fun _ => ?_
  split
  ·exact aG fun _=>cL fun _=>aI _
  ·exact aQ
 ·refine aG fun _=>aG fun _ => ?_
  split
  ·exact aG fun _=>aG fun _=>cL fun _=>aI _
  ·exact aQ
 ·exact aQ
theorem aUz{m:Mem}{t:Nat}{x:AV}:bY (vlen T m t x):=aG fun _=>aG fun _=>aI _
theorem tV{b:Bool}{l:List AV}:bY (vminmax b l):=by
 unfold vminmax;split
 ·exact aQ
 ·exact aG fun _=>kZ _
theorem aIp{t:Nat}{l:List (Nat × AV)}:bY (vbuild T t l):=aG fun _=>aG fun _=>aG fun _=>aI _
theorem aIq{m:Mem}{id t:Nat}:bY (salloc T m id t):=aG fun _=>aG fun _=>aI _
theorem aVa{m:Mem}{id t:Nat}{x:AV}:bY (sbox T m id t x):=by
 unfold sbox;refine aG fun _=>aG fun _ => ?_
 split
 ·exact aG fun _=>aI _
 ·split
  ·exact cL fun _=>aI _
  ·exact aQ
theorem xC{m:Mem}{t:Nat}{a x:AV}:bY (sstore T m t a x):=by
 unfold sstore;refine aG fun _ => ?_
 split
 ·refine aG fun _ => ?_
  split
  ·exact aG fun _=>aG fun _=>aI _
  ·split
   ·exact aG fun _=>cL fun _=>aI _
   ·split
    ·exact cL fun _=>aI _
    ·exact aQ
  ·exact aQ
 ·exact aQ
theorem aFm{m:Mem}{id t t2:Nat}{x y:AV}:bY (sappend T m id t t2 x y):=by
 unfold sappend;refine aG fun _=>aG fun _=>aG fun _=>aG fun _=>aG fun _ => ?_
 split
 ·exact aG fun _=>aG fun _=>cL fun _=>aI _
 ·exact aG fun _=>cL fun _=>aI _
 ·exact aQ
theorem aMx{m:Mem}{id t:Nat}{l c:AV}:bY (smake T m id t l c):=aG fun _=>aG fun _=>aG fun _=>aG fun _=>cL fun _=>aI _
theorem aIr{m:Mem}{id t len:Nat}{l:List (Nat × AV)}:bY (sbuild T m id t len l):=by
 unfold sbuild;refine aG fun _=>aG fun _ => ?_
 split
 ·exact cL fun _=>aI _
 ·exact aG fun _=>aG fun _=>aI _
theorem aFn{m:Mem}{id t len:Nat}{l:List (Nat × AV)}:bY (nZ T m id t len l):=aG fun _=>bE aIr fun _=>aI _
theorem aFo{m:Mem}{t:Nat}{a x:AV}:bY (lR T m t a x):=by
 unfold lR;split
 ·refine aG fun _ => ?_
  split
  ·exact aG fun _=>bE xC fun _=>aI _
  ·exact xC
 ·exact aQ
theorem aIs{m:Mem}{op:BinOp}{t:Nat}{a b:AV}:bY (pT T m op t a b):=by
 unfold pT;refine aG fun _=>aG fun _ => ?_
 split <;> first | exact aI _ | exact aQ
theorem aVb{op:BinOp}{t:Nat}{a b:AV}:bY (bFc T op t a b):=by
 unfold bFc;refine aG fun _=>aG fun _=>aG fun _ => ?_
 split
 ·refine cL fun _ => ?_
  split <;> first | exact aI _ | exact aQ
 ·exact aQ
theorem aVc{op:BinOp}{t:Nat}{a b:AV}:bY (bFe T op t a b):=by
 unfold bFe;refine aG fun _=>aG fun _=>aG fun _ => ?_
 split
 ·refine aG fun _ => ?_
  split <;> first | exact aI _ | exact aQ
 ·exact aQ
theorem bEs{op:BinOp}{t:Nat}{a b:AV}:bY (veq T op t a b):=by
 unfold veq;split
 ·exact aVb
 ·exact aVc
theorem aVd{m:Mem}{op:BinOp}{t:Nat}{a b:AV}:bY (aIx T m op t a b):=by
 unfold aIx;split
 ·exact aIs
 ·split
  ·exact bEs
  ·exact aUx
theorem bEt{op:UnOp}{x:AV}:bY (cUn op x):=by
 unfold cUn;split
 ·exact aI _
 ·exact bEr
theorem aFp{m:Mem}{t:Nat}{x:AV}:bY (B5 T m t x):=by
 unfold B5;refine aG fun _=>aG fun _=>aG fun _ => ?_
 split
 ·exact aG fun _=>aG fun _=>cL fun _=>aI _
 ·exact aQ
theorem tW{m:Mem}{t:Nat}{x:AV}:bY (lS T m t x):=by
 unfold lS;refine aG fun _=>aG fun _ => ?_
 split
 ·exact aG fun _=>aG fun _=>cL fun _=>aI _
 ·exact aQ
theorem aIt{m:Mem}{t:Nat}{x:AV}:bY (sclear T m t x):=by
 unfold sclear;cases lD T t with
 | none=>exact aQ
 | some ej =>
  dsimp only;cases ej.2.zero with
  | nil=>exact tW
  | cons z l =>
   cases l with
   | nil=>exact aFp
   | cons z2 l=>exact tW
theorem aMy{m:Mem}{t:Nat}{x y:AV}:bY (scopy T m t x y):=by
 unfold scopy;refine aG fun _=>aG fun _=>aG fun _ => ?_
 split
 ·exact aG fun _=>aG fun _=>cL fun _=>aI _
 ·exact aQ
theorem aCa{m:Mem}{id:Nat}{b:Go.Builtin}{ts:Array TypeId}{vs:List AV}:bY (mX T m id b ts vs):=by
 unfold mX;split
 ·exact eN fun _=>aG fun _=>dN aUz
 ·refine gK fun _ _ => ?_
  split
  ·exact aFm
  ·exact aQ
 ·refine gK fun _ _ => ?_
  split
  ·exact aMy
  ·exact aQ
 ·refine eN fun _ => ?_
  split
  ·exact aIt
  ·exact aQ
 ·exact dN tV
 ·exact dN tV
 ·exact aQ
theorem aMz{m:Mem}{id:Nat}{vs:List AV}:bY (xE P E m id vs):=by
 unfold xE;split
 ·exact aG fun _=>bSt
 ·exact aQ

theorem aVe{m:Mem}{id:Nat}:bY (smap m id):=aG fun _=>aI _
theorem bEu{p:Prop}:bY (aVl p):=fun s r s' h q hq=>by
 unfold aVl at h
 cases ha:s.auto with
 | true=>rw [ha] at h;cases h
 | false=>rw [ha] at h;cases h;exact Cn _ hq
theorem xD{et:Nat}{ok:Bool}{ak:Ask Unit}(ha:bY ak){hit:Bool}{lk:Option PV}:bY (zS P et ok ak hit lk):=bE ha fun _=>bE aMt fun d=>by
 cases d
 ·exact aG fun _=>aG fun _=>aI _
 ·exact bE aFl fun _=>aI _
theorem aNa{m:Mem}{t:Nat}{a k:AV}{ok:Bool}:bY (slook P T m t a k ok):=aG fun _=>aG fun _=>aG fun _=>aG fun ik=>by
 cases aJe ik.k
 ·exact aG fun _=>xD bEu
 ·exact aG fun _=>xD sU
theorem zM{id cl:Nat}{es:List (Value × PV)}{kv:Value}{x:AV}{ak:Ask Unit}(ha:bY ak){hit:Bool}{Fa:PV→List (Value × PV)}:bY (aJg id cl es kv x ak hit Fa):=bE ha fun _=>aG fun _=>bE aMt fun d=>by
 cases d <;> exact aI _
theorem aVf{m:Mem}{t:Nat}{a k x:AV}:bY (sput P T m t a k x):=aG fun _=>aG fun _=>aG fun _=>aG fun ik=>by
 cases aJe ik.k
 ·exact aG fun _=>zM bEu
 ·exact aG fun _=>zM sU
theorem aVg{o:Oper}{vs:List AV}{m:Mem}{id:Nat}:bY (core P T E o vs m id):=by
 unfold core;cases o.op <;> dsimp only <;> try exact aQ
 case move=>exact eN fun _=>aI _
 case assign=>exact eN fun _=>aI _
 case pick=>exact zJ fun _ _ _=>bE aMu fun _=>aI _
 case alloc=>exact aIm aIq
 case box=>exact eN fun _=>aVa
 case build=>exact dN aIp
 case buildSlice=>exact aFn
 case load=>exact eN fun _=>dN (bE zK fun _=>aI _)
 case store=>exact gK fun _ _=>bE aFo fun _=>aI _
 case nilCheck =>
  refine eN fun _ => ?_
  split
  ·exact aG fun _=>aI _
  ·exact aI _
  ·exact aQ
 case binOp=>exact gK fun _ _=>dN aVd
 case unOp=>exact eN fun _=>dN bEt
 case convert=>exact eN fun _=>dN aMw
 case makeFunc=>split <;> first | exact aI _ | exact aQ
 case makeMap=>split <;> first | exact aIm aVe | exact aQ
 case lookup=>exact gK fun _ _=>dN aNa
 case mapUpdate=>exact zJ fun _ _ _=>bE aVf fun _=>aI _
 case makeSlice=>exact gK fun _ _=>aMx
 case slice =>
  split
  ·split
   ·split
    ·exact eN fun _=>dN lO
    ·exact gK fun _ _=>dN lO
   ·split
    ·exact gK fun _ _=>dN lO
    ·exact zJ fun _ _ _=>dN lO
  ·exact aQ
 case fieldAddr=>exact eN fun _=>dN xU
 case field=>exact eN fun _=>dN aIn
 case indexAddr=>exact gK fun _ _=>dN xV
 case index=>exact gK fun _ _=>dN aIo
 case extract=>exact eN fun _=>dN aUy
 case call c =>
  split
  ·exact aCa
  ·exact aMz
  ·exact aQ

theorem aNb{o:Oper}{vs:List AV}{m:Mem}{id:Nat}:bY (sB P T E o vs m id):=by
 unfold sB;exact aQ
theorem vL{o:Oper}{vs:List AV}{m:Mem}{id:Nat}{r:AV × Upd}{s s':AS}(h:lP P T E o vs m id s=some (r,s')) :
  (∃ q,s.auto=false∧s.o = .q::q∧sB P T E o vs m id { s with o:=q }=some (r,s'))∨(core P T E o vs m id s=some (r,s')∧aIu r.2=true):=by
 unfold lP at h
 split at h
 ·rename_i q h1 h2 _
  exact .inl ⟨q,h1,h2,h⟩
 ·obtain ⟨r1,s1,h1,k1⟩:=aC h
  obtain ⟨_,s2,h2,k2⟩:=aC k1;obtain ⟨e2,rfl⟩:=aE h2;obtain ⟨rfl,rfl⟩:=aH k2;exact .inr ⟨h1,(bX e2).1⟩
theorem sV{o:Oper}{vs:List AV}{m:Mem}{id:Nat}:bY (lP P T E o vs m id):=fun s r s' h p hp=>by
 rcases vL h with ⟨q,_,_,h1⟩ | ⟨h1,_⟩
 ·exact aNb _ _ _ h1 p hp
 ·exact aVg _ _ _ h1 p hp
theorem bLl{c:AV}{want:Bool}:bY (bLn c want):=by
 unfold bLn;split
 ·exact aI _
 ·exact bE aMu fun _=>aI _
theorem zN{ops:List Oper}{o:Oper}{st:St}:bY (gQ ops o st):=by
 unfold gQ;split
 ·exact aI _
 ·exact aG fun _=>aG fun _=>aG fun _=>bLl
theorem aVh{ops:List Oper}{o:Oper}{id:Nat}{st:St}:bY (sW P T E ops o id st):=by
 unfold sW;refine bE zN fun _ => ?_
 split
 ·exact aG fun _=>bE sV fun _=>aI _
 ·exact aI _
theorem vM{ops:List Oper}:∀ {l:List Oper} {st:St},bY (bLo P T E ops l st)
 | [],_=>aI _
 | _::_,_=>bE aVh fun _=>vM
end
section
variable {P:Program} {T:TT} {E:Env} {C C0:Cx} {M M0:Mem} {w w0:World}

def mark(D:Nat):Deferred:={ target := .collected D,args := #[] }
def aFk(C:Cx)(w0 w:World)(ds:List Deferred):Prop:=∃ l:List Nat,ds=l.map mark∧l.Nodup∧∀ D∈l,w.heap[D]? = some (.deferred (some []))∧w0.heap.size≤D∧¬ C.F D
def aQz(C0:Cx)(M:Mem)(C:Cx)(w0 w:World):Prop:=∀ p∈C0.R,w.heap[p.1]? = some p.2∧w0.heap.size≤p.1∧p.2 ≠ .deferred (some [])∧¬ C.F p.1∧∀ (id:Nat) (o:AO),M[id]? = some (some o)→o.live=true→C.ι id≠some p.1
def bSs(C0:Cx)(M0:Mem)(w0:World)(b:Nat):Prop:=w0.heap.size≤b∨∃ (id:Nat) (o:AO),M0[id]? = some (some o)∧o.live=true∧C0.ι id=some b
def lC(C0:Cx)(M0 M:Mem)(C:Cx)(w0 w:World):Prop :=
 (∀ (id tO ti sz:Nat) (L:List (Nat × List PV)),M[id]? = some (some (.pk tO ti sz L))→aNd C M w id tO ti sz L∧(∀ o,M0[id]? ≠ some (some o))∧∀ b,aNc (C.κ id) b→bSs C0 M0 w0 b∧∀ p∈C0.R,p.1≠b) ∧
 ∀ (id Gy tO ti sz Mk Ml Mm:Nat) (L L':List (Nat × List PV)),M[id]? = some (some (.pk tO ti sz L))→M[Gy]? = some (some (.pk Mk Ml Mm L'))→id≠Gy→∀ b,aNc (C.κ id) b→¬ aNc (C.κ Gy) b
def xT(M:Mem):Prop:=∀ (id:Nat) (o:AO),M[id]? = some (some o)→o.isPk=false
theorem lC.no(h:xT M):lC C0 M0 M C w0 w:=⟨fun _ _ _ _ _ hm=>absurd (h _ _ hm) (by simp [AO.isPk]),fun _ _ _ _ _ _ _ _ _ _ hm=>absurd (h _ _ hm) (by simp [AO.isPk])⟩
def kF(M M':Mem):Prop:=∀ (id tO ti sz:Nat) (L:List (Nat × List PV)),M'[id]? = some (some (.pk tO ti sz L))→M[id]? = some (some (.pk tO ti sz L))
theorem kF.refl:kF M M:=fun _ _ _ _ _ h=>h
theorem kF.trans{M1 M2:Mem}(h:kF M M1)(k:kF M1 M2):kF M M2:=fun _ _ _ _ _ q=>h _ _ _ _ _ (k _ _ _ _ _ q)
theorem fL{id:Nat}{o:AO}(h:o.isPk=false):kF M (aZ M id (some o)):=fun i tO ti sz L q=>by
 by_cases e:id=i
 ·subst e
  rw [aY] at q;cases q;cases h
 ·exact (aP M id i _ _ e).1 q
theorem wY:∀ {L:Upd} {M:Mem},aIu L=true→kF M (upds M L)
 | [],_,_ => .refl
 | (i,o)::L,M,h=>by
  simp only [aIu,List.all_cons,B4,Bool.not_eq_true'] at h
  exact (fL h.1).trans (wY (L:=L) h.2)
theorem lC.fr{C':Cx}{M':Mem}{w':World}(h:lC C0 M0 M C w0 w)(hM:aX P C M w)(hk:kF M M')(f:Fr C M w C' M' w'):lC C0 M0 M' C' w0 w':=by
 have hz:=(hM.le f).fz;refine ⟨fun id tO ti sz L hm => ?_,fun id Gy tO ti sz Mk Ml Mm L L' hm Cq hne b hb Aq => ?_⟩
 ·obtain ⟨q,q0,q1⟩:=h.1 _ _ _ _ _ (hk _ _ _ _ _ hm)
  obtain ⟨_,e1,e2⟩:=f.ids _ _ (hk _ _ _ _ _ hm);refine ⟨q.move (e1.trans q.io) e2 f.F1 hz fun b hb=>⟨f.keep b (q.lt hb).1 (q.own b hb).2,fun hf => ?_,fun i o ho hl he => ?_⟩,q0,by rw [e2];exact q1⟩
  ·rcases f.F2 b hf with r | r | ⟨i,o,r1,r2,r3⟩
   ·exact (q.own b hb).1 r
   ·have:=(q.lt hb).1;omega
   ·exact (q.own b hb).2 i o r1 r2 r3
  ·rcases f.new i o b ho hl he with r | ⟨i',o',r1,r2,r3⟩
   ·have:=(q.lt hb).1;omega
   ·exact (q.own b hb).2 i' o' r1 r2 r3
 ·rw [(f.ids _ _ (hk _ _ _ _ _ hm)).2.2] at hb
  rw [(f.ids _ _ (hk _ _ _ _ _ Cq)).2.2] at Aq
  exact h.2 _ _ _ _ _ _ _ _ _ _ (hk _ _ _ _ _ hm) (hk _ _ _ _ _ Cq) hne b hb Aq
def kT(C0:Cx)(M0 M:Mem)(C:Cx)(w0 w:World)(ds:List Deferred):Prop:=aFk C w0 w ds∧aQz C0 M C w0 w∧lC C0 M0 M C w0 w
theorem kT.nil(h:C0.R=[])(hp:xT M):kT C0 M0 M C w0 w []:=⟨⟨[],rfl,.nil,fun D h=>by simp at h⟩,fun p hq=>(by rw [h] at hq;cases hq),.no hp⟩
theorem aIl(hM:aX P C M w)(hP:lC C0 M0 M C w0 w){id b:Nat}{o:AO}(h:M[id]? = some (some o))(hl:o.live=true)(hb:C.ι id=some b):w.heap[b]? ≠ some (.deferred (some [])):=by
 cases o with
 | row ty n cs =>
  rcases hM.row _ _ _ _ h with ⟨h1,_⟩ | ⟨b',arr,i,h1,h2,_⟩
  ·rw [hb] at h1;cases h1
  ·rw [hb] at h1;cases h1;rw [h2];intro e;cases e
 | box ty cs =>
  obtain ⟨b',arr,h1,h2,_⟩:=hM.box _ _ _ h;rw [hb] at h1;cases h1;rw [h2];intro e;cases e
 | mp es cl =>
  obtain ⟨b',arr,h1,h2,_⟩:=hM.mp _ _ _ h;rw [hb] at h1;cases h1;rw [h2];intro e;cases e
 | pk tO ti sz L=>rw [(hP.1 _ _ _ _ _ h).1.io] at hb;cases hb
 | dead=>cases hl
theorem aQz.fr{C':Cx}{M':Mem}{w':World}(h:aQz C0 M C w0 w)(f:Fr C M w C' M' w'):aQz C0 M' C' w0 w':=fun p hp=>by
 obtain ⟨q1,q2,q3,q4,q5⟩:=h p hp;have hlt:p.1<w.heap.size:=by
  rcases Nat.lt_or_ge p.1 w.heap.size with h | h
  ·exact h
  ·rw [Array.getElem?_eq_none h] at q1;cases q1
 refine ⟨(f.keep _ hlt q5).trans q1,q2,q3,fun hf => ?_,fun id o ho hl hb => ?_⟩
 ·rcases f.F2 _ hf with h | h | ⟨id,o,h4,h5,h6⟩
  ·exact q4 h
  ·omega
  ·exact q5 id o h4 h5 h6
 ·rcases f.new id o _ ho hl hb with h | ⟨Eh,o0,h4,h5,h6⟩
  ·omega
  ·exact q5 Eh o0 h4 h5 h6
theorem aFk.fr{C':Cx}{M':Mem}{w':World}{ds:List Deferred}(h:aFk C w0 w ds)(hM:aX P C M w)(hP:lC C0 M0 M C w0 w)(f:Fr C M w C' M' w'):aFk C' w0 w' ds:=by
 obtain ⟨l,h1,h2,h3⟩:=h;refine ⟨l,h1,h2,fun D hD => ?_⟩
 obtain ⟨q1,q2,q3⟩:=h3 D hD;have hlt:D<w.heap.size:=by
  rcases Nat.lt_or_ge D w.heap.size with h | h
  ·exact h
  ·rw [Array.getElem?_eq_none h] at q1;cases q1
 have hno:∀ (id:Nat) (o:AO),M[id]? = some (some o)→o.live=true→C.ι id≠some D:=fun id o ho hl he=>aIl hM hP ho hl he q1
 refine ⟨(f.keep D hlt hno).trans q1,q2,fun hf => ?_⟩
 rcases f.F2 D hf with h | h | ⟨id,o,h4,h5,h6⟩
 ·exact q3 h
 ·omega
 ·exact hno id o h4 h5 h6

theorem kT.fr{C':Cx}{M':Mem}{w':World}{ds:List Deferred}(h:kT C0 M0 M C w0 w ds)(hM:aX P C M w)(hk:kF M M')(f:Fr C M w C' M' w'):kT C0 M0 M' C' w0 w' ds:=⟨h.1.fr hM h.2.2 f,h.2.1.fr f,h.2.2.fr hM hk f⟩

def Sim(P:Program)(C0:Cx)(M0:Mem)(w0:World)(st:St)(a:Act)(w:World):Prop :=
 ∃ C,cQ C st.m w st.t a.tmps∧aX P C st.m w∧Fr C0 M0 w0 C st.m w∧kT C0 M0 st.m C w0 w a.defers


def Fen(ro:Option Nat):Fence:={ Fence.wide with round:=ro }
theorem aDd{ro:Option Nat}{n f:Nat}{us:Array Value}{R:Ending→World→Prop}(h:CallsIn Fence.wide n P f us w R):CallsIn (Fen ro) n P f us w R:=h

theorem zI{st:St}{a:Act}(hS:cQ C st.m w st.t a.tmps):∀ (xs:List Operand) (l:List AV),evs st xs=some l→cT C st.m w l (xs.map a.eval)
 | [],l,h=>by cases h;exact .nil
 | x::r,l,h=>by
  unfold evs at h
  split at h
  ·rename_i y l' h1 h2
   cases h;exact .cons _ _ _ _ (hS.ev h1) (zI hS r l' h2)
  ·cases h

theorem aMs{o:Oper}{vs:List AV}{id:Nat}{r:AV × Upd}{s s':AS}(h:core P T E o vs M id s=some (r,s')):∀ c,o.op ≠ .defer c:=fun c hc=>by
 unfold core at h;rw [hc] at h;exact (aU h).elim

theorem wZ{ops:List Oper}{o:Oper}{st:St}{a:Act}{b:Bool}{s s':AS}(hS:cQ C st.m w st.t a.tmps)(h:gQ ops o st s=some (b,s'))(g:bA s'):Region.wanted o (yielded ops.toArray a.tmps)=b:=by
 unfold gQ at h
 generalize hg:o.guard=gg at h
 cases gg with
 | none =>
  obtain ⟨rfl,rfl⟩:=aH h;unfold Region.wanted;rw [hg]
 | some jw =>
  obtain ⟨j,want⟩:=jw;obtain ⟨oj,s1,h1,k1⟩:=aC h;obtain ⟨e1,rfl⟩:=aE h1;obtain ⟨d,s2,h2,k2⟩:=aC k1;obtain ⟨e2,rfl⟩:=aE h2;obtain ⟨c,s3,h3,k3⟩:=aC k2;obtain ⟨e3,rfl⟩:=aE h3;obtain ⟨hi,_⟩:=Ci.1 e3;unfold bLn at k3
  split at k3
  ·obtain ⟨rfl,rfl⟩:=aH k3
   have hr:=hS.at e3
   have hd:a.tmps[d]? = some (.tuple #[]):=by
    cases Dt:a.tmps[d]? with
    | none =>
     have:d<a.tmps.size:=by rw [hS.size];exact hi
     rw [rU this] at Dt;cases Dt
    | some u =>
     rw [Bu,Dt] at hr
     change Rep C st.m w (.tup []) u at hr
     cases hr with
     | tup _ vs h1 h2=>rw [Array.eq_empty_of_size_eq_zero h1]
   unfold Region.wanted;rw [hg];have hy:yielded ops.toArray a.tmps j=none:=by
    unfold yielded;simp only [List.getElem?_toArray,e1,Option.bind_some,e2,hd]
   simp only [hy];cases want <;> rfl
  obtain ⟨q,s4,h4,k4⟩:=aC k3;obtain ⟨rfl,rfl⟩:=aH k4;obtain ⟨e4,g⟩:=oI (hS.at e3) h4 g
  have hd:a.tmps[d]? = some (.bool q):=by
   rw [← e4,Bu];have:d<a.tmps.size:=by rw [hS.size];exact hi
   rw [rU this];rfl
  unfold Region.wanted;rw [hg];have hy:yielded ops.toArray a.tmps j=some q:=by
   unfold yielded;simp only [List.getElem?_toArray,e1,Option.bind_some,e2,hd]
  simp only [hy];cases q <;> cases want <;> rfl

theorem yA{C':Cx}{st:St}{a:Act}{o:Oper}{x:AV}{u:Value}{M':Mem}{w':World}(hS:cQ C st.m w st.t a.tmps)(hM:aX P C st.m w)(hF:Fr C0 M0 w0 C st.m w)(hD:kT C0 M0 st.m C w0 w a.defers)
  (f:Fr C st.m w C' M' w') (hk:kF st.m M') (m:aX P C' M' w') (r:Rep C' M' w' x u):Sim P C0 M0 w0 ⟨put st.t o.dst x,M'⟩ (a.put o.dst u) w':=by
 refine ⟨C',(hS.le (hM.le f)).put r,m,hF.trans f,?_⟩;have:(a.put o.dst u).defers=a.defers:=by unfold Act.put;split <;> rfl
 rw [this];exact hD.fr hM hk f

end
section
variable {P:Program} {T:TT} {E:Env} {C C0:Cx} {M M0:Mem} {w w0:World}

def UpS(P:Program)(w:World)(S:Value→World→Prop):Result Next→Prop
 | .ok (.value u) w'=>S u w'
 | .ok .skip w'=>∀ u,S u w'
 | .ok (.enter f us) w'=>w'=w∧∀ n,CallsIn Fence.wide n P f us w (fun e I3=>∃ u,e = .returned u∧S u I3)
 | _=>False
section
variable {st:St} {a:Act}
section
variable {bo n cap:Nat} {rows:List (Nat × Nat × Nat)}
end

section
variable {bo cap ka kb na nb:Nat}
end
end
theorem aIk(hT:∀ t i,T t=some i→cM P t=some i)(hE:oU P E){o:Oper}{st:St}{a:Act}{id:Nat}{vs:List AV}{x:AV}{L:Upd}{s s':AS}(hS:cQ C st.m w st.t a.tmps)(hM:aX P C st.m w)(hF:Fr C0 M0 w0 C st.m w)(hD:kT C0 M0 st.m C w0 w a.defers)
  (hv:cT C st.m w vs (o.op.operands.toList.map a.eval)) (h:sB P T E o vs st.m id s=some ((x,L),s')) (g:bA s') :
  bA s∧UpS P w (fun u w'=>Sim P C0 M0 w0 ⟨put st.t o.dst x,upds st.m L⟩ (a.put o.dst u) w') ((execOp a.eval o).run P w):=by
 unfold sB at h
 exact (aU h).elim
end
section
variable {P:Program} {T:TT} {E:Env} {C C0:Cx} {M M0:Mem} {w w0:World}

def cCh(P:Program)(ops:Array Oper)(o:Oper)(st Aj:St):Prop:=∀ (C0:Cx) (M0:Mem) (w0:World) (a:Act) (w:World),Sim P C0 M0 w0 st a w→∀ (ro:Option Nat) (n:Nat) (K:Act→World→Prop) (Q:Exit→Act→World→Prop),
 (∀ a' w',Sim P C0 M0 w0 Aj a' w'→K a' w')→if Region.wanted o (yielded ops a.tmps) then o.wpIn (Fen ro) n P a w K Q else (∀ f,o.about P w a.eval=some f→(Fen ro).fn f)∧K (a.put o.dst undef) w

theorem aIj{o:Oper}{vs:List AV}{id:Nat}{r:AV × Upd}{s s':AS}(h:lP P T E o vs M id s=some (r,s')):∀ c,o.op ≠ .defer c:=by
 rcases vL h with ⟨q,_,_,h1⟩ | ⟨h1,_⟩
 ·intro c hc
  unfold sB at h1
  exact (aU h1).elim
 ·exact aMs h1
theorem sS(hT:∀ t i,T t=some i→cM P t=some i)(hE:oU P E){ops:List Oper}{o:Oper}{id:Nat}{st Aj:St}{s s':AS}(h:sW P T E ops o id st s=some (Aj,s'))(g:bA s'):cCh P ops.toArray o st Aj:=by
 intro C0 M0 w0 a w hsim ro n K Q hK;obtain ⟨C,hS,hM,hF,hD⟩:=hsim;unfold sW at h
 obtain ⟨go,s1,h1,k1⟩:=aC h;cases go with
 | true =>
  obtain ⟨vs,s2,h2,k2⟩:=aC k1;obtain ⟨e2,rfl⟩:=aE h2;obtain ⟨⟨x,L⟩,s3,h3,k3⟩:=aC k2;obtain ⟨rfl,rfl⟩:=aH k3;have gd:=sV.good h3 g;rw [wZ hS h1 gd,if_pos rfl];refine ⟨fun f _=>trivial,?_⟩
  rw [Oper.semAt_eq _ _ _ (aIj h3)]
  rcases vL h3 with ⟨q,_,_,h4⟩ | ⟨h4,hno⟩
  ·obtain ⟨_,hup⟩:=aIk hT hE hS hM hF hD (zI hS _ _ e2) h4 g
   revert hup;generalize (execOp a.eval o).run P w=r;intro hup;cases r with
   | halt x w'=>exact hup.elim
   | ok nx w' =>
    cases nx with
    | value u=>exact hK _ _ hup
    | skip=>exact hK _ _ (hup _)
    | enter f us =>
     obtain ⟨rfl,hc⟩:=hup;refine ⟨fun h=>by simp [Fen,Fence.wide] at h,(aDd (hc (n-1))).mono ?_⟩
     rintro e I3 ⟨u,rfl,hs⟩;exact hK _ _ hs
    | _=>exact hup.elim
  ·obtain ⟨_,hup⟩:=aNf hT hE hM (zI hS _ _ e2) h4 g
   have hk:kF st.m (upds st.m L):=wY hno;revert hup;generalize (execOp a.eval o).run P w=r;intro hup;cases r with
   | halt x w'=>exact hup.elim
   | ok nx w' =>
    cases nx with
    | value u =>
     obtain ⟨C',f,m,r⟩:=hup;exact hK _ _ (yA hS hM hF hD f hk m r)
    | skip =>
     obtain ⟨rfl,C',f,m⟩:=hup;exact hK _ _ (yA hS hM hF hD f hk m (.any _))
    | enter f us =>
     obtain ⟨rfl,hc⟩:=hup;refine ⟨fun h=>by simp [Fen,Fence.wide] at h,(aDd (hc (n-1))).mono ?_⟩
     rintro e I3 ⟨u,rfl,C',f,m,r⟩;exact hK _ _ (yA hS hM hF hD f hk m r)
    | _=>exact hup.elim
 | false =>
  obtain ⟨rfl,rfl⟩:=aH k1;rw [wZ hS h1 g];simp only [Bool.false_eq_true,if_false];exact ⟨fun f _=>trivial,hK _ _ (yA hS hM hF hD (Fr.refl ..) .refl hM (.tup [] #[] rfl (fun i h=>by simp at h)))⟩

theorem zH(hT:∀ t i,T t=some i→cM P t=some i)(hE:oU P E){ops:List Oper}:∀ (l:List Oper) (k:Nat) {st Aj:St} {s s':AS},(∀ j,l[j]? = ops[k+j]?)→bLo P T E ops l st s=some (Aj,s')→bA s' →
  ∀ (C0:Cx) (M0:Mem) (w0:World) (a:Act) (w:World),Sim P C0 M0 w0 st a w→∀ (ro:Option Nat) (n:Nat) (Q:Exit→Act→World→Prop),(∀ a' w',Sim P C0 M0 w0 Aj a' w'→Q .normal a' w')→wpOpsIn (Fen ro) n P ops.toArray Q ((List.range l.length).map (k + ·)) a w
 | [],k,st,Aj,s,s',_,h,g,C0,M0,w0,a,w,hs,ro,n,Q,hQ=>by
  obtain ⟨rfl,rfl⟩:=aH h;exact hQ _ _ hs
 | o::l,k,st,Aj,s,s',hl,h,g,C0,M0,w0,a,w,hs,ro,n,Q,hQ=>by
  obtain ⟨st1,s1,h1,k1⟩:=aC h;have h0:ops[k]? = some o:=by simpa using (hl 0).symm
  have ih:=zH hT hE l (k+1) (fun j=>by have:=hl (j+1);simpa [Nat.add_assoc,Nat.add_comm 1 j] using this) k1 g C0 M0 w0
  have hst:=sS hT hE h1 (vM.good k1 g) C0 M0 w0 a w hs ro n (wpOpsIn (Fen ro) n P ops.toArray Q ((List.range l.length).map (k+1 + ·))) Q (fun a' w' B6=>ih a' w' B6 ro n Q hQ)
  rw [Cb,List.range_succ_eq_map,gS,aAk];have hm:(List.range l.length).map ((k + ·) ∘ Nat.succ)=(List.range l.length).map (k+1 + ·):=by
   apply bFq;intro x _;simp only [Function.comp];omega
  rw [hm,Nat.add_zero,wpOpsIn_cons];unfold wpOpIn;simp only [List.getElem?_toArray,h0];exact hst
end
section
variable {P:Program} {T:TT} {E:Env}

theorem dE(m:Mem)(i j:Nat)(o:AO):bU (aZ m i (some o)) j=if i=j then some o else bU m j:=by
 by_cases h:i=j
 ·subst h
  rw [if_pos rfl,bI.2 (aY m i _)]
 ·rw [if_neg h]
  cases hj:bU m j with
  | some o'=>exact bI.2 ((aP m i j _ o' h).2 (dU hj))
  | none =>
   cases G6:bU (aZ m i (some o)) j with
   | none=>rfl
   | some o' =>
    rw [bI.2 ((aP m i j _ o' h).1 (dU G6))] at hj
    cases hj

theorem zA{m m':Mem}{j:Nat}:∀ (L:Upd),bU m j=bU m' j→bU (upds m L) j=bU (upds m' L) j
 | [],h=>h
 | (i,o)::L,h=>by
  simp only [upds];refine zA L ?_;rw [dE,dE,h]
theorem pO{m:Mem}{j:Nat}:∀ (L:Upd),(∀ p∈L,p.1≠j)→bU (upds m L) j=bU m j
 | [],_=>rfl
 | (i,o)::L,h=>by
  simp only [upds];rw [pO L (fun p hp=>h p (Cn _ hp)),dE,if_neg (h (i,o) (jT ..))]

theorem sR:∀ (m:Mem) (i j:Nat) (x y:Option AO),i≠j→aZ (aZ m i x) j y=aZ (aZ m j y) i x
 | [],0,0,_,_,h=>absurd rfl h
 | [],0,j+1,_,_,_=>rfl
 | [],i+1,0,_,_,_=>rfl
 | [],i+1,j+1,x,y,h=>by simp only [aZ];rw [sR [] i j x y (by omega)]
 | _::l,0,0,_,_,h=>absurd rfl h
 | _::l,0,j+1,_,_,_=>rfl
 | _::l,i+1,0,_,_,_=>rfl
 | a::l,i+1,j+1,x,y,h=>by simp only [aZ];rw [sR l i j x y (by omega)]
theorem zB{i:Nat}{x:Option AO}:∀ (L:Upd) (m:Mem),(∀ p∈L,p.1≠i)→upds (aZ m i x) L=aZ (upds m L) i x
 | [],_,_=>rfl
 | (j,o)::L,m,h=>by
  simp only [upds];rw [sR m i j _ _ (fun e=>h (j,o) (jT ..) e.symm)]
  exact zB L _ (fun p hp=>h p (Cn _ hp))
theorem aCy:∀ (L L':Upd) (m:Mem),(∀ p∈L,∀ q∈L',p.1≠q.1)→upds (upds m L) L'=upds (upds m L') L
 | [],_,_,_=>rfl
 | (i,o)::L,L',m,h=>by
  simp only [upds];rw [aCy L L' _ (fun p hp=>h p (Cn _ hp)),zB L' m (fun q hq e=>h (i,o) (jT ..) q hq e.symm)]

def Agr(m m':Mem)(ids:List Nat):Prop:=∀ id∈ids,bU m id=bU m' id
theorem Agr.left{m m':Mem}{a b:List Nat}(h:Agr m m' (a++b)):Agr m m' a:=fun i hi=>h i (aCi _ hi)
theorem Agr.right{m m':Mem}{a b:List Nat}(h:Agr m m' (a++b)):Agr m m' b:=fun i hi=>h i (aVu _ hi)
theorem Agr.upds{m m':Mem}{a:List Nat}(h:Agr m m' a)(L:Upd):Agr (upds m L) (KV.upds m' L) a:=fun i hi=>zA L (h i hi)

def Gd:AV→List Nat
 | .own id=>[id]
 | .arr id _ _=>[id]
 | .ptr id _=>[id]
 | .mp id=>[id]
 | .pa id _=>[id]
 | _=>[]
def refs:AV→List Nat
 | .agg cs=>cs.flatMap Gd
 | x=>Gd x

theorem kY(x:AV):refs (tY x)=refs x:=by
 unfold tY
 split
 ·rfl
 ·rfl
section
variable {m m':Mem} {id:Nat}
theorem cI(h:Agr m m' [id]):bU m id=bU m' id:=h id (jT ..)
theorem iJ(h:bU m id=bU m' id):eZ m id=eZ m' id:=by unfold eZ;rw [h]
theorem iK(h:bU m id=bU m' id):dX m id=dX m' id:=by unfold dX;rw [h]
theorem iL(h:bU m id=bU m' id):fG m id=fG m' id:=by unfold fG;rw [h]
end

variable {m m':Mem}
theorem rI{k:Nat}{x:AV}(h:Agr m m' (refs x)):pU m k x=pU m' k x:=by
 cases x with
 | own id=>simp only [pU,iJ (cI h)]
 | arr id off n=>simp only [pU,iJ (cI h)]
 | p y=>cases y <;> rfl
 | _=>rfl
theorem aCz{t:Nat}{x:AV}(h:Agr m m' (refs x)):vload T m t x=vload T m' t x:=by
 cases x with
 | ptr id off=>simp only [vload,cI h]
 | _=>rfl
theorem pP{t:Nat}{x i:AV}(h:Agr m m' (refs x)):eQ T m t x i=eQ T m' t x i:=by
 cases x with
 | own id=>simp only [eQ,iJ (cI h)]
 | arr id off n=>simp only [eQ,iK (cI h)]
 | ptr id off=>rfl
 | p y=>cases y <;> rfl
 | _=>rfl
theorem fK{t:Nat}{x:AV}{lo hi:Option AV}(h:Agr m m' (refs x)):vslice T m t x lo hi=vslice T m' t x lo hi:=by
 cases x with
 | own id=>simp only [vslice,iJ (cI h)]
 | arr id off n=>simp only [vslice,iK (cI h)]
 | ptr id off=>simp only [vslice,iK (cI h)]
 | p y=>cases y with
  | v z=>cases z with
   | slice q n c=>cases q <;> cases n <;> cases c <;> rfl
   | _=>rfl
  | _=>rfl
 | _=>rfl
theorem aDa{a b:Nat}{x:AV}(h:Agr m m' (refs x)):xF T m a b x=xF T m' a b x:=by
 unfold xF aIz;rw [rI h]
theorem bEo{t:Nat}{x:AV}(h:Agr m m' (refs x)):vlen T m t x=vlen T m' t x:=by
 cases x with
 | own id=>simp only [vlen,iJ (cI h)]
 | arr id off n=>simp only [vlen,iK (cI h)]
 | mp id=>simp only [vlen,cI h]
 | p y=>cases y with
  | v z=>cases z <;> rfl
  | _=>rfl
 | _=>rfl
theorem aMo{op:BinOp}{t:Nat}{a b:AV}(h:Agr m m' (refs a)):pT T m op t a b=pT T m' op t a b:=by
 have:∀ k,aJl m k a b=aJl m' k a b:=fun k=>by
  cases a with
  | own id=>simp only [aJl,iJ (cI h)]
  | ptr id off=>simp only [aJl,iK (cI h)]
  | p y =>
   unfold aJl
   split
   ·cases y with
    | v z=>cases z with
     | slice q n c=>cases q <;> cases n <;> cases c <;> rfl
     | _=>rfl
    | sl n cs=>cases cs <;> rfl
    | _=>rfl
   ·cases y with
    | v z=>cases z with
     | pointer q=>cases q <;> rfl
     | _=>rfl
    | _=>rfl
   ·cases y with
    | v z=>cases z <;> rfl
    | _=>rfl
   ·rfl
  | _=>rfl
 unfold pT;simp only [this]
theorem aId{op:BinOp}{t:Nat}{a b:AV}(h:Agr m m' (refs a)):aIx T m op t a b=aIx T m' op t a b:=by
 unfold aIx;rw [aMo h]
theorem aMp{id t:Nat}(h:Agr m m' [id]):salloc T m id t=salloc T m' id t:=by
 unfold salloc;simp only [iL (cI h)]
theorem bEp{id t:Nat}{x:AV}(h:Agr m m' [id]):sbox T m id t x=sbox T m' id t x:=by
 unfold sbox;simp only [iL (cI h)]
theorem aUr{id t:Nat}{l c:AV}(h:Agr m m' [id]):smake T m id t l c=smake T m' id t l c:=by
 unfold smake;simp only [iL (cI h)]
theorem aIe{id t t2:Nat}{x y:AV}(h:Agr m m' [id])(hx:Agr m m' (refs x))(hy:Agr m m' (refs y)):sappend T m id t t2 x y=sappend T m' id t t2 x y:=by
 cases x with
 | own Bq=>simp only [sappend,iL (cI h),rI hy,iJ (cI hx)]
 | p y=>simp only [sappend,iL (cI h),rI hy];cases y <;> rfl
 | _=>simp only [sappend,iL (cI h),rI hy]
theorem aUs{t:Nat}{x y:AV}(hx:Agr m m' (refs x))(hy:Agr m m' (refs y)):scopy T m t x y=scopy T m' t x y:=by
 cases x with
 | own Bq=>simp only [scopy,rI hy,iJ (cI hx)]
 | _=>simp only [scopy,rI hy]
theorem zC{x:AV}(h:Agr m m' (Gd x)):sY m x=sY m' x:=by
 cases x with
 | own id=>simp only [sY,iJ (cI h)]
 | _=>rfl
theorem zD:∀ {l:List AV} {m m':Mem},Agr m m' (l.flatMap Gd)→sZ m l=sZ m' l
 | [],_,_,_=>rfl
 | x::l,m,m',h=>by
  rw [List.flatMap_cons] at h
  unfold sZ;rw [zC h.left]
  split
  ·rw [zD (h.right.upds _)]
  ·rfl
theorem zE{x:AV}(h:Agr m m' (refs x)):nY m x=nY m' x:=by
 cases x with
 | agg cs=>simp only [nY,zD h]
 | own id=>exact zC (x := .own id) h
 | _=>rfl
theorem zF:∀ {l:List (Nat × AV)} {m m':Mem},Agr m m' (l.flatMap fun p=>refs p.2)→tA m l=tA m' l
 | [],_,_,_=>rfl
 | (i,x)::l,m,m',h=>by
  rw [List.flatMap_cons] at h
  have h1:nY m x=nY m' x:=zE h.left;simp only [tA,h1]
  split
  ·rw [zF (h.right.upds _)]
  ·rfl
theorem aMq{id t len:Nat}{l:List (Nat × AV)}(h:Agr m m' [id]):sbuild T m id t len l=sbuild T m' id t len l:=by
 unfold sbuild;simp only [iL (cI h)]
theorem aIf{id t len:Nat}{l:List (Nat × AV)}(h:Agr m m' [id])(hl:Agr m m' (l.flatMap fun p=>refs p.2)):nZ T m id t len l=nZ T m' id t len l:=by
 unfold nZ;rw [zF hl];simp only [aMq (h.upds _)]
theorem aIg{t:Nat}{x:AV}(h:Agr m m' (refs x)):B5 T m t x=B5 T m' t x:=by
 cases x with
 | arr id off n=>simp only [B5,iK (cI h),iJ (cI h)]
 | _=>rfl
theorem aIh{t:Nat}{x:AV}(h:Agr m m' (refs x)):lS T m t x=lS T m' t x:=by
 cases x with
 | arr id off n=>simp only [lS,iK (cI h),iJ (cI h)]
 | _=>rfl
theorem aMr{t:Nat}{x:AV}(h:Agr m m' (refs x)):sclear T m t x=sclear T m' t x:=by
 unfold sclear;rw [aIg h,aIh h]
theorem aDb{a:AV}(h:Agr m m' (refs a)):zR m a=zR m' a:=by
 cases a with
 | mp id=>simp only [zR,cI h]
 | _=>rfl
theorem aUt{a:AV}(h:Agr m m' (refs a)):aDf m a=aDf m' a:=by
 unfold aDf;simp only [aDb h]
theorem aDc{t:Nat}{a k:AV}{ok:Bool}(h:Agr m m' (refs a)):slook P T m t a k ok=slook P T m' t a k ok:=by
 unfold slook;simp only [aUt h]
theorem aIi{t:Nat}{a k x:AV}(h:Agr m m' (refs a)):sput P T m t a k x=sput P T m' t a k x:=by
 unfold sput;simp only [aDb h]
theorem bEq{id:Nat}(h:Agr m m' [id]):smap m id=smap m' id:=by
 unfold smap;simp only [iL (cI h)]
theorem zG{t:Nat}{a x:AV}(h:Agr m m' (refs a)):sstore T m t a x=sstore T m' t a x:=by
 cases a with
 | ptr id off=>simp only [sstore,cI h]
 | _=>rfl
theorem wX{t:Nat}{a x:AV}(h:Agr m m' (refs a))(hx:Agr m m' (refs x)):lR T m t a x=lR T m' t a x:=by
 cases a with
 | ptr id off=>simp only [lR,cI h,zE hx,zG (h.upds _),zG h]
 | _=>rfl
end
section
variable {P:Program} {T:TT} {E:Env} {C C0:Cx} {M M0:Mem} {w w0:World}

structure Ft where
 fp:Option (List Nat)
 ws:List Nat

def aMl:Op→Bool
 | .move _ | .assign _ | .pick _ _ _ | .makeFunc _ _ _ | .extract _ _ | .field _ _ _ | .unOp _ _ _ | .build _ _ | .index _ _ _ | .fieldAddr _ _ _=>true
 | _=>false
def bEj:Op→Bool
 | .load _ _ | .store _ _ _ | .nilCheck _ | .convert _ _ _ | .binOp _ _ _ _ _ | .slice _ _ _ _ _ | .indexAddr _ _ _ | .lookup _ _ _ _ | .mapUpdate _ _ _ _=>true
 | _=>false
def yY(o:Oper)(vs:List AV):Bool:=match o.op with
 | .indexAddr _ _ _=>match vs with
  | [.ptr _ _,_]=>true
  | _=>false
 | _=>false
theorem aMm{o:Oper}{vs:List AV}(h:yY o vs=true):(∃ t a b,o.op = .indexAddr t a b)∧∃ i off y,vs=[.ptr i off,y]:=by
 unfold yY at h
 split at h
 ·rename_i hop
  split at h
  ·exact ⟨⟨_,_,_,hop⟩,_,_,_,rfl⟩
  ·cases h
 ·cases h
def fpo(o:Oper)(vs:List AV)(id:Nat):Option (List Nat):=match aMl o.op || yY o vs with
 | true=>some []
 | false=>match bEj o.op with
  | true=>some (vs.flatMap refs)
  | false=>match o.op with
   | .call c=>match c.callee with
    | .builtin _=>some (vs.flatMap refs++[id])
    | _=>none
   | _=>some (vs.flatMap refs++[id])

theorem Agr.zip{m m':Mem}:∀ {ps:List Nat} {vs:List AV},Agr m m' (vs.flatMap refs)→Agr m m' ((ps.zip vs).flatMap fun p=>refs p.2)
 | [],_,_=>fun i hi=>by simp at hi
 | _::_,[],_=>fun i hi=>by simp at hi
 | p::ps,v::vs,h=>by
  rw [List.flatMap_cons] at h
  rw [List.zip_cons_cons,List.flatMap_cons];intro i hi
  rcases nC.1 hi with hi | hi
  ·exact h.left i hi
  ·exact Agr.zip h.right i hi

theorem Agr.hd{m m':Mem}{x:AV}{vs:List AV}(h:Agr m m' ((x::vs).flatMap refs)):Agr m m' (refs x):=by rw [List.flatMap_cons] at h;exact h.left
theorem Agr.tl{m m':Mem}{x:AV}{vs:List AV}(h:Agr m m' ((x::vs).flatMap refs)):Agr m m' (vs.flatMap refs):=by rw [List.flatMap_cons] at h;exact h.right

theorem eE{vs:List AV}{f g:AV→Res}(h:∀ x,vs=[x]→f x=g x):Ew vs f=Ew vs g:=by
 unfold Ew;split
 ·exact h _ rfl
 ·rfl
theorem dP{vs:List AV}{f g:AV→AV→Res}(h:∀ x y,vs=[x,y]→f x y=g x y):Fb vs f=Fb vs g:=by
 unfold Fb;split
 ·exact h _ _ rfl
 ·rfl
theorem rE{vs:List AV}{f g:AV→AV→AV→Res}(h:∀ x y z,vs=[x,y,z]→f x y z=g x y z):Hw vs f=Hw vs g:=by
 unfold Hw;split
 ·exact h _ _ _ rfl
 ·rfl

theorem bEk{o:Oper}{vs:List AV}{m m':Mem}{id:Nat}{l:List Nat}(hl:fpo o vs id=some l)(h:Agr m m' l):core P T E o vs m id=core P T E o vs m' id:=by
 cases hfr:aMl o.op with
 | true =>
  unfold core;cases hop:o.op <;> rw [hop] at hfr <;> first | rfl | cases hfr | exact eE fun x _=>by rw [vfield_free]
 | false =>
 cases hel:yY o vs with
 | true =>
  obtain ⟨⟨t,a,b,hop⟩,i,off,y,rfl⟩:=aMm hel;unfold core;rw [hop];rfl
 | false =>
 replace hfr:(aMl o.op || yY o vs)=false:=by rw [hfr,hel];rfl
 cases hrd:bEj o.op with
 | true =>
  have hA:l=vs.flatMap refs:=by
   unfold fpo at hl
   rw [hfr,hrd] at hl
   cases hl;rfl
  subst hA;have h1:=h;unfold core;cases hop:o.op <;> rw [hop] at hrd <;> (try cases hrd) <;> dsimp only
  ·exact eE fun x e=>by subst e;rw [aCz (by rw [kY];exact h1.hd)]
  ·exact dP fun x y e=>by subst e;rw [wX h1.hd h1.tl.hd]
  ·
   refine eE fun x e => ?_
   subst e;have h3:Agr m m' (refs (tY x)):=by rw [kY];exact h1.hd
   generalize tY x=x' at h3 ⊢
   cases x' with
   | ptr i off=>simp only [iK (cI h3)]
   | _=>rfl
  ·exact dP fun x y e=>by subst e;rw [aId h1.hd]
  ·exact eE fun x e=>by subst e;rw [aDa h1.hd]
  ·
   split
   ·split
    ·split
     ·exact eE fun x e=>by subst e;rw [fK h1.hd]
     ·exact dP fun x y e=>by subst e;rw [fK h1.hd]
    ·split
     ·exact dP fun x y e=>by subst e;rw [fK h1.hd]
     ·exact rE fun x y z e=>by subst e;rw [fK h1.hd]
   ·rfl
  ·exact dP fun x y e=>by subst e;rw [pP (by rw [kY];exact h1.hd)]
  ·exact dP fun x y e=>by subst e;rw [aDc h1.hd]
  ·exact rE fun x y z e=>by subst e;rw [aIi h1.hd]
 | false =>
 have hA:(∀ c f,o.op = .call c→c.callee ≠ .value f)∧l=vs.flatMap refs++[id]:=by
  unfold fpo at hl
  rw [hfr,hrd] at hl
  dsimp only at hl
  split at hl
  ·rename_i c hc
   split at hl
   ·rename_i b hb
    cases hl;refine ⟨fun c' f Eg hf => ?_,rfl⟩
    rw [hc] at Eg;cases Eg;rw [hb] at hf;cases hf
   ·cases hl
  ·rename_i hn
   cases hl;exact ⟨fun c f hc _=>hn c hc,rfl⟩
 obtain ⟨hc,rfl⟩:=hA;have h1:=h.left;have h2:=h.right;unfold core;cases hop:o.op <;> dsimp only
 case alloc=>rw [aMp h2]
 case box=>exact eE fun x _=>bEp h2
 case buildSlice=>exact aIf h2 (Agr.zip h1)
 case load=>exact eE fun x e=>by subst e;rw [aCz (by rw [kY];exact h1.hd)]
 case store=>exact dP fun x y e=>by subst e;rw [wX h1.hd h1.tl.hd]
 case nilCheck =>
  refine eE fun x e => ?_
  subst e;have h3:Agr m m' (refs (tY x)):=by rw [kY];exact h1.hd
  generalize tY x=x' at h3 ⊢
  cases x' with
  | ptr i off=>simp only [iK (cI h3)]
  | _=>rfl
 case binOp=>exact dP fun x y e=>by subst e;rw [aId h1.hd]
 case convert=>exact eE fun x e=>by subst e;rw [aDa h1.hd]
 case makeSlice=>exact dP fun x y _=>aUr h2
 case makeMap =>
  split
  ·rw [bEq h2]
  ·rfl
 case lookup=>exact dP fun x y e=>by subst e;rw [aDc h1.hd]
 case mapUpdate=>exact rE fun x y z e=>by subst e;rw [aIi h1.hd]
 case slice =>
  split
  ·split
   ·split
    ·exact eE fun x e=>by subst e;rw [fK h1.hd]
    ·exact dP fun x y e=>by subst e;rw [fK h1.hd]
   ·split
    ·exact dP fun x y e=>by subst e;rw [fK h1.hd]
    ·exact rE fun x y z e=>by subst e;rw [fK h1.hd]
  ·rfl
 case indexAddr=>exact dP fun x y e=>by subst e;rw [pP (by rw [kY];exact h1.hd)]
 case call c =>
  split
  ·unfold mX
   split
   ·exact eE fun x e=>by subst e;simp only [bEo h1.hd]
   ·refine dP fun x y e => ?_
    subst e
    split
    ·exact aIe h2 h1.hd h1.tl.hd
    ·rfl
   ·refine dP fun x y e => ?_
    subst e
    split
    ·exact aUs h1.hd h1.tl.hd
    ·rfl
   ·refine eE fun x e => ?_
    subst e
    split
    ·exact aMr h1.hd
    ·rfl
   ·rfl
   ·rfl
   ·rfl
  ·rename_i f hf
   exact absurd hf (hc c f hop)
  ·rfl
 all_goals rfl

def aHz(id:Nat):Nat→List Nat
 | 0=>[]
 | n+1=>(id+n)::aHz id n
theorem aCu{id:Nat}:∀ {n j:Nat},j<n→id+j∈aHz id n
 | 0,j,h=>absurd h (bMe _)
 | n+1,j,h=>by
  unfold aHz
  rcases Nat.lt_or_ge j n with h2 | h2
  ·exact Cn _ (aCu h2)
  ·obtain rfl:j=n:=by omega
   exact jT ..
def fpc(o:Oper)(vs:List AV)(m:Mem)(id:Nat):Option (List Nat):=match o.op with
 | .call c=>match c.callee with
  | .value _=>match fnH vs with
   | .fn _ first caps::args=>some (clos m (sX (first++args++caps))++aHz id 8)
   | _=>none
  | _=>none
 | _=>none
def fpm(o:Oper)(vs:List AV)(m:Mem)(id:Nat)(au:Bool):Option (List Nat):=match fpo o vs id with
 | some l=>some l
 | none=>if au then none else fpc o vs m id
theorem aFi:∀ {l acc:List Nat} {i:Nat},i∈acc→i∈ddN acc l
 | [],acc,i,h=>h
 | a::r,acc,i,h=>by
  unfold ddN
  split
  ·exact aFi h
  ·exact aFi (aCi _ h)
theorem aCv{m:Mem}:∀ {n:Nat} {l:List Nat} {i:Nat},i∈l→i∈zQ m n l
 | 0,_,_,h=>h
 | n+1,_,_,h=>aCv (n:=n) (aFi h)
theorem bEl{m m':Mem}:∀ {l:List Nat},Agr m m' l→aDe m l=aDe m' l:=by
 intro l;unfold aDe
 induction l with
 | nil=>intro _;rfl
 | cons a r ih =>
  intro h2;rw [List.flatMap_cons,List.flatMap_cons,ih fun i hi=>h2 i (Cn _ hi),h2 a (jT ..)]
theorem aCw{m m':Mem}:∀ {n:Nat} {l:List Nat},Agr m m' (zQ m n l)→zQ m n l=zQ m' n l
 | 0,_,_=>rfl
 | n+1,l,h=>by
  have e:aDe m l=aDe m' l:=bEl fun i hi=>h i (aCv (n:=n+1) hi)
  unfold zQ at h ⊢
  rw [← e];exact aCw h
theorem aIa{m m':Mem}{l:List Nat}(h:Agr m m' (clos m l)):clos m l=clos m' l:=aCw h
theorem yZ{m m':Mem}:∀ {l:List Nat},Agr m m' l→blocks m l=blocks m' l
 | [],_=>rfl
 | i::r,h=>by
  unfold blocks;rw [h i (jT ..),yZ fun j hj=>h j (Cn _ hj)]
theorem bEm{args first caps vs:List AV}{f:Nat}{m m':Mem}{id:Nat}{s:AS}(hv:fnH vs = .fn f first caps::args)(ha:s.auto=false)(h:Agr m m' (clos m (sX (first++args++caps))++aHz id 8)):xE P E m id vs s=xE P E m' id vs s:=by
 have e1:clos m (sX (first++args++caps))=clos m' (sX (first++args++caps)):=aIa fun i hi=>h i (aCi _ hi)
 have e2:blocks m (clos m (sX (first++args++caps)))=blocks m' (clos m (sX (first++args++caps))):=yZ fun i hi=>h i (aCi _ hi)
 have e3:tX m id 8=tX m' id 8:=by
  have:∀ n,n≤8→tX m id n=tX m' id n:=by
   intro n
   induction n with
   | zero=>intro _;rfl
   | succ n ih =>
    intro hn;unfold tX;rw [iL (h (id+n) (aVu _ (aCu (by omega)))),ih (by omega)]
  exact this 8 (dD _)
 have e4:aIw P E f (first++args++caps) m id s=aIw P E f (first++args++caps) m' id s:=by
  unfold aIw;rw [ha,e3,← e1,e2]
 unfold xE;rw [hv];dsimp only;cases hk:E.ok f with
 | true=>exact e4
 | false=>rfl
theorem bLk{o:Oper}{vs:List AV}{m m':Mem}{id:Nat}{l:List Nat}{s:AS}(ha:s.auto=false)(hl:fpc o vs m id=some l)(h:Agr m m' l):core P T E o vs m id s=core P T E o vs m' id s∧fpc o vs m' id=some l:=by
 unfold fpc at hl
 split at hl
 ·rename_i c hop
  split at hl
  ·rename_i v hc
   split at hl
   ·rename_i f first caps args e0
    have hl:=Option.some.inj hl;subst hl;refine ⟨?_,?_⟩
    ·unfold core
     rw [hop];dsimp only;rw [hc];exact bEm e0 ha h
    ·unfold fpc
     rw [hop];dsimp only;rw [hc];dsimp only;rw [e0];dsimp only;rw [aIa (fun i hi=>h i (aCi _ hi):Agr m m' (clos m (sX (first++args++caps))))]
   ·cases hl
  ·cases hl
 ·cases hl
theorem aUp{o:Oper}{vs:List AV}{m m':Mem}{id:Nat}{l:List Nat}{s:AS}(hl:fpm o vs m id s.auto=some l)(h:Agr m m' l):core P T E o vs m id s=core P T E o vs m' id s∧fpm o vs m' id s.auto=some l:=by
 unfold fpm at hl ⊢
 cases hf:fpo o vs id with
 | some l2 =>
  rw [hf] at hl
  have hl:=Option.some.inj hl;subst hl;exact ⟨by rw [bEk hf h],rfl⟩
 | none =>
  rw [hf] at hl
  dsimp only at hl ⊢
  cases ha:s.auto with
  | true=>rw [ha,if_pos rfl] at hl;exact absurd hl (by simp)
  | false =>
   rw [ha,if_neg (by simp)] at hl
   rw [if_neg (by simp)]
   exact bLk ha hl h

theorem aUq{o:Oper}{vs:List AV}{m m':Mem}{id:Nat}(h:Agr m m' (vs.flatMap refs++[id])):sB P T E o vs m id=sB P T E o vs m' id:=by
 unfold sB;rfl
def fpQ(o:Oper)(vs:List AV)(m:Mem)(id:Nat)(s:AS):Option (List Nat):=match s.auto,s.o,bLm o vs with
 | false,.q::_,true=>some (vs.flatMap refs++[id])
 | _,_,_=>fpm o vs m id s.auto
theorem aCx{o:Oper}{vs:List AV}{m m':Mem}{id:Nat}{l:List Nat}{s:AS}(hl:fpQ o vs m id s=some l)(h:Agr m m' l):lP P T E o vs m id s=lP P T E o vs m' id s∧fpQ o vs m' id s=some l:=by
 obtain ⟨au,oo,ob⟩:=s;have ord:fpm o vs m id au=some l→(∀ q,¬ (au=false∧oo = .q::q∧bLm o vs=true))→lP P T E o vs m id ⟨au,oo,ob⟩=lP P T E o vs m' id ⟨au,oo,ob⟩∧fpQ o vs m' id ⟨au,oo,ob⟩=some l:=fun hl hn=>by
  obtain ⟨e1,e2⟩:=aUp (P:=P) (T:=T) (E:=E) (s:=⟨au,oo,ob⟩) hl h;have g:∀ k,lP P T E o vs k id ⟨au,oo,ob⟩=(Ask.bind (core P T E o vs k id) fun r=>Ask.bind (lift (if aIu r.2=true then some () else none)) fun _=>pure r) ⟨au,oo,ob⟩:=fun k=>by
   unfold lP
   split
   ·rename_i q h2 h3 h4
    exact absurd ⟨h2,h3,h4⟩ (hn q)
   ·rfl
  refine ⟨?_,?_⟩
  ·rw [g m,g m']
   unfold Ask.bind;rw [e1]
  ·unfold fpQ
   split
   ·rename_i q h2 h3 h4
    exact absurd ⟨h2,h3,h4⟩ (hn q)
   ·exact e2
 cases au with
 | true=>exact ord hl fun q h=>by cases h.1
 | false =>
  cases oo with
  | nil=>exact ord hl fun q h=>by cases h.2.1
  | cons x r =>
   cases x with
   | q =>
    cases hk:bLm o vs with
    | true =>
     have hl:some (vs.flatMap refs++[id])=some l:=by rw [← hl];unfold fpQ;simp only [hk]
     cases hl;refine ⟨?_,by unfold fpQ;simp only [hk]⟩
     unfold lP;simp only [hk];rw [aUq h]
    | false=>exact ord (by rw [← hl];unfold fpQ;simp only [hk]) fun q h=>by rw [hk] at h;cases h.2.2
   | _=>exact ord hl fun q h=>by cases h.2.1
def pN(P:Program)(T:TT)(E:Env)(ops:List Oper)(o:Oper)(id:Nat)(st:St)(x:AV)(L:Upd)(F:Option (List Nat)):Prop :=
 ∃ s s1,(gQ ops o st s=some (false,s1)∧bA s1∧x = .tup []∧L=[]∧F=some []) ∨
  (gQ ops o st s=some (true,s1)∧∃ vs s2,evs st o.op.operands.toList=some vs∧lP P T E o vs st.m id s1=some ((x,L),s2)∧bA s2∧F=fpQ o vs st.m id s1)

theorem pN.op(hT:∀ t i,T t=some i→cM P t=some i)(hE:oU P E){ops:List Oper}{o:Oper}{id:Nat}{st:St}{x:AV}{L:Upd}{F:Option (List Nat)}(h:pN P T E ops o id st x L F):cCh P ops.toArray o st ⟨put st.t o.dst x,upds st.m L⟩:=by
 obtain ⟨s,s1,⟨h1,g,rfl,rfl,_⟩ | ⟨h1,vs,s2,h2,h3,g,_⟩⟩:=h
 ·refine sS (T:=T) (E:=E) (id:=id) (s:=s) (s':=s1) hT hE ?_ g
  unfold sW;show Ask.bind _ _ s=_;unfold Ask.bind;rw [h1];rfl
 ·refine sS (T:=T) (E:=E) (id:=id) (s:=s) (s':=s2) hT hE ?_ g
  unfold sW;show Ask.bind _ _ s=_;unfold Ask.bind;rw [h1];show Ask.bind _ _ s1=_;unfold Ask.bind lift;rw [h2];show Ask.bind _ _ s1=_;unfold Ask.bind;rw [h3];rfl

theorem aQy{ts:List AV}{d:Option Tmp}{x:AV}{t:Nat}(h:∀ e,d=some e→e≠t):(put ts d x)[t]? = ts[t]? := by
 cases d with
 | none=>rfl
 | some e=>exact List.getElem?_set_ne (h e rfl)
theorem bSr{st:St}{m:Mem}{d:Option Tmp}{x:AV}{y:Operand}(h:∀ e,d=some e→y ≠ .tmp e):ev ⟨put st.t d x,m⟩ y=ev st y:=by
 cases y with
 | tmp t=>exact aQy fun e he e2=>h e he (e2 ▸ rfl)
 | const c=>cases c <;> rfl
 | _=>rfl
theorem aFj{st:St}{m:Mem}{d:Option Tmp}{x:AV}:∀ {l:List Operand},(∀ e,d=some e → .tmp e∉l)→evs ⟨put st.t d x,m⟩ l=evs st l
 | [],_=>rfl
 | y::l,h=>by
  unfold evs;rw [bSr (fun e he e2=>h e he (e2 ▸ jT ..)),aFj (fun e he h2=>h e he (Cn _ h2))]
theorem bEn{ts:List AV}{d e:Option Tmp}{x y:AV}(h:∀ i,d=some i→e≠some i):put (put ts d x) e y=put (put ts e y) d x:=by
 cases d with
 | none=>rfl
 | some i=>cases e with
  | none=>rfl
  | some j=>exact List.set_comm _ _ fun e2=>h i rfl (e2 ▸ rfl)

theorem aIb{ops:Array Oper}{o:Oper}{e:Tmp}(h:e∉o.looksAt ops) : .tmp e∉o.op.operands.toList:=fun h2=>h (by
 unfold Oper.looksAt;exact aCi _ (List.mem_filterMap.2 ⟨.tmp e,h2,rfl⟩))

theorem rG{α β:Type}(a:α)(f:α→Ask β):(lift (some a) >>= f)=f a:=rfl

theorem rH{ops:List Oper}{o:Oper}{st:St}{m:Mem}{d:Option Tmp}{x:AV}(h:∀ e,d=some e→e∉o.looksAt ops.toArray):gQ ops o ⟨put st.t d x,m⟩=gQ ops o st:=by
 unfold gQ
 split
 ·rfl
 ·rename_i j want hg
  cases hj:ops[j]? with
  | none=>rfl
  | some oj =>
   rw [rG,rG];cases hd:oj.dst with
   | none=>rfl
   | some t =>
    rw [rG,rG];have:(put st.t d x)[t]? = st.t[t]? := aQy fun e he e2=>h e he (by
     subst e2;unfold Oper.looksAt;refine aVu _ ?_;simp [hg,hj,hd])
    simp only [this]

def aMn(a b:Ft):Bool:=(a.ws.isEmpty || (match b.fp with | some f=>a.ws.all (fun x => !f.contains x) | none=>false)) && (b.ws.isEmpty || (match a.fp with | some f=>b.ws.all (fun x => !f.contains x) | none=>false)) && a.ws.all (fun x => !b.ws.contains x)

theorem aIc{m:Mem}{L:Upd}{l:List Nat}(h:(L.map (·.1)).all (fun x => !l.contains x)=true):Agr m (upds m L) l:=fun i hi=>by
 refine (pO L fun p hp e => ?_).symm
 rw [iD] at h
 have:=h p.1 (aVv hp);simp only [Bool.not_eq_true',List.contains_eq_mem,decide_eq_false_iff_not] at this
 exact this (e ▸ hi)

theorem pN.move{ops:List Oper}{oi oj:Oper}{idi idj:Nat}{st:St}{xi xj:AV}{Li Lj:Upd}{Fi Fj:Option (List Nat)}(hap:oi.apart ops.toArray oj=true)(hok:aMn ⟨Fi,Li.map (·.1)⟩ ⟨Fj,Lj.map (·.1)⟩=true)
  (hi:pN P T E ops oi idi st xi Li Fi) (hj:pN P T E ops oj idj ⟨put st.t oi.dst xi,upds st.m Li⟩ xj Lj Fj) :
  pN P T E ops oj idj st xj Lj Fj∧pN P T E ops oi idi ⟨put st.t oj.dst xj,upds st.m Lj⟩ xi Li Fi ∧
   put (put st.t oi.dst xi) oj.dst xj=put (put st.t oj.dst xj) oi.dst xi∧upds (upds st.m Li) Lj=upds (upds st.m Lj) Li:=by
 obtain ⟨a1,a2,a3⟩:=Oper.apart_spec hap;unfold aMn at hok
 simp only [B4] at hok
 obtain ⟨⟨k1,k2⟩,k3⟩:=hok;have hL:∀ p∈Li,∀ q∈Lj,p.1≠q.1:=fun p hp q hq e=>by
  rw [iD] at k3
  have:=k3 p.1 (aVv hp);simp only [Bool.not_eq_true',List.contains_eq_mem,decide_eq_false_iff_not] at this
  exact this (e ▸ aVv hq)
 refine ⟨?_,?_,bEn a2,aCy Li Lj st.m hL⟩
 ·obtain ⟨s,s1,⟨h1,g,rfl,rfl,h5⟩ | ⟨h1,vs,s2,h2,h3,g,h5⟩⟩:=hj
  ·rw [rH a1] at h1
   exact ⟨s,s1,.inl ⟨h1,g,rfl,rfl,h5⟩⟩
  ·rw [rH a1] at h1
   rw [aFj (fun e he=>aIb (a1 e he))] at h2
   rw [aCj] at k1
   rcases k1 with k1 | k1
   ·have:Li=[]:=by simpa using k1
    subst this;exact ⟨s,s1,.inr ⟨h1,vs,s2,h2,h3,g,h5⟩⟩
   ·rw [h5] at k1
    cases hf:fpQ oj vs (upds st.m Li) idj s1 with
    | none =>
     rw [hf] at k1;cases k1
    | some l =>
     rw [hf] at k1
     have hA:Agr (upds st.m Li) st.m l:=fun i hi=>(aIc (m:=st.m) (L:=Li) k1 i hi).symm
     obtain ⟨q1,q2⟩:=aCx (P:=P) (T:=T) (E:=E) hf hA;exact ⟨s,s1,.inr ⟨h1,vs,s2,h2,by rw [← q1];exact h3,g,by rw [q2,← hf];exact h5⟩⟩
 ·obtain ⟨s,s1,⟨h1,g,rfl,rfl,h5⟩ | ⟨h1,vs,s2,h2,h3,g,h5⟩⟩:=hi
  ·exact ⟨s,s1,.inl ⟨by rw [rH a3];exact h1,g,rfl,rfl,h5⟩⟩
  ·have G5:gQ ops oi ⟨put st.t oj.dst xj,upds st.m Lj⟩ s=some (true,s1):=by rw [rH a3];exact h1
   have Gx:evs ⟨put st.t oj.dst xj,upds st.m Lj⟩ oi.op.operands.toList=some vs:=by rw [aFj (fun e he=>aIb (a3 e he))];exact h2
   rw [aCj] at k2
   rcases k2 with k2 | k2
   ·have:Lj=[]:=by simpa using k2
    subst this;exact ⟨s,s1,.inr ⟨G5,vs,s2,Gx,h3,g,h5⟩⟩
   ·rw [h5] at k2
    cases hf:fpQ oi vs st.m idi s1 with
    | none=>rw [hf] at k2;cases k2
    | some l =>
     rw [hf] at k2
     obtain ⟨q1,q2⟩:=aCx (P:=P) (T:=T) (E:=E) hf (aIc (m:=st.m) (L:=Lj) k2);exact ⟨s,s1,.inr ⟨G5,vs,s2,Gx,by rw [← q1];exact h3,g,by rw [q2,← hf];exact h5⟩⟩
end
section
variable {P:Program} {T:TT} {E:Env} {C C0:Cx} {M M0:Mem} {w w0:World}

def cost(o:Oper):Nat:=match o.op with
 | .alloc _ | .box _ _ | .buildSlice _ _ _ | .makeSlice _ _ _=>1
 | .call c=>match c.callee with
  | .builtin _=>1
  | _=>8
 | _=>0
def ido(ops:List Oper)(base k:Nat):Nat:=base+((ops.take k).map cost).sum

abbrev xS:=AV × Upd × Option (List Nat)
def aMi(q:xS):Ft:=⟨q.2.2,q.2.1.map (·.1)⟩

def aQx(o:Oper)(vs:List AV)(m:Mem)(id:Nat):Ask (Option (List Nat)):=fun s=>some (fpQ o vs m id s,s)
theorem bEh{o:Oper}{vs:List AV}{m:Mem}{id:Nat}{s s':AS}{b:Option (List Nat)}(h:aQx o vs m id s=some (b,s')):b=fpQ o vs m id s∧s'=s:=by
 unfold aQx at h
 cases h;exact ⟨rfl,rfl⟩
theorem aMj{o:Oper}{vs:List AV}{m:Mem}{id:Nat}:bY (aQx o vs m id):=fun s r s' e p hp=>by obtain ⟨_,rfl⟩:=bEh e;exact hp
def aMk(P:Program)(T:TT)(E:Env)(ops:List Oper):List Oper→Nat→St→Ask (List Ft × St)
 | [],_,st=>pure ([],st)
 | o::r,id,st=>do
  let go ← gQ ops o st
  match go with
  | true=>do
   let vs ← lift (evs st o.op.operands.toList)
   let fp ← aQx o vs st.m id
   let q ← lP P T E o vs st.m id
   let y ← aMk P T E ops r (id+cost o) ⟨put st.t o.dst q.1,upds st.m q.2⟩
   pure (⟨fp,q.2.map (·.1)⟩::y.1,y.2)
  | false=>do
   let y ← aMk P T E ops r (id+cost o) ⟨put st.t o.dst (.tup []),st.m⟩
   pure (⟨some [],[]⟩::y.1,y.2)

def pM(ops:Array Oper):Nat→Nat→Nat→Bool
 | 0,_,_=>false
 | n+1,k,j=>match ops[j]? with
  | some oj=>(oj.after.any fun e=>Region.binds .any e && e.on == k) || oj.after.any fun e=>Region.binds .any e && pM ops n k e.on
  | none=>false
def aFg(ops:Array Oper)(k:Nat)(f:Ft):Nat→List Ft→Bool
 | _,[]=>true
 | j,g::r=>(aMn f g || pM ops 10 k j) && aFg ops k f (j+1) r
def aFh(ops:Array Oper):Nat→List Ft→Bool
 | _,[]=>true
 | k,f::r=>aFg ops k f (k+1) r && aFh ops (k+1) r

def next(o:Oper)(q:xS)(st:St):St:=⟨put st.t o.dst q.1,upds st.m q.2.1⟩

inductive aUo (P:Program) (T:TT) (E:Env) (ops:List Oper):Nat→List Oper→St→List xS→St→Prop
 | nil (id:Nat) (st:St):aUo P T E ops id [] st [] st
 | cons (id:Nat) (o:Oper) (l:List Oper) (st:St) (q:xS) (os:List xS) (fin:St) (h:pN P T E ops o id st q.1 q.2.1 q.2.2) (hr:aUo P T E ops (id+cost o) l (next o q st) os fin):aUo P T E ops id (o::l) st (q::os) fin

theorem mW{ops:List Oper}:∀ {l:List Oper} {id:Nat} {st:St},bY (aMk P T E ops l id st)
 | [],_,_=>aI _
 | _::_,_,_=>by
  unfold aMk;refine bE zN fun _ => ?_
  split
  ·exact aG fun _=>bE aMj fun _=>bE sV fun _=>bE mW fun _=>aI _
  ·exact bE mW fun _=>aI _

theorem yV{ops:List Oper}:∀ (l:List Oper) (id:Nat) {st fin:St} {fts:List Ft} {s s':AS},aMk P T E ops l id st s=some ((fts,fin),s')→bA s'→∃ os:List xS,fts=os.map aMi∧aUo P T E ops id l st os fin
 | [],id,st,fin,fts,s,s',h,g=>by
  obtain ⟨he,rfl⟩:=aH h;cases he;exact ⟨[],rfl,.nil _ _⟩
 | o::l,id,st,fin,fts,s,s',h,g=>by
  unfold aMk at h
  obtain ⟨go,s1,h1,k1⟩:=aC h;cases go with
  | true =>
   obtain ⟨vs,s2,h2,k2⟩:=aC k1;obtain ⟨e2,rfl⟩:=aE h2;obtain ⟨au,sa,ha,ka⟩:=aC k2;obtain ⟨rfl,rfl⟩:=bEh ha;obtain ⟨q,s3,h3,k3⟩:=aC ka;obtain ⟨y,s4,h4,k4⟩:=aC k3;obtain ⟨he,rfl⟩:=aH k4;cases he;obtain ⟨os,e5,hl⟩:=yV l _ (fts:=y.1) (fin:=y.2) h4 g;have g3:=mW.good h4 g;exact ⟨(q.1,q.2,fpQ o vs st.m id sa)::os,by rw [gS,e5];rfl,.cons _ _ _ _ (q.1,q.2,fpQ o vs st.m id sa) _ _ ⟨s,sa,.inr ⟨h1,vs,s3,e2,h3,g3,rfl⟩⟩ hl⟩
  | false =>
   obtain ⟨y,s4,h4,k4⟩:=aC k1;obtain ⟨he,rfl⟩:=aH k4;cases he;obtain ⟨os,e5,hl⟩:=yV l _ (fts:=y.1) (fin:=y.2) h4 g;exact ⟨(.tup [],[],some [])::os,by rw [gS,e5];rfl,.cons _ _ _ _ (.tup [],[],some []) _ _ ⟨s,s1,.inl ⟨h1,mW.good h4 g,rfl,rfl,rfl⟩⟩ hl⟩

def tS(P:Program)(T:TT)(E:Env)(ops:List Oper)(base:Nat)(out:Nat→xS)(fin:St):Nat→Array Bool→St→Prop
 | 0,listed,st=>Region.ready .any ops.toArray listed=[]∧st=fin
 | fuel+1,listed,st=>(Region.ready .any ops.toArray listed=[]→st=fin) ∧
  ∀ j∈Region.ready .any ops.toArray listed,∃ o,ops[j]? = some o∧pN P T E ops o (ido ops base j) st (out j).1 (out j).2.1 (out j).2.2∧tS P T E ops base out fin fuel (listed.setIfInBounds j true) (next o (out j) st)

def yW(ops:List Oper)(listed:Array Bool):Prop:=∀ j oj,ops[j]? = some oj→listed.getD j false=true→∀ e∈oj.after,Region.binds .any e=true→listed.getD e.on false=true

theorem aCt{ops:List Oper}{listed:Array Bool}{i:Nat}(hc:yW ops listed)(hi:listed.getD i false=false):∀ (n j:Nat),(∀ oj,ops[j]? = some oj→∀ e∈oj.after,Region.binds .any e=true→listed.getD e.on false=true)→pM ops.toArray n i j=false
 | 0,_,_=>rfl
 | n+1,j,h=>by
  unfold pM;cases hj:ops[j]? with
  | none=>simp [hj]
  | some oj =>
   simp only [List.getElem?_toArray,hj,Bool.or_eq_false_iff];refine ⟨?_,?_⟩
   ·rw [Bool.eq_false_iff]
    intro hw;obtain ⟨e,he,hb⟩:=Array.any_eq_true'.1 hw;simp only [B4,beq_iff_eq] at hb
    have:=h oj hj e he hb.1;rw [hb.2,hi] at this
    cases this
   ·rw [Bool.eq_false_iff]
    intro hw;obtain ⟨e,he,hb⟩:=Array.any_eq_true'.1 hw;simp only [B4] at hb
    have h1:=h oj hj e he hb.1;rw [aCt hc hi n e.on (fun o ho e' Pj Aq=>hc e.on o ho h1 e' Pj Aq)] at hb
    cases hb.2

theorem yX{ops:List Oper}{listed:Array Bool}{j:Nat}(hc:yW ops listed)(hj:∀ oj,ops[j]? = some oj→∀ e∈oj.after,Region.binds .any e=true→listed.getD e.on false=true):yW ops (listed.setIfInBounds j true):=fun k ok hk hl e he hb=>by
 refine getD_set_true ?_
 by_cases h:j=k
 ·subst h;exact hj ok hk e he hb
 ·rw [getD_set_ne false h] at hl
  exact hc k ok hk hl e he hb

theorem tS.first{ops:List Oper}{base:Nat}{out:Nat→xS}{fin:St}{i:Nat}{oi:Oper}(hi:ops[i]? = some oi):∀ (fuel:Nat) (listed:Array Bool) (st:St),
  (∀ j oj,ops[j]? = some oj→j≠i→listed.getD j true=false→(∀ e∈oj.after,Region.binds .any e=true→e.on≠i)→oi.apart ops.toArray oj=true∧(aMn (aMi (out i)) (aMi (out j))=true∨pM ops.toArray 10 i j=true))→yW ops listed →
  i∈Region.ready .any ops.toArray listed→pN P T E ops oi (ido ops base i) st (out i).1 (out i).2.1 (out i).2.2→tS P T E ops base out fin fuel (listed.setIfInBounds i true) (next oi (out i) st)→tS P T E ops base out fin (fuel+1) listed st:=by
 intro fuel
 induction fuel with
 | zero =>
  intro listed st _ _ hr hs H;refine ⟨fun h=>(by rw [h] at hr;cases hr),fun j hj => ?_⟩
  by_cases hji:j=i
  ·subst hji;exact ⟨oi,hi,hs,H⟩
  ·have:=ready_mono hj hji
   rw [H.1] at this
   cases this
 | succ fuel ih =>
  intro listed st hfree hcl hr hs H;refine ⟨fun h=>(by rw [h] at hr;cases hr),fun j hj => ?_⟩
  by_cases hji:j=i
  ·subst hji;exact ⟨oi,hi,hs,H⟩
  ·obtain ⟨oj,hoj,hsj,hH⟩:=H.2 j (ready_mono hj hji)
   obtain ⟨hjun,Jz,Kb,hall⟩:=mem_ready.1 hj;have:Jz=oj:=by
    rw [List.getElem?_toArray,hoj] at Kb
    cases Kb;rfl
   subst this;have hnot:∀ e∈Jz.after,Region.binds .any e=true→e.on≠i:=fun e he hb heq=>by
    have h1:=hall e he hb;have h0:=(mem_ready.1 hr).1;rw [heq] at h1
    rcases Nat.lt_or_ge i listed.size with h' | h'
    ·simp [h'] at h0 h1;rw [h0] at h1;cases h1
    ·simp [Array.getElem?_eq_none h'] at h1
   have Im:listed.getD j true=false:=by
    rcases Nat.lt_or_ge j listed.size with h' | h'
    ·simpa [h'] using hjun
    ·exact hjun
   obtain ⟨hap,hok⟩:=hfree j Jz hoj hji Im hnot;have hjall:∀ oj,ops[j]? = some oj→∀ e∈oj.after,Region.binds .any e=true→listed.getD e.on false=true:=fun o ho e he hb=>by
    rw [hoj] at ho;cases ho;exact hall e he hb
   have hiun:listed.getD i false=false:=by
    have h0:=(mem_ready.1 hr).1
    rcases Nat.lt_or_ge i listed.size with h' | h'
    ·simp [h'] at h0 ⊢;exact h0
    ·simp [Nat.not_lt.2 h']
   replace hok:=hok.resolve_right (by rw [aCt hcl hiun 10 j hjall];simp)
   obtain ⟨m1,m2,m3,m4⟩:=pN.move hap hok hs hsj;have hnx:next Jz (out j) (next oi (out i) st)=next oi (out i) (next Jz (out j) st):=by
    unfold next;simp only [m3,m4]
   refine ⟨Jz,hoj,m1,ih _ _ (fun k ok hk hki hun hno=>hfree k ok hk hki ?_ hno) (yX hcl hjall) (ready_mono hr (Ne.symm hji)) m2 ?_⟩
   ·by_cases hjk:j=k
    ·subst hjk;exact Im
    ·rw [getD_set_ne true hjk] at hun;exact hun
   ·rw [hnx,Array.setIfInBounds_comm _ _ (Ne.symm hji)] at hH
    exact hH

theorem bEi{ops:List Oper}{base k:Nat}{o:Oper}(h:ops[k]? = some o):ido ops base (k+1)=ido ops base k+cost o:=by
 unfold ido;rw [List.take_add_one,h];simp [Nat.add_assoc]

theorem tS.lex{ops:List Oper}{base:Nat}{out:Nat→xS}{fin:St}:∀ (l:List Oper) (k:Nat) (listed:Array Bool) (st:St) (os:List xS),(∀ j,l[j]? = ops[k+j]?)→(∀ j q,os[j]? = some q→out (k+j)=q)→(∀ j,j<k→listed.getD j true=true)→yW ops listed →
  (∀ i j,k≤i→i<j→(ops[j]?).isSome→aMn (aMi (out i)) (aMi (out j))=true∨pM ops.toArray 10 i j=true) →
  Region.lexFrom .any ops.toArray l.length k listed=true→aUo P T E ops (ido ops base k) l st os fin→tS P T E ops base out fin l.length listed st
 | [],k,listed,st,os,_,_,_,_,_,hB,h=>by
  cases h;exact ⟨by simpa [Region.lexFrom] using hB,rfl⟩
 | o::l,k,listed,st,os,hl,ho,hk,hcl,hA,hB,h=>by
  cases h with
  | cons _ _ _ _ q os _ hs hr =>
   have h0:ops[k]? = some o:=by simpa using (hl 0).symm
   have hq:out k=q:=ho 0 q rfl;simp only [Cb,Region.lexFrom,B4] at hB
   obtain ⟨⟨hrd,hf⟩,Lq⟩:=hB;have Oi:ops.toArray[k]? = some o:=by rw [List.getElem?_toArray];exact h0
   have Kc:k∈Region.ready .any ops.toArray listed:=by simpa using hrd
   have hkall:∀ oj,ops[k]? = some oj→∀ e∈oj.after,Region.binds .any e=true→listed.getD e.on false=true:=fun o' Cs e he hb=>by
    obtain ⟨_,o2,Oj,hall⟩:=mem_ready.1 Kc;rw [Oi] at Oj;cases Oj
    rw [h0] at Cs;cases Cs
    exact hall e he hb
   refine tS.first h0 l.length listed st (fun j oj hj hjk hun hno => ?_) hcl Kc (by rw [hq];exact hs) ?_
   ·refine ⟨Region.free_spec Oi hf j oj (by rw [List.getElem?_toArray];exact hj) hjk hun hno,?_⟩
    have hlt:k<j:=by
     rcases Nat.lt_trichotomy k j with h1 | h1 | h1
     ·exact h1
     ·exact absurd h1.symm hjk
     ·rw [hk j h1] at hun;cases hun
    exact hA k j (dD _) hlt (by rw [hj];rfl)
   ·rw [hq]
    refine tS.lex l (k+1) _ _ os (fun j=>by have:=hl (j+1);simpa [Nat.add_assoc,Nat.add_comm 1 j] using this) (fun j q' hj=>by have:=ho (j+1) q' (by simpa using hj);rw [← this];congr 1;omega) (fun j hj => ?_) (yX hcl hkall)
     (fun i j hi=>hA i j (by omega)) Lq (by rw [bEi h0];exact hr)
    by_cases e:k=j
    ·subst e
     rcases Nat.lt_or_ge k listed.size with h' | h'
     ·simp [h']
     ·simp [Nat.not_lt.2 h']
    ·rw [getD_set_ne true e];exact hk j (by omega)

theorem wV{ops:Array Oper}{k:Nat}{f:Ft}:∀ (l:List Ft) (j:Nat),aFg ops k f j l=true→∀ i g,l[i]? = some g→aMn f g=true∨pM ops 10 k (j+i)=true
 | [],_,_,i,g,h=>by simp at h
 | x::l,j,h,i,g,hi=>by
  unfold aFg at h
  rw [B4,aCj] at h
  cases i with
  | zero=>simp at hi;subst hi;exact h.1
  | succ i =>
   have:=wV l (j+1) h.2 i g (by simpa using hi)
   rwa [show j+1+i=j+(i+1) by omega] at this
theorem wW{ops:Array Oper}:∀ (l:List Ft) (k:Nat),aFh ops k l=true→∀ i j f g,i<j→l[i]? = some f→l[j]? = some g→aMn f g=true∨pM ops 10 (k+i) (k+j)=true
 | [],_,_,i,j,f,g,_,h,_=>by simp at h
 | x::l,k,h,i,j,f,g,hij,hi,hj=>by
  unfold aFh at h
  rw [B4] at h
  cases j with
  | zero=>omega
  | succ j =>
   cases i with
   | zero =>
    simp at hi;subst hi
    have:=wV l (k+1) h.1 j g (by simpa using hj)
    rwa [show k+1+j=k+(j+1) by omega] at this
   | succ i =>
    have:=wW l (k+1) h.2 i j f g (by omega) (by simpa using hi) (by simpa using hj)
    rwa [show k+1+i=k+(i+1) by omega,show k+1+j=k+(j+1) by omega] at this

theorem tS.sound(hT:∀ t i,T t=some i→cM P t=some i)(hE:oU P E){ops:List Oper}{base:Nat}{out:Nat→xS}{fin:St}{ro:Option Nat}{n:Nat}{Q:Exit→Act→World→Prop}(hQ:∀ a' w',Sim P C0 M0 w0 fin a' w'→Q .normal a' w') :
  ∀ (fuel:Nat) (listed:Array Bool) (st:St) (a:Act) (w:World),tS P T E ops base out fin fuel listed st→Sim P C0 M0 w0 st a w→wpAnyIn (Fen ro) n P .any ops.toArray Q fuel listed a w
 | 0,listed,st,a,w,h,hs=>⟨h.1,hQ _ _ (h.2 ▸ hs)⟩
 | fuel+1,listed,st,a,w,h,hs=>by
  refine ⟨fun h0=>hQ _ _ (h.1 h0 ▸ hs),fun j hj => ?_⟩
  obtain ⟨o,ho,hst,hr⟩:=h.2 j hj;have:=hst.op hT hE C0 M0 w0 a w hs ro n (wpAnyIn (Fen ro) n P .any ops.toArray Q fuel (listed.setIfInBounds j true)) Q (fun a' w' B6=>tS.sound hT hE hQ fuel _ _ _ _ hr B6)
  unfold wpOpIn;simp only [List.getElem?_toArray,ho];exact this
end
section
variable {P:Program} {T:TT} {E:Env} {C C0:Cx} {M M0:Mem} {w w0:World}

mutual
def fzA(id n:Nat)(cs:List PV):AV→AV
 | .own i=>match Nat.beq i id with
  | true => .p (.sl n cs)
  | false => .own i
 | .arr i off k=>match Nat.beq i id with
  | true => .p (.sl k ((cs.drop off).take (k*(cs.length / n))))
  | false => .arr i off k
 | .ptr i off=>match Nat.beq i id with
  | true => .rp cs off
  | false => .ptr i off
 | .agg l=>iO (fzL id n cs l)
 | .tup l => .tup (fzL id n cs l)
 | .fn f a b => .fn f (fzL id n cs a) (fzL id n cs b)
 | .p x => .p x
 | .rp cs o => .rp cs o
 | .yld l => .yld l
 | .kb b => .kb b
 | .mp i => .mp i
 | .pa i q => .pa i q
 | .any => .any
def fzL(id n:Nat)(cs:List PV):List AV→List AV
 | []=>[]
 | x::r=>fzA id n cs x::fzL id n cs r
end

theorem tQ(id n:Nat)(cs:List PV):∀ l:List AV,(fzL id n cs l).length=l.length
 | []=>by simp [fzL]
 | x::r=>by simp [fzL,tQ id n cs r]

section
variable {id ty n:Nat} {cs:List PV} (hM:aX P C M w) (ho:M[id]? = some (some (.row ty n cs)))
include hM ho
mutual
theorem aCs:∀ {x:AV} {u:Value},Rep C M w x u→Rep (C.close id true) (aZ M id (some .dead)) w (fzA id n cs x) u
 | .own i,u,h=>by
  have hL:=hM.le (cU true ho rfl);simp only [fzA]
  split
  ·rename_i hb
   have:=Nat.eq_of_beq_eq_true hb;subst this;exact .p _ _ (tB hM ho h)
  ·exact h.mono hL
 | .arr i off k,u,h=>by
  have hL:=hM.le (cU true ho rfl);simp only [fzA]
  split
  ·rename_i hb
   have:=Nat.eq_of_beq_eq_true hb;subst this;cases h with
   | arr _ _ _ u h0 ha hrow =>
    rcases hrow _ ho rfl with ⟨rfl,p,cap,rfl,hc⟩ | ⟨b,cap,rfl,hn,hc,hb⟩
    ·rw [Nat.zero_mul,List.take_zero]
     exact .p _ _ (.sl 0 [] p cap (fun _=>undef) (Nat.zero_le _) hc (fun i h=>by simp at h) (fun i h=>by simp at h) (fun i h=>by simp at h))
    ·rcases hM.row _ _ _ _ ho with ⟨Gw,_⟩ | ⟨b',arr,inf,Aq,q1,q2,q3,q4,q5,q6,q7,q8⟩
     ·rw [hb] at Gw;cases Gw
     ·rw [hb] at Aq;cases Aq
      have hle:cs.length≤arr.size:=by rw [q3,q4];exact Nat.mul_le_mul_right _ q5
      have hlt:∀ i,i<((cs.drop off).take (k*(cs.length / n))).length→off+i<cs.length:=fun i hi=>by simp at hi;omega
      refine .p _ _ (.sl k _ _ cap (fun j=>arr.getD (off+j) undef) hn hc (fun j hj=>⟨b,off,rfl,.inr ⟨rfl,hb⟩,cW q1 (by have:=hlt j hj;omega)⟩) (fun j hj => ?_) (fun j hj=>q8 _ (hlt j hj)))
      simp only [List.getElem_take,List.getElem_drop];exact (q7 _ (hlt j hj)).mono (fun _ h => .inl h) (fun _ _=>rfl)
  ·exact h.mono hL
 | .ptr i off,u,h=>by
  have hL:=hM.le (cU true ho rfl);simp only [fzA]
  split
  ·rename_i hb
   have:=Nat.eq_of_beq_eq_true hb;subst this;obtain ⟨b,rfl,hb⟩:=fM h (gR ho rfl)
   rcases hM.row _ _ _ _ ho with ⟨hn,_⟩ | ⟨b',arr,inf,Aq,q1,q2,q3,q4,q5,q6,q7,q8⟩
   ·rw [hb] at hn;cases hn
   ·rw [hb] at Aq;cases Aq
    have hle:cs.length≤arr.size:=by rw [q3,q4];exact Nat.mul_le_mul_right _ q5
    have:=Rep.rp (C:=C.close i true) (M:=aZ M i (some .dead)) (w:=w) cs off b 0 (fun j=>arr.getD j undef) (fun i hi=>⟨.inr ⟨rfl,hb⟩,by rw [iP];exact cW q1 (by omega)⟩) (fun i hi=>(q7 i hi).mono (fun _ h => .inl h) (fun _ _=>rfl)) q8
    rwa [iP] at this
  ·exact h.mono hL
 | .agg l,u,h=>by
  cases h with
  | agg _ vs h0 h1 h2 =>
   simp only [fzA];obtain ⟨q1,q2⟩:=jC (us:=fun i=>vs.getD i undef) h2
   exact jS (fun i hi=>h0 i (by omega)) (by omega) q2
 | .tup l,u,h=>by
  cases h with
  | tup _ vs h1 h2 =>
   simp only [fzA];obtain ⟨q1,q2⟩:=jC (us:=fun i=>vs.getD i undef) h2
   exact .tup _ _ (by omega) q2
 | .fn f a b,u,h=>by
  cases h with
  | fn _ _ _ us vs h1 h2 h3 h4 =>
   simp only [fzA];obtain ⟨q1,q2⟩:=jC (us:=fun i=>us.getD i undef) h3
   obtain ⟨r1,r2⟩:=jC (us:=fun i=>vs.getD i undef) h4
   exact .fn f _ _ us vs (by omega) (by omega) q2 r2
 | .p x,u,h=>by simp only [fzA];exact h.mono (hM.le (cU true ho rfl))
 | .rp cs o,u,h=>by simp only [fzA];exact h.mono (hM.le (cU true ho rfl))
 | .yld l,u,h=>by simp only [fzA];exact h.mono (hM.le (cU true ho rfl))
 | .kb b,u,h=>by simp only [fzA];exact h.mono (hM.le (cU true ho rfl))
 | .mp i,u,h=>by simp only [fzA];exact h.mono (hM.le (cU true ho rfl))
 | .pa i q,u,h=>by simp only [fzA];exact h.mono (hM.le (cU true ho rfl))
 | .any,u,h=>by simp only [fzA];exact .any _
theorem jC:∀ {l:List AV} {us:Nat→Value},(∀ i (h:i<l.length),Rep C M w l[i] (us i))→(fzL id n cs l).length=l.length∧∀ i (h:i<(fzL id n cs l).length),Rep (C.close id true) (aZ M id (some .dead)) w (fzL id n cs l)[i] (us i)
 | [],_,_=>⟨tQ ..,  fun i h=>by simp [fzL] at h⟩
 | x::r,us,h=>by
  refine ⟨tQ ..,fun i hi => ?_⟩
  have:=hM;have:=ho;obtain ⟨_,q2⟩:=jC (l:=r) (us:=fun i=>us (i+1)) (fun i hi=>h (i+1) (by simpa using hi))
  have e:fzL id n cs (x::r)=fzA id n cs x::fzL id n cs r:=by simp only [fzL]
  simp only [e];cases i with
  | zero=>exact aCs (h 0 (by simp))
  | succ i=>exact q2 i (by simpa [tQ] using hi)
end
end

def fzO(id n:Nat)(cs:List PV):Option AO→Option AO
 | some (.box ty l)=>some (.box ty (fzL id n cs l))
 | x=>x
def Mn(id:Nat)(st:St):Option St:=match eZ st.m id with
 | some r=>some ⟨fzL id r.2.1 r.2.2 st.t,(aZ st.m id (some .dead)).map (fzO id r.2.1 r.2.2)⟩
 | none=>none

theorem iI{id n:Nat}{cs:List PV}{m:Mem}{j:Nat}{o':AO}(h:(m.map (fzO id n cs))[j]? = some (some o')):∃ o,m[j]? = some (some o)∧fzO id n cs (some o)=some o':=by
 rw [rV] at h
 cases hm:m[j]? with
 | none=>rw [hm] at h;cases h
 | some x =>
  rw [hm] at h
  cases x with
  | none=>simp [fzO] at h
  | some o=>exact ⟨o,rfl,by simpa using h⟩
theorem aQw{id n:Nat}{cs:List PV}{o:AO}{ty k:Nat}{ds:List PV}(h:fzO id n cs (some o)=some (.row ty k ds)):o = .row ty k ds:=by cases o <;> simp [fzO] at h ⊢;exact h
theorem mV{id n:Nat}{cs:List PV}{o o':AO}(h:fzO id n cs (some o)=some o'):o'.live=o.live:=by cases o <;> (simp [fzO] at h;subst h;rfl)

theorem aUn{id:Nat}{st Aj:St}{a:Act}(hf:Mn id st=some Aj)(hs:Sim P C0 M0 w0 st a w):Sim P C0 M0 w0 Aj a w:=by
 obtain ⟨C,hS,hM,hF,hD⟩:=hs;unfold Mn at hf
 split at hf
 ·rename_i r hr
  cases hf;have ho:=dG hr;have hk:=cU (C:=C) (w:=w) true ho rfl;have hm:=lE hM true ho rfl;have hL:Le (C.close id true) (C.close id true) (aZ st.m id (some .dead)) ((aZ st.m id (some .dead)).map (fzO id r.2.1 r.2.2)) w w:=by
   refine ⟨fun i o h => ?_,fun i o h ty n cs hm => ?_,fun i o h o' hm hl => ?_,fun _ h=>h,fun _ _=>rfl⟩
   ·rw [rV,h]
    cases o <;> exact ⟨_,rfl⟩
   ·obtain ⟨o2,h2,h3⟩:=iI hm
    rw [aQw h3] at h2
    exact ⟨_,h2⟩
   ·obtain ⟨o2,h2,h3⟩:=iI hm
    rw [h] at h2;cases h2
    exact ⟨by rw [← mV h3];exact hl,rfl,rfl⟩
  have G7:Fr (C.close id true) (aZ st.m id (some .dead)) w (C.close id true) ((aZ st.m id (some .dead)).map (fzO id r.2.1 r.2.2)) w:=by
   refine ⟨rfl,rfl,rfl,dD _,fun _ _ _=>rfl,fun i o h=>⟨hL.ids i o h,rfl,rfl⟩,hL.row,fun i o h o' hm hl=>(hL.liv i o h o' hm hl).1,fun i o b h hl hb => ?_,fun _ h=>h,fun _ h => .inl h⟩
   obtain ⟨o2,h2,h3⟩:=iI h;exact .inr ⟨i,o2,h2,by rw [← mV h3];exact hl,hb⟩
  refine ⟨C.close id true,⟨?_,fun i hi => ?_⟩,⟨fun i ty n cs h => ?_,fun i ty cs h => ?_,fun i es cl h => ?_,fun i i' o1 o2 b h1 l1 h2 l2 => ?_,fun i o b h hl => ?_,hm.Fs,fun i o b h hl => ?_,hm.lib.le hL⟩,(hF.trans hk).trans G7,(hD.fr hM (fL rfl) hk).fr hm (fun i tO ti sz L q=>by
   obtain ⟨o2,h2,h3⟩:=iI q;cases o2 with
   | pk=>simp only [fzO,Option.some.injEq] at h3;rw [← h3];exact h2
   | _=>simp [fzO] at h3) G7⟩
  ·rw [tQ];exact hS.size
  ·exact ((jC hM ho hS.rep).2 i hi).mono hL
  ·obtain ⟨o2,h2,h3⟩:=iI h
   rw [aQw h3] at h2
   exact hm.row _ _ _ _ h2
  ·obtain ⟨o2,h2,h3⟩:=iI h
   cases o2 with
   | box C6 l =>
    simp only [fzO,Option.some.injEq,AO.box.injEq] at h3
    obtain ⟨rfl,rfl⟩:=h3;have hne:i≠id:=fun e=>by
     subst e;rw [aY] at h2;cases h2
    obtain ⟨b,arr,q0,q1,q2,q3,q4⟩:=hM.box _ _ _ ((aP st.m id i _ _ (Ne.symm hne)).1 h2);obtain ⟨r1,r2⟩:=jC hM ho (us:=fun j=>arr.getD j undef) q3
    exact ⟨b,arr,q0,q1,by rw [r1];exact q2,fun j hj=>(r2 j hj).mono hL,fun j hj=>q4 j (by rw [r1] at hj;exact hj)⟩
   | row=>simp [fzO] at h3
   | mp=>simp [fzO] at h3
   | pk=>simp [fzO] at h3
   | dead=>simp [fzO] at h3
  ·obtain ⟨o2,h2,h3⟩:=iI h
   have:o2 = .mp es cl:=by cases o2 <;> simp [fzO] at h3 ⊢;exact h3
   subst this;obtain ⟨b,arr,q0,q1,q2,q3⟩:=hm.mp _ _ _ h2;refine ⟨b,arr,q0,q1,q2,fun j hj => ?_⟩
   obtain ⟨en,r1,r2,r3,r4⟩:=q3 j hj;exact ⟨en,r1,r2,r3,r4.mono hL.F hL.fz⟩
  ·obtain ⟨o3,h3,h4⟩:=iI h1
   obtain ⟨o5,h5,h6⟩:=iI h2;exact hm.inj i i' o3 o5 b h3 (by rw [← mV h4];exact l1) h5 (by rw [← mV h6];exact l2)
  ·obtain ⟨o3,h3,h4⟩:=iI h
   exact hm.nF i o3 b h3 (by rw [← mV h4];exact hl)
  ·obtain ⟨o3,h3,h4⟩:=iI h
   exact hm.lt i o3 b h3 (by rw [← mV h4];exact hl)
 ·cases hf

def forget:List Nat→List AV→List AV
 | [],l=>l
 | i::r,l=>forget r (l.set i .any)
theorem tR:∀ (g:List Nat) {ts:List AV} {us:Array Value},cQ C M w ts us→cQ C M w (forget g ts) us
 | [],_,_,h=>h
 | i::r,ts,us,h=>by
  refine tR r ⟨by simpa using h.size,fun j hj => ?_⟩
  simp only [aGh] at hj
  rw [aVw]
  split
  ·exact .any _
  ·exact h.rep j hj
theorem aFf(g:List Nat){st:St}{a:Act}(hs:Sim P C0 M0 w0 st a w):Sim P C0 M0 w0 ⟨forget g st.t,st.m⟩ a w:=by
 obtain ⟨C,hS,hM,hF,hD⟩:=hs;exact ⟨C,tR g hS,hM,hF,hD⟩
end
section
variable {P:Program} {T:TT} {E:Env} {C C0:Cx} {M M0:Mem} {w w0:World}

def Cx.shut(C:Cx)(id:Nat):Cx:={ ι:=C.ι,κ:=C.κ,F:=fun b=>C.F b∨aNc (C.κ id) b }
section
variable {id tO ti sz:Nat} {L:List (Nat × List PV)}
variable (q:aNd C M w id tO ti sz L) (ho:M[id]? = some (some (.pk tO ti sz L))) (hL:Le C (C.shut id) M (aZ M id (some .dead)) w w)
include q ho hL
end

def fzP(id:Nat)(st:St):Option St:=none
theorem aUl{id:Nat}{st Aj:St}{a:Act}(h:fzP id st=some Aj)(hs:Sim P C0 M0 w0 st a w):Sim P C0 M0 w0 Aj a w:=by
 unfold fzP at h
 cases h
def nlP(i tO ti sz:Nat)(st:St):Option St:=none
theorem aUm{i tO ti sz:Nat}{st Aj:St}{a:Act}(h:nlP i tO ti sz st=some Aj)(hs:Sim P C0 M0 w0 st a w):Sim P C0 M0 w0 Aj a w:=by
 unfold nlP at h
 cases h
end
section
variable {P:Program} {T:TT} {E:Env} {C C0:Cx} {M M0:Mem} {w w0:World}

inductive Cz where
 | bx (cs:List PV)
 | mp (es:List (Value × PV))
mutual
def czA(id:Nat)(y:Cz):AV→AV
 | .ptr i off=>match Nat.beq i id with
  | true=>match y with
   | .bx cs => .rp cs off
   | .mp _ => .ptr i off
  | false => .ptr i off
 | .mp i=>match Nat.beq i id with
  | true=>match y with
   | .mp es => .p (.mp es)
   | .bx _ => .mp i
  | false => .mp i
 | .agg l=>iO (czL id y l)
 | .tup l => .tup (czL id y l)
 | .fn f a b => .fn f (czL id y a) (czL id y b)
 | .own i => .own i
 | .arr i off k => .arr i off k
 | .p x => .p x
 | .rp cs o => .rp cs o
 | .yld l => .yld l
 | .kb b => .kb b
 | .pa i q => .pa i q
 | .any => .any
def czL(id:Nat)(y:Cz):List AV→List AV
 | []=>[]
 | x::r=>czA id y x::czL id y r
end
theorem tP(id:Nat)(y:Cz):∀ l:List AV,(czL id y l).length=l.length
 | []=>rfl
 | x::r=>by simp only [czL,Cb,tP id y r]

def H5:AV→Option PV
 | .p x=>some x
 | .kb b=>some (.v (.bool b))
 | .rp cs off=>some (.rp cs off)
 | _=>none
def aUi:List AV→Option (List PV)
 | []=>some []
 | x::r=>match H5 x with
  | some y=>match aUi r with
   | some l=>some (y::l)
   | none=>none
  | none=>none
theorem aQu:∀ {l:List AV} {cs:List PV},aUi l=some cs→cs.length=l.length∧∀ (i:Nat) (h:i<l.length) (h':i<cs.length),H5 l[i]=some cs[i]
 | [],cs,h=>by cases h;exact ⟨rfl,fun i h=>by simp at h⟩
 | x::r,cs,h=>by
  unfold aUi at h
  split at h
  ·rename_i y hy
   split at h
   ·rename_i k hk
    cases h;obtain ⟨q1,q2⟩:=aQu hk;refine ⟨by simp [q1],fun i h1 h2 => ?_⟩
    cases i with
    | zero=>exact hy
    | succ i=>exact q2 i (by simpa using h1) (by simpa using h2)
   ·cases h
  ·cases h
theorem bEf{x:AV}{y:PV}{u:Value}(e:H5 x=some y)(h:Rep C M w x u):cS C.F w y u:=by
 cases x <;> simp [H5] at e
 ·subst e;cases h;assumption
 ·subst e;cases h;exact .rp _ _ _ _ _ ‹_› ‹_› ‹_›
 ·subst e;cases h;exact .v _
def bLj(y:Cz)(o:AO):Prop:=match y with
 | .bx cs=>∃ ty l,o = .box ty l∧aUi l=some cs
 | .mp es=>∃ cl,o = .mp es cl
theorem bLj.live{y:Cz}{o:AO}(h:bLj y o):o.live=true:=by
 cases y with
 | bx cs=>obtain ⟨ty,l,rfl,_⟩:=h;rfl
 | mp es=>obtain ⟨cl,rfl⟩:=h;rfl

section
variable {id:Nat} {y:Cz} {o:AO} (hM:aX P C M w) (ho:M[id]? = some (some o)) (hz:bLj y o)
include hM ho hz
mutual
theorem aUj:∀ {x:AV} {u:Value},Rep C M w x u→Rep (C.close id true) (aZ M id (some .dead)) w (czA id y x) u
 | .ptr i off,u,h=>by
  have hL:=hM.le (cU true ho hz.live);simp only [czA]
  split
  ·rename_i hb
   have:=Nat.eq_of_beq_eq_true hb;subst this;cases y with
   | mp es=>exact h.mono hL
   | bx cs =>
    obtain ⟨ty,l,rfl,hl⟩:=hz;obtain ⟨b,rfl,hb⟩:=fM h (gR ho rfl);obtain ⟨b',arr,Aq,q1,q2,q3,q4⟩:=hM.box _ _ _ ho;rw [hb] at Aq;cases Aq
    obtain ⟨r1,r2⟩:=aQu hl;have:=Rep.rp (C:=C.close i true) (M:=aZ M i (some .dead)) (w:=w) cs off b 0 (fun j=>arr.getD j undef) (fun i hi=>⟨.inr ⟨rfl,hb⟩,by rw [iP];exact cW q1 (by omega)⟩)
     (fun i hi=>(bEf (r2 i (by omega) hi) (q3 i (by omega))).mono (fun _ h => .inl h) (fun _ _=>rfl)) (fun i hi=>q4 i (by omega))
    rwa [iP] at this
  ·exact h.mono hL
 | .mp i,u,h=>by
  have hL:=hM.le (cU true ho hz.live);simp only [czA]
  split
  ·rename_i hb
   have:=Nat.eq_of_beq_eq_true hb;subst this;cases y with
   | bx cs=>exact h.mono hL
   | mp es =>
    obtain ⟨cl,rfl⟩:=hz;obtain ⟨b,arr,rfl,hb,q1,q2,q3⟩:=aFs hM h (bI.2 ho);refine .p _ _ (.mp es b cl arr (fun j=>(arr.getD j ⟨undef,undef,0⟩).val) (.inr ⟨rfl,hb⟩) q1 q2 (fun j hj => ?_) fun j hj => ?_)
    ·obtain ⟨e,r1,r2,r3,r4⟩:=q3 j hj
     exact ⟨e,r1,r2,r3,by rw [Bu,r1];rfl⟩
    ·obtain ⟨e,r1,r2,r3,r4⟩:=q3 j hj
     rw [Bu,r1];exact r4.mono (fun _ h => .inl h) (fun _ _=>rfl)
  ·exact h.mono hL
 | .agg l,u,h=>by
  cases h with
  | agg _ vs h0 h1 h2 =>
   simp only [czA];obtain ⟨q1,q2⟩:=jB (us:=fun i=>vs.getD i undef) h2
   exact jS (fun i hi=>h0 i (by omega)) (by omega) q2
 | .tup l,u,h=>by
  cases h with
  | tup _ vs h1 h2 =>
   simp only [czA];obtain ⟨q1,q2⟩:=jB (us:=fun i=>vs.getD i undef) h2
   exact .tup _ _ (by omega) q2
 | .fn f a b,u,h=>by
  cases h with
  | fn _ _ _ us vs h1 h2 h3 h4 =>
   simp only [czA];obtain ⟨q1,q2⟩:=jB (us:=fun i=>us.getD i undef) h3
   obtain ⟨r1,r2⟩:=jB (us:=fun i=>vs.getD i undef) h4
   exact .fn f _ _ us vs (by omega) (by omega) q2 r2
 | .own i,u,h=>by simp only [czA];exact h.mono (hM.le (cU true ho hz.live))
 | .arr i off k,u,h=>by simp only [czA];exact h.mono (hM.le (cU true ho hz.live))
 | .p x,u,h=>by simp only [czA];exact h.mono (hM.le (cU true ho hz.live))
 | .rp cs o,u,h=>by simp only [czA];exact h.mono (hM.le (cU true ho hz.live))
 | .yld l,u,h=>by simp only [czA];exact h.mono (hM.le (cU true ho hz.live))
 | .kb b,u,h=>by simp only [czA];exact h.mono (hM.le (cU true ho hz.live))
 | .pa i q,u,h=>by simp only [czA];exact h.mono (hM.le (cU true ho hz.live))
 | .any,u,h=>by simp only [czA];exact .any _
theorem jB:∀ {l:List AV} {us:Nat→Value},(∀ i (h:i<l.length),Rep C M w l[i] (us i))→(czL id y l).length=l.length∧∀ i (h:i<(czL id y l).length),Rep (C.close id true) (aZ M id (some .dead)) w (czL id y l)[i] (us i)
 | [],_,_=>by
  have:=hM;have:=ho;have:=hz;exact ⟨tP ..,fun i h=>by simp [czL] at h⟩
 | x::r,us,h=>by
  refine ⟨tP ..,fun i hi => ?_⟩
  obtain ⟨_,q2⟩:=jB (l:=r) (us:=fun i=>us (i+1)) (fun i hi=>h (i+1) (by simpa using hi))
  have e:czL id y (x::r)=czA id y x::czL id y r:=by simp only [czL]
  simp only [e];cases i with
  | zero=>exact aUj (h 0 (by simp))
  | succ i=>exact q2 i (by simpa [tP] using hi)
end
end

def czO(id:Nat)(y:Cz):Option AO→Option AO
 | some (.box ty l)=>some (.box ty (czL id y l))
 | x=>x
def bSq(m:Mem)(id:Nat):Option Cz:=match bU m id with
 | some (.box _ l)=>(aUi l).map .bx
 | some (.mp es _)=>some (.mp es)
 | _=>none
def fzM(id:Nat)(st:St):Option St:=match bSq st.m id with
 | some y=>some ⟨czL id y st.t,(aZ st.m id (some .dead)).map (czO id y)⟩
 | none=>none
theorem bEg{m:Mem}{id:Nat}{y:Cz}(h:bSq m id=some y):∃ o,m[id]? = some (some o)∧bLj y o:=by
 unfold bSq at h
 split at h
 ·rename_i ty l ho
  cases hl:aUi l with
  | none=>rw [hl] at h;cases h
  | some cs=>rw [hl] at h;cases h;exact ⟨_,bI.1 ho,ty,l,rfl,hl⟩
 ·rename_i es cl ho
  cases h;exact ⟨_,bI.1 ho,cl,rfl⟩
 ·cases h
theorem iH{id:Nat}{y:Cz}{m:Mem}{j:Nat}{o':AO}(h:(m.map (czO id y))[j]? = some (some o')):∃ o,m[j]? = some (some o)∧czO id y (some o)=some o':=by
 rw [rV] at h
 cases hm:m[j]? with
 | none=>rw [hm] at h;cases h
 | some x =>
  rw [hm] at h
  cases x with
  | none=>simp [czO] at h
  | some o=>exact ⟨o,rfl,by simpa using h⟩
theorem aQv{id:Nat}{y:Cz}{o:AO}{ty k:Nat}{ds:List PV}(h:czO id y (some o)=some (.row ty k ds)):o = .row ty k ds:=by cases o <;> simp [czO] at h ⊢;exact h
theorem mU{id:Nat}{y:Cz}{o o':AO}(h:czO id y (some o)=some o'):o'.live=o.live:=by cases o <;> (simp [czO] at h;subst h;rfl)

theorem aUk{id:Nat}{st Aj:St}{a:Act}(hf:fzM id st=some Aj)(hs:Sim P C0 M0 w0 st a w):Sim P C0 M0 w0 Aj a w:=by
 obtain ⟨C,hS,hM,hF,hD⟩:=hs;unfold fzM at hf
 split at hf
 ·rename_i y hr
  cases hf;obtain ⟨o,ho,hz⟩:=bEg hr;have hk:=cU (C:=C) (w:=w) true ho hz.live;have hm:=lE hM true ho hz.live;have hL:Le (C.close id true) (C.close id true) (aZ st.m id (some .dead)) ((aZ st.m id (some .dead)).map (czO id y)) w w:=by
   refine ⟨fun i o h => ?_,fun i o h ty n cs hm => ?_,fun i o h o' hm hl => ?_,fun _ h=>h,fun _ _=>rfl⟩
   ·rw [rV,h]
    cases o <;> exact ⟨_,rfl⟩
   ·obtain ⟨o2,h2,h3⟩:=iH hm
    rw [aQv h3] at h2
    exact ⟨_,h2⟩
   ·obtain ⟨o2,h2,h3⟩:=iH hm
    rw [h] at h2;cases h2
    exact ⟨by rw [← mU h3];exact hl,rfl,rfl⟩
  have G7:Fr (C.close id true) (aZ st.m id (some .dead)) w (C.close id true) ((aZ st.m id (some .dead)).map (czO id y)) w:=by
   refine ⟨rfl,rfl,rfl,dD _,fun _ _ _=>rfl,fun i o h=>⟨hL.ids i o h,rfl,rfl⟩,hL.row,fun i o h o' hm hl=>(hL.liv i o h o' hm hl).1,fun i o b h hl hb => ?_,fun _ h=>h,fun _ h => .inl h⟩
   obtain ⟨o2,h2,h3⟩:=iH h;exact .inr ⟨i,o2,h2,by rw [← mU h3];exact hl,hb⟩
  refine ⟨C.close id true,⟨?_,fun i hi => ?_⟩,⟨fun i ty n cs h => ?_,fun i ty cs h => ?_,fun i es cl h => ?_,fun i i' o1 o2 b h1 l1 h2 l2 => ?_,fun i o b h hl => ?_,hm.Fs,fun i o b h hl => ?_,hm.lib.le hL⟩,(hF.trans hk).trans G7,(hD.fr hM (fL rfl) hk).fr hm (fun i tO ti sz L q=>by
   obtain ⟨o2,h2,h3⟩:=iH q;cases o2 with
   | pk=>simp only [czO,Option.some.injEq] at h3;rw [← h3];exact h2
   | _=>simp [czO] at h3) G7⟩
  ·rw [tP];exact hS.size
  ·exact ((jB hM ho hz hS.rep).2 i hi).mono hL
  ·obtain ⟨o2,h2,h3⟩:=iH h
   rw [aQv h3] at h2
   exact hm.row _ _ _ _ h2
  ·obtain ⟨o2,h2,h3⟩:=iH h
   cases o2 with
   | box C6 l =>
    simp only [czO,Option.some.injEq,AO.box.injEq] at h3
    obtain ⟨rfl,rfl⟩:=h3;have hne:i≠id:=fun e=>by
     subst e;rw [aY] at h2;cases h2
    obtain ⟨b,arr,q0,q1,q2,q3,q4⟩:=hM.box _ _ _ ((aP st.m id i _ _ (Ne.symm hne)).1 h2);obtain ⟨r1,r2⟩:=jB hM ho hz (us:=fun j=>arr.getD j undef) q3
    exact ⟨b,arr,q0,q1,by rw [r1];exact q2,fun j hj=>(r2 j hj).mono hL,fun j hj=>q4 j (by rw [r1] at hj;exact hj)⟩
   | row=>simp [czO] at h3
   | mp=>simp [czO] at h3
   | pk=>simp [czO] at h3
   | dead=>simp [czO] at h3
  ·obtain ⟨o2,h2,h3⟩:=iH h
   have:o2 = .mp es cl:=by cases o2 <;> simp [czO] at h3 ⊢;exact h3
   subst this;obtain ⟨b,arr,q0,q1,q2,q3⟩:=hm.mp _ _ _ h2;refine ⟨b,arr,q0,q1,q2,fun j hj => ?_⟩
   obtain ⟨en,r1,r2,r3,r4⟩:=q3 j hj;exact ⟨en,r1,r2,r3,r4.mono hL.F hL.fz⟩
  ·obtain ⟨o3,h3,h4⟩:=iH h1
   obtain ⟨o5,h5,h6⟩:=iH h2;exact hm.inj i i' o3 o5 b h3 (by rw [← mU h4];exact l1) h5 (by rw [← mU h6];exact l2)
  ·obtain ⟨o3,h3,h4⟩:=iH h
   exact hm.nF i o3 b h3 (by rw [← mU h4];exact hl)
  ·obtain ⟨o3,h3,h4⟩:=iH h
   exact hm.lt i o3 b h3 (by rw [← mU h4];exact hl)
 ·cases hf
end
section
variable {P:Program} {T:TT} {E:Env} {C C0:Cx} {M M0:Mem} {w w0:World}

def idx:List Nat→Nat→Nat→Option Nat
 | [],_,_=>none
 | j::r,i,n=>match Nat.beq j i with
  | true=>some n
  | false=>idx r i (n+1)
def rnI(k:Nat)(ids:List Nat)(i:Nat):Option Nat:=match Nat.blt i k with
 | true=>some i
 | false=>idx ids i k
mutual
def mpA(f:Nat→Option Nat):AV→Option AV
 | .own i=>(f i).map .own
 | .arr i off n=>(f i).map fun j => .arr j off n
 | .ptr i off=>(f i).map fun j => .ptr j off
 | .mp i=>(f i).map .mp
 | .pa i q=>(f i).map fun j => .pa j q
 | .agg l=>(mpL f l).map .agg
 | .tup l=>(mpL f l).map .tup
 | .fn g a b=>match mpL f a with
  | some a'=>(mpL f b).map fun b' => .fn g a' b'
  | none=>none
 | .p x=>some (.p x)
 | .rp cs o=>some (.rp cs o)
 | .yld l=>some (.yld l)
 | .kb b=>some (.kb b)
 | .any=>some .any
def mpL(f:Nat→Option Nat):List AV→Option (List AV)
 | []=>some []
 | x::r=>match mpA f x with
  | some y=>(mpL f r).map (y :: ·)
  | none=>none
end
def mpO(f:Nat→Option Nat):AO→Option AO
 | .row ty n cs=>some (.row ty n cs)
 | .box ty l=>(mpL f l).map (.box ty ·)
 | .mp es cl=>some (.mp es cl)
 | .pk tO ti sz L=>some (.pk tO ti sz L)
 | .dead=>some .dead
def mpM(f:Nat→Option Nat):Mem→Option Mem
 | []=>some []
 | none::r=>(mpM f r).map (none :: ·)
 | some o::r=>match mpO f o with
  | some o'=>(mpM f r).map (some o' :: ·)
  | none=>none
abbrev rnL(k:Nat)(ids:List Nat):=mpL (rnI k ids)
abbrev rnM(k:Nat)(ids:List Nat):=mpM (rnI k ids)
def at?(m:Mem)(i:Nat):Option AO:=bU m i
def distinct(k:Nat):List Nat→Bool
 | []=>true
 | i::r=>match Nat.ble k i with
  | true=>match r.all (fun j => !Nat.beq j i) with
   | true=>distinct k r
   | false=>false
  | false=>false
def firsts(m:Mem):Nat→Nat→Mem
 | 0,_=>[]
 | k+1,i=>at? m i::firsts m k (i+1)
def pick(k:Nat)(ids:List Nat)(st:St):Option St:=match distinct k ids with
 | true=>match rnL k ids st.t with
  | some t=>(rnM k ids (firsts st.m k 0++ids.map (at? st.m))).map (⟨t,·⟩)
  | none=>none
 | false=>none

theorem tN:∀ (ids:List Nat) (i n j:Nat),idx ids i n=some j→n≤j∧ids[j-n]? = some i
 | [],i,n,j,h=>by cases h
 | a::r,i,n,j,h=>by
  unfold idx at h
  split at h
  ·rename_i hb
   cases h;exact ⟨dD _,by rw [aVz];simp [Nat.eq_of_beq_eq_true hb]⟩
  ·obtain ⟨h1,h2⟩:=tN r i (n+1) j h
   refine ⟨by omega,?_⟩
   rw [show j-n=(j-(n+1))+1 by omega]
   simpa using h2
theorem gJ{k:Nat}:∀ {ids:List Nat},distinct k ids=true→(∀ i∈ids,k≤i)∧ids.Nodup
 | [],_=>⟨by simp,.nil⟩
 | a::r,h=>by
  unfold distinct at h
  split at h
  ·rename_i h1
   split at h
   ·rename_i h2
    obtain ⟨h3,h4⟩:=gJ h;refine ⟨fun i hi => ?_,?_⟩
    ·rcases jU.1 hi with rfl | hi
     ·exact Nat.le_of_ble_eq_true h1
     ·exact h3 i hi
    ·refine List.nodup_cons.2 ⟨fun hm => ?_,h4⟩
     have:=iD.1 h2 a hm;simp at this
   ·cases h
  ·cases h
theorem aCq(m:Mem):∀ (k i j:Nat),j<k→(firsts m k i)[j]? = some (bU m (i+j))
 | 0,i,j,h=>by omega
 | k+1,i,j,h=>by
  unfold firsts;cases j with
  | zero=>simp [at?]
  | succ j =>
   have:=aCq m k (i+1) j (by omega)
   rw [List.getElem?_cons_succ,this,show i+1+j=i+(j+1) by omega]
theorem lB(m:Mem):∀ (k i:Nat),(firsts m k i).length=k
 | 0,_=>rfl
 | k+1,i=>by simp [firsts,lB m k]

def lL(k:Nat)(ids:List Nat)(j:Nat):Option Nat:=if j<k then some j else ids[j-k]?
theorem aFe{k:Nat}{ids:List Nat}{i j:Nat}(h:rnI k ids i=some j):lL k ids j=some i:=by
 unfold rnI at h
 split at h
 ·rename_i hb
  cases h;have:i<k:=by simpa [Nat.blt_eq] using hb
  simp [lL,this]
 ·obtain ⟨h1,h2⟩:=tN _ _ _ _ h
  simp [lL,Nat.not_lt.2 h1,h2]
theorem aQs{k:Nat}{ids:List Nat}(hd:distinct k ids=true){j j' i:Nat}(h:lL k ids j=some i)(h':lL k ids j'=some i):j=j':=by
 obtain ⟨h1,h2⟩:=gJ hd;unfold lL at h h'
 split at h <;> split at h'
 ·cases h;cases h';rfl
 ·cases h
  have:=h1 _ (B0 h');omega
 ·cases h'
  have:=h1 _ (B0 h);omega
 ·obtain ⟨q1,q2⟩:=Ci.1 h
  obtain ⟨q3,q4⟩:=Ci.1 h';have hp:=List.pairwise_iff_getElem.1 h2
  rcases Nat.lt_trichotomy (j-k) (j'-k) with hl | hl | hl
  ·exact absurd (q2.trans q4.symm) (hp _ _ q1 q3 hl)
  ·omega
  ·exact absurd (q4.trans q2.symm) (hp _ _ q3 q1 hl)

def Cx.rn(C:Cx)(k:Nat)(ids:List Nat):Cx:={ ι:=fun j=>(lL k ids j).bind C.ι,κ:=fun j=>match lL k ids j with | some i=>C.κ i | none=>0,F:=C.F }

theorem yT{f:Nat→Option Nat}:∀ {m m':Mem},mpM f m=some m'→m'.length=m.length∧(∀ (j:Nat) (o':AO),m'[j]? = some (some o')→∃ o,m[j]? = some (some o)∧mpO f o=some o')∧(∀ (j:Nat) (o:AO),m[j]? = some (some o)→∃ o',m'[j]? = some (some o')∧mpO f o=some o')
 | [],m',h=>by cases h;exact ⟨rfl,fun j o h=>by simp at h,fun j o h=>by simp at h⟩
 | none::r,m',h=>by
  unfold mpM at h
  cases hr:mpM f r with
  | none=>rw [hr] at h;cases h
  | some r' =>
   rw [hr] at h;cases h
   obtain ⟨h1,h2,h3⟩:=yT hr;refine ⟨by simp [h1],fun j o hj => ?_,fun j o hj => ?_⟩
   ·cases j with
    | zero=>simp at hj
    | succ j=>exact h2 j o (by simpa using hj)
   ·cases j with
    | zero=>simp at hj
    | succ j=>exact h3 j o (by simpa using hj)
 | some o::r,m',h=>by
  unfold mpM at h
  split at h
  ·rename_i o' Cs
   cases hr:mpM f r with
   | none=>rw [hr] at h;cases h
   | some r' =>
    rw [hr] at h;cases h
    obtain ⟨h1,h2,h3⟩:=yT hr;refine ⟨by simp [h1],fun j o hj => ?_,fun j o hj => ?_⟩
    ·cases j with
     | zero=>simp at hj;subst hj;exact ⟨_,rfl,Cs⟩
     | succ j=>exact h2 j o (by simpa using hj)
    ·cases j with
     | zero=>simp at hj;subst hj;exact ⟨_,rfl,Cs⟩
     | succ j=>exact h3 j o (by simpa using hj)
  ·cases h

theorem bP{f:Nat→Option Nat}{o o':AO}(h:mpO f o=some o'):o'.live=o.live:=by
 cases o <;> simp only [mpO,C7,Option.some.injEq] at h
 ·subst h;rfl
 ·obtain ⟨_,_,rfl⟩:=h;rfl
 ·subst h;rfl
 ·subst h;rfl
 ·subst h;rfl
theorem jO{f:Nat→Option Nat}{o:AO}{ty n:Nat}{cs:List PV}(h:mpO f o=some (.row ty n cs)):o = .row ty n cs:=by
 cases o <;> simp only [mpO,C7,Option.some.injEq] at h
 ·exact h
 ·obtain ⟨_,_,h⟩:=h;cases h
 ·cases h
 ·cases h
 ·cases h
structure aUe (f:Nat→Option Nat) (C C':Cx) (M M':Mem):Prop where
 bk:∀ (i j:Nat) (o':AO),f i=some j→M'[j]? = some (some o')→∃ o,M[i]? = some (some o)∧mpO f o=some o'
 fw:∀ (i j:Nat) (o:AO),f i=some j→M[i]? = some (some o)→∃ o',M'[j]? = some (some o')∧mpO f o=some o'
 at_:∀ i j,f i=some j→C'.ι j=C.ι i∧C'.κ j=C.κ i
 F:∀ b,C.F b→C'.F b

section
variable {f:Nat→Option Nat} {C':Cx} {M':Mem} (hm:aUe f C C' M M')
include hm
set_option linter.unusedSectionVars false in
mutual
theorem rD:∀ {x y:AV} {u:Value},Rep C M w x u→mpA f x=some y→Rep C' M' w y u
 | .own i,y,u,h,hr=>by
  simp only [mpA,C7] at hr
  obtain ⟨j,hj,rfl⟩:=hr;cases h with
  | own _ u h0 ha h =>
   obtain ⟨o,ho⟩:=ha;obtain ⟨o',Cs,_⟩:=hm.fw _ _ _ hj ho;refine .own j u h0 ⟨o',Cs⟩ fun ty n cs hx => ?_
   obtain ⟨o2,e2,e3⟩:=hm.bk _ _ _ hj hx;rw [jO e3] at e2
   rw [(hm.at_ _ _ hj).1,(hm.at_ _ _ hj).2];exact h _ _ _ e2
 | .arr i off n,y,u,h,hr=>by
  simp only [mpA,C7] at hr
  obtain ⟨j,hj,rfl⟩:=hr;cases h with
  | arr _ _ _ u h0 ha h =>
   obtain ⟨o,ho⟩:=ha;obtain ⟨o',Cs,_⟩:=hm.fw _ _ _ hj ho;refine .arr j off n u h0 ⟨o',Cs⟩ fun o3 hx hl => ?_
   obtain ⟨o2,e2,e3⟩:=hm.bk _ _ _ hj hx;rw [(hm.at_ _ _ hj).1];exact h _ e2 (by rw [← bP e3];exact hl)
 | .ptr i off,y,u,h,hr=>by
  simp only [mpA,C7] at hr
  obtain ⟨j,hj,rfl⟩:=hr;cases h with
  | ptr _ _ u h0 ha h hp =>
   obtain ⟨o,ho⟩:=ha;obtain ⟨o',Cs,_⟩:=hm.fw _ _ _ hj ho;refine .ptr j off u h0 ⟨o',Cs⟩ (fun o3 hx hl => ?_) hp
   obtain ⟨o2,e2,e3⟩:=hm.bk _ _ _ hj hx;rw [(hm.at_ _ _ hj).1];exact h _ e2 (by rw [← bP e3];exact hl)
 | .mp i,y,u,h,hr=>by
  simp only [mpA,C7] at hr
  obtain ⟨j,hj,rfl⟩:=hr;cases h with
  | mp _ u h0 ha h =>
   obtain ⟨o,ho⟩:=ha;obtain ⟨o',Cs,_⟩:=hm.fw _ _ _ hj ho;refine .mp j u h0 ⟨o',Cs⟩ fun o3 hx hl => ?_
   obtain ⟨o2,e2,e3⟩:=hm.bk _ _ _ hj hx;rw [(hm.at_ _ _ hj).1];exact h _ e2 (by rw [← bP e3];exact hl)
 | .pa i q,y,u,h,hr=>by
  simp only [mpA,C7] at hr
  obtain ⟨j,hj,rfl⟩:=hr;cases h with
  | pa _ _ u h0 ha h =>
   obtain ⟨o,ho⟩:=ha;obtain ⟨o',Cs,_⟩:=hm.fw _ _ _ hj ho;refine .pa j q u h0 ⟨o',Cs⟩ fun o3 hx hl => ?_
   obtain ⟨o2,e2,e3⟩:=hm.bk _ _ _ hj hx;rw [(hm.at_ _ _ hj).2];exact h _ e2 (by rw [← bP e3];exact hl)
 | .agg l,y,u,h,hr=>by
  simp only [mpA,C7] at hr
  obtain ⟨l',hl,rfl⟩:=hr;cases h with
  | agg _ vs h0 h1 h4 =>
   obtain ⟨q1,q2⟩:=fA (us:=fun i=>vs.getD i undef) h4 hl
   exact .agg _ _ (fun i hi=>h0 i (by omega)) (by omega) q2
 | .tup l,y,u,h,hr=>by
  simp only [mpA,C7] at hr
  obtain ⟨l',hl,rfl⟩:=hr;cases h with
  | tup _ vs h1 h4 =>
   obtain ⟨q1,q2⟩:=fA (us:=fun i=>vs.getD i undef) h4 hl
   exact .tup _ _ (by omega) q2
 | .fn g a b,y,u,h,hr=>by
  simp only [mpA] at hr
  split at hr
  ·rename_i a' ha
   simp only [C7] at hr
   obtain ⟨b',hb,rfl⟩:=hr;cases h with
   | fn _ _ _ us vs h1 h4 h5 h6 =>
    obtain ⟨q1,q2⟩:=fA (us:=fun i=>us.getD i undef) h5 ha
    obtain ⟨r1,r2⟩:=fA (us:=fun i=>vs.getD i undef) h6 hb
    exact .fn g _ _ us vs (by omega) (by omega) q2 r2
  ·cases hr
 | .p x,y,u,h,hr=>by simp only [mpA] at hr;cases hr;cases h with | p _ _ h=>exact .p _ _ (h.mono hm.F (fun _ _=>rfl))
 | .rp cs o,y,u,h,hr=>by
  simp only [mpA] at hr;cases hr
  cases h with | rp _ _ b o us h1 h2 h3=>exact .rp cs _ b o us (fun i hi=>⟨hm.F _ (h1 i hi).1,(h1 i hi).2⟩) (fun i hi=>(h2 i hi).mono hm.F (fun _ _=>rfl)) h3
 | .yld l,y,u,h,hr=>by simp only [mpA] at hr;cases hr;cases h;exact .yld _
 | .kb b,y,u,h,hr=>by simp only [mpA] at hr;cases hr;cases h;exact .kb _
 | .any,y,u,h,hr=>by simp only [mpA] at hr;cases hr;exact .any _
theorem fA:∀ {l ys:List AV} {us:Nat→Value},(∀ i (h:i<l.length),Rep C M w l[i] (us i))→mpL f l=some ys→ys.length=l.length∧∀ i (h:i<ys.length),Rep C' M' w ys[i] (us i)
 | [],_,_,_,hr=>by simp only [mpL] at hr;cases hr;exact ⟨rfl,fun i h=>by simp at h⟩
 | x::r,ys,us,h,hr=>by
  simp only [mpL] at hr
  split at hr
  ·rename_i y hy
   simp only [C7] at hr
   obtain ⟨r',Dt,rfl⟩:=hr;obtain ⟨q1,q2⟩:=fA (us:=fun i=>us (i+1)) (fun i hi=>h (i+1) (by simpa using hi)) Dt
   refine ⟨by simp [q1],fun i hi => ?_⟩
   cases i with
   | zero=>exact rD (h 0 (by simp)) hy
   | succ i=>exact q2 i (by simpa using hi)
  ·cases hr
end
end

theorem pL{k:Nat}{ids:List Nat}{M':Mem}(hM:aX P C M w)(hd:distinct k ids=true)(Cq:rnM k ids (firsts M k 0++ids.map (at? M))=some M') :
  aX P (C.rn k ids) M' w∧aUe (rnI k ids) C (C.rn k ids) M M'∧∀ (j:Nat) (o':AO),M'[j]? = some (some o')→∃ i o,lL k ids j=some i∧M[i]? = some (some o)∧mpO (rnI k ids) o=some o':=by
 obtain ⟨g1,g2,g3⟩:=yT Cq;have hat:∀ (i j:Nat) (o:AO),lL k ids j=some i→((firsts M k 0++ids.map (at? M))[j]? = some (some o)↔M[i]? = some (some o)):=fun i j o hs=>by
  unfold lL at hs
  split at hs
  ·rename_i hj
   cases hs;rw [aGg (by rw [lB];exact hj),aCq _ _ _ _ hj,iP,Option.some.injEq,bI]
  ·rename_i hj
   rw [aJy (by rw [lB];omega),lB,rV,hs,Option.map_some,Option.some.injEq]
   exact bI
 have hsrc:∀ (j:Nat) (o:AO),(firsts M k 0++ids.map (at? M))[j]? = some (some o)→∃ i,lL k ids j=some i:=fun j o hj=>by
  unfold lL
  split
  ·exact ⟨_,rfl⟩
  ·obtain ⟨hl,_⟩:=Ci.1 hj
   rw [Bv,lB,kI] at hl
   exact ⟨_,Bw (by omega)⟩
 have h2:∀ (j:Nat) (o':AO),M'[j]? = some (some o')→∃ i o,lL k ids j=some i∧M[i]? = some (some o)∧mpO (rnI k ids) o=some o':=fun j o' hj=>by
  obtain ⟨o,q1,q2⟩:=g2 j o' hj;obtain ⟨i,hi⟩:=hsrc j o q1;exact ⟨i,o,hi,(hat i j o hi).1 q1,q2⟩
 have hi:∀ j i,lL k ids j=some i→(C.rn k ids).ι j=C.ι i∧(C.rn k ids).κ j=C.κ i:=fun j i h=>by simp [Cx.rn,h]
 have hmp:aUe (rnI k ids) C (C.rn k ids) M M':=⟨fun i j o' hf hj=>by
  obtain ⟨i',o,q1,q2,q3⟩:=h2 j o' hj;rw [aFe hf] at q1;cases q1
  exact ⟨o,q2,q3⟩,fun i j o hf ho=>g3 j o ((hat i j o (aFe hf)).2 ho),fun i j hf=>hi j i (aFe hf),fun _ h=>h⟩
 refine ⟨⟨fun j ty n cs h => ?_,fun j ty cs h => ?_,fun j es cl h => ?_,fun j j' o1 o2 b q1 l1 q2 l2 e1 e2 => ?_,fun j o b h hl hb => ?_,hM.Fs,fun j o b h hl hb => ?_,hM.lib.mono (fun _ h=>h) fun _ _=>rfl⟩,hmp,h2⟩
 ·obtain ⟨i,o,q1,q2,q3⟩:=h2 _ _ h
  rw [jO q3] at q2
  obtain ⟨r1,r2⟩:=hi j i q1;rw [r1,r2];exact hM.row _ _ _ _ q2
 ·obtain ⟨i,o,q1,q2,q3⟩:=h2 _ _ h
  obtain ⟨r1,r2⟩:=hi j i q1;cases o with
  | box C6 l =>
   simp only [mpO,C7] at q3
   obtain ⟨l',De,e⟩:=q3;cases e;obtain ⟨b,arr,p0,p1,p2,p3,p4⟩:=hM.box _ _ _ q2;obtain ⟨n1,n2⟩:=fA hmp (w:=w) (us:=fun j=>arr.getD j undef) p3 De
   exact ⟨b,arr,by rw [r1];exact p0,p1,by omega,n2,fun j hj=>p4 j (by omega)⟩
  | row=>simp [mpO] at q3
  | mp=>simp [mpO] at q3
  | pk=>simp [mpO] at q3
  | dead=>simp [mpO] at q3
 ·obtain ⟨i,o,q1,q2,q3⟩:=h2 _ _ h
  obtain ⟨r1,r2⟩:=hi j i q1;cases o with
  | mp Fa Jy =>
   simp only [mpO,Option.some.injEq] at q3
   cases q3;obtain ⟨b,arr,p0,p1,p2,p3⟩:=hM.mp _ _ _ q2;exact ⟨b,arr,by rw [r1];exact p0,p1,p2,p3⟩
  | row=>simp [mpO] at q3
  | box=>simp [mpO] at q3
  | pk=>simp [mpO] at q3
  | dead=>simp [mpO] at q3
 ·obtain ⟨i,o,q3,q4,q5⟩:=h2 _ _ q1
  obtain ⟨i',o',q6,q7,q8⟩:=h2 _ _ q2;rw [(hi _ _ q3).1] at e1
  rw [(hi _ _ q6).1] at e2
  have:=hM.inj i i' o o' b q4 (by rw [← bP q5];exact l1) q7 (by rw [← bP q8];exact l2) e1 e2
  subst this;exact aQs hd q3 q6
 ·obtain ⟨i,o',q3,q4,q5⟩:=h2 _ _ h
  rw [(hi _ _ q3).1] at hb
  exact hM.nF i o' b q4 (by rw [← bP q5];exact hl) hb
 ·obtain ⟨i,o',q3,q4,q5⟩:=h2 _ _ h
  rw [(hi _ _ q3).1] at hb
  exact hM.lt i o' b q4 (by rw [← bP q5];exact hl) hb

theorem aMh{k:Nat}{ids:List Nat}{st Aj:St}{a:Act}(hk:M0.length≤k)(hp:pick k ids st=some Aj)(hs:Sim P C0 M0 w0 st a w):Sim P C0 M0 w0 Aj a w:=by
 obtain ⟨C,hS,hM,hF,hD⟩:=hs;unfold pick at hp
 split at hp
 ·rename_i hd
  split at hp
  ·rename_i t ht
   simp only [C7] at hp
   obtain ⟨M',Cq,rfl⟩:=hp;obtain ⟨Ej,hmp,h2⟩:=pL hM hd Cq;obtain ⟨t1,t2⟩:=fA hmp (w:=w) (us:=fun i=>a.tmps.getD i undef) hS.rep ht
   have hi:∀ j i,lL k ids j=some i→(C.rn k ids).ι j=C.ι i∧(C.rn k ids).κ j=C.κ i:=fun j i h=>by simp [Cx.rn,h]
   have small:∀ (i:Nat) (o:AO),M0[i]? = some (some o)→lL k ids i=some i∧rnI k ids i=some i:=fun i o h=>by
    obtain ⟨hl,_⟩:=Ci.1 h;have hik:i<k:=by omega
    have hb:Nat.blt i k=true:=by rw [Nat.blt_eq];exact hik
    exact ⟨by simp [lL,hik],by simp only [rnI,hb]⟩
   refine ⟨C.rn k ids,⟨by rw [hS.size];exact t1.symm,t2⟩,Ej,
    ⟨hF.os,hF.tape,hF.out,hF.size,hF.keep,fun i o h => ?_,fun i o h ty n cs hx => ?_,fun i o h o' hx hl => ?_,fun j o b h hl hb => ?_,hF.F1,hF.F2⟩,hD.1,fun p hp => ?_,?_⟩
   ·obtain ⟨⟨o',q1⟩,q2,q3⟩:=hF.ids i o h
    obtain ⟨o2,q4,_⟩:=hmp.fw i i o' (small i o h).2 q1;obtain ⟨r1,r2⟩:=hi i i (small i o h).1;exact ⟨⟨o2,q4⟩,r1.trans q2,r2.trans q3⟩
   ·obtain ⟨i',o',q3,q4,q5⟩:=h2 _ _ hx
    rw [(small i o h).1] at q3;cases q3
    rw [jO q5] at q4
    exact hF.row _ _ h _ _ _ q4
   ·obtain ⟨i',o2,q3,q4,q5⟩:=h2 _ _ hx
    rw [(small i o h).1] at q3;cases q3
    exact hF.liv _ _ h _ q4 (by rw [← bP q5];exact hl)
   ·obtain ⟨i,o',q3,q4,q5⟩:=h2 _ _ h
    rw [(hi _ _ q3).1] at hb
    exact hF.new i o' b q4 (by rw [← bP q5];exact hl) hb
   ·obtain ⟨r1,r2,r3,r4,r5⟩:=hD.2.1 p hp
    refine ⟨r1,r2,r3,r4,fun j o h hl hb => ?_⟩
    obtain ⟨i,o',q3,q4,q5⟩:=h2 _ _ h;rw [(hi _ _ q3).1] at hb
    exact r5 i o' q4 (by rw [← bP q5];exact hl) hb
   ·have lv:∀ (j:Nat) (o:AO),M'[j]? = some (some o)→o.live=true→∃ i o',lL k ids j=some i∧st.m[i]? = some (some o')∧o'.live=true:=fun j o h hl=>by
     obtain ⟨i,o',q3,q4,q5⟩:=h2 _ _ h;exact ⟨i,o',q3,q4,by rw [← bP q5];exact hl⟩
    have pk:∀ (j tO ti sz:Nat) (L:List (Nat × List PV)),M'[j]? = some (some (.pk tO ti sz L))→∃ i,lL k ids j=some i∧st.m[i]? = some (some (.pk tO ti sz L)):=fun j tO ti sz L h=>by
     obtain ⟨i,o',q3,q4,q5⟩:=h2 _ _ h;refine ⟨i,q3,?_⟩;cases o' with
     | pk=>simp only [mpO,Option.some.injEq] at q5;rw [← q5];exact q4
     | box=>simp [mpO] at q5
     | _=>simp [mpO] at q5
    refine ⟨fun j tO ti sz L h => ?_,fun j j' tO ti sz Mk Ml Mm L L' h h' hne b hb Aq => ?_⟩
    ·obtain ⟨i,q3,q4⟩:=pk _ _ _ _ _ h
     obtain ⟨p,p0,p1⟩:=hD.2.2.1 _ _ _ _ _ q4;obtain ⟨r1,r2⟩:=hi j i q3;refine ⟨p.move (r1.trans p.io) r2 (fun _ h=>h) (fun _ _=>rfl) fun b hb=>⟨rfl,(p.own b hb).1,fun j2 o2 ho hl => ?_⟩,fun o ho => ?_,by rw [r2];exact p1⟩
     ·obtain ⟨i2,o3,s1,s2,s3⟩:=lv j2 o2 ho hl
      rw [(hi _ _ s1).1];exact (p.own b hb).2 i2 o3 s2 s3
     ·have:=(small j o ho).1
      rw [this] at q3;cases q3
      exact p0 o ho
    ·obtain ⟨i,q3,q4⟩:=pk _ _ _ _ _ h
     obtain ⟨i',Ik,Pi⟩:=pk _ _ _ _ _ h';rw [(hi j i q3).2] at hb
     rw [(hi j' i' Ik).2] at Aq
     refine hD.2.2.2 _ _ _ _ _ _ _ _ _ _ q4 Pi (fun e=>hne ?_) b hb Aq
     subst e;exact aQs hd q3 Ik
  ·cases hp
 ·cases hp

def aCr:List Nat→St→Option St
 | [],st=>some st
 | i::r,st=>match Mn i st with
  | some Aj=>aCr r Aj
  | none=>match fzP i st with
   | some Aj=>aCr r Aj
   | none=>match fzM i st with
    | some Aj=>aCr r Aj
    | none=>none
def nlC(id off ty:Nat)(st:St):Option St:=match st.m[id]? with
 | some (some (.box bty cs))=>match cs[off]? with
  | some (.p (.v (.slice none 0 0)))=>match Nat.beq ty 99999 with
   | true=>some ⟨st.t,aZ st.m id (some (.box bty (cs.set off (.p (.sl 0 [])))))⟩
   | false=>match fG st.m st.m.length with
    | true=>some ⟨st.t,aZ (aZ st.m st.m.length (some (.row ty 0 []))) id (some (.box bty (cs.set off (.own st.m.length))))⟩
    | false=>none
  | some (.kb b)=>some ⟨st.t,aZ st.m id (some (.box bty (cs.set off (.p (.v (.bool b))))))⟩
  | _=>none
 | _=>none
def nlS(i ty:Nat)(st:St):Option St:=match st.t[i]? with
 | some (.p (.v (.slice none 0 0)))=>match Nat.beq ty 99999 with
  | true=>some ⟨st.t.set i (.p (.sl 0 [])),st.m⟩
  | false=>match fG st.m st.m.length with
   | true=>some ⟨st.t.set i (.own st.m.length),aZ st.m st.m.length (some (.row ty 0 []))⟩
   | false=>none
 | some (.kb b)=>some ⟨st.t.set i (.p (.v (.bool b))),st.m⟩
 | _=>none
def Mo(i ty:Nat)(st:St):Option St:=match Nat.ble 100000 i with
 | true=>nlC ((i-100000) / 1000) ((i-100000) % 1000) ty st
 | false=>match Nat.ble 1000000000 ty with
  | true=>nlP i ((ty-1000000000) / 1000000) ((ty-1000000000) / 100 % 10000) ((ty-1000000000) % 100) st
  | false=>nlS i ty st
def aQt:List (Nat × Nat)→St→Option St
 | [],st=>some st
 | (i,ty)::r,st=>match Mo i ty st with
  | some Aj=>aQt r Aj
  | none=>none
def gh(k:Nat)(g:Gh)(st:St):Option St:=match aCr g.fz st with
 | some st1=>match aQt g.nl st1 with
  | some st2=>pick k g.ids ⟨forget g.fg st2.t,st2.m⟩
  | none=>none
 | none=>none
theorem yU(hM:aX P C M w){id bty off:Nat}{cs:List AV}{x:AV}(hb:M[id]? = some (some (.box bty cs)))(hoff:off<cs.length)
  (hx:∀ u,Rep C M w cs[off] u→Rep C (aZ M id (some (.box bty (cs.set off x)))) w x u):aX P C (aZ M id (some (.box bty (cs.set off x)))) w∧Fr C M w C (aZ M id (some (.box bty (cs.set off x)))) w:=by
 have hold:∀ (i:Nat) (o:AO),i≠id→(aZ M id (some (.box bty (cs.set off x))))[i]? = some (some o)→M[i]? = some (some o):=fun i o h=>(aP M id i _ o (fun e=>h e.symm)).1
 have hnew:∀ (o:AO),(aZ M id (some (.box bty (cs.set off x))))[id]? = some (some o)→o = .box bty (cs.set off x):=fun o h=>by rw [aY] at h;cases h;rfl
 have hliv:∀ (i:Nat) (o:AO),(aZ M id (some (.box bty (cs.set off x))))[i]? = some (some o)→o.live=true→∃ o1,M[i]? = some (some o1)∧o1.live=true:=fun i o h hl=>by
  by_cases e:i=id
  ·subst e;exact ⟨_,hb,rfl⟩
  ·exact ⟨o,hold i o e h,hl⟩
 have f:Fr C M w C (aZ M id (some (.box bty (cs.set off x)))) w:=by
  refine ⟨rfl,rfl,rfl,dD _,fun _ _ _=>rfl,fun i o h=>⟨?_,rfl,rfl⟩,fun i o h ty n Mp hm => ?_,fun i o h o' h' hl => ?_,fun i o b h hl hbb => ?_,fun b h=>h,fun b h => .inl h⟩
  ·by_cases e:i=id
   ·subst e;exact ⟨_,aY ..⟩
   ·exact ⟨o,(aP M id i _ o (fun e'=>e e'.symm)).2 h⟩
  ·by_cases e:i=id
   ·subst e;cases hnew _ hm
   ·exact ⟨Mp,hold i _ e hm⟩
  ·obtain ⟨o1,q1,q2⟩:=hliv i o' h' hl
   rw [h] at q1;cases q1;exact q2
  ·obtain ⟨o1,q1,q2⟩:=hliv i o h hl
   exact .inr ⟨i,o1,q1,q2,hbb⟩
 have hL:=hM.le f;refine ⟨⟨fun i ty n Mp hm => ?_,fun i ty Mp hm => ?_,fun i es cl hm => ?_,fun i i' o1 o2 b hm hl Cq De h1 h2 => ?_,fun i o b hm hl hbb => ?_,hM.Fs,fun i o b hm hl hbb => ?_,hM.lib.le hL⟩,f⟩
 ·by_cases e:i=id
  ·subst e;cases hnew _ hm
  ·exact hM.row _ _ _ _ (hold i _ e hm)
 ·by_cases e:i=id
  ·subst e
   cases hnew _ hm;obtain ⟨b,arr,q0,q1,q2,q3,q4⟩:=hM.box _ _ _ hb;refine ⟨b,arr,q0,q1,by simpa using q2,fun j hj => ?_,fun j hj=>q4 j (by simpa using hj)⟩
   rw [aVw]
   split
   ·rename_i e2;subst e2;exact hx _ (q3 _ hoff)
   ·exact (q3 j (by simpa using hj)).mono hL
  ·obtain ⟨b,arr,q0,q1,q2,q3,q4⟩:=hM.box _ _ _ (hold i _ e hm)
   exact ⟨b,arr,q0,q1,q2,fun j hj=>(q3 j hj).mono hL,q4⟩
 ·by_cases e:i=id
  ·subst e;cases hnew _ hm
  ·obtain ⟨b,arr,q0,q1,q2,q3⟩:=hM.mp _ _ _ (hold i _ e hm)
   refine ⟨b,arr,q0,q1,q2,fun j hj => ?_⟩
   obtain ⟨en,r1,r2,r3,r4⟩:=q3 j hj;exact ⟨en,r1,r2,r3,r4.mono hL.F hL.fz⟩
 ·obtain ⟨x1,y1,z1⟩:=hliv i o1 hm hl
  obtain ⟨x2,y2,z2⟩:=hliv i' o2 Cq De;exact hM.inj _ _ _ _ _ y1 z1 y2 z2 h1 h2
 ·obtain ⟨x1,y1,z1⟩:=hliv i o hm hl
  exact hM.nF _ _ _ y1 z1 hbb
 ·obtain ⟨x1,y1,z1⟩:=hliv i o hm hl
  exact hM.lt _ _ _ y1 z1 hbb
theorem aUf{id off ty:Nat}{st Aj:St}{a:Act}(h:nlC id off ty st=some Aj)(hs:Sim P C0 M0 w0 st a w):Sim P C0 M0 w0 Aj a w:=by
 obtain ⟨C,hS,hM,hF,hD⟩:=hs;unfold nlC at h
 split at h
 ·rename_i bty cs hi
  split at h
  ·rename_i hc
   split at h
   ·cases h
    obtain ⟨hoff,hcv⟩:=Ci.1 hc;obtain ⟨Ga,f2⟩:=yU hM hi hoff (x := .p (.sl 0 [])) (fun u hu=>by
     rw [hcv] at hu
     cases hu with
     | p _ _ h =>
      cases h;exact .p _ _ (.sl 0 [] none 0 (fun _=>undef) (dD _) (Nat.zero_le _) (fun i hi=>by simp at hi) (fun i hi=>by simp at hi) (fun i hi=>by simp at hi)))
    exact ⟨C,hS.le (hM.le f2),Ga,hF.trans f2,hD.fr hM (fL rfl) f2⟩
   ·split at h
    ·rename_i hb
     cases h;have hf:=cV hb;have f:=uG (C:=C) (w:=w) (ty:=ty) hf;have Bp:=uH (ty:=ty) hM hf;have hne:id≠st.m.length:=fun e=>hf _ (e ▸ hi)
     have Gb:(aZ st.m st.m.length (some (.row ty 0 [])))[id]? = some (some (.box bty cs)):=(aP st.m st.m.length id _ _ (fun e=>hne e.symm)).2 hi
     obtain ⟨hoff,hcv⟩:=Ci.1 hc;have hnw:(aZ (aZ st.m st.m.length (some (.row ty 0 []))) id (some (.box bty (cs.set off (.own st.m.length)))))[st.m.length]? = some (some (.row ty 0 [])):=(aP _ id st.m.length _ _ hne).2 (aY ..);obtain ⟨Ga,f2⟩:=yU Bp Gb hoff (x := .own st.m.length) (fun u hu=>by
      rw [hcv] at hu
      cases hu with
      | p _ _ h =>
       cases h;exact .own _ _ rfl ⟨_,hnw⟩ fun ty n cs h=>by rw [hnw] at h;cases h;exact .inl ⟨rfl,by simp [Cx.nil],rfl⟩)
     exact ⟨C.nil st.m.length,(hS.le (hM.le f)).le (Bp.le f2),Ga,(hF.trans f).trans f2,hD.fr hM ((fL rfl).trans (fL rfl)) (f.trans f2)⟩
    ·cases h
  ·rename_i b hc
   cases h;obtain ⟨hoff,hcv⟩:=Ci.1 hc;obtain ⟨Ga,f2⟩:=yU hM hi hoff (x := .p (.v (.bool b))) (fun u hu=>by
    rw [hcv] at hu
    cases hu;exact .p _ _ (.v _))
   exact ⟨C,hS.le (hM.le f2),Ga,hF.trans f2,hD.fr hM (fL rfl) f2⟩
  ·cases h
 ·cases h
theorem aUg{i ty:Nat}{st Aj:St}{a:Act}(h:nlS i ty st=some Aj)(hs:Sim P C0 M0 w0 st a w):Sim P C0 M0 w0 Aj a w:=by
 obtain ⟨C,hS,hM,hF,hD⟩:=hs;unfold nlS at h
 split at h
 ·rename_i hi
  split at h
  ·cases h
   refine ⟨C,⟨by simpa using hS.size,fun j hj => ?_⟩,hM,hF,hD⟩
   simp only [aGh] at hj
   rw [aVw]
   split
   ·rename_i e
    subst e;have hr:=hS.at hi
    generalize a.tmps.getD i undef=u at hr ⊢
    cases hr with
    | p _ _ h =>
     cases h;exact .p _ _ (.sl 0 [] none 0 (fun _=>undef) (dD _) (Nat.zero_le _) (fun i hi=>by simp at hi) (fun i hi=>by simp at hi) (fun i hi=>by simp at hi))
   ·exact hS.rep j hj
  ·split at h
   ·rename_i hb
    cases h;have hf:=cV hb;have f:=uG (C:=C) (w:=w) (ty:=ty) hf;have hL:=hM.le f;refine ⟨C.nil st.m.length,⟨by simpa using hS.size,fun j hj => ?_⟩,uH hM hf,hF.trans f,hD.fr hM (fL rfl) f⟩
    simp only [aGh] at hj
    rw [aVw]
    split
    ·rename_i e
     subst e;have hr:=hS.at hi
     generalize a.tmps.getD i undef=u at hr ⊢
     cases hr with
     | p _ _ h =>
      cases h;exact .own _ _ rfl ⟨_,aY ..⟩ fun ty n cs h=>by rw [aY] at h;cases h;exact .inl ⟨rfl,by simp [Cx.nil],rfl⟩
    ·exact (hS.rep j hj).mono hL
   ·cases h
 ·rename_i b hi
  cases h;refine ⟨C,⟨by simpa using hS.size,fun j hj => ?_⟩,hM,hF,hD⟩
  simp only [aGh] at hj
  rw [aVw]
  split
  ·rename_i e
   subst e;have hr:=hS.at hi
   generalize a.tmps.getD i undef=u at hr ⊢
   cases hr;exact .p _ _ (.v _)
  ·exact hS.rep j hj
 ·cases h
theorem aUh{i ty:Nat}{st Aj:St}{a:Act}(h:Mo i ty st=some Aj)(hs:Sim P C0 M0 w0 st a w):Sim P C0 M0 w0 Aj a w:=by
 unfold Mo at h
 split at h
 ·exact aUf h hs
 ·split at h
  ·exact aUm h hs
  ·exact aUg h hs
theorem wU:∀ (l:List (Nat × Nat)) {st Aj:St} {a:Act},aQt l st=some Aj→Sim P C0 M0 w0 st a w→Sim P C0 M0 w0 Aj a w
 | [],st,Aj,a,h,hs=>by cases h;exact hs
 | (i,ty)::r,st,Aj,a,h,hs=>by
  unfold aQt at h
  split at h
  ·rename_i h1
   exact wU r h (aUh h1 hs)
  ·cases h
theorem lN:∀ (l:List Nat) {st Aj:St} {a:Act},aCr l st=some Aj→Sim P C0 M0 w0 st a w→Sim P C0 M0 w0 Aj a w
 | [],st,Aj,a,h,hs=>by cases h;exact hs
 | i::r,st,Aj,a,h,hs=>by
  unfold aCr at h
  split at h
  ·rename_i h1
   exact lN r h (aUn h1 hs)
  ·split at h
   ·rename_i h1
    exact lN r h (aUl h1 hs)
   ·split at h
    ·rename_i h1
     exact lN r h (aUk h1 hs)
    ·cases h
theorem mT{k:Nat}{g:Gh}{st Aj:St}{a:Act}(hk:M0.length≤k)(h:gh k g st=some Aj)(hs:Sim P C0 M0 w0 st a w):Sim P C0 M0 w0 Aj a w:=by
 unfold gh at h
 split at h
 ·rename_i h1
  split at h
  ·rename_i h2
   exact aMh hk h (aFf g.fg (wU _ h2 (lN _ h1 hs)))
  ·cases h
 ·cases h
end
section
variable {P:Program} {T:TT} {E:Env} {C C0:Cx} {M M0:Mem} {w w0:World}

theorem bEd(hM:aX P C M w){w1:World}(hw:w1.heap=w.heap):aX P C M w1∧Le C C M M w w1:=by
 have hL:Le C C M M w w1:=⟨fun _ o h=>⟨o,h⟩,fun _ _ _ _ _ cs h=>⟨cs,h⟩,fun _ o h o' h' hl=>by rw [h] at h';cases h';exact ⟨hl,rfl,rfl⟩,fun _ h=>h,fun _ _=>by rw [hw]⟩
 have hsz:w1.heap.size=w.heap.size:=by rw [hw]
 refine ⟨⟨fun i C6 n cs hm => ?_,fun i C6 cs hm => ?_,fun i es cl hm => ?_,hM.inj,hM.nF,fun b hb=>by rw [hsz];exact hM.Fs b hb,fun i x b hm hl hb=>by rw [hsz];exact hM.lt i x b hm hl hb,hM.lib.le hL⟩,hL⟩
 ·rcases hM.row _ _ _ _ hm with h4 | ⟨b,arr,inf,q0,q1,q2,q3,q4,q5,q6,q7,q8⟩
  ·exact .inl h4
  ·exact .inr ⟨b,arr,inf,q0,by rw [hw];exact q1,q2,q3,q4,q5,q6,fun j hj=>(q7 j hj).mono hL.F hL.fz,q8⟩
 ·obtain ⟨b,arr,q0,q1,q2,q3,q4⟩:=hM.box _ _ _ hm
  exact ⟨b,arr,q0,by rw [hw];exact q1,q2,fun j hj=>(q3 j hj).mono hL,q4⟩
 ·obtain ⟨b,arr,q0,q1,q2,q3⟩:=hM.mp _ _ _ hm
  refine ⟨b,arr,q0,by rw [hw];exact q1,q2,fun j hj => ?_⟩
  obtain ⟨en,r1,r2,r3,r4⟩:=q3 j hj;exact ⟨en,r1,r2,r3,r4.mono hL.F hL.fz⟩
theorem aQr{w1:World}(hw:w1.heap=w.heap)(ho:w1.os=w.os)(ht:w1.tape=w.tape)(hu:w1.output=w.output):Fr C M w C M w1 :=
 ⟨ho,ht,hu,by rw [hw];exact dD _,fun b _ _=>by rw [hw],fun _ x h=>⟨⟨x,h⟩,rfl,rfl⟩,fun _ _ _ _ _ cs h=>⟨cs,h⟩,fun _ o h o' h' hl=>by rw [h] at h';cases h';exact hl,fun i x _ h hl hb => .inr ⟨i,x,h,hl,hb⟩,fun _ h=>h,fun _ h => .inl h⟩

theorem Sim.drawn{st:St}{a:Act}(h:Sim P C0 M0 w0 st a w)(k:Nat):Sim P C0 M0 w0 st a { w with drawn:=k }:=by
 obtain ⟨C,hS,hM,hF,hD⟩:=h;obtain ⟨m,l⟩:=bEd hM (w1:={ w with drawn:=k }) rfl
 exact ⟨C,hS.le l,m,hF.trans (aQr rfl rfl rfl rfl),hD.fr hM .refl (aQr rfl rfl rfl rfl)⟩

def bLg(ops:Array Oper)(k:Nat)(o:Oper):List Oper→Bool
 | []=>true
 | y::r=>(o.apart ops y || y.after.toList.any fun e=>Region.binds .any e && e.on == k) && bLg ops k o r
def bLh(ops:Array Oper):Nat→List Oper→Bool
 | _,[]=>true
 | k,o::r=>(o.after.toList.all fun e => !Region.binds .any e || Nat.blt e.on k) && bLg ops k o r && bLh ops (k+1) r
def bSp(ops:Array Oper):Bool:=Region.noSelect ops && bLh ops 0 ops.toList
theorem aCn{ops:Array Oper}{k:Nat}{o:Oper}:∀ {r:List Oper},bLg ops k o r=true→∀ y∈r,(y.after.any fun e=>Region.binds .any e && e.on == k)=true∨o.apart ops y=true
 | [],_,y,hy=>by cases hy
 | z::r,h,y,hy=>by
  unfold bLg at h
  rw [B4,aCj] at h
  rcases jU.1 hy with rfl | hy
  ·rcases h.1 with h1 | h1
   ·exact .inr h1
   ·rw [Array.any_toList] at h1;exact .inl h1
  ·exact aCn h.2 y hy
theorem aCo{ops:Array Oper}:∀ (r:List Oper) (k:Nat) (listed:Array Bool),ops.toList.drop k=r→k+r.length=ops.size→listed.size=ops.size→(∀ j,j<ops.size→listed[j]? = some (decide (j<k))) →
  bLh ops k r=true→Region.lexFrom .any ops r.length k listed=true
 | [],k,listed,hd,hk,hz,hl,h=>by
  show (Region.ready .any ops listed).isEmpty=true;unfold Region.ready;rw [List.isEmpty_iff,List.filter_eq_nil_iff];intro i hi;have hi:=aVx.1 hi;have h1:listed.getD i true=true:=by
   rw [Bu,hl i hi];have:k=ops.size:=by simpa using hk
   simp;omega
  rw [h1];simp
 | o::r,k,listed,hd,hk,hz,hl,h=>by
  unfold bLh at h
  rw [B4,B4] at h
  obtain ⟨⟨h1,h2⟩,h3⟩:=h;rw [Cb] at hk
  have hko:ops[k]? = some o:=by
   have:(ops.toList.drop k)[0]? = some o:=by rw [hd];rfl
   rw [List.getElem?_drop] at this
   simpa using this
  have hdr:ops.toList.drop (k+1)=r:=by
   have:=congrArg List.tail hd;rw [List.tail_drop] at this
   exact this
  have hlk:listed.getD k true=false:=by
   rw [Bu,hl k (by omega)];simp
  show ((Region.ready .any ops listed).contains k && Region.free .any ops listed k && Region.lexFrom .any ops r.length (k+1) (listed.setIfInBounds k true))=true;rw [B4,B4];refine ⟨⟨?_,?_⟩,?_⟩
  ·rw [List.contains_iff_mem]
   unfold Region.ready;rw [List.mem_filter];refine ⟨aVx.2 (by omega),?_⟩
   rw [hlk,hko];show (!false && o.after.all fun e => !Region.binds .any e || listed.getD e.on false)=true
   rw [Bool.not_false,aVy,← Array.all_toList,iD];intro e he;have:=iD.1 h1 e he;rw [aCj] at this ⊢
   rcases this with q | q
   ·exact .inl q
   ·have q:e.on<k:=by simpa using q
    refine .inr ?_;rw [Bu,hl e.on (by omega)]
    simp [q]
  ·unfold Region.free
   rw [hko];show ((List.range ops.size).all _)=true;rw [iD];intro j hj;have hj:=aVx.1 hj
   rcases Nat.lt_trichotomy j k with q | q | q
   ·have:listed.getD j true=true:=by rw [Bu,hl j hj];simp [q]
    rw [this];simp
   ·subst q;simp
   ·obtain ⟨y,hy⟩:∃ y,ops[j]? = some y:=⟨_,rU hj⟩
    rw [hy];have hm:y∈r:=by
     rw [← hdr];have:(ops.toList.drop (k+1))[j-(k+1)]? = some y:=by
      rw [List.getElem?_drop,show k+1+(j-(k+1))=j by omega]
      simpa using hy
     exact B0 this
    have:=aCn h2 y hm;show (j == k || listed.getD j true || ((y.after.any fun e=>Region.binds .any e && e.on == k) || o.apart ops y))=true
    rw [aCj,aCj (_) (o.apart ops y)];exact .inr this
  ·refine aCo r (k+1) _ hdr (by omega) (by rw [Array.size_setIfInBounds];exact hz) (fun j hj => ?_) h3
   rw [Array.getElem?_setIfInBounds]
   by_cases q:k=j
   ·subst q
    rw [if_pos rfl,if_pos (by omega)];simp
   ·rw [if_neg q,hl j hj]
    congr 1
    rw [decide_eq_decide];omega
theorem aUc{ops:Array Oper}(h:bSp ops=true):Region.lexB .any ops=true:=by
 unfold bSp at h
 rw [B4] at h
 unfold Region.lexB;rw [B4];refine ⟨h.1,?_⟩;have:=aCo ops.toList 0 (Array.replicate ops.size false) rfl (by simp) (by simp) (fun j hj=>by simp [hj]) h.2
 simpa using this
def bLi(P:Program)(T:TT)(E:Env)(ops:Array Oper)(draw:Bool)(st:St):Ask St:=match draw with
 | false=>bLo P T E ops.toList ops.toList st
 | true=>do
  lift (if bSp ops then some () else none)
  let r ← aMk P T E ops.toList ops.toList st.m.length st
  lift (if aFh ops 0 r.1 then some () else none)
  pure r.2

def Ex.toExit:Ex→Exit
 | .normal => .normal
 | .ret => .ret
 | .exit id => .exit id

def aCp(body:St→Ask (Ex × St)):Nat→St→Ask (Ex × St)
 | 0,_=>fail
 | n+1,st=>do
  let r ← body st
  match r.1 with
  | .normal=>aCp body n r.2
  | e=>pure (e,r.2)

def nrf:Code→Bool
 | .region _ _ _=>true
 | .seq a b=>nrf a && nrf b
 | .cond _ a b=>nrf a && nrf b
 | .block _ b=>nrf b
 | .loop b=>nrf b
 | .scope b=>nrf b
 | .rangeFunc _ _ _ _=>false
 | _=>true
def kE(ro:Option Nat)(c:Code):Prop:=ro=none∨nrf c=true
section
variable {ro:Option Nat} {a b:Code} {x:Operand} {id:Nat}
theorem kE.seq1(h:kE ro (.seq a b)):kE ro a:=h.imp (fun h=>h) fun h=>by unfold nrf at h;rw [B4] at h;exact h.1
theorem kE.seq2(h:kE ro (.seq a b)):kE ro b:=h.imp (fun h=>h) fun h=>by unfold nrf at h;rw [B4] at h;exact h.2
theorem kE.cond1(h:kE ro (.cond x a b)):kE ro a:=h.imp (fun h=>h) fun h=>by unfold nrf at h;rw [B4] at h;exact h.1
theorem kE.cond2(h:kE ro (.cond x a b)):kE ro b:=h.imp (fun h=>h) fun h=>by unfold nrf at h;rw [B4] at h;exact h.2
theorem kE.block(h:kE ro (.block id b)):kE ro b:=h
theorem kE.loop(h:kE ro (.loop b)):kE ro b:=h
theorem kE.scope(h:kE ro (.scope b)):kE ro b:=h
end

def aA(P:Program)(k:Nat)(c:Code)(st:St)(e:Ex)(Aj:St):Prop:=∀ (C0:Cx) (M0:Mem) (w0:World) (a:Act) (w:World),M0.length≤k→Sim P C0 M0 w0 st a w→∀ (ro:Option Nat),kE ro c→∀ (n:Nat),c.wpIn (Fen ro) n P (fun e' a' w'=>e'=e.toExit∧Sim P C0 M0 w0 Aj a' w') a w

def aBy(P:Program)(k:Nat)(c:Code)(m:St→Ask (Ex × St))(st:St):Ask (Ex × St):=fun s=>match s.auto with
 | true=>m st s
 | false=>match s.o with
  | .k 0 g e Aj::r=>match gh k g st with
   | some st1=>some ((e,Aj),{ s with o:=r,obs:=aA P k c st1 e Aj::s.obs })
   | none=>none
  | .k (n+1) g e Aj::r=>m st { s with o := .k n g e Aj::r }
  | .g 0 g::r=>match gh k g st with
   | some st1=>m st1 { s with o:=r }
   | none=>none
  | .g (n+1) g::r=>m st { s with o := .g n g::r }
  | _=>m st s
def pK{α:Type}(m:Ask α):Ask α:=fun s=>match s.auto with
 | true=>m s
 | false=>none

def xR(P:Program)(T:TT)(E:Env)(k fuel:Nat):Code→St→Ask (Ex × St)
 | .skip,st=>pure (.normal,st)
 | .region id ops d,st=>aBy P k (.region id ops d) (fun st=>do let Aj ← bLi P T E ops d st;pure (.normal,Aj)) st
 | .seq a b,st=>aBy P k (.seq a b) (fun st=>do
  let r ← xR P T E k fuel a st
  match r.1 with
  | .normal=>xR P T E k fuel b r.2
  | e=>pure (e,r.2)) st
 | .cond c a b,st=>aBy P k (.cond c a b) (fun st=>do
  let x ← lift (ev st c)
  let d ← aNs x
  match d with
  | true=>xR P T E k fuel a st
  | false=>xR P T E k fuel b st) st
 | .block id b,st=>aBy P k (.block id b) (fun st=>do
  let r ← xR P T E k fuel b st
  match r.1 with
  | .exit i=>match Nat.beq i id with
   | true=>pure (.normal,r.2)
   | false=>pure (.exit i,r.2)
  | e=>pure (e,r.2)) st
 | .loop b,st=>aBy P k (.loop b) (fun st=>pK (aCp (fun st=>xR P T E k fuel b st) fuel st)) st
 | .exit id,st=>pure (.exit id,st)
 | .label _,st=>pure (.normal,st)
 | .scope b,st=>xR P T E k fuel b st
 | .ret,st=>pure (.ret,st)
 | c,st=>aBy P k c (fun _=>fail) st

theorem aA.pre{k:Nat}{c:Code}{st st1 Aj:St}{e:Ex}{g:Gh}(hg:gh k g st=some st1)(h:aA P k c st1 e Aj):aA P k c st e Aj:=fun C0 M0 w0 a w hk hs ro hro n=>h C0 M0 w0 a w hk (mT hk hg hs) ro hro n
theorem aA.post{k:Nat}{c:Code}{st st1 Aj:St}{e:Ex}{g:Gh}(hg:gh k g st1=some Aj)(h:aA P k c st e st1):aA P k c st e Aj:=fun C0 M0 w0 a w hk hs ro hro n=>wpIn_mono (h C0 M0 w0 a w hk hs ro hro n) (fun _ _ _ hq=>⟨hq.1,mT hk hg hq.2⟩)
theorem jA{k:Nat}{c:Code}{m:St→Ask (Ex × St)}(hm:∀ {st Aj:St} {e:Ex} {s s':AS},m st s=some ((e,Aj),s')→bA s'→aA P k c st e Aj){st Aj:St}{e:Ex}{s s':AS}(h:aBy P k c m st s=some ((e,Aj),s'))(g:bA s'):aA P k c st e Aj:=by
 unfold aBy at h
 cases ha:s.auto with
 | true=>rw [ha] at h;exact hm h g
 | false =>
  rw [ha] at h
  dsimp only at h
  split at h
  ·split at h
   ·rename_i hg
    cases h;exact (g.tail.1).pre hg
   ·cases h
  ·exact hm h g
  ·split at h
   ·rename_i hg
    exact (hm h g).pre hg
   ·cases h
  ·exact hm h g
  ·exact hm h g
theorem kX{k:Nat}{c:Code}{m:St→Ask (Ex × St)}(hm:∀ st,bY (m st))(st:St):bY (aBy P k c m st):=fun s r s' h p hp=>by
 unfold aBy at h
 cases ha:s.auto with
 | true=>rw [ha] at h;exact hm _ _ _ _ h p hp
 | false =>
  rw [ha] at h
  dsimp only at h
  split at h
  ·split at h
   ·cases h;exact Cn _ hp
   ·cases h
  ·exact hm _ _ _ _ h p hp
  ·split at h
   ·exact hm _ _ _ _ h p hp
   ·cases h
  ·exact hm _ _ _ _ h p hp
  ·exact hm _ _ _ _ h p hp
theorem aUd{α:Type}{m:Ask α}(hm:bY m):bY (pK m):=fun s r s' h p hp=>by
 unfold pK at h
 split at h
 ·exact hm _ _ _ h p hp
 ·cases h
theorem bEe{α:Type}{m:Ask α}{s s':AS}{r:α}(h:pK m s=some (r,s')):m s=some (r,s'):=by
 unfold pK at h
 split at h
 ·exact h
 ·cases h

theorem aMf(hT:∀ t i,T t=some i→cM P t=some i)(hE:oU P E)(hm:P.follows .mixedOrders=true){id:Nat}{ops:Array Oper}{d:Bool}{st Aj:St}{s s':AS}(h:bLi P T E ops d st s=some (Aj,s'))(g:bA s'){k:Nat}:aA P k (.region id ops d) st .normal Aj:=by
 intro C0 M0 w0 a w _ hs ro hro n;cases d with
 | false =>
  refine wpIn_region ?_;have:=zH hT hE ops.toList 0 (fun j=>by simp) h g C0 M0 w0 a w hs ro n (fun e' a' w'=>e'=Ex.normal.toExit∧Sim P C0 M0 w0 Aj a' w') (fun a' w' h'=>⟨rfl,h'⟩)
  simpa using this
 | true =>
  obtain ⟨_,s1,h1,k1⟩:=aC h;obtain ⟨e1,rfl⟩:=aE h1;obtain ⟨r,s2,h2,k2⟩:=aC k1;obtain ⟨_,s3,h3,k3⟩:=aC k2;obtain ⟨e3,rfl⟩:=aE h3;obtain ⟨rfl,rfl⟩:=aH k3;obtain ⟨hB,_⟩:=bX e1;obtain ⟨hA,_⟩:=bX e3;obtain ⟨os,hfts,hlex⟩:=yV ops.toList _ (fts:=r.1) (fin:=r.2) h2 g
  replace hB:=aUc hB
  unfold Region.lexB at hB
  rw [B4] at hB
  have hlen:os.length=ops.toList.length:=by
   have:∀ {l:List Oper} {id:Nat} {st:St} {os:List xS} {fin:St},aUo P T E ops.toList id l st os fin→os.length=l.length:=by
    intro l
    induction l with
    | nil=>intro id st os fin h;cases h;rfl
    | cons o l ih=>intro id st os fin h;cases h with | cons _ _ _ _ q os _ h hr=>simp [ih hr]
   exact this hlex
  have key:tS P T E ops.toList st.m.length (fun k=>os.getD k (.any,[],none)) r.2 ops.toList.length (Array.replicate ops.size false) st:=by
   refine tS.lex ops.toList 0 _ st os (fun j=>by simp) (fun j q hj=>by simp [uP,hj]) (fun j hj=>absurd hj (bMe _)) (fun j oj hj hl => ?_) (fun i j _ hij hj => ?_) (by simpa using hB.2) (by simpa [ido] using hlex)
   ·exfalso
    rcases Nat.lt_or_ge j ops.size with h' | h'
    ·simp [h'] at hl
    ·simp [Nat.not_lt.2 h'] at hl
   have G6:j<os.length:=by
    rw [hlen];obtain ⟨o,ho⟩:=Option.isSome_iff_exists.1 hj;exact (Ci.1 ho).1
   have:=wW r.1 0 hA i j (aMi os[i]) (aMi os[j]) hij (by rw [hfts,rV,Bw (by omega)];rfl) (by rw [hfts,rV,Bw G6];rfl)
   rw [iP,iP] at this
   simp only [uP,Bw G6,Bw (show i<os.length by omega),Option.getD_some,Array.toArray_toList]
   exact this
  refine wpIn_region_any hm ?_;have:=tS.sound hT hE (C0:=C0) (M0:=M0) (w0:=w0) (ro:=ro) (n:=n) (Q:=fun e' a' w'=>e'=Ex.normal.toExit∧Sim P C0 M0 w0 r.2 a' w') (fun a' w' h'=>⟨rfl,h'⟩) _ _ _ a _ key (hs.drawn (w.drawn+1))
  simpa using this

theorem gU{b:Frame}{a:Act}{k:List Item}{cs:List Frame}{c:Code}:step P (lone (b.atR a (.code (.scope c)::k)) cs w) = .next (lone (b.atR a (.code c :: .inScope c::k)) cs w) :=
 step_lone_go (by simp [stepG,stepG.exec,Frame.atR])
theorem aBz{b:Frame}{a:Act}{k:List Item}{cs:List Frame}{c:Code}:step P (lone (b.atR a (.inScope c::k)) cs w) = .next (lone (b.atR a k) cs w) :=
 step_lone_go (by simp [stepG,stepG.exec,Frame.atR])
theorem aMg{F:Fence}{n:Nat}{c:Code}{Q:Exit→Act→World→Prop}{a:Act}(h:c.wpIn F n P (fun e a w=>(∀ l,e ≠ .goto l)∧Q e a w) a w):(Code.scope c).wpIn F n P Q a w:=by
 intro b k cs hro hb hr;have h0:(lone (b.atR a (.code (.scope c)::k)) cs w).fenced P F:=fenced_calm hb hr rfl;obtain ⟨e,a₁,w₁,⟨hg,hq⟩,harr⟩:=h b (.inScope c::k) cs hro hb hr;cases e with
 | normal=>exact ⟨.normal,a₁,w₁,hq,.head h0 gU (StepsIn.trans harr (.one (fenced_calm hb hr rfl) aBz))⟩
 | exit id =>
  have hx:exitTo id (.inScope c::k)=exitTo id k:=by simp [exitTo]
  exact ⟨.exit id,a₁,w₁,hq,fun k' hk => .head h0 gU (harr.1 k' (by rw [hx];exact hk)),
   fun Dt hk=>let ⟨k₁,h1,h2⟩:=harr.2 Dt (by rw [hx];exact hk);⟨k₁,h1,.head h0 gU h2⟩⟩
 | goto l=>exact absurd rfl (hg l)
 | ret=>exact ⟨_,a₁,w₁,hq,.of_steps (.one h0 gU) harr⟩
 | panic ch=>exact ⟨_,a₁,w₁,hq,.of_steps (.one h0 gU) harr⟩
 | outgrown=>exact ⟨_,a₁,w₁,hq,.of_steps (.one h0 gU) harr⟩

def LoopIn(F:Fence)(n:Nat)(P:Program)(c:Code)(Q:Exit→Act→World→Prop)(a:Act)(w:World):Prop :=
 ∀ (b:Frame) (k:List Item) (cs:List Frame),b.roundOf=F.round→F.fn b.fn→F.room (cs.length+1+n) →
  ∃ e a' w',Q e a' w'∧ArrivesIn (Machine.fenced P F) P (lone (b.atR a (.code c :: .inLoop c::k)) cs w) b k cs e a' w'

theorem LoopIn.step{F:Fence}{n:Nat}{c:Code}{Q:Exit→Act→World→Prop}{a:Act}(h:c.wpIn F n P (Exit.then (LoopIn F n P c Q) Q) a w):LoopIn F n P c Q a w:=by
 intro b k cs hro hb hr;obtain ⟨e,a₁,w₁,hq,harr⟩:=h b (.inLoop c::k) cs hro hb hr;cases e with
 | normal =>
  obtain ⟨e₂,a₂,w₂,hq₂,harr₂⟩:=hq b k cs hro hb hr;exact ⟨e₂,a₂,w₂,hq₂,.of_steps (StepsIn.trans harr (.one (fenced_calm hb hr rfl) stepR_inLoop)) harr₂⟩
 | exit id=>exact ⟨_,a₁,w₁,hq,.pass (x := .inLoop c) rfl (fun _ _ => .inl (by simp)) harr⟩
 | goto l=>exact ⟨_,a₁,w₁,hq,.pass (x := .inLoop c) rfl (fun _ _ => .inl (by simp)) harr⟩
 | ret=>exact ⟨_,a₁,w₁,hq,.pass (x := .inLoop c) rfl (fun _ _ => .inl (by simp)) harr⟩
 | panic ch=>exact ⟨_,a₁,w₁,hq,.pass (x := .inLoop c) rfl (fun _ _ => .inl (by simp)) harr⟩
 | outgrown=>exact ⟨_,a₁,w₁,hq,.pass (x := .inLoop c) rfl (fun _ _ => .inl (by simp)) harr⟩
theorem LoopIn.wp{F:Fence}{n:Nat}{c:Code}{Q:Exit→Act→World→Prop}{a:Act}(h:LoopIn F n P c Q a w):(Code.loop c).wpIn F n P Q a w:=by
 intro b k cs hro hb hr;obtain ⟨e,a',w',hq,harr⟩:=h b k cs hro hb hr;exact ⟨e,a',w',hq,.of_steps (.one (fenced_calm hb hr rfl) stepR_loop) harr⟩
end
section
variable {P:Program} {T:TT} {E:Env} {C C0:Cx} {M M0:Mem} {w w0:World}

theorem aUb{ops:Array Oper}{d:Bool}{st:St}:bY (bLi P T E ops d st):=by
 unfold bLi;split
 ·exact vM
 ·exact aG fun _=>bE mW fun _=>aG fun _=>aI _
theorem sQ{b:St→Ask (Ex × St)}(h:∀ st,bY (b st)):∀ (n:Nat) (st:St),bY (aCp b n st)
 | 0,_=>aQ
 | n+1,st=>by
  unfold aCp;refine bE (h st) fun r => ?_
  split
  ·exact sQ h n _
  ·exact aI _
theorem rC{k fuel:Nat}:∀ (c:Code) (st:St),bY (xR P T E k fuel c st):=by
 intro c
 induction c with
 | skip=>exact fun st=>aI _
 | region id ops d=>exact kX fun st=>bE aUb fun _=>aI _
 | seq a b iha ihb =>
  refine kX fun st => ?_
  refine bE (iha st) fun r => ?_
  split
  ·exact ihb _
  ·exact aI _
 | cond c a b iha ihb =>
  refine kX fun st => ?_
  refine aG fun _=>bE aMu fun _ => ?_
  split
  ·exact iha _
  ·exact ihb _
 | block id b ih =>
  refine kX fun st => ?_
  refine bE (ih st) fun r => ?_
  split
  ·split <;> exact aI _
  ·exact aI _
 | loop b ih=>exact kX fun st=>aUd (sQ ih _ _)
 | exit id=>exact fun st=>aI _
 | label l=>exact fun st=>aI _
 | scope b ih=>exact ih
 | ret=>exact fun st=>aI _
 | _=>exact kX fun st=>aQ

theorem wT{K:Nat}{c:Code}{b:St→Ask (Ex × St)}(hm:∀ st,bY (b st))(h:∀ {st e Aj s s'},b st s=some ((e,Aj),s')→bA s'→aA P K c st e Aj):∀ (n:Nat) {st:St} {e:Ex} {Aj:St} {s s':AS},aCp b n st s=some ((e,Aj),s')→bA s' →
  ∀ (C0:Cx) (M0:Mem) (w0:World) (a:Act) (w:World),M0.length≤K→Sim P C0 M0 w0 st a w→∀ (ro:Option Nat),kE ro c→∀ (k:Nat),LoopIn (Fen ro) k P c (fun e' a' w'=>e'=e.toExit∧e' ≠ .normal∧Sim P C0 M0 w0 Aj a' w') a w
 | 0,st,e,Aj,s,s',h0,_=>(aU h0).elim
 | n+1,st,e,Aj,s,s',h0,g=>by
  intro C0 M0 w0 a w hK hs ro hro k;unfold aCp at h0
  obtain ⟨⟨e1,st1⟩,s1,h1,k1⟩:=aC h0;refine LoopIn.step ?_;cases e1 with
  | normal =>
   have g1:=(sQ hm n st1).good k1 g;have ih:=wT hm h n k1 g C0 M0 w0;refine wpIn_mono (h h1 g1 C0 M0 w0 a w hK hs ro hro k) ?_;rintro e' a' w' ⟨rfl,B6⟩;exact ih a' w' hK B6 ro hro k
  | ret =>
   obtain ⟨he,rfl⟩:=aH k1;cases he;refine wpIn_mono (h h1 g C0 M0 w0 a w hK hs ro hro k) ?_;rintro e' a' w' ⟨rfl,B6⟩;exact ⟨rfl,nofun,B6⟩
  | exit id =>
   obtain ⟨he,rfl⟩:=aH k1;cases he;refine wpIn_mono (h h1 g C0 M0 w0 a w hK hs ro hro k) ?_;rintro e' a' w' ⟨rfl,B6⟩;exact ⟨rfl,nofun,B6⟩

theorem yS(hT:∀ t i,T t=some i→cM P t=some i)(hE:oU P E)(hm:P.follows .mixedOrders=true){k fuel:Nat}:∀ (c:Code) {st:St} {e:Ex} {Aj:St} {s s':AS},xR P T E k fuel c st s=some ((e,Aj),s')→bA s'→aA P k c st e Aj:=by
 intro c
 induction c with
 | skip =>
  intro st e Aj s s' h g C0 M0 w0 a w hk hs ro hro n;obtain ⟨he,rfl⟩:=aH h;cases he;exact wpIn_skip ⟨rfl,hs⟩
 | region id ops d =>
  intro st e Aj s s' h g;refine jA ?_ h g;intro st Aj e s s' h g;obtain ⟨st1,s1,h1,k1⟩:=aC h;obtain ⟨he,rfl⟩:=aH k1;cases he;exact aMf hT hE hm h1 g
 | seq a b iha ihb =>
  intro st e Aj s s' h g;refine jA ?_ h g;intro st Aj e s s' h g C0 M0 w0 ac w hk hs ro hro n;obtain ⟨⟨e1,st1⟩,s1,h1,k1⟩:=aC h;refine wpIn_seq ?_;cases e1 with
  | normal =>
   have g1:=(rC b st1).good k1 g;refine wpIn_mono (iha h1 g1 C0 M0 w0 ac w hk hs ro hro.seq1 n) ?_;rintro e' a' w' ⟨rfl,B6⟩;exact ihb k1 g C0 M0 w0 a' w' hk B6 ro hro.seq2 n
  | ret =>
   obtain ⟨he,rfl⟩:=aH k1;cases he;refine wpIn_mono (iha h1 g C0 M0 w0 ac w hk hs ro hro.seq1 n) ?_;rintro e' a' w' ⟨rfl,B6⟩;exact ⟨rfl,B6⟩
  | exit id =>
   obtain ⟨he,rfl⟩:=aH k1;cases he;refine wpIn_mono (iha h1 g C0 M0 w0 ac w hk hs ro hro.seq1 n) ?_;rintro e' a' w' ⟨rfl,B6⟩;exact ⟨rfl,B6⟩
 | cond c a b iha ihb =>
  intro st e Aj s s' h g;refine jA ?_ h g;intro st Aj e s s' h g C0 M0 w0 ac w hk hs ro hro n;obtain ⟨x,s1,h1,k1⟩:=aC h;obtain ⟨e1,rfl⟩:=aE h1;obtain ⟨d,s2,h2,k2⟩:=aC k1;have Hv:=hs;obtain ⟨C,hS,_⟩:=Hv;cases d with
  | true =>
   obtain ⟨hb,_⟩:=oI (hS.ev e1) h2 ((rC a st).good k2 g);exact wpIn_cond_true hb (iha k2 g C0 M0 w0 ac w hk hs ro hro.cond1 n)
  | false =>
   obtain ⟨hb,_⟩:=oI (hS.ev e1) h2 ((rC b st).good k2 g);exact wpIn_cond_false hb (ihb k2 g C0 M0 w0 ac w hk hs ro hro.cond2 n)
 | block id b ih =>
  intro st e Aj s s' h g;refine jA ?_ h g;intro st Aj e s s' h g C0 M0 w0 ac w hk hs ro hro n;obtain ⟨⟨e1,st1⟩,s1,h1,k1⟩:=aC h;refine wpIn_block ?_;cases e1 with
  | normal =>
   obtain ⟨he,rfl⟩:=aH k1;cases he;refine wpIn_mono (ih h1 g C0 M0 w0 ac w hk hs ro hro.block n) ?_;rintro e' a' w' ⟨rfl,B6⟩;exact ⟨rfl,B6⟩
  | ret =>
   obtain ⟨he,rfl⟩:=aH k1;cases he;refine wpIn_mono (ih h1 g C0 M0 w0 ac w hk hs ro hro.block n) ?_;rintro e' a' w' ⟨rfl,B6⟩;exact ⟨rfl,B6⟩
  | exit i =>
   dsimp only at k1
   cases hb:Nat.beq i id with
   | true =>
    rw [hb] at k1
    obtain ⟨he,rfl⟩:=aH k1;cases he;have hid:i=id:=Nat.eq_of_beq_eq_true hb;refine wpIn_mono (ih h1 g C0 M0 w0 ac w hk hs ro hro.block n) ?_;rintro e' a' w' ⟨rfl,B6⟩;simp only [Ex.toExit,Exit.inBlock,hid,if_true];exact ⟨trivial,B6⟩
   | false =>
    rw [hb] at k1
    obtain ⟨he,rfl⟩:=aH k1;cases he;have hid:i≠id:=Nat.ne_of_beq_eq_false hb;refine wpIn_mono (ih h1 g C0 M0 w0 ac w hk hs ro hro.block n) ?_;rintro e' a' w' ⟨rfl,B6⟩;simp only [Ex.toExit,Exit.inBlock,hid,if_false];exact ⟨trivial,B6⟩
 | loop b ih =>
  intro st e Aj s s' h g;refine jA ?_ h g;intro st Aj e s s' h g C0 M0 w0 ac w hk hs ro hro n;refine wpIn_mono (LoopIn.wp (wT (rC b) ih fuel (bEe h) g C0 M0 w0 ac w hk hs ro hro.loop n)) ?_;rintro e' a' w' ⟨h1,_,h2⟩;exact ⟨h1,h2⟩
 | exit id =>
  intro st e Aj s s' h g C0 M0 w0 a w hk hs ro hro n;obtain ⟨he,rfl⟩:=aH h;cases he;exact wpIn_exit ⟨rfl,hs⟩
 | label l =>
  intro st e Aj s s' h g C0 M0 w0 a w hk hs ro hro n;obtain ⟨he,rfl⟩:=aH h;cases he;exact wpIn_label ⟨rfl,hs⟩
 | scope b ih =>
  intro st e Aj s s' h g C0 M0 w0 a w hk hs ro hro n;refine aMg (wpIn_mono (ih h g C0 M0 w0 a w hk hs ro hro.scope n) ?_);rintro e' a' w' ⟨rfl,B6⟩;exact ⟨fun l=>by cases e <;> simp [Ex.toExit],rfl,B6⟩
 | ret =>
  intro st e Aj s s' h g C0 M0 w0 a w hk hs ro hro n;obtain ⟨he,rfl⟩:=aH h;cases he;exact wpIn_ret ⟨rfl,hs⟩
 | _ =>
  intro st e Aj s s' h g;refine jA ?_ h g;intro st Aj e s s' h g;exact (aU h).elim
end
section
variable {P:Program} {T:TT} {E:Env} {C C0:Cx} {M M0:Mem} {w w0:World}

def cCg(T:TT)(st:St):ResultVar→Ask AV
 | .tmp t=>lift st.t[t]?
 | .cell a t=>do
  let x ← lift st.t[a]?
  vload T st.m t x
def aMc(T:TT)(st:St):List ResultVar→Ask (List AV)
 | []=>pure []
 | r::l=>do
  let x ← cCg T st r
  let xs ← aMc T st l
  pure (x::xs)
def bEc:List AV→AV
 | [x]=>x
 | l => .tup l

def yP:Mem→Bool
 | []=>true
 | some (.pk _ _ _ _)::_=>false
 | _::r=>yP r
theorem gT:∀ {m:Mem},yP m=true→xT m
 | [],_,i,o,h=>by simp at h
 | none::r,hm,i,o,h=>by
  cases i with
  | zero=>simp at h
  | succ i=>exact gT (m:=r) hm i o (by simpa using h)
 | some x::r,hm,i,o,h=>by
  cases i with
  | zero =>
   simp at h;subst h
   cases x with
   | pk=>simp [yP] at hm
   | _=>rfl
  | succ i =>
   refine gT (m:=r) ?_ i o (by simpa using h)
   cases x with
   | pk=>simp [yP] at hm
   | _=>simpa [yP] using hm
def aMd(P:Program)(T:TT)(E:Env)(fuel:Nat)(fn:Func)(c:Code)(args:List AV)(m:Mem):Ask (AV × Mem):=do
 lift (if yP m=true then some () else none)
 let r ← xR P T E m.length fuel c ⟨args++List.replicate (fn.ntmps-args.length) .any,m⟩
 match r.1 with
 | .exit _=>fail
 | _=>do
  let l ← aMc T r.2 fn.results.toList
  pure (bEc l,r.2.m)

def FMM(P:Program)(f:Nat)(args:List AV)(M:Mem)(r:AV)(M':Mem):Prop :=
 ∀ (C:Cx) (w:World) (us:List Value),cT C M w args us→aX P C M w→∀ n,CallsIn Fence.wide n P f us.toArray w (fun e w'=>∃ u,e = .returned u∧∃ C',Fr C M w C' M' w'∧aX P C' M' w'∧Rep C' M' w' r u)

def sP(P:Program)(f:Nat)(args:List AV)(M:Mem)(r:AV)(M':Mem):Prop :=
 ∀ (C:Cx) (w:World) (us:List Value),cT C M w args us→aX P C M w→∀ n,CallsIn Fence.wide n P f us.toArray w (fun e w'=>∃ u,e = .returned u∧∃ C',Fr C M w C' M' w'∧aX P C' M' w'∧Rep C' M' w' r u∧lC (C.with []) M M' C' w w')
theorem sP.fmm{f:Nat}{args:List AV}{M M':Mem}{r:AV}(h:sP P f args M r M'):FMM P f args M r M':=fun C w us hus hM n=>(h C w us hus hM n).mono fun _ w' ⟨u,q,C',h1,h2,h3,_⟩=>⟨u,q,C',h1,h2,h3⟩

theorem vK{st:St}:∀ (l:List ResultVar),bY (aMc T st l)
 | []=>aI _
 | r::l=>by
  unfold aMc;refine bE ?_ fun _=>bE (vK l) fun _=>aI _
  cases r with
  | tmp t=>exact kZ _
  | cell a t=>exact aG fun _=>zK

def yQ(tmps:Array Value):ResultVar→Sem Value
 | .tmp t=>pure (tmps.getD t undef)
 | .cell a t=>do loadVar t (← asAddr (tmps.getD a undef))

theorem aUa{t:Nat}{y x:AV}{u:Value}{s s':AS}(h:vload T M t y s=some (x,s'))(hy:Rep C M w y u):∃ p,u = .pointer (some p):=by
 unfold vload at h
 obtain ⟨i,s1,h1,k1⟩:=aC h
 split at k1
 ·rename_i id off
  obtain ⟨o,s2,h2,k2⟩:=aC k1;obtain ⟨e2,rfl⟩:=aE h2;have hl:o.live=true:=by
   cases o with
   | dead=>exact (aU k2).elim
   | _=>rfl
  obtain ⟨b,hu,_⟩:=fM hy (gR (dU e2) hl);exact ⟨_,hu⟩
 ·cases hy;exact ⟨_,rfl⟩
 ·exact (aU k1).elim

theorem aMe(hT:∀ t i,T t=some i→cM P t=some i)(hM:aX P C M w){ts:List AV}{us:Array Value}(hS:cQ C M w ts us){r:ResultVar}{x:AV}{s s':AS}(h:cCg T ⟨ts,M⟩ r s=some (x,s'))(g:bA s') :
  ∃ u,(yQ us r).run P w = .ok u w∧Rep C M w x u:=by
 cases r with
 | tmp t =>
  obtain ⟨e1,rfl⟩:=aE h;exact ⟨_,rfl,hS.at e1⟩
 | cell a t =>
  obtain ⟨y,s1,h1,k1⟩:=aC h;obtain ⟨e1,rfl⟩:=aE h1;obtain ⟨_,u,h2,h3⟩:=xJ hT hM (hS.at e1) k1 g
  refine ⟨u,?_,h3⟩;obtain ⟨p,hp⟩:=aUa k1 (hS.at e1)
  unfold Instr.loadAt at h2
  simp only [yQ];rw [hp] at h2 ⊢
  exact h2

theorem yR(hT:∀ t i,T t=some i→cM P t=some i)(hM:aX P C M w){ts:List AV}{us:Array Value}(hS:cQ C M w ts us):∀ (l:List ResultVar) {xs:List AV} {s s':AS},aMc T ⟨ts,M⟩ l s=some (xs,s')→bA s' →
  ∃ vs:List Value,(l.mapM (yQ us)).run P w = .ok vs w∧cT C M w xs vs
 | [],xs,s,s',h,g=>by
  obtain ⟨rfl,rfl⟩:=aH h;exact ⟨[],rfl,.nil⟩
 | r::l,xs,s,s',h,g=>by
  obtain ⟨x,s1,h1,k1⟩:=aC h;obtain ⟨ys,s2,h2,k2⟩:=aC k1;obtain ⟨rfl,rfl⟩:=aH k2;obtain ⟨u,e1,r1⟩:=aMe hT hM hS h1 ((vK l).good h2 g);obtain ⟨vs,e2,r2⟩:=yR hT hM hS l h2 g;refine ⟨u::vs,?_,.cons _ _ _ _ r1 r2⟩;rw [List.mapM_cons,Sem.run_bind,e1,Result.andThen_ok,Sem.run_bind,e2,Result.andThen_ok,Sem.run_pure]

theorem aHy{fn:Func}{us:Array Value}{vs:List Value}(h:(fn.results.toList.mapM (yQ us)).run P w = .ok vs w):(results fn us).run P w = .ok (if _:vs.length=1 then vs[0] else .tuple vs.toArray) w:=by
 have e:(results fn us)=(do let vs ← fn.results.mapM (yQ us);pure (if h:vs.size=1 then vs[0] else .tuple vs)):=by
  unfold results
  congr 1
 rw [e,Sem.run_bind,Array.mapM_eq_mapM_toList,Sem.run_map,h,Result.andThen_ok,Result.andThen_ok,Sem.run_pure]
 congr 1

theorem bLf{xs:List AV}{vs:List Value}(h:cT C M w xs vs):Rep C M w (bEc xs) (if _:vs.length=1 then vs[0] else .tuple vs.toArray):=by
 have hl:=h.len;cases h with
 | nil=>exact .tup [] _ rfl (fun i h=>by simp at h)
 | cons x u l k hx hr =>
  cases hr with
  | nil=>exact hx
  | cons y v l k hy hr =>
   have hne:¬ (u::v::k).length=1:=by simp
   rw [dif_neg hne];refine .tup _ _ (by simpa using hl) (fun i hi => ?_)
   have:=(cT.cons x u _ _ hx (cT.cons y v l k hy hr)).at i hi
   rwa [← cG] at this

theorem Sim.take{st:St}{a:Act}{d:Deferred}{ds:List Deferred}(h:Sim P C0 M0 w0 st a w)(hd:a.defers=d::ds):∃ D,d=mark D∧w.heap[D]? = some (.deferred (some []))∧Sim P C0 M0 w0 st { a with defers:=ds } (w.putObj D (.deferred none)):=by
 obtain ⟨C,hS,hM,hF,⟨l,h1,h2,h3⟩,hR,hP⟩:=h;rw [hd] at h1
 cases l with
 | nil=>simp at h1
 | cons D l =>
  rw [gS,List.cons.injEq] at h1
  obtain ⟨rfl,rfl⟩:=h1;obtain ⟨q1,q2,q3⟩:=h3 D (by simp)
  obtain ⟨hnd,Mi⟩:=List.nodup_cons.1 h2;have hg:=grownBy_putObj' w D (.deferred none);have hsz:(w.putObj D (.deferred none)).heap.size=w.heap.size:=by simp [World.putObj]
  have hk:∀ b,b≠D→(w.putObj D (.deferred none)).heap[b]? = w.heap[b]? := fun b hb=>by
   rcases Nat.lt_or_ge b w.heap.size with h | h
   ·exact hg.block b h (by simpa using hb)
   ·rw [Array.getElem?_eq_none h,Array.getElem?_eq_none (by omega)]
  have hlive:∀ (id:Nat) (o:AO) (b:Nat),st.m[id]? = some (some o)→o.live=true→C.ι id=some b→b≠D:=fun id o b ho hl hb e=>by
   subst e;exact aIl hM hP ho hl hb q1
  have hL:Le C C st.m st.m w (w.putObj D (.deferred none)):=⟨fun _ o h=>⟨o,h⟩,fun _ _ _ _ _ cs h=>⟨cs,h⟩,fun _ o h o' h' hl=>by rw [h] at h';cases h';exact ⟨hl,rfl,rfl⟩,fun _ h=>h,fun b hb=>hk b fun e=>q3 (e ▸ hb)⟩
  refine ⟨D,rfl,q1,C,hS.le hL,⟨fun i C6 n cs hm => ?_,fun i C6 cs hm => ?_,fun i es cl hm => ?_,hM.inj,hM.nF,fun b hb=>by rw [hsz];exact hM.Fs b hb,fun i x b hm hl hb=>by rw [hsz];exact hM.lt i x b hm hl hb,hM.lib.le hL⟩,
   ⟨hg.os.trans hF.os,hg.tape.trans hF.tape,hg.output.trans hF.out,iE hF.size hg.size,fun b hb hn=>(hk b (by omega)).trans (hF.keep b hb hn),hF.ids,hF.row,hF.liv,hF.new,hF.F1,hF.F2⟩,⟨l,rfl,Mi,fun D' Ij => ?_⟩,fun p hp => ?_,fun i tO ti sz L hm => ?_,hP.2⟩
  ·rcases hM.row _ _ _ _ hm with h4 | ⟨b,arr,inf,q0,J8,Ka,Ik,q4,q5,q6,q7,q8⟩
   ·exact .inl h4
   ·exact .inr ⟨b,arr,inf,q0,by rw [hk b (hlive _ _ _ hm rfl q0)];exact J8,Ka,Ik,q4,q5,q6,fun j hj=>(q7 j hj).mono hL.F hL.fz,q8⟩
  ·obtain ⟨b,arr,q0,J8,Ka,Ik,q4⟩:=hM.box _ _ _ hm
   exact ⟨b,arr,q0,by rw [hk b (hlive _ _ _ hm rfl q0)];exact J8,Ka,fun j hj=>(Ik j hj).mono hL,q4⟩
  ·obtain ⟨b,arr,q0,J8,Ka,Ik⟩:=hM.mp _ _ _ hm
   refine ⟨b,arr,q0,by rw [hk b (hlive _ _ _ hm rfl q0)];exact J8,Ka,fun j hj => ?_⟩
   obtain ⟨en,r1,r2,r3,r4⟩:=Ik j hj;exact ⟨en,r1,r2,r3,r4.mono hL.F hL.fz⟩
  ·obtain ⟨r1,r2,r3⟩:=h3 D' (Cn _ Ij)
   exact ⟨by rw [hk D' (fun e=>hnd (e ▸ Ij))];exact r1,r2,r3⟩
  ·obtain ⟨r1,r2,r3,r4,r5⟩:=hR p hp
   exact ⟨by rw [hk p.1 (fun e=>r3 (by rw [e,q1] at r1;exact (Option.some.inj r1).symm))];exact r1,r2,r3,r4,r5⟩
  ·obtain ⟨p,p0,p1⟩:=hP.1 _ _ _ _ _ hm
   exact ⟨p.move p.io rfl (fun _ h=>h) hL.fz fun b hb=>⟨hk b (fun e=>by
    obtain ⟨_,arr,ty,r1⟩:=p.lt hb;rw [e,q1] at r1;cases r1),p.own b hb⟩,p0,p1⟩

theorem wS(hT:∀ t i,T t=some i→cM P t=some i)(hE:oU P E)(hm:P.follows .mixedOrders=true){fuel f:Nat}{fn:Func}{c:Code}(hf:P.funcs[f]? = some fn)(hb:fn.body=some c){args:List AV}{r:AV}{M':Mem}{s s':AS}
  (h:aMd P T E fuel fn c args M s=some ((r,M'),s')) (g:bA s'):sP P f args M r M':=by
 intro C w us hus hM n;unfold aMd at h
 obtain ⟨_,s0,h0,k0⟩:=aC h;obtain ⟨e0,rfl⟩:=aE h0;have hnp:=gT (bX e0).1;obtain ⟨⟨e,st⟩,s1,h1,k1⟩:=aC k0;have hlen:=hus.len;have hS:cQ C M w (args++List.replicate (fn.ntmps-args.length) .any) (us.toArray++Array.replicate (fn.ntmps-us.toArray.size) undef):=by
  refine ⟨by simp [hlen],fun i hi => ?_⟩
  by_cases c1:i<args.length
  ·rw [xX c1,Bu,Array.getElem?_append_left (by simp;omega)]
   have:=hus.at i c1
   rwa [← cG,Bu] at this
  ·rw [aJz (by omega),List.getElem_replicate]
   exact .any _
 have hsim:Sim P (C.with []) M w ⟨args++List.replicate (fn.ntmps-args.length) .any,M⟩ { tmps:=us.toArray++Array.replicate (fn.ntmps-us.toArray.size) undef,defers:=[] } w:=⟨C,hS,hM,(Fr.refl ..).based [],.nil rfl hnp⟩
 refine callsIn_of_wp_marks hf hb trivial ?_;have fin:∀ (e':Exit) (a':Act) (w':World),(e' = .normal∨e' = .ret)→Sim P (C.with []) M w st a' w'→(∃ l s2,aMc T st fn.results.toList s1=some (l,s2)∧bA s2∧r=bEc l∧M'=st.m)→bodyPostM Fence.wide n P fn (fun e w'=>∃ u,e = .returned u∧∃ C',Fr C M w C' M' w'∧aX P C' M' w'∧Rep C' M' w' r u∧lC (C.with []) M M' C' w w') e' a' w':=by
  rintro e' a' w' he B6 ⟨l,s2,h2,g2,rfl,rfl⟩;have key:∀ (ds:List Deferred) (a':Act) (w':World),a'.defers=ds→Sim P (C.with []) M w st a' w'→LeavesInM Fence.wide n P fn a'.tmps (fun e w'=>∃ u,e = .returned u∧∃ C',Fr C M w C' st.m w'∧aX P C' st.m w'∧Rep C' st.m w' (bEc l) u∧lC (C.with []) M st.m C' w w') ds .returning w':=by
   intro ds
   induction ds with
   | nil =>
    rintro a' w' hd ⟨C',Mj,Ej,Il,_,_,Ph⟩;obtain ⟨ts,m⟩:=st;obtain ⟨vs,e2,r2⟩:=yR hT Ej Mj fn.results.toList h2 g2;exact ⟨_,aHy e2,_,rfl,C',Il.unbased,Ej,bLf r2,Ph⟩
   | cons d ds ih =>
    intro a' w' hd B6;obtain ⟨D,rfl,hD,Df⟩:=B6.take hd;exact ⟨by simp,.inl ⟨_,_,rfl,run_takeDeferred hD,ih { a' with defers:=ds } _ rfl Df⟩⟩
  rcases he with rfl | rfl
  ·exact key _ a' w' rfl B6
  ·exact key _ a' w' rfl B6
 have out:(e = .normal∨e = .ret)∧∃ l s2,aMc T st fn.results.toList s1=some (l,s2)∧bA s2∧r=bEc l∧M'=st.m:=by
  cases e with
  | exit id=>exact (aU k1).elim
  | normal =>
   obtain ⟨l,s2,h2,k2⟩:=aC k1;obtain ⟨he,rfl⟩:=aH k2;cases he;exact ⟨.inl rfl,l,_,h2,g,rfl,rfl⟩
  | ret =>
   obtain ⟨l,s2,h2,k2⟩:=aC k1;obtain ⟨he,rfl⟩:=aH k2;cases he;exact ⟨.inr rfl,l,_,h2,g,rfl,rfl⟩
 obtain ⟨he,l,s2,h2,g2,e3,e4⟩:=out;have g1:=(vK _).good h2 g2;refine wpIn_mono (yS hT hE hm c h1 g1 (C.with []) M w _ w (dD _) hsim none (.inl rfl) n) ?_
 rintro e' a' w' ⟨rfl,B6⟩;exact fin _ a' w' (by rcases he with rfl | rfl <;> simp [Ex.toExit]) B6 ⟨l,s2,h2,g2,e3,e4⟩
end
section
variable {P:Program} {T:TT} {E:Env} {C C0:Cx} {M M0:Mem} {w w0:World}

mutual
def aFd:PV→Bool
 | .v _=>true
 | .sl _ cs=>match cs with
  | []=>true
  | _=>false
 | .agg cs=>aCm cs
 | .mp _=>false
 | .rp _ _=>false
 | .fn _ _ _=>false
def aCm:List PV→Bool
 | []=>true
 | x::r=>match aFd x with
  | true=>aCm r
  | false=>false
end
mutual
def rig:AV→Bool
 | .p x=>aFd x
 | .kb _=>true
 | .any=>true
 | .yld _=>true
 | .agg cs=>aMb cs
 | .fn _ a b=>match aMb a with
  | true=>aMb b
  | false=>false
 | _=>false
def aMb:List AV→Bool
 | []=>true
 | x::r=>match rig x with
  | true=>aMb r
  | false=>false
end
mutual
def noRef:AV→Bool
 | .p _=>true
 | .kb _=>true
 | .any=>true
 | .yld _=>true
 | .rp _ _=>true
 | .agg cs=>iG cs
 | .fn _ a b=>match iG a with
  | true=>iG b
  | false=>false
 | _=>false
def iG:List AV→Bool
 | []=>true
 | x::r=>match noRef x with
  | true=>iG r
  | false=>false
end

theorem yO:∀ {l:List PV},aCm l=true→∀ i (h:i<l.length),aFd l[i]=true
 | [],_,i,h=>by simp at h
 | x::r,hr,i,h=>by
  unfold aCm at hr
  split at hr
  ·cases i with
   | zero=>assumption
   | succ i=>exact yO hr i (by simpa using h)
  ·cases hr
theorem xZ:∀ {l:List AV},aMb l=true→∀ i (h:i<l.length),rig l[i]=true
 | [],_,i,h=>by simp at h
 | x::r,hr,i,h=>by
  unfold aMb at hr
  split at hr
  ·cases i with
   | zero=>assumption
   | succ i=>exact xZ hr i (by simpa using h)
  ·cases hr
theorem mS:∀ {l:List AV},iG l=true→∀ i (h:i<l.length),noRef l[i]=true
 | [],_,i,h=>by simp at h
 | x::r,hr,i,h=>by
  unfold iG at hr
  split at hr
  ·cases i with
   | zero=>assumption
   | succ i=>exact mS hr i (by simpa using h)
  ·cases hr

theorem cS.rig{F G:Nat→Prop}{w w':World}{x:PV}{u:Value}(h:cS F w x u)(hr:aFd x=true):cS G w' x u:=by
 induction h with
 | v x=>exact .v x
 | sl n cs p cap us h1 h2 h3 _ h5 ih =>
  cases cs with
  | nil=>exact .sl n [] p cap us h1 h2 (fun i h=>by simp at h) (fun i h=>by simp at h) (fun i h=>by simp at h)
  | cons=>simp [aFd] at hr
 | agg cs vs h0 h1 _ ih =>
  have Dt:aCm cs=true:=by simpa [aFd] using hr
  exact .agg cs vs h0 h1 fun i hi=>ih i hi (yO Dt i hi)
 | mp=>simp [aFd] at hr
 | rp=>simp [aFd] at hr
 | fn=>simp [aFd] at hr

theorem Rep.rig{C C':Cx}{M M':Mem}{w w':World}{x:AV}{u:Value}(h:Rep C M w x u)(hr:rig x=true):Rep C' M' w' x u:=by
 induction h with
 | p x u h=>exact .p x u (h.rig (by simpa [KV.rig] using hr))
 | any u=>exact .any u
 | kb b=>exact .kb b
 | yld l=>exact .yld l
 | agg cs vs h0 h1 _ ih =>
  have Dt:aMb cs=true:=by simpa [KV.rig] using hr
  exact .agg cs vs h0 h1 fun i hi=>ih i hi (xZ Dt i hi)
 | fn f cs ds us vs h1 h2 _ _ Gq Gr =>
  simp only [KV.rig] at hr
  split at hr
  ·rename_i G4
   exact .fn f cs ds us vs h1 h2 (fun i hi=>Gq i hi (xZ G4 i hi)) (fun i hi=>Gr i hi (xZ hr i hi))
  ·cases hr
 | _=>simp [KV.rig] at hr

theorem Rep.noRef{C C':Cx}{M M':Mem}{w w':World}{x:AV}{u:Value}(h:Rep C M w x u)(hr:noRef x=true)(hF:∀ b,C.F b→C'.F b)(hz:∀ b,C.F b→w'.heap[b]? = w.heap[b]?):Rep C' M' w' x u:=by
 induction h with
 | p x u h=>exact .p x u (h.mono hF hz)
 | any u=>exact .any u
 | kb b=>exact .kb b
 | yld l=>exact .yld l
 | rp cs off b o us h1 h2 h3=>exact .rp cs off b o us (fun i hi=>⟨hF _ (h1 i hi).1,(gY (hz _ (h1 i hi).1) _).trans (h1 i hi).2⟩) (fun i hi=>(h2 i hi).mono hF hz) h3
 | agg cs vs h0 h1 _ ih =>
  have Dt:iG cs=true:=by simpa [KV.noRef] using hr
  exact .agg cs vs h0 h1 fun i hi=>ih i hi (mS Dt i hi)
 | fn f cs ds us vs h1 h2 _ _ Gq Gr =>
  simp only [KV.noRef] at hr
  split at hr
  ·rename_i G4
   exact .fn f cs ds us vs h1 h2 (fun i hi=>Gq i hi (mS G4 i hi)) (fun i hi=>Gr i hi (mS hr i hi))
  ·cases hr
 | _=>simp [KV.noRef] at hr

def Cx.bare(C:Cx)(G:Nat→Prop):Cx:={ ι:=fun _=>none,κ:=C.κ,F:=G }

section
variable {G:Nat→Prop} (hM:aX P C M w) (hG:∀ b,C.F b→G b) (hO:∀ (id:Nat) (o:AO) (b:Nat),M[id]? = some (some o)→o.live=true→C.ι id=some b→G b)
include hM hG hO

theorem wQ{x:AV}{u:Value}{y:PV}(h:Rep C M w x u)(hv:Dx M x=some y):cS G w y u:=by
 unfold Dx at hv
 split at hv
 ·cases hv;cases h with | p _ _ h=>exact h.mono hG (fun _ _=>rfl)
 ·cases hv;cases h;exact .v _
 ·split at hv
  ·rename_i id _ r hr
   cases hv;have ho:=dG hr;refine (tB hM ho h).mono (fun b hb => ?_) (fun _ _=>rfl)
   rcases hb with hb | ⟨_,hb⟩
   ·exact hG b hb
   ·exact hO _ _ b ho rfl hb
  ·cases hv
 ·cases hv
  cases h with
  | fn _ _ _ us vs h1 h2 _ _=>exact .fn _ [] [] us vs h1 h2 (fun i hi=>by simp at hi) (fun i hi=>by simp at hi)
 ·cases hv

theorem wR:∀ {l:List AV} {us:Nat→Value} {ys:List PV},(∀ i (h:i<l.length),Rep C M w l[i] (us i))→zO M l=some ys→ys.length=l.length∧∀ i (h:i<ys.length),cS G w ys[i] (us i)
 | [],_,ys,_,hv=>by cases hv;exact ⟨rfl,fun i h=>by simp at h⟩
 | x::r,us,ys,h,hv=>by
  unfold zO at hv
  split at hv
  ·rename_i y h1
   split at hv
   ·rename_i l h2
    cases hv;obtain ⟨q1,q2⟩:=wR (us:=fun i=>us (i+1)) (fun i hi=>h (i+1) (by simpa using hi)) h2
    refine ⟨by simp [q1],fun i hi => ?_⟩
    cases i with
    | zero=>exact wQ hM hG hO (h 0 (by simp)) h1
    | succ i=>exact q2 i (by simpa using hi)
   ·cases hv
  ·cases hv

set_option linter.unusedSectionVars false in
mutual
theorem sO:∀ {x:AV} {u:Value} {y:AV},Rep C M w x u→view M x=some y→Rep (C.bare G) [] w y u
 | .p x,u,y,h,hv=>by
  simp only [view] at hv
  cases hv;cases h with | p _ _ h=>exact .p _ _ (h.mono hG (fun _ _=>rfl))
 | .kb b,u,y,h,hv=>by simp only [view] at hv;cases hv;cases h;exact .kb _
 | .any,u,y,h,hv=>by simp only [view] at hv;cases hv;exact .any _
 | .yld l,u,y,h,hv=>by simp only [view] at hv;cases hv;cases h;exact .yld _
 | .own id,u,y,h,hv=>by
  simp only [view] at hv
  split at hv
  ·rename_i r hr
   cases hv;exact .p _ _ (wQ hM hG hO h (by simp only [Dx,hr]))
  ·cases hv
 | .rp cs off,u,y,h,hv=>by
  simp only [view] at hv
  cases hv;cases h with
  | rp _ _ b o us h1 h2 h3=>exact .rp cs off b o us (fun i hi=>⟨hG _ (h1 i hi).1,(h1 i hi).2⟩) (fun i hi=>(h2 i hi).mono hG (fun _ _=>rfl)) h3
 | .ptr id off,u,y,h,hv=>by
  simp only [view] at hv
  split at hv
  ·rename_i ty n cs ho
   cases hv;have ho:=dU ho;obtain ⟨b,rfl,hb⟩:=fM h (gR ho rfl)
   rcases hM.row _ _ _ _ ho with ⟨hn,_⟩ | ⟨b',arr,inf,Aq,q1,q2,q3,q4,q5,q6,q7,q8⟩
   ·rw [hb] at hn;cases hn
   ·rw [hb] at Aq;cases Aq
    have hle:cs.length≤arr.size:=by rw [q3,q4];exact Nat.mul_le_mul_right _ q5
    have:=Rep.rp (C:=C.bare G) (M:=[]) (w:=w) cs off b 0 (fun j=>arr.getD j undef) (fun i hi=>⟨hO _ _ b ho rfl hb,by rw [iP];exact cW q1 (by omega)⟩) (fun i hi=>(q7 i hi).mono hG (fun _ _=>rfl)) q8
    rwa [iP] at this
  ·rename_i ty cs ho
   have ho:=dU ho
   split at hv
   ·rename_i xs hx
    cases hv;obtain ⟨b,rfl,hb⟩:=fM h (gR ho rfl);obtain ⟨b',arr,Aq,q1,q2,q3,q4⟩:=hM.box _ _ _ ho;rw [hb] at Aq;cases Aq
    obtain ⟨r1,r2⟩:=wR hM hG hO (us:=fun j=>arr.getD j undef) q3 hx
    have:=Rep.rp (C:=C.bare G) (M:=[]) (w:=w) xs off b 0 (fun j=>arr.getD j undef) (fun i hi=>⟨hO _ _ b ho rfl hb,by rw [iP];exact cW q1 (by omega)⟩) r2 (fun i hi=>q4 i (by omega))
    rwa [iP] at this
   ·cases hv
  ·cases hv
 | .agg cs,u,y,h,hv=>by
  simp only [view] at hv
  split at hv
  ·rename_i xs hx
   cases hv;cases h with
   | agg _ vs h0 h1 h2 =>
    obtain ⟨q1,q2⟩:=jQ (us:=fun i=>vs.getD i undef) h2 hx
    exact jS (fun i hi=>h0 i (by omega)) (by omega) q2
  ·cases hv
 | .fn f a b,u,y,h,hv=>by
  simp only [view] at hv
  split at hv
  ·rename_i a' ha
   split at hv
   ·rename_i b' hb
    cases hv;cases h with
    | fn _ _ _ us vs h1 h2 h3 h4 =>
     obtain ⟨q1,q2⟩:=jQ (us:=fun i=>us.getD i undef) h3 ha
     obtain ⟨r1,r2⟩:=jQ (us:=fun i=>vs.getD i undef) h4 hb
     exact .fn f a' b' us vs (by omega) (by omega) q2 r2
   ·cases hv
  ·cases hv
 | .arr id off n,u,y,h,hv=>by
  simp only [view] at hv
  split at hv
  ·rename_i r hr
   cases hv;have ho:=dG hr;cases h with
   | arr _ _ _ u h0 ha hrow =>
    rcases hrow _ ho rfl with ⟨rfl,p,cap,rfl,hc⟩ | ⟨b,cap,rfl,hn,hc,hb⟩
    ·rw [Nat.zero_mul,List.take_zero]
     exact .p _ _ (.sl 0 [] p cap (fun _=>undef) (Nat.zero_le _) hc (fun i h=>by simp at h) (fun i h=>by simp at h) (fun i h=>by simp at h))
    ·rcases hM.row _ _ _ _ ho with ⟨Gw,_⟩ | ⟨b',arr,inf,Aq,q1,q2,q3,q4,q5,q6,q7,q8⟩
     ·rw [hb] at Gw;cases Gw
     ·rw [hb] at Aq;cases Aq
      have hle:r.2.2.length≤arr.size:=by rw [q3,q4];exact Nat.mul_le_mul_right _ q5
      have hlt:∀ i,i<((r.2.2.drop off).take (n*(r.2.2.length / r.2.1))).length→off+i<r.2.2.length:=fun i hi=>by simp at hi;omega
      refine .p _ _ (.sl n _ _ cap (fun j=>arr.getD (off+j) undef) hn hc (fun i hi=>⟨b,off,rfl,hO _ _ b ho rfl hb,cW q1 (by have:=hlt i hi;omega)⟩) (fun i hi => ?_) (fun i hi=>q8 _ (hlt i hi)))
      simp only [List.getElem_take,List.getElem_drop];exact (q7 _ (hlt i hi)).mono hG (fun _ _=>rfl)
  ·cases hv
 | .tup _,_,_,_,hv=>by simp [view] at hv
 | .mp _,_,_,_,hv=>by simp [view] at hv
 | .pa _ _,_,_,_,hv=>by simp [view] at hv
theorem jQ:∀ {l:List AV} {us:Nat→Value} {ys:List AV},(∀ i (h:i<l.length),Rep C M w l[i] (us i))→lQ M l=some ys→ys.length=l.length∧∀ i (h:i<ys.length),Rep (C.bare G) [] w ys[i] (us i)
 | [],_,ys,_,hv=>by simp only [lQ] at hv;cases hv;exact ⟨rfl,fun i h=>by simp at h⟩
 | x::r,us,ys,h,hv=>by
  simp only [lQ] at hv
  split at hv
  ·rename_i y h1
   split at hv
   ·rename_i l h2
    cases hv;obtain ⟨q1,q2⟩:=jQ (us:=fun i=>us (i+1)) (fun i hi=>h (i+1) (by simpa using hi)) h2
    refine ⟨by simp [q1],fun i hi => ?_⟩
    cases i with
    | zero=>exact sO (h 0 (by simp)) h1
    | succ i=>exact q2 i (by simpa using hi)
   ·cases hv
  ·cases hv
end
end
end
section
variable {P:Program} {T:TT} {E:Env} {C C':Cx} {M M1:Mem} {w w':World}

def Cx.after(C:Cx)(w w':World)(kb:Option Nat):Cx:={ ι:=C.ι,κ:=C.κ,F:=fun b=>C.F b∨(w.heap.size≤b∧b<w'.heap.size∧kb≠some b) }

theorem pJ(hM:aX P C M w){kb:Option Nat}(ho:w'.os=w.os)(ht:w'.tape=w.tape)(hu:w'.output=w.output)(hs:w.heap.size≤w'.heap.size)(hk:∀ b,b<w.heap.size→w'.heap[b]? = w.heap[b]?):Fr C M w (C.after w w' kb) M w'∧aX P (C.after w w' kb) M w':=by
 have hf:Fr C M w (C.after w w' kb) M w':=⟨ho,ht,hu,hs,fun b hb _=>hk b hb,fun _ x h=>⟨⟨x,h⟩,rfl,rfl⟩,fun _ _ _ _ _ cs h=>⟨cs,h⟩,fun _ o h o' h' hl=>by rw [h] at h';cases h';exact hl,
  fun i x _ h hl hb => .inr ⟨i,x,h,hl,hb⟩,fun _ h => .inl h,fun b h=>by rcases h with h | ⟨h,_⟩;exact .inl h;exact .inr (.inl h)⟩
 have hL:=hM.le hf;refine ⟨hf,fun i C6 n cs hm => ?_,fun i C6 cs hm => ?_,fun i es cl hm => ?_,hM.inj,fun i x b hm hl hb => ?_,fun b hb => ?_,fun i x b hm hl hb=>uQ (hM.lt i x b hm hl hb) hs,hM.lib.le hL⟩
 ·rcases hM.row _ _ _ _ hm with h4 | ⟨b,arr,inf,q0,q1,q2,q3,q4,q5,q6,q7,q8⟩
  ·exact .inl h4
  ·exact .inr ⟨b,arr,inf,q0,(hk b (hM.lt _ _ _ hm rfl q0)).trans q1,q2,q3,q4,q5,q6,fun j hj=>(q7 j hj).mono hL.F hL.fz,q8⟩
 ·obtain ⟨b,arr,q0,q1,q2,q3,q4⟩:=hM.box _ _ _ hm
  exact ⟨b,arr,q0,(hk b (hM.lt _ _ _ hm rfl q0)).trans q1,q2,fun j hj=>(q3 j hj).mono hL,q4⟩
 ·obtain ⟨b,arr,q0,q1,q2,q3⟩:=hM.mp _ _ _ hm
  refine ⟨b,arr,q0,(hk b (hM.lt _ _ _ hm rfl q0)).trans q1,q2,fun j hj => ?_⟩
  obtain ⟨en,r1,r2,r3,r4⟩:=q3 j hj;exact ⟨en,r1,r2,r3,r4.mono hL.F hL.fz⟩
 ·rintro (h | ⟨h,_⟩)
  ·exact hM.nF i x b hm hl hb h
  ·have:=hM.lt i x b hm hl hb
   omega
 ·rcases hb with h | ⟨_,h,_⟩
  ·exact uQ (hM.Fs b h) hs
  ·exact h

theorem bEb{C1:Cx}(hM:aX P C1 M w'){base b k ty n:Nat}{cs:List PV}(hf:xW M base)(hnF:¬ C1.F b)(hold:∀ (i:Nat) (x:AO) (j:Nat),M[i]? = some (some x)→x.live=true→C1.ι i=some j→j<b)(hb:b<w'.heap.size)
  (hrow:∃ arr i,w'.heap[b]? = some (.cells arr ty (0,0))∧P.info? ty=some i∧arr.size=k*i.size∧cs.length=n*i.size∧n≤k∧k≤maxLen∧(∀ j (h:j<cs.length),cS C1.F w' cs[j] (arr.getD j undef))∧∀ j,j<cs.length→(arr.getD j undef).oneCell'=true) :
  aX P (C1.grow base b k) (aZ M base (some (.row ty n cs))) w'∧Le C1 (C1.grow base b k) M (aZ M base (some (.row ty n cs))) w' w':=by
 have hne:∀ (i:Nat) (x:AO),M[i]? = some (some x)→i≠base:=fun i x h e=>hf x (e ▸ h)
 have hL:Le C1 (C1.grow base b k) M (aZ M base (some (.row ty n cs))) w' w':=by
  refine ⟨fun i x h=>⟨x,(aP M base i _ x (fun e=>hne i x h e.symm)).2 h⟩,fun i x h ty n cs hm=>⟨cs,(aP M base i _ _ (fun e=>hne i x h e.symm)).1 hm⟩,fun i x h o' hm hl => ?_,fun _ h=>h,fun _ _=>rfl⟩
  have h4:=(aP M base i _ _ (fun e=>hne i x h e.symm)).1 hm
  rw [h] at h4;cases h4
  exact ⟨hl,by simp [Cx.grow,hne i x h],by simp [Cx.grow,hne i x h]⟩
 have C9:∀ (i:Nat) (x:AO),i≠base→(aZ M base (some (.row ty n cs)))[i]? = some (some x)→M[i]? = some (some x):=fun i x h=>(aP M base i _ x (fun e=>h e.symm)).1
 have hnew:∀ (x:AO),(aZ M base (some (.row ty n cs)))[base]? = some (some x)→x = .row ty n cs:=fun x h=>by rw [aY] at h;cases h;rfl
 have hι:∀ i,i≠base→(C1.grow base b k).ι i=C1.ι i:=fun i h=>by simp [Cx.grow,h]
 have hκ:∀ i,i≠base→(C1.grow base b k).κ i=C1.κ i:=fun i h=>by simp [Cx.grow,h]
 have hιs:(C1.grow base b k).ι base=some b:=by simp [Cx.grow]
 have hκs:(C1.grow base b k).κ base=k:=by simp [Cx.grow]
 refine ⟨⟨fun i C6 n' Bg hm => ?_,fun i C6 Bg hm => ?_,fun i es cl hm => ?_,fun i i' o1 o2 j hm hl Cq De Cr Gv => ?_,fun i x j hm hl hj => ?_,fun j hj=>hM.Fs j hj,fun i x j hm hl hj => ?_,hM.lib.le hL⟩,hL⟩
 ·by_cases e:i=base
  ·subst e
   cases hnew _ hm;obtain ⟨arr,inf,q0,q1,q2,q3,q4,q5,q6,q7⟩:=hrow;exact .inr ⟨b,arr,inf,hιs,q0,q1,by rw [hκs];exact q2,q3,by rw [hκs];exact q4,by rw [hκs];exact q5,q6,q7⟩
  ·rw [hι i e,hκ i e]
   rcases hM.row _ _ _ _ (C9 i _ e hm) with h4 | ⟨j,arr,inf,q0,q1,q2,q3,q4,q5,q6,q7,q8⟩
   ·exact .inl h4
   ·exact .inr ⟨j,arr,inf,q0,q1,q2,q3,q4,q5,q6,q7,q8⟩
 ·by_cases e:i=base
  ·subst e;cases hnew _ hm
  ·rw [hι i e]
   obtain ⟨j,arr,q0,q1,q2,q3,q4⟩:=hM.box _ _ _ (C9 i _ e hm);exact ⟨j,arr,q0,q1,q2,fun j hj=>(q3 j hj).mono hL,q4⟩
 ·by_cases e:i=base
  ·subst e;cases hnew _ hm
  ·rw [hι i e]
   obtain ⟨j,arr,q0,q1,q2,q3⟩:=hM.mp _ _ _ (C9 i _ e hm);refine ⟨j,arr,q0,q1,q2,fun j hj => ?_⟩
   obtain ⟨en,r1,r2,r3,r4⟩:=q3 j hj;exact ⟨en,r1,r2,r3,r4.mono hL.F hL.fz⟩
 ·by_cases e:i=base
  ·by_cases e':i'=base
   ·rw [e,e']
   ·subst e
    rw [hιs] at Cr;cases Cr
    rw [hι i' e'] at Gv
    have:=hold i' _ _ (C9 i' _ e' Cq) De Gv;omega
  ·by_cases e':i'=base
   ·subst e'
    rw [hιs] at Gv;cases Gv
    rw [hι i e] at Cr
    have:=hold i _ _ (C9 i _ e hm) hl Cr;omega
   ·rw [hι i e] at Cr;rw [hι i' e'] at Gv
    exact hM.inj _ _ _ _ _ (C9 i _ e hm) hl (C9 i' _ e' Cq) De Cr Gv
 ·by_cases e:i=base
  ·subst e;rw [hιs] at hj;cases hj;exact hnF
  ·rw [hι i e] at hj;exact hM.nF _ _ _ (C9 i _ e hm) hl hj
 ·by_cases e:i=base
  ·subst e;rw [hιs] at hj;cases hj;exact hb
  ·rw [hι i e] at hj;exact hM.lt _ _ _ (C9 i _ e hm) hl hj
end
section
variable {P:Program} {T:TT} {E:Env} {C C':Cx} {M M1:Mem} {w w':World}

def aQp:List AV→Option Nat
 | []=>none
 | .own id::_=>some id
 | _::r=>aQp r
def bSo:AV→Option Nat
 | .own id=>some id
 | .tup l=>aQp l
 | _=>none
def bEa(m:Mem)(base k:Nat)(x:AV):Option AV:=match x with
 | .own id=>match Nat.beq id k with
  | true=>some (.own base)
  | false=>view m (.own id)
 | x=>view m x
def aQq(m:Mem)(base k:Nat):List AV→Option (List AV)
 | []=>some []
 | x::r=>match bEa m base k x with
  | some y=>match aQq m base k r with
   | some l=>some (y::l)
   | none=>none
  | none=>none
def bLe(m:Mem)(base k:Nat):AV→Option AV
 | .tup l=>match aQq m base k l with
  | some ys=>some (.tup ys)
  | none=>none
 | x=>bEa m base k x
def aTw(m:Mem)(base:Nat)(r:AV):Option (AV × Upd):=match bSo r with
 | some k=>match eZ m k with
  | some q=>match bLe (upds m [(k,.dead)]) base k r with
   | some y=>some (y,[(base,.row q.1 q.2.1 q.2.2)])
   | none=>none
  | none=>none
 | none=>match bLe m base m.length r with
  | some y=>some (y,[])
  | none=>none

def aTx:AV→Bool
 | .own _=>true
 | x=>rig x
def yM:List AV→Bool
 | []=>true
 | x::r=>match aTx x with
  | true=>yM r
  | false=>false
def aTy:AV→Bool
 | .tup l=>yM l
 | x=>aTx x
def aTz:Upd→Bool
 | []=>true
 | (_,.row _ _ cs)::r=>match aCm cs with
  | true=>aTz r
  | false=>false
 | _=>false
theorem aHv:∀ {l:List AV},yM l=true→∀ i (h:i<l.length),aTx l[i]=true
 | [],_,i,h=>by simp at h
 | x::r,hr,i,h=>by
  unfold yM at hr
  split at hr
  ·cases i with
   | zero=>assumption
   | succ i=>exact aHv hr i (by simpa using h)
  ·cases hr

theorem aHw{cs l:List AV}(h:iO cs = .tup l):False:=by
 unfold iO at h;split at h <;> cases h
theorem aHx{m:Mem}{x:AV}{l:List AV}(h:view m x=some (.tup l)):False:=by
 cases x with
 | agg cs =>
  simp only [view] at h
  split at h
  ·injection h with h;exact aHw h
  ·cases h
 | fn f a b =>
  simp only [view] at h
  split at h
  ·split at h <;> cases h
  ·cases h
 | ptr id off =>
  simp only [view] at h
  split at h
  ·cases h
  ·split at h <;> cases h
  ·cases h
 | own id=>simp only [view] at h;split at h <;> cases h
 | arr id off n=>simp only [view] at h;split at h <;> cases h
 | _=>simp [view] at h

theorem yN{C2:Cx}{M2 m:Mem}{Ck:Cx}{base k:Nat}{A:Prop}(hM:aX P Ck m w')
  (hA:A→(∀ b,Ck.F b→C2.F b)∧∀ (id:Nat) (o:AO) (b:Nat),m[id]? = some (some o)→o.live=true→Ck.ι id=some b→C2.F b)
  (hk:∀ u,Rep C' M1 w' (.own k) u→Rep C2 M2 w' (.own base) u) (hL:Le C' Ck M1 m w' w') {x y:AV} {u:Value} (h:Rep C' M1 w' x u) (hx:bEa m base k x=some y) (hr:A∨aTx y=true):Rep C2 M2 w' y u:=by
 have sv:∀ {x y:AV} {u:Value},Rep C' M1 w' x u→view m x=some y→(A∨aTx y=true)→Rep C2 M2 w' y u:=fun {x y u} h hv hr=>by
  rcases hr with hr | hr
  ·obtain ⟨h1,h2⟩:=hA hr
   have:=sO hM h1 h2 (h.mono hL) hv;have hle:Le (Ck.bare C2.F) C2 [] M2 w' w':=⟨fun _ _ h=>by simp at h,fun _ _ h=>by simp at h,fun _ _ h=>by simp at h,fun _ h=>h,fun _ _=>rfl⟩
   exact this.mono hle
  ·have:=sO (G:=fun b=>Ck.F b∨∃ (id:Nat) (o:AO),m[id]? = some (some o)∧o.live=true∧Ck.ι id=some b) hM (fun _ h => .inl h) (fun id o b h1 h2 h3 => .inr ⟨id,o,h1,h2,h3⟩) (h.mono hL) hv
   cases y with
   | own id=>cases this with | own _ _ _ ha _=>obtain ⟨o,ho⟩:=ha;simp at ho
   | _=>exact this.rig hr
 unfold bEa at hx
 split at hx
 ·rename_i id
  split at hx
  ·rename_i hb
   cases hx;have:=Nat.eq_of_beq_eq_true hb;subst this;exact hk u h
  ·exact sv h hx hr
 ·exact sv h hx hr

theorem wP{C2:Cx}{M2 m:Mem}{Ck:Cx}{base k:Nat}{A:Prop}(hM:aX P Ck m w')
  (hA:A→(∀ b,Ck.F b→C2.F b)∧∀ (id:Nat) (o:AO) (b:Nat),m[id]? = some (some o)→o.live=true→Ck.ι id=some b→C2.F b)
  (hk:∀ u,Rep C' M1 w' (.own k) u→Rep C2 M2 w' (.own base) u) (hL:Le C' Ck M1 m w' w'):∀ {l ys:List AV} {us:Nat→Value},(∀ i (h:i<l.length),Rep C' M1 w' l[i] (us i))→aQq m base k l=some ys→(A∨yM ys=true) →
   ys.length=l.length∧∀ i (h:i<ys.length),Rep C2 M2 w' ys[i] (us i)
 | [],ys,us,_,hx,_=>by cases hx;exact ⟨rfl,fun i h=>by simp at h⟩
 | x::r,ys,us,h,hx,hr=>by
  unfold aQq at hx
  split at hx
  ·rename_i y h1
   split at hx
   ·rename_i l h2
    cases hx;have G4:A∨aTx y=true:=hr.imp id fun hr=>aHv (l:=y::l) hr 0 (by simp)
    have Dm:A∨yM l=true:=hr.imp id fun hr=>by
     unfold yM at hr
     split at hr
     ·exact hr
     ·cases hr
    obtain ⟨q1,q2⟩:=wP hM hA hk hL (us:=fun i=>us (i+1)) (fun i hi=>h (i+1) (by simpa using hi)) h2 Dm
    refine ⟨by simp [q1],fun i hi => ?_⟩
    cases i with
    | zero=>exact yN hM hA hk hL (h 0 (by simp)) h1 G4
    | succ i=>exact q2 i (by simpa using hi)
   ·cases hx
  ·cases hx

theorem sN{C2:Cx}{M2 m:Mem}{Ck:Cx}{base k:Nat}{A:Prop}(hM:aX P Ck m w')
  (hA:A→(∀ b,Ck.F b→C2.F b)∧∀ (id:Nat) (o:AO) (b:Nat),m[id]? = some (some o)→o.live=true→Ck.ι id=some b→C2.F b)
  (hk:∀ u,Rep C' M1 w' (.own k) u→Rep C2 M2 w' (.own base) u) (hL:Le C' Ck M1 m w' w') {x y:AV} {u:Value} (h:Rep C' M1 w' x u) (hx:bLe m base k x=some y) (hr:A∨aTy y=true):Rep C2 M2 w' y u:=by
 unfold bLe at hx
 split at hx
 ·rename_i l
  split at hx
  ·rename_i ys hy
   cases hx;cases h with
   | tup _ vs h1 h2 =>
    obtain ⟨q1,q2⟩:=wP hM hA hk hL (us:=fun i=>vs.getD i undef) h2 hy hr
    exact .tup _ _ (by omega) q2
  ·cases hx
 ·rename_i hn
  refine yN hM hA hk hL h hx (hr.imp id fun hr => ?_)
  unfold aTy at hr
  split at hr
  ·exfalso
   unfold bEa at hx
   split at hx
   ·split at hx
    ·cases hx
    ·exact aHx hx
   ·exact aHx hx
  ·exact hr

theorem vJ{f:Nat}{args Am:List AV}{r y:AV}{L:Upd}{base:Nat}(hm:iG args=true∧Am=args∨lQ M args=some Am∧aTy y=true∧aTz L=true)(hb:fG M base=true)
  (ho:aTw M1 base r=some (y,L)) (h:FMM P f Am [] r M1):FM P f args M y L:=by
 intro C w us hus hM n;obtain ⟨G,hG,hGs,hA,Mh⟩:∃ G:Nat→Prop,(∀ b,C.F b→G b)∧(∀ b,G b→b<w.heap.size)∧((∀ b,G b→C.F b)∨aTy y=true∧aTz L=true)∧cT (C.bare G) [] w Am us:=by
  rcases hm with ⟨hn,rfl⟩ | ⟨hv,G4,Dm⟩
  ·refine ⟨C.F,fun _ h=>h,hM.Fs,.inl fun _ h=>h,?_⟩
   have:∀ {l:List AV} {us:List Value},iG l=true→cT C M w l us→cT (C.bare C.F) [] w l us:=by
    intro l
    induction l with
    | nil=>intro us _ h;cases h;exact .nil
    | cons x l ih =>
     intro us hn h;cases h with
     | cons _ u _ k hx hr =>
      have h0:=mS hn 0 (by simp)
      unfold iG at hn
      split at hn
      ·exact .cons _ _ _ _ (hx.noRef h0 (fun _ h=>h) (fun _ _=>rfl)) (ih hn hr)
      ·cases hn
   exact this hn hus
  ·refine ⟨fun b=>C.F b∨∃ (id:Nat) (o:AO),M[id]? = some (some o)∧o.live=true∧C.ι id=some b,fun _ h => .inl h,fun b h => ?_,.inr ⟨G4,Dm⟩,?_⟩
   ·rcases h with h | ⟨id,o,h1,h2,h3⟩
    ·exact hM.Fs b h
    ·exact hM.lt id o b h1 h2 h3
   ·obtain ⟨q1,q2⟩:=jQ (G:=fun b=>C.F b∨∃ (id:Nat) (o:AO),M[id]? = some (some o)∧o.live=true∧C.ι id=some b) hM (fun _ h => .inl h) (fun id o b h1 h2 h3 => .inr ⟨id,o,h1,h2,h3⟩) (us:=fun i=>us.getD i undef) (fun i hi=>hus.at i hi) hv
    have:=cT.ofArr (l:=Am) (us:=us.toArray) (by simp [hus.len,q1]) (fun i hi=>by rw [cG];exact q2 i hi)
    exact this
 have H4:aX P (C.bare G) [] w:=⟨fun _ _ _ _ h=>by simp at h,fun _ _ _ h=>by simp at h,fun _ _ _ h=>by simp at h,fun _ _ _ _ _ h=>by simp at h,fun _ _ _ h=>by simp at h,hGs,fun _ _ _ h=>by simp at h,hM.lib.mono hG fun _ _=>rfl⟩
 refine (h (C.bare G) w us Mh H4 n).mono ?_;rintro e w' ⟨u,rfl,C',hF,Bp,hr⟩;refine ⟨u,rfl,?_⟩;have hkeep:∀ b,b<w.heap.size→w'.heap[b]? = w.heap[b]? := fun b hb=>hF.keep b hb (fun id o h=>by simp at h)
 have hnew:∀ (id:Nat) (o:AO) (b:Nat),M1[id]? = some (some o)→o.live=true→C'.ι id=some b→w.heap.size≤b:=fun id o b h1 h2 h3=>by
  rcases hF.new id o b h1 h2 h3 with h4 | ⟨_,_,h4,_⟩
  ·exact h4
  ·simp at h4
 have Ev:∀ b,C'.F b→G b∨w.heap.size≤b:=fun b hb=>by
  rcases hF.F2 b hb with h4 | h4 | ⟨_,_,h4,_⟩
  ·exact .inl h4
  ·exact .inr h4
  ·simp at h4
 have hfree:=cV hb;unfold aTw at ho
 split at ho
 ·rename_i k hk
  split at ho
  ·rename_i q hq
   split at ho
   ·rename_i y' hy
    cases ho;have hok:=dG hq;have hmk:=lE Bp (id:=k) false hok rfl;have hlk:=Bp.le (cU (C:=C') (w:=w') (id:=k) false hok rfl);obtain ⟨f1,m1⟩:=pJ (C:=C) (M:=M) (w:=w) (w':=w') (kb:=C'.ι k) hM hF.os hF.tape hF.out hF.size hkeep;have hAA:(∀ b,G b→C.F b)→(∀ b,(C'.close k false).F b→(C.after w w' (C'.ι k)).F b)∧∀ (id:Nat) (o:AO) (b:Nat),(upds M1 [(k,.dead)])[id]? = some (some o)→o.live=true→(C'.close k false).ι id=some b→(C.after w w' (C'.ι k)).F b:=by
     intro hGC;refine ⟨fun b hb => ?_,fun id o b h1 h2 h3 => ?_⟩
     ·have Aq:C'.F b:=by rcases hb with hb | ⟨hb,_⟩;exact hb;cases hb
      rcases Ev b Aq with h4 | h4
      ·exact .inl (hGC b h4)
      ·exact .inr ⟨h4,Bp.Fs b Aq,fun e=>Bp.nF _ _ _ hok rfl e Aq⟩
     ·simp only [upds] at h1
      have hne:k≠id:=fun e=>by subst e;rw [aY] at h1;cases h1;cases h2
      have G5:=(aP M1 k id _ _ hne).1 h1;exact .inr ⟨hnew id o b G5 h2 h3,Bp.lt id o b G5 h2 h3,fun e=>hne (Bp.inj _ _ _ _ _ hok rfl G5 h2 e h3)⟩
    cases hkb:C'.ι k with
    | none =>
     rw [hkb] at hAA f1 m1
     obtain ⟨hz,hcs⟩:q.2.1=0∧q.2.2=[]:=by
      rcases Bp.row _ _ _ _ hok with ⟨_,hz,hcs⟩ | ⟨b,_,_,hb,_⟩
      ·exact ⟨hz,hcs⟩
      ·rw [hkb] at hb;cases hb
     rw [hz,hcs];have m2:=uH (ty:=q.1) m1 hfree;have f2:=uG (ty:=q.1) (C:=C.after w w' none) (w:=w') hfree;have hle:=m1.le f2;refine ⟨_,f1.trans f2,m2,?_⟩;refine sN (C2:=(C.after w w' none).nil base) (M2:=upds M [(base,.row q.1 0 [])]) (A:=∀ b,G b→C.F b) hmk (fun h=>⟨fun b hb=>(hAA h).1 b hb,fun id o b h1 h2 h3=>(hAA h).2 id o b h1 h2 h3⟩) (fun v hv => ?_) hlk hr hy (hA.imp id (·.1))
     cases hv with
     | own _ _ h0 ha hrow =>
      rcases hrow _ _ _ hok with ⟨rfl,_,_⟩ | ⟨b,_,hb⟩
      ·exact .own base _ rfl ⟨_,aY ..⟩ (fun ty n cs h=>by simp only [upds] at h;rw [aY] at h;cases h;exact .inl ⟨rfl,by simp [Cx.nil],rfl⟩)
      ·rw [hkb] at hb;cases hb
    | some b =>
     rw [hkb] at hAA f1 m1
     rcases Bp.row _ _ _ _ hok with ⟨hn,_⟩ | ⟨b',arr,inf,Aq,q1,q2,q3,q4,q5,q6,q7,q8⟩
     ·rw [hkb] at hn;cases hn
     rw [hkb] at Aq;cases Aq
     have hbn:=hnew k _ b hok rfl hkb;have hbl:=Bp.lt k _ b hok rfl hkb;have hcell:∀ j (h:j<q.2.2.length),cS (C.after w w' (some b)).F w' q.2.2[j] (arr.getD j undef):=fun j hj=>by
      rcases hA with hGC | ⟨_,Dm⟩
      ·exact (q7 j hj).mono (fun b hb=>(hAA hGC).1 b (.inl hb)) (fun _ _=>rfl)
      ·simp only [aTz] at Dm
       split at Dm
       ·rename_i hcs
        exact (q7 j hj).rig (yO hcs j hj)
       ·cases Dm
     obtain ⟨m2,Bl⟩:=bEb (base:=base) (b:=b) (k:=C'.κ k) (ty:=q.1) (n:=q.2.1) (cs:=q.2.2) m1 hfree (fun hF=>by
      rcases hF with hF | ⟨_,_,hF⟩
      ·have:=hM.Fs b hF;omega
      ·exact hF rfl) (fun i x j h1 h2 h3=>by have:=hM.lt i x j h1 h2 h3;omega) hbl ⟨arr,inf,q1,q2,q3,q4,q5,q6,hcell,q8⟩
     refine ⟨_,?_,m2,?_⟩
     ·have hne:∀ (i:Nat) (x:AO),M[i]? = some (some x)→i≠base:=fun i x h e=>hfree x (e ▸ h)
      refine ⟨f1.os,f1.tape,f1.out,f1.size,f1.keep,fun i x h=>⟨Bl.ids i x h,by simp [Cx.grow,Cx.after,hne i x h],by simp [Cx.grow,Cx.after,hne i x h]⟩,Bl.row,fun i x h o' h1 h2=>(Bl.liv i x h o' h1 h2).1,fun i x j h1 h2 h3 => ?_,f1.F1,f1.F2⟩
      by_cases e:i=base
      ·subst e
       simp only [Cx.grow,if_true] at h3
       cases h3;exact .inl hbn
      ·simp only [Cx.grow,e,if_false] at h3
       exact f1.new i x j ((aP M base i _ _ (fun e'=>e e'.symm)).1 h1) h2 h3
     ·refine sN (C2:=(C.after w w' (some b)).grow base b (C'.κ k)) (M2:=upds M [(base,.row q.1 q.2.1 q.2.2)]) (A:=∀ b,G b→C.F b) hmk (fun h=>⟨fun b hb=>(hAA h).1 b hb,fun id o b h1 h2 h3=>(hAA h).2 id o b h1 h2 h3⟩) (fun v hv => ?_) hlk hr hy (hA.imp id (·.1))
      cases hv with
      | own _ _ h0 ha hrow =>
       rcases hrow _ _ _ hok with ⟨_,hn,_⟩ | ⟨b',rfl,hb⟩
       ·rw [hkb] at hn;cases hn
       ·rw [hkb] at hb;cases hb
        exact .own base _ rfl ⟨_,aY ..⟩ (fun ty n cs h=>by simp only [upds] at h;rw [aY] at h;cases h;exact .inr ⟨b,by simp [Cx.grow],by simp [Cx.grow]⟩)
   ·cases ho
  ·cases ho
 ·rename_i hk
  split at ho
  ·rename_i y' hy
   cases ho;obtain ⟨f1,m1⟩:=pJ (C:=C) (M:=M) (w:=w) (w':=w') (kb:=none) hM hF.os hF.tape hF.out hF.size hkeep;refine ⟨_,f1,m1,?_⟩;refine sN (C2:=C.after w w' none) (M2:=upds M []) (A:=∀ b,G b→C.F b) Bp (fun hGC=>⟨fun b hb => ?_,fun id o b h1 h2 h3 => .inr ⟨hnew id o b h1 h2 h3,Bp.lt id o b h1 h2 h3,nofun⟩⟩) (fun v hv => ?_) ⟨fun i o h=>⟨o,h⟩,fun _ _ _ _ _ cs h=>⟨cs,h⟩,fun _ o h o' h' hl=>by rw [h] at h';cases h';exact ⟨hl,rfl,rfl⟩,fun _ h=>h,fun _ _=>rfl⟩ hr hy (hA.imp id (·.1))
   ·rcases Ev b hb with h4 | h4
    ·exact .inl (hGC b h4)
    ·exact .inr ⟨h4,Bp.Fs b hb,nofun⟩
   ·cases hv with
    | own _ _ h0 ha hrow =>
     obtain ⟨o,ho⟩:=ha;rw [List.getElem?_eq_none (dD _)] at ho
     cases ho
  ·cases ho
end
section
variable {P:Program} {T:TT} {E:Env} {C C':Cx} {M M1 M2:Mem} {w w':World}

end
section
noncomputable abbrev Tp:=Tryz.prog

inductive Tr (α:Type) where
 | nil
 | node (v:Option α) (l r:Tr α)
def Tr.get{α:Type}:Tr α→Nat→Option α
 | .nil,_=>none
 | .node v l r,k=>match Nat.beq k 0 with
  | true=>v
  | false=>match Nat.beq (Nat.mod k 2) 1 with
   | true=>l.get (Nat.div k 2)
   | false=>r.get (Nat.sub (Nat.div k 2) 1)
def Tr.all{α:Type}(f:Nat→Nat):Tr α→List (Nat × α)
 | .nil=>[]
 | .node v l r=>(match v with | some x=>[(f 0,x)] | none=>[])++l.all (fun k=>f (2*k+1))++r.all (fun k=>f (2*k+2))
theorem Tr.get_all{α:Type}:∀ (t:Tr α) (f:Nat→Nat) (k:Nat) (x:α),t.get k=some x→(f k,x)∈t.all f
 | .nil,_,_,_,h=>by cases h
 | .node v l r,f,k,x,h=>by
  unfold Tr.get at h
  unfold Tr.all
  split at h
  ·rename_i hb
   have hk:=Nat.eq_of_beq_eq_true hb;subst hk;subst h;exact aCi _ (aCi _ (jT ..))
  ·rename_i hb
   have hk:=Nat.ne_of_beq_eq_false hb
   split at h
   ·rename_i h1
    have h1:k % 2=1:=Nat.eq_of_beq_eq_true h1;have:=Tr.get_all l (fun k=>f (2*k+1)) _ x h
    refine aCi _ (aVu _ ?_);have e:2*(k / 2)+1=k:=by omega
    have e':2*Nat.div k 2+1=k:=e;simp only [e'] at this
    exact this
   ·rename_i h1
    have h1:k % 2≠1:=Nat.ne_of_beq_eq_false h1;have:=Tr.get_all r (fun k=>f (2*k+2)) _ x h
    refine aVu _ ?_;have e:2*(k / 2-1)+2=k:=by omega
    have e':2*Nat.sub (Nat.div k 2) 1+2=k:=e;simp only [e'] at this
    exact this

abbrev tL(v:Option TI):Tr TI := .node v .nil .nil
abbrev E5:Option TI:=some ⟨.func,1,8,[.nilFunc],true⟩
abbrev Jw:Option TI:=some ⟨.int .i64,1,8,[.int .i64 0],true⟩
def tTr:Tr TI := .node none (.node E5 (.node Jw (.node none (.node none (.node none .nil (.node none (tL E5) .nil)) (.node none (.node none .nil (tL (some ⟨.array 5 9,5,80,.string ⟨#[]⟩::List.replicate 4 (.string ⟨#[]⟩),true⟩))) (.node none .nil (.node none (tL (some ⟨.struct [(0,5,true),(1,5,true)],2,2,[.int .u8 0,.int .u8 0],true⟩)) .nil)))) (.node Jw (.node (some ⟨.slice 68,1,24,[.slice none 0 0],true⟩) (tL Jw) (.node none (tL (some ⟨.array 3 27,3,24,[.int .i64 0,.int .i64 0,.int .i64 0],true⟩)) (tL E5))) (.node (some ⟨.slice 9,1,24,[.slice none 0 0],true⟩) .nil (.node none .nil (tL (some ⟨.map 186 78,1,8,[.map none],true⟩)))))) (.node none (.node none .nil (.node none (.node none (.node none (tL E5) .nil) (tL E5)) (.node none .nil (tL E5)))) (.node Jw (.node none (.node none .nil (tL (some ⟨.int .u32,1,4,[.int .u32 0],true⟩))) (.node none .nil (.node (some ⟨.struct [(0,233,true),(1,48,true)],2,32,[.pointer none,.slice none 0 0],true⟩) (tL (some ⟨.array 20 305,20,160,.int .u64 0::List.replicate 19 (.int .u64 0),true⟩)) .nil))) (.node E5 (tL (some ⟨.slice 90,1,24,[.slice none 0 0],true⟩)) (.node none (.node none (tL Jw) .nil) .nil))))) (.node (some ⟨.int .u8,1,1,[.int .u8 0],true⟩) (.node (some ⟨.str,1,16,[.string ⟨#[]⟩],true⟩) (.node none (.node none (tL (some ⟨.slice 71,1,24,[.slice none 0 0],true⟩)) (.node none (.node none (tL E5) .nil) .nil)) (.node none (.node none .nil (tL E5)) (.node none (.node none (tL (some ⟨.int .u64,1,8,[.int .u64 0],true⟩)) .nil) .nil))) (.node none (.node none .nil (.node none .nil (tL (some ⟨.ptr 235,1,8,[.pointer none],true⟩)))) .nil)) (.node none (.node (some ⟨.int .i32,1,4,[.int .i32 0],true⟩) (.node none (.node none (.node none (tL (some ⟨.str,1,16,[.string ⟨#[]⟩],true⟩)) .nil) .nil) (.node none (.node none (tL (some ⟨.ptr 5,1,8,[.pointer none],true⟩)) .nil) (tL E5))) (.node none (.node none .nil (tL (some ⟨.struct [(0,209,true),(1,210,true),(2,211,true)],3,24,[.nilFunc,.nilFunc,.nilFunc],true⟩))) .nil)) (.node none (.node none (.node none .nil (tL (some ⟨.struct [(0,48,true),(1,3,true),(2,203,true)],3,40,[.slice none 0 0,.int .i64 0,.int .u32 0],true⟩))) (.node none .nil (.node none (tL (some ⟨.array 256 5,256,256,.int .u8 0::List.replicate 255 (.int .u8 0),true⟩)) .nil))) (.node none (.node (some ⟨.slice 112,1,24,[.slice none 0 0],true⟩) .nil (.node none (tL (some ⟨.ptr 372,1,8,[.pointer none],true⟩)) .nil)) .nil))))) (.node Jw (.node (some ⟨.bool,1,1,[.bool false],true⟩) (.node none (.node (some ⟨.ptr 389,1,8,[.pointer none],true⟩) (.node none (.node none (.node none (tL E5) .nil) .nil) (.node none (tL E5) .nil)) (.node (some ⟨.slice 5,1,24,[.slice none 0 0],true⟩) (tL (some ⟨.struct [(0,3,true),(1,9,true)],2,24,[.int .i64 0,.string ⟨#[]⟩],true⟩)) (.node (some ⟨.struct [(0,78,true),(1,78,true)],2,48,[.slice none 0 0,.slice none 0 0],true⟩) .nil (.node none (tL (some ⟨.array 16 367,32,32,.int .u8 0::List.replicate 31 (.int .u8 0),true⟩)) .nil)))) (.node (some ⟨.slice 78,1,24,[.slice none 0 0],true⟩) (.node none (.node none (.node none (tL (some ⟨.int .u64,1,8,[.int .u64 0],true⟩)) .nil) .nil) .nil) (.node none .nil (.node none (tL (some ⟨.map 186 112,1,8,[.map none],true⟩)) (tL (some ⟨.map 186 78,1,8,[.map none],true⟩)))))) (.node none (.node none (.node E5 (.node (some ⟨.slice 3,1,24,[.slice none 0 0],true⟩) (.node none (tL E5) .nil) .nil) .nil) (.node none (.node none .nil (.node none (tL (some ⟨.array 24 5,24,24,.int .u8 0::List.replicate 23 (.int .u8 0),true⟩)) .nil)) .nil)) (.node none (.node none .nil (.node none (.node none (tL (some ⟨.slice 302,1,24,[.slice none 0 0],true⟩)) .nil) (.node none (tL (some ⟨.array 65 5,65,65,.int .u8 0::List.replicate 64 (.int .u8 0),true⟩)) .nil))) (.node none (.node none (.node (some ⟨.ptr 158,1,8,[.pointer none],true⟩) (tL E5) .nil) .nil) .nil)))) (.node (some ⟨.int .u8,1,1,[.int .u8 0],true⟩) (.node none (.node none (.node none .nil (.node none (tL E5) .nil)) (.node (some ⟨.ptr 205,1,8,[.pointer none],true⟩) (.node none .nil (tL E5)) .nil)) (.node (some ⟨.struct [(0,23,true),(1,24,true)],2,32,[.int .i64 0,.slice none 0 0],true⟩) .nil (.node E5 (tL (some ⟨.struct [(0,9,true),(1,3,true),(2,3,true),(3,27,true)],4,40,[.string ⟨#[]⟩,.int .i64 0,.int .i64 0,.int .i64 0],true⟩)) (.node none (tL (some ⟨.array 3 3,3,24,[.int .i64 0,.int .i64 0,.int .i64 0],true⟩)) .nil)))) (.node none (.node none (.node none .nil (.node none (.node none (tL (some ⟨.array 2 27,2,16,[.int .i64 0,.int .i64 0],true⟩)) .nil) .nil)) (.node none (.node none .nil (tL (some ⟨.array 4 213,12,96,.nilFunc::List.replicate 11 (.nilFunc),true⟩))) (.node none (tL (some ⟨.array 3 26,6,96,[.int .i64 0,.slice none 0 0,.int .i64 0,.slice none 0 0,.int .i64 0,.slice none 0 0],true⟩)) (tL (some ⟨.array 2 26,4,64,[.int .i64 0,.slice none 0 0,.int .i64 0,.slice none 0 0],true⟩))))) (.node none (.node none (tL (some ⟨.slice 80,1,24,[.slice none 0 0],true⟩)) (.node none (.node none (tL (some ⟨.struct [(0,3,true),(1,3,true)],2,16,[.int .i64 0,.int .i64 0],true⟩)) .nil) .nil)) (.node none (.node none (tL (some ⟨.struct [(0,26,true),(2,3,true),(3,3,true),(4,27,true)],5,56,[.int .i64 0,.slice none 0 0,.int .i64 0,.int .i64 0,.int .i64 0],true⟩)) .nil) .nil)))))
def tT:TT:=tTr.get

set_option maxRecDepth 100000 in
theorem bSl:(tTr.all id).map (fun p=>cM Tryz.prog p.1)=(tTr.all id).map fun p=>some p.2:=by kernel_rfl
theorem bDz:∀ t i,tT t=some i→cM Tryz.prog t=some i:=fun t i h=>by
 have h1:=Tr.get_all tTr id t i h;obtain ⟨j,hj,hx⟩:=List.getElem_of_mem h1;have h2:=congrArg (fun l=>l[j]?) bSl
 simp only [rV,Bw hj,hx,Option.map_some,id,Option.some.injEq] at h2
 exact h2

def okF(P:Program)(f:Nat):Bool:=match P.funcs[f]? with
 | some fn => !(fn.name == "runtime.NumGoroutine") && fn.body.isSome
 | none=>false
theorem bLd{P:Program}{f:Nat}(h:okF P f=true)(args:Array Value)(w:World):(callFunc f args).run P w = .ok (.enter f args) w:=by
 unfold okF at h
 split at h
 ·rename_i fn hf
  simp only [B4,Bool.not_eq_true'] at h
  have hn : ¬ fn.name = "runtime.NumGoroutine" := by simpa using h.1
  have hb:¬ fn.body=none:=fun e=>by rw [e] at h;cases h.2
  unfold callFunc;simp [hf,hn,hb]
 ·cases h
def exF:List Nat:=[125,235,252,253,279,314,315,316,317,318,319,320,321,322,323,324,325,326,327,328,329,330,331,332,333]
def ok(f:Nat):Bool:=match Nat.ble 2 f with
 | true=>match Nat.ble f 333 with
  | true => !(inN f exF)
  | false=>false
 | false=>false
set_option maxRecDepth 100000 in
theorem bSm:((List.range 334).drop 2).all (fun f=>inN f exF || okF Tryz.prog f)=true:=by kernel_rfl
theorem bSn:∀ f,ok f=true→∀ args w,(callFunc f args).run Tryz.prog w = .ok (.enter f args) w:=fun f h=>by
 unfold ok at h
 split at h
 ·rename_i h2
  split at h
  ·rename_i h3
   have h2:=Nat.le_of_ble_eq_true h2;have h3:=Nat.le_of_ble_eq_true h3;have:=bSm;rw [iD] at this
   have h4:=this f (by
    rw [List.mem_iff_getElem];exact ⟨f-2,by simp;omega,by simp;omega⟩)
   rw [Bool.not_eq_true'] at h
   rw [h,Bool.false_or] at h4
   exact bLd h4
  ·cases h
 ·cases h
theorem mixed:Tryz.prog.follows .mixedOrders=true:=by kernel_rfl
end
section
variable {P:Program} {T:TT} {E:Env} {C C0:Cx} {M M0:Mem} {w w0:World}

def aF(P:Program)(k:Nat)(b:Code)(st:St)(e:Ex)(Aj:St):Prop:=∀ (C0:Cx) (M0:Mem) (w0:World) (a:Act) (w:World),M0.length≤k→Sim P C0 M0 w0 st a w→∀ (ro:Option Nat),kE ro b→∀ (n:Nat),LoopIn (Fen ro) n P b (fun e' a' w'=>e'=e.toExit∧Sim P C0 M0 w0 Aj a' w') a w

section
variable {k:Nat} {b:Code} {st st1 Aj:St} {e:Ex}
theorem aF.step(h:aA P k b st .normal st1)(hr:aF P k b st1 e Aj):aF P k b st e Aj:=fun C0 M0 w0 a w hk hs ro hro n=>LoopIn.step (wpIn_mono (h C0 M0 w0 a w hk hs ro hro n) fun e' a' w' hq=>by
 obtain ⟨rfl,B6⟩:=hq;exact hr C0 M0 w0 a' w' hk B6 ro hro n)
theorem aF.exit(h:aA P k b st e Aj)(he:e ≠ .normal):aF P k b st e Aj:=fun C0 M0 w0 a w hk hs ro hro n=>LoopIn.step (wpIn_mono (h C0 M0 w0 a w hk hs ro hro n) fun e' a' w' hq=>by
 obtain ⟨rfl,B6⟩:=hq;cases e with
 | normal=>exact absurd rfl he
 | ret=>exact ⟨rfl,B6⟩
 | exit id=>exact ⟨rfl,B6⟩)
theorem aF.code(h:aF P k b st e Aj):aA P k (.loop b) st e Aj:=fun C0 M0 w0 a w hk hs ro hro n=>LoopIn.wp (h C0 M0 w0 a w hk hs ro hro.loop n)
theorem aF.range{α β:Type}(S:Nat→β→St)(R:β→St)(f:β→α→β)(Inv:Nat→β→Prop)(he:e ≠ .normal)(l:List α){a0:β}(h0:Inv 0 a0)
  (hs:∀ (i:Nat) (x:α) (acc:β),l[i]? = some x→Inv i acc→Inv (i+1) (f acc x)∧aA P k b (S i acc) .normal (S (i+1) (f acc x)))
  (hx:∀ acc,Inv l.length acc→aA P k b (S l.length acc) e (R acc)):aF P k b (S 0 a0) e (R (l.foldl f a0)):=by
 have key:∀ (r:List α) (i:Nat) (acc:β),l.drop i=r→i≤l.length→Inv i acc→aF P k b (S i acc) e (R (r.foldl f acc)):=by
  intro r
  induction r with
  | nil =>
   intro i acc hd hi hI;have:i=l.length:=by have:=congrArg List.length hd;simp at this;omega
   subst this;exact .exit (hx _ hI) he
  | cons x r ih =>
   intro i acc hd hi hI;have hl:l[i]? = some x:=by
    have:=congrArg (·[0]?) hd
    simpa using this
   obtain ⟨h1,h2⟩:=hs i x acc hl hI;have hlt:i<l.length:=(Ci.1 hl).1;refine .step h2 (ih (i+1) _ ?_ (by omega) h1)
   have:=congrArg List.tail hd;simpa [List.tail_drop] using this
 exact key l 0 a0 (by simp) (Nat.zero_le _) h0

end

def FV(P:Program)(f:Nat)(args:List AV)(base:Nat)(y:AV)(L:Upd):Prop:=∃ r M1,FMM P f args [] r M1∧aTw M1 base r=some (y,L)

theorem FV.fc{f base:Nat}{args:List AV}{y:AV}{L:Upd}{bs:List (Nat × AO)}(h:FV P f args base y L)(hn:iG args=true):FC P f args bs base y L:=fun M _ hb _=>by
 obtain ⟨r,M1,h1,h2⟩:=h;exact vJ (.inl ⟨hn,rfl⟩) hb h2 h1

def aOa(m M:Mem):Prop:=∀ (id:Nat) (o:AO),bU m id=some o→bU M id=some o
section
variable {m:Mem}
theorem aGj(hs:aOa m M){id:Nat}{r:Nat × Nat × List PV}(h:eZ m id=some r):eZ M id=some r:=by
 have:=bI.2 (dG h);unfold eZ;rw [hs _ _ this]
theorem aWb(hs:aOa m M){x:AV}{y:PV}(h:Dx m x=some y):Dx M x=some y:=by
 unfold Dx at h ⊢
 split at h
 ·exact h
 ·exact h
 ·split at h
  ·rename_i hr
   rw [aGj hs hr];exact h
  ·cases h
 ·exact h
 ·cases h
theorem aDu(hs:aOa m M):∀ {l:List AV} {ys:List PV},zO m l=some ys→zO M l=some ys
 | [],_,h=>h
 | x::r,ys,h=>by
  unfold zO at h ⊢
  split at h
  ·rename_i h1
   split at h
   ·rename_i h2
    rw [aWb hs h1,aDu hs h2];exact h
   ·cases h
  ·cases h
mutual
theorem bFr(hs:aOa m M):∀ {x y:AV},view m x=some y→view M x=some y
 | .p x,y,h=>by simp only [view] at h ⊢;exact h
 | .kb b,y,h=>by simp only [view] at h ⊢;exact h
 | .any,y,h=>by simp only [view] at h ⊢;exact h
 | .yld l,y,h=>by simp only [view] at h ⊢;exact h
 | .rp cs o,y,h=>by simp only [view] at h ⊢;exact h
 | .own id,y,h=>by
  simp only [view] at h ⊢
  split at h
  ·rename_i hr
   rw [aGj hs hr];exact h
  ·cases h
 | .arr id off n,y,h=>by
  simp only [view] at h ⊢
  split at h
  ·rename_i hr
   rw [aGj hs hr];exact h
  ·cases h
 | .ptr id off,y,h=>by
  simp only [view] at h ⊢
  split at h
  ·rename_i hr
   rw [hs _ _ hr];exact h
  ·rename_i hr
   rw [hs _ _ hr]
   split at h
   ·rename_i hc
    simp only [aDu hs hc];exact h
   ·cases h
  ·cases h
 | .agg l,y,h=>by
  simp only [view] at h ⊢
  split at h
  ·rename_i hr
   rw [nD hs hr];exact h
  ·cases h
 | .fn f a b,y,h=>by
  simp only [view] at h ⊢
  split at h
  ·rename_i ha
   split at h
   ·rename_i hb
    rw [nD hs ha,nD hs hb];exact h
   ·cases h
  ·cases h
 | .tup l,y,h=>by simp [view] at h
 | .mp i,y,h=>by simp [view] at h
theorem nD(hs:aOa m M):∀ {l ys:List AV},lQ m l=some ys→lQ M l=some ys
 | [],_,h=>by simp only [lQ] at h ⊢;exact h
 | x::r,ys,h=>by
  simp only [lQ] at h ⊢
  split at h
  ·rename_i h1
   split at h
   ·rename_i h2
    rw [bFr hs h1,nD hs h2];exact h
   ·cases h
  ·cases h
end
end
theorem pX:∀ (bs:Upd) (m:Mem) (id:Nat) (o:AO),bU (upds m bs) id=some o→(id,o)∈bs∨bU m id=some o
 | [],_,_,_,h => .inr h
 | (i,x)::r,m,id,o,h=>by
  rcases pX r _ id o h with h1 | h1
  ·exact .inl (Cn _ h1)
  ·rw [dE] at h1
   split at h1
   ·rename_i e
    subst e;cases h1;exact .inl (jT ..)
   ·exact .inr h1
theorem FV.view{f base:Nat}{args Am:List AV}{y:AV}{L:Upd}{bs:List (Nat × AO)}(h:FV P f Am base y L)(hv:lQ (upds [] bs) args=some Am)(h1:aTy y=true)(h2:aTz L=true):FC P f args bs base y L:=fun M hb hf _=>by
 obtain ⟨r,M1,h3,h4⟩:=h;refine vJ (.inr ⟨nD (fun id o ho => ?_) hv,h1,h2⟩) hf h4 h3
 rcases pX bs [] id o ho with h5 | h5
 ·exact hb _ h5
 ·simp [bU] at h5
end
section
variable {P:Program} {T:TT} {E:Env} {C C0:Cx} {M M0 M1:Mem} {w w0:World}

def bkI(ids:List Nat)(base j:Nat):Option Nat:=match ids[j]? with
 | some i=>some i
 | none=>match Nat.beq j ids.length with
  | true=>some base
  | false=>none
def mG(ids:List Nat)(base:Nat):List Nat→Mem→Option Upd
 | i::r,some o::m=>match mpO (bkI ids base) o with
  | some o'=>(mG ids base r m).map ((i,o') :: ·)
  | none=>none
 | [],[]=>some []
 | [],[some o]=>match mpO (bkI ids base) o with
  | some o'=>some [(base,o')]
  | none=>none
 | _,_=>none

theorem aDs{Gs:List Nat}{base:Nat}:∀ {ids:List Nat} {m:Mem} {L:Upd},mG Gs base ids m=some L→ids.Nodup→base∉ids →
  (m.length=ids.length∨m.length=ids.length+1) ∧
  ∀ (N:Mem),(∀ (p i:Nat) (o':AO),ids[p]? = some i→(bU (upds N L) i=some o'↔∃ o,m[p]? = some (some o)∧mpO (bkI Gs base) o=some o')) ∧
   (m.length=ids.length+1→∀ (o':AO),(bU (upds N L) base=some o'↔∃ o,m[ids.length]? = some (some o)∧mpO (bkI Gs base) o=some o')) ∧
   (m.length=ids.length→bU (upds N L) base=bU N base) ∧
   ∀ j,j∉ids→j≠base→bU (upds N L) j=bU N j
 | [],[],L,h,_,_=>by
  unfold mG at h;cases h
  refine ⟨.inl rfl,fun N=>⟨fun p i o' hp=>by simp at hp,fun h=>by simp at h,fun _=>rfl,fun _ _ _=>rfl⟩⟩
 | [],[some o],L,h,_,_=>by
  unfold mG at h
  split at h
  ·rename_i o' ho
   cases h;refine ⟨.inr rfl,fun N=>⟨fun p i o' hp=>by simp at hp,fun _ o2 => ?_,fun h=>by simp at h,fun j _ hj => ?_⟩⟩
   ·simp only [upds]
    rw [dE,if_pos rfl];constructor
    ·intro h;cases h;exact ⟨o,rfl,ho⟩
    ·rintro ⟨o3,h3,h4⟩
     simp at h3;subst h3
     rw [ho] at h4;exact h4
   ·simp only [upds]
    rw [dE,if_neg (Ne.symm hj)]
  ·cases h
 | i::r,some o::m,L,h,hd,hb=>by
  unfold mG at h
  split at h
  ·rename_i o' ho
   simp only [C7] at h
   obtain ⟨L',I6,rfl⟩:=h;obtain ⟨H0,Fp⟩:=List.nodup_cons.1 hd;have Cr:base≠i:=fun e=>hb (by simp [e])
   have Gv:base∉r:=fun e=>hb (Cn _ e)
   obtain ⟨q1,q2⟩:=aDs (ids:=r) I6 Fp Gv;refine ⟨by simpa using q1,fun N => ?_⟩
   obtain ⟨r1,r2,r3,r4⟩:=q2 (aZ N i (some o'));refine ⟨fun p j o2 hp => ?_,fun hl o2 => ?_,fun hl => ?_,fun j hj hne => ?_⟩
   ·cases p with
    | zero =>
     simp at hp;subst hp
     simp only [upds];rw [r4 i H0 (Ne.symm Cr),dE,if_pos rfl];constructor
     ·intro h;cases h;exact ⟨o,rfl,ho⟩
     ·rintro ⟨o3,h3,h4⟩
      simp at h3;subst h3
      rw [ho] at h4;exact h4
    | succ p =>
     simp only [upds];rw [List.getElem?_cons_succ] at hp
     rw [r1 p j o2 hp];rfl
   ·have:=r2 (by simpa using hl) o2
    simpa [upds] using this
   ·simp only [upds]
    rw [r3 (by simpa using hl),dE,if_neg (Ne.symm Cr)]
   ·simp only [upds]
    rw [r4 j (fun e=>hj (Cn _ e)) hne,dE,if_neg (fun e=>hj (by simp [e]))]
  ·cases h
 | [],none::_,L,h,_,_=>by unfold mG at h;cases h
 | [],some _::_::_,L,h,_,_=>by unfold mG at h;cases h
 | _::_,[],L,h,_,_=>by unfold mG at h;cases h
 | _::_,none::_,L,h,_,_=>by unfold mG at h;cases h

theorem aAl{Gs:List Nat}{base:Nat}:∀ {ids:List Nat} {m:Mem} {L:Upd},mG Gs base ids m=some L→∀ (p:Nat) (o1:AO),m[p]? = some (some o1)→∃ o',mpO (bkI Gs base) o1=some o'
 | [],[],L,h,p,o1,hp=>by simp at hp
 | [],[some o],L,h,p,o1,hp=>by
  unfold mG at h
  split at h
  ·rename_i hx
   cases p with
   | zero=>simp at hp;subst hp;exact ⟨_,hx⟩
   | succ p=>simp at hp
  ·cases h
 | i::r,some o::m,L,h,p,o1,hp=>by
  unfold mG at h
  split at h
  ·rename_i hx
   simp only [C7] at h
   obtain ⟨L',I6,_⟩:=h;cases p with
   | zero=>simp at hp;subst hp;exact ⟨_,hx⟩
   | succ p=>exact aAl I6 p o1 (by simpa using hp)
  ·cases h
 | [],none::_,L,h,_,_,_=>by unfold mG at h;cases h
 | [],some _::_::_,L,h,_,_,_=>by unfold mG at h;cases h
 | _::_,[],L,h,_,_,_=>by unfold mG at h;cases h
 | _::_,none::_,L,h,_,_,_=>by unfold mG at h;cases h

def Cx.back(C C1:Cx)(ids:List Nat)(base:Nat):Cx :=
 {ι:=fun j=>match idx ids j 0 with | some p=>C1.ι p | none=>if j=base then C1.ι ids.length else C.ι j
  κ:=fun j=>match idx ids j 0 with | some p=>C1.κ p | none=>if j=base then C1.κ ids.length else C.κ j
  F:=C1.F }
theorem oK:∀ {ids:List Nat},ids.Nodup→∀ {p i:Nat} (n:Nat),ids[p]? = some i→idx ids i n=some (n+p)
 | [],_,p,i,n,h=>by simp at h
 | a::r,hd,p,i,n,h=>by
  obtain ⟨h1,h2⟩:=List.nodup_cons.1 hd;unfold idx;cases p with
  | zero=>simp at h;subst h;simp
  | succ p =>
   rw [List.getElem?_cons_succ] at h
   have hne:a≠i:=fun e=>h1 (e ▸ B0 h)
   have hb:Nat.beq a i=false:=by
    cases hq:Nat.beq a i with
    | false=>rfl
    | true=>exact absurd (Nat.eq_of_beq_eq_true hq) hne
   rw [hb];have:=oK h2 (n+1) h;simp only [this]
   congr 1;omega

theorem aGi{f:Nat→Option Nat}{C':Cx}{M':Mem}(hm:aUe f C C' M M'):∀ {l ys:List AV} {us:List Value},cT C M w l us→mpL f l=some ys→cT C' M' w ys us
 | [],ys,us,h,hr=>by cases h;simp only [mpL] at hr;cases hr;exact .nil
 | x::r,ys,us,h,hr=>by
  cases h with
  | cons _ u _ k hx hk =>
   simp only [mpL] at hr
   split at hr
   ·rename_i y hy
    simp only [C7] at hr
    obtain ⟨r',Dt,rfl⟩:=hr;exact .cons _ _ _ _ (rD hm hx hy) (aGi hm hk Dt)
   ·cases hr

theorem bMg{base:Nat}{ids:List Nat}{r y:AV}{L:Upd}{C1:Cx}{w':World}{u:Value}(hd:distinct 0 ids=true)(hb:fG M base=true)
  (hs:rnM 0 ids (ids.map (at? M))=some M0) (hlv:∀ i∈ids,dX M i=true) (hU:mG ids base ids M1=some L) (hy:mpA (bkI ids base) r=some y)
  (hM:aX P C M w) (hF:Fr (C.rn 0 ids) M0 w C1 M1 w') (Bp:aX P C1 M1 w') (hr:Rep C1 M1 w' r u):Fr C M w (C.back C1 ids base) (upds M L) w'∧aX P (C.back C1 ids base) (upds M L) w'∧Rep (C.back C1 ids base) (upds M L) w' y u:=by
 obtain ⟨_,hnd⟩:=gJ hd;obtain ⟨H4,hmp,hsrc⟩:=pL (k:=0) hM hd hs;have hlen:M0.length=ids.length:=by have:=(yT hs).1;simpa using this
 have hbn:base∉ids:=fun hm=>by
  obtain ⟨o,h1,_⟩:=dJ (hlv _ hm);exact cV hb o h1
 obtain ⟨An,hup⟩:=aDs hU hnd hbn;obtain ⟨u1,u2,u3,u4⟩:=hup M;have hL:=H4.le hF;have srcp:∀ p i,ids[p]? = some i→lL 0 ids p=some i:=fun p i h=>by simp [lL,h]
 have rnp:∀ p i,ids[p]? = some i→rnI 0 ids i=some p:=fun p i h=>by
  have:=oK hnd 0 h;unfold rnI;rw [show Nat.blt i 0=false from rfl,this,iP]
 have Ch:∀ p i,ids[p]? = some i→∃ o o0,M[i]? = some (some o)∧o.live=true∧M0[p]? = some (some o0)∧o0.live=true∧(C.rn 0 ids).ι p=C.ι i∧(C.rn 0 ids).κ p=C.κ i:=fun p i hp=>by
  obtain ⟨o,h1,h2⟩:=dJ (hlv i (B0 hp));obtain ⟨o0,h3,h4⟩:=hmp.fw _ _ _ (rnp p i hp) h1;exact ⟨o,o0,h1,h2,h3,by rw [bP h4];exact h2,hmp.at_ _ _ (rnp p i hp)⟩
 have sh_of:∀ (p:Nat) (o0:AO),M0[p]? = some (some o0)→∃ i o,ids[p]? = some i∧M[i]? = some (some o)∧o.live=true∧o0.live=true∧(C.rn 0 ids).ι p=C.ι i:=fun p o0 hp=>by
  obtain ⟨hl,_⟩:=Ci.1 hp;have Ki:ids[p]? = some ids[p]:=Bw (by omega)
  obtain ⟨o,o1,h1,h2,h3,h4,h5,_⟩:=Ch p _ Ki;rw [hp] at h3;cases h3
  exact ⟨_,o,Ki,h1,h2,h4,h5⟩
 have apart:∀ (j:Nat) (o:AO) (b:Nat),j∉ids→M[j]? = some (some o)→o.live=true→C.ι j=some b→w'.heap[b]? = w.heap[b]? ∧ ¬ C1.F b∧∀ (p:Nat) (o1:AO),M1[p]? = some (some o1)→o1.live=true→C1.ι p≠some b:=fun j o b hj h1 h2 h3=>by
  have Cr:=hM.lt j o b h1 h2 h3;have I7:∀ (p:Nat) (o0:AO),M0[p]? = some (some o0)→o0.live=true→(C.rn 0 ids).ι p≠some b:=fun p o0 hp _ he=>by
   obtain ⟨i,o2,q1,q2,q3,_,q4⟩:=sh_of p o0 hp;rw [q4] at he
   have:=hM.inj j i o o2 b h1 h2 q2 q3 h3 he;subst this;exact hj (B0 q1)
  refine ⟨hF.keep b Cr I7,fun hf => ?_,fun p o1 hp hl he => ?_⟩
  ·rcases hF.F2 b hf with q | q | ⟨p,o0,q1,q2,q3⟩
   ·exact hM.nF j o b h1 h2 h3 q
   ·omega
   ·exact I7 p o0 q1 q2 q3
  ·rcases hF.new p o1 b hp hl he with q | ⟨p0,o0,q1,q2,q3⟩
   ·omega
   ·exact I7 p0 o0 q1 q2 q3
 have ix:∀ j,(j∈ids→∃ p,idx ids j 0=some p∧ids[p]? = some j)∧(j∉ids→idx ids j 0=none):=fun j=>by
  refine ⟨fun hj => ?_,fun hj => ?_⟩
  ·obtain ⟨p,hp,he⟩:=List.mem_iff_getElem.1 hj
   have:ids[p]? = some j:=by rw [Bw hp,he]
   exact ⟨p,by simpa using oK hnd 0 this,this⟩
  ·cases h1:idx ids j 0 with
   | none=>rfl
   | some p =>
    obtain ⟨_,h2⟩:=tN _ _ _ _ h1;exact absurd (B0 h2) hj
 have cls:∀ (j:Nat) (o':AO),(upds M L)[j]? = some (some o')→(∃ p o1,ids[p]? = some j∧M1[p]? = some (some o1)∧mpO (bkI ids base) o1=some o'∧(C.back C1 ids base).ι j=C1.ι p∧(C.back C1 ids base).κ j=C1.κ p) ∨
   (∃ o1,j=base∧j∉ids∧M1[ids.length]? = some (some o1)∧mpO (bkI ids base) o1=some o'∧(C.back C1 ids base).ι j=C1.ι ids.length∧(C.back C1 ids base).κ j=C1.κ ids.length) ∨
   (j∉ids∧j≠base∧M[j]? = some (some o')∧(C.back C1 ids base).ι j=C.ι j∧(C.back C1 ids base).κ j=C.κ j):=fun j o' hj=>by
  rw [← bI] at hj
  by_cases hm:j∈ids
  ·obtain ⟨p,Fq,E8⟩:=(ix j).1 hm
   obtain ⟨o1,h1,h2⟩:=(u1 p j o' E8).1 hj;exact .inl ⟨p,o1,E8,h1,h2,by simp [Cx.back,Fq],by simp [Cx.back,Fq]⟩
  ·have hn:=(ix j).2 hm
   by_cases hjb:j=base
   ·subst hjb
    rcases An with hl | hl
    ·rw [u3 hl] at hj
     have:=cV hb o';exact absurd (bI.1 hj) this
    ·obtain ⟨o1,h1,h2⟩:=(u2 hl o').1 hj
     exact .inr (.inl ⟨o1,rfl,hm,h1,h2,by simp [Cx.back,hn],by simp [Cx.back,hn]⟩)
   ·rw [u4 j hm hjb] at hj
    exact .inr (.inr ⟨hm,hjb,bI.1 hj,by simp [Cx.back,hn,hjb],by simp [Cx.back,hn,hjb]⟩)
 have Ev:Fr C M w (C.back C1 ids base) (upds M L) w':=by
  refine ⟨hF.os,hF.tape,hF.out,hF.size,fun b Cr hn => ?_,fun i o ho => ?_,fun i o ho ty n cs hx => ?_,fun i o ho o' hx hl => ?_,fun j o b hj hl hjb => ?_,fun b hb=>hF.F1 b hb,fun b hb => ?_⟩
  ·exact hF.keep b Cr fun p o0 hp hl he=>by
    obtain ⟨i,o2,q1,q2,q3,_,q4⟩:=sh_of p o0 hp;rw [q4] at he
    exact hn i o2 q2 q3 he
  ·by_cases hm:i∈ids
   ·obtain ⟨p,Fq,E8⟩:=(ix i).1 hm
    obtain ⟨_,o0,_,_,h3,h4,h5,h6⟩:=Ch p i E8;obtain ⟨⟨o1,q1⟩,q2,q3⟩:=hF.ids p o0 h3;refine ⟨?_,by simp only [Cx.back,Fq];rw [q2,h5],by simp only [Cx.back,Fq];rw [q3,h6]⟩
    have hq:∃ o',mpO (bkI ids base) o1=some o':=by
     exact aAl hU p o1 q1
    obtain ⟨o',hq⟩:=hq;exact ⟨o',bI.1 ((u1 p i o' E8).2 ⟨o1,q1,hq⟩)⟩
   ·have hne:i≠base:=fun e=>by subst e;exact cV hb o ho
    refine ⟨⟨o,bI.1 (by rw [u4 i hm hne];exact bI.2 ho)⟩,by simp [Cx.back,(ix i).2 hm,hne],by simp [Cx.back,(ix i).2 hm,hne]⟩
  ·rcases cls i _ hx with ⟨p,o1,q1,q2,q3,_⟩ | ⟨o1,rfl,_⟩ | ⟨_,_,q3,_⟩
   ·rw [jO q3] at q2
    obtain ⟨o2,o0,h1,_,h3,_⟩:=Ch p i q1;obtain ⟨Bg,h5⟩:=hF.row p o0 h3 _ _ _ q2;obtain ⟨o4,h6,h7⟩:=hmp.bk _ _ _ (rnp p i q1) h5;rw [jO h7] at h6
    exact ⟨Bg,h6⟩
   ·exact absurd ho (cV hb o)
   ·exact ⟨cs,q3⟩
  ·rcases cls i _ hx with ⟨p,o1,q1,q2,q3,_⟩ | ⟨o1,rfl,_⟩ | ⟨_,_,q3,_⟩
   ·obtain ⟨o2,o0,h1,h2,h3,_⟩:=Ch p i q1
    rw [ho] at h1;cases h1
    exact h2
   ·exact absurd ho (cV hb o)
   ·rw [ho] at q3;cases q3;exact hl
  ·have fin:∀ (p:Nat) (o1:AO),M1[p]? = some (some o1)→o1.live=true→C1.ι p=some b→w.heap.size≤b∨∃ (Eh:Nat) (o0:AO),M[Eh]? = some (some o0)∧o0.live=true∧C.ι Eh=some b:=fun p o1 h1 h2 h3=>by
    rcases hF.new p o1 b h1 h2 h3 with q | ⟨p0,o0,q1,q2,q3⟩
    ·exact .inl q
    ·obtain ⟨i,o2,r1,r2,r3,_,r4⟩:=sh_of p0 o0 q1
     rw [r4] at q3
     exact .inr ⟨i,o2,r2,r3,q3⟩
   rcases cls j _ hj with ⟨p,o1,q1,q2,q3,q4,_⟩ | ⟨o1,rfl,_,q2,q3,q4,_⟩ | ⟨_,_,q3,q4,_⟩
   ·rw [q4] at hjb
    exact fin p o1 q2 (by rw [← bP q3];exact hl) hjb
   ·rw [q4] at hjb
    exact fin _ o1 q2 (by rw [← bP q3];exact hl) hjb
   ·rw [q4] at hjb
    exact .inr ⟨j,o,q3,hl,hjb⟩
  ·rcases hF.F2 b hb with q | q | ⟨p,o0,q1,q2,q3⟩
   ·exact .inl q
   ·exact .inr (.inl q)
   ·obtain ⟨i,o2,r1,r2,r3,_,r4⟩:=sh_of p o0 q1
    rw [r4] at q3
    exact .inr (.inr ⟨i,o2,r2,r3,q3⟩)
 have Ha:=hM.le Ev;have hbk:aUe (bkI ids base) C1 (C.back C1 ids base) M1 (upds M L):=by
  have two:∀ i j,bkI ids base i=some j→(ids[i]? = some j)∨(i=ids.length∧j=base):=fun i j h=>by
   unfold bkI at h
   split at h
   ·rename_i hi;cases h;exact .inl hi
   ·split at h
    ·rename_i hq;cases h;exact .inr ⟨Nat.eq_of_beq_eq_true hq,rfl⟩
    ·cases h
  have big:∀ (o:AO),M1[ids.length]? = some (some o)→M1.length=ids.length+1:=fun o h=>by
   obtain ⟨hl,_⟩:=Ci.1 h;omega
  refine ⟨fun i j o' hij hj => ?_,fun i j o hij hi => ?_,fun i j hij => ?_,fun _ h=>h⟩
  ·rcases two i j hij with h1 | ⟨rfl,rfl⟩
   ·exact (u1 i j o' h1).1 (bI.2 hj)
   ·rcases An with hl | hl
    ·have:=bI.2 hj
     rw [u3 hl] at this
     exact absurd (bI.1 this) (cV hb o')
    ·exact (u2 hl o').1 (bI.2 hj)
  ·have hq:∃ o',mpO (bkI ids base) o=some o':=by
    exact aAl hU i o hi
   obtain ⟨o',hq⟩:=hq
   rcases two i j hij with h1 | ⟨rfl,rfl⟩
   ·exact ⟨o',bI.1 ((u1 i j o' h1).2 ⟨o,hi,hq⟩),hq⟩
   ·exact ⟨o',bI.1 ((u2 (big o hi) o').2 ⟨o,hi,hq⟩),hq⟩
  ·rcases two i j hij with h1 | ⟨rfl,rfl⟩
   ·have:=oK hnd 0 h1
    rw [iP] at this
    simp [Cx.back,this]
   ·simp [Cx.back,(ix _).2 hbn]
 refine ⟨Ev,⟨fun j ty n cs h => ?_,fun j ty cs h => ?_,fun j es cl h => ?_,fun j j' o1 o2 b q1 l1 q2 l2 e1 e2 => ?_,fun j o b h hl hb => ?_,Bp.Fs,fun j o b h hl hb => ?_,Bp.lib.mono (fun _ h=>h) fun _ _=>rfl⟩,rD hbk hr hy⟩
 ·rcases cls j _ h with ⟨p,o1,q1,q2,q3,q4,q5⟩ | ⟨o1,rfl,_,q2,q3,q4,q5⟩ | ⟨q1,_,q3,q4,q5⟩
  ·rw [jO q3] at q2
   rw [q4,q5];exact Bp.row _ _ _ _ q2
  ·rw [jO q3] at q2
   rw [q4,q5];exact Bp.row _ _ _ _ q2
  ·rw [q4,q5]
   rcases hM.row _ _ _ _ q3 with q | ⟨b,arr,inf,p0,p1,p2,p3,p4,p5,p6,p7,p8⟩
   ·exact .inl q
   ·exact .inr ⟨b,arr,inf,p0,by rw [(apart j _ b q1 q3 rfl p0).1];exact p1,p2,p3,p4,p5,p6,fun i hi=>(p7 i hi).mono Ha.F Ha.fz,p8⟩
 ·rcases cls j _ h with ⟨p,o1,q1,q2,q3,q4,q5⟩ | ⟨o1,rfl,_,q2,q3,q4,q5⟩ | ⟨q1,_,q3,q4,q5⟩
  ·cases o1 with
   | box C6 l =>
    simp only [mpO,C7] at q3
    obtain ⟨l',De,e⟩:=q3;cases e;obtain ⟨b,arr,p0,p1,p2,p3,p4⟩:=Bp.box _ _ _ q2;obtain ⟨n1,n2⟩:=fA hbk (w:=w') (us:=fun j=>arr.getD j undef) p3 De
    exact ⟨b,arr,by rw [q4];exact p0,p1,by omega,n2,fun j hj=>p4 j (by omega)⟩
   | row=>simp [mpO] at q3
   | mp=>simp [mpO] at q3
   | pk=>simp [mpO] at q3
   | dead=>simp [mpO] at q3
  ·cases o1 with
   | box C6 l =>
    simp only [mpO,C7] at q3
    obtain ⟨l',De,e⟩:=q3;cases e;obtain ⟨b,arr,p0,p1,p2,p3,p4⟩:=Bp.box _ _ _ q2;obtain ⟨n1,n2⟩:=fA hbk (w:=w') (us:=fun j=>arr.getD j undef) p3 De
    exact ⟨b,arr,by rw [q4];exact p0,p1,by omega,n2,fun j hj=>p4 j (by omega)⟩
   | row=>simp [mpO] at q3
   | mp=>simp [mpO] at q3
   | pk=>simp [mpO] at q3
   | dead=>simp [mpO] at q3
  ·obtain ⟨b,arr,p0,p1,p2,p3,p4⟩:=hM.box _ _ _ q3
   exact ⟨b,arr,by rw [q4];exact p0,by rw [(apart j _ b q1 q3 rfl p0).1];exact p1,p2,fun i hi=>(p3 i hi).mono Ha,p4⟩
 ·rcases cls j _ h with ⟨p,o1,q1,q2,q3,q4,q5⟩ | ⟨o1,rfl,_,q2,q3,q4,q5⟩ | ⟨q1,_,q3,q4,q5⟩
  ·cases o1 with
   | mp Fa Jy =>
    simp only [mpO,Option.some.injEq] at q3
    cases q3;obtain ⟨b,arr,p0,p1,p2,p3⟩:=Bp.mp _ _ _ q2;refine ⟨b,arr,by rw [q4];exact p0,p1,p2,fun j hj => ?_⟩
    obtain ⟨en,s1,s2,s3,s4⟩:=p3 j hj;exact ⟨en,s1,s2,s3,s4.mono hbk.F (fun _ _=>rfl)⟩
   | row=>simp [mpO] at q3
   | box=>simp [mpO] at q3
   | pk=>simp [mpO] at q3
   | dead=>simp [mpO] at q3
  ·cases o1 with
   | mp Fa Jy =>
    simp only [mpO,Option.some.injEq] at q3
    cases q3;obtain ⟨b,arr,p0,p1,p2,p3⟩:=Bp.mp _ _ _ q2;refine ⟨b,arr,by rw [q4];exact p0,p1,p2,fun j hj => ?_⟩
    obtain ⟨en,s1,s2,s3,s4⟩:=p3 j hj;exact ⟨en,s1,s2,s3,s4.mono hbk.F (fun _ _=>rfl)⟩
   | row=>simp [mpO] at q3
   | box=>simp [mpO] at q3
   | pk=>simp [mpO] at q3
   | dead=>simp [mpO] at q3
  ·obtain ⟨b,arr,p0,p1,p2,p3⟩:=hM.mp _ _ _ q3
   refine ⟨b,arr,by rw [q4];exact p0,by rw [(apart j _ b q1 q3 rfl p0).1];exact p1,p2,fun i hi => ?_⟩
   obtain ⟨en,s1,s2,s3,s4⟩:=p3 i hi;exact ⟨en,s1,s2,s3,s4.mono Ha.F Ha.fz⟩
 ·rcases cls j _ q1 with ⟨p,a1,r1,r2,r3,r4,_⟩ | ⟨a1,rfl,r1,r2,r3,r4,_⟩ | ⟨r1,rb,r3,r4,_⟩ <;> rcases cls j' _ q2 with ⟨p',a2,t1,t2,t3,t4,_⟩ | ⟨a2,rfl,t1,t2,t3,t4,_⟩ | ⟨t1,tb,t3,t4,_⟩
  all_goals try rfl
  all_goals (rw [r4] at e1;rw [t4] at e2)
  ·have:=Bp.inj p p' a1 a2 b r2 (by rw [← bP r3];exact l1) t2 (by rw [← bP t3];exact l2) e1 e2
   subst this;rw [r1] at t1;cases t1;rfl
  ·have:=Bp.inj p _ a1 a2 b r2 (by rw [← bP r3];exact l1) t2 (by rw [← bP t3];exact l2) e1 e2
   obtain ⟨hl,_⟩:=Ci.1 r1;omega
  ·exact absurd e1 ((apart j' o2 b t1 t3 l2 e2).2.2 p a1 r2 (by rw [← bP r3];exact l1))
  ·have:=Bp.inj _ p' a1 a2 b r2 (by rw [← bP r3];exact l1) t2 (by rw [← bP t3];exact l2) e1 e2
   obtain ⟨hl,_⟩:=Ci.1 t1;omega
  ·exact absurd e1 ((apart j' o2 b t1 t3 l2 e2).2.2 _ a1 r2 (by rw [← bP r3];exact l1))
  ·exact absurd e2 ((apart j o1 b r1 r3 l1 e1).2.2 p' a2 t2 (by rw [← bP t3];exact l2))
  ·exact absurd e2 ((apart j o1 b r1 r3 l1 e1).2.2 _ a2 t2 (by rw [← bP t3];exact l2))
  ·exact hM.inj j j' o1 o2 b r3 l1 t3 l2 e1 e2
 ·rcases cls j _ h with ⟨p,o1,q1,q2,q3,q4,q5⟩ | ⟨o1,rfl,_,q2,q3,q4,q5⟩ | ⟨q1,_,q3,q4,q5⟩
  ·rw [q4] at hb
   exact Bp.nF _ _ b q2 (by rw [← bP q3];exact hl) hb
  ·rw [q4] at hb
   exact Bp.nF _ _ b q2 (by rw [← bP q3];exact hl) hb
  ·rw [q4] at hb
   exact (apart j o b q1 q3 hl hb).2.1
 ·rcases cls j _ h with ⟨p,o1,q1,q2,q3,q4,q5⟩ | ⟨o1,rfl,_,q2,q3,q4,q5⟩ | ⟨q1,_,q3,q4,q5⟩
  ·rw [q4] at hb
   exact Bp.lt _ _ b q2 (by rw [← bP q3];exact hl) hb
  ·rw [q4] at hb
   exact Bp.lt _ _ b q2 (by rw [← bP q3];exact hl) hb
  ·rw [q4] at hb
   exact uQ (hM.lt j o b q3 hl hb) hF.size

theorem aNz{f base:Nat}{ids:List Nat}{args A3:List AV}{r y:AV}{L:Upd}(hd:distinct 0 ids=true)(hb:fG M base=true)
  (hs:rnM 0 ids (ids.map (at? M))=some M0) (hlv:∀ i∈ids,dX M i=true) (ha:rnL 0 ids args=some A3) (hU:mG ids base ids M1=some L) (hy:mpA (bkI ids base) r=some y)
  (h:FMM P f A3 M0 r M1):FM P f args M y L:=by
 intro C w us hus hM n;obtain ⟨H4,hmp,_⟩:=pL (k:=0) hM hd hs;refine (h (C.rn 0 ids) w us (aGi hmp hus ha) H4 n).mono ?_;rintro e w' ⟨u,rfl,C1,hF,Bp,hr⟩;exact ⟨u,rfl,C.back C1 ids base,bMg hd hb hs hlv hU hy hM hF Bp hr⟩
def shown(ids:List Nat)(base:Nat)(args:List AV)(bs:Upd)(M1:Mem)(r:AV):Option (List AV × Mem × AV × Upd):=match distinct 0 ids && ids.all (dX (upds [] bs)) with
 | true=>match rnM 0 ids (ids.map (at? (upds [] bs))) with
  | some M0=>match rnL 0 ids args with
   | some A3=>match mG ids base ids M1 with
    | some L=>match mpA (bkI ids base) r with
     | some y=>some (A3,M0,y,L)
     | none=>none
    | none=>none
   | none=>none
  | none=>none
 | false=>none
theorem FMM.fc{f base:Nat}{ids:List Nat}{args A3:List AV}{bs:Upd}{r y:AV}{L:Upd}(h:FMM P f A3 M0 r M1)(hs:shown ids base args bs M1 r=some (A3,M0,y,L)):FC P f args bs base y L:=fun M hb hf _=>by
 unfold shown at hs
 have hsub:aOa (upds [] bs) M:=fun id o ho=>by
  rcases pX bs [] id o ho with h5 | h5
  ·exact hb _ h5
  ·simp [bU] at h5
 split at hs
 ·rename_i hd
  rw [B4,iD] at hd
  have hlv:∀ i∈ids,∃ o,bU (upds [] bs) i=some o∧bU M i=some o∧o.live=true:=fun i hi=>by
   obtain ⟨o,h1,h2⟩:=dJ (hd.2 i hi);exact ⟨o,bI.2 h1,hsub _ _ (bI.2 h1),h2⟩
  split at hs
  ·rename_i h1
   split at hs
   ·rename_i h2
    split at hs
    ·rename_i h3
     split at hs
     ·rename_i h4
      cases hs;have he:ids.map (at? M)=ids.map (at? (upds [] bs)):=bFq fun i hi=>by
       obtain ⟨o,q1,q2,_⟩:=hlv i hi;unfold at?
       rw [q1,q2]
      refine aNz hd.1 hf (by rw [he];exact h1) (fun i hi => ?_) h2 h3 h4 h
      obtain ⟨o,_,q2,q3⟩:=hlv i hi;exact gR (bI.1 q2) q3
     ·cases hs
    ·cases hs
   ·cases hs
  ·cases hs
 ·cases hs

theorem aKa{id ty n:Nat}{cs:List PV}(hM:aX P C M w)(ho:M[id]? = some (some (.row ty n cs))):∀ {l:List AV} {us:List Value},cT C M w l us→cT (C.close id true) (aZ M id (some .dead)) w (fzL id n cs l) us
 | [],us,h=>by cases h;simp only [fzL];exact .nil
 | x::r,us,h=>by
  cases h with
  | cons _ u _ k hx hr =>
   simp only [fzL];exact .cons _ _ _ _ (aCs hM ho hx) (aKa hM ho hr)
theorem FM.close1{f id ty n:Nat}{cs:List PV}{args:List AV}{y:AV}{L:Upd}(ho:bU M id=some (.row ty n cs))(h:FM P f (fzL id n cs args) (aZ M id (some .dead)) y L):FM P f args M y ((id,.dead)::L):=fun C w us hus hM k=>by
 have ho:=bI.1 ho;have fk:=cU (C:=C) (w:=w) true ho rfl;refine (h _ w us (aKa hM ho hus) (lE hM true ho rfl) k).mono ?_;rintro e w' ⟨u,rfl,C',hF,Ej,hr⟩;exact ⟨u,rfl,C',fk.trans hF,Ej,hr⟩
def aAm(bs:Upd):List Nat→List AV→Option (List AV)
 | [],args=>match iG args with
  | true=>some args
  | false=>none
 | id::r,args=>match bU (upds [] bs) id with
  | some (.row _ n cs)=>match r.all (fun j => !Nat.beq j id) with
   | true=>aAm bs r (fzL id n cs args)
   | false=>none
  | _=>none
def kills:List Nat→Upd→Upd
 | [],L=>L
 | id::r,L=>(id,.dead)::kills r L
theorem aDt{f base:Nat}{bs:Upd}{y:AV}{L:Upd}:∀ {ids:List Nat} {M:Mem} {args Am:List AV},aAm bs ids args=some Am→(∀ id∈ids,∀ o,bU (upds [] bs) id=some o→bU M id=some o)→fG M base=true→FV P f Am base y L→FM P f args M y (kills ids L)
 | [],M,args,Am,hc,_,hf,h=>by
  unfold aAm at hc
  split at hc
  ·rename_i hn
   cases hc;obtain ⟨r,M1,h1,h2⟩:=h;exact vJ (.inl ⟨hn,rfl⟩) hf h2 h1
  ·cases hc
 | id::r,M,args,Am,hc,hb,hf,h=>by
  unfold aAm at hc
  split at hc
  ·rename_i ty n cs ho
   split at hc
   ·rename_i hd
    have hoM:=hb id (jT ..) _ ho;refine FM.close1 hoM (aDt hc (fun j hj o hjo => ?_) ?_ h)
    ·have hne:j≠id:=fun e=>by
      have:=iD.1 hd j hj;subst e;simp at this
     rw [dE,if_neg (Ne.symm hne)];exact hb j (Cn _ hj) o hjo
    ·have hne:id≠base:=fun e=>by
      subst e;exact cV hf _ (bI.1 hoM)
     unfold fG at hf ⊢
     rw [dE,if_neg hne];exact hf
   ·cases hc
  ·cases hc
theorem FV.close{f base:Nat}{ids:List Nat}{args Am:List AV}{y:AV}{L bs:Upd}(h:FV P f Am base y L)(hc:aAm bs ids args=some Am):FC P f args bs base y (kills ids L):=fun M hb hf _=>by
 refine aDt hc (fun id _ o ho => ?_) hf h
 rcases pX bs [] id o ho with h5 | h5
 ·exact hb _ h5
 ·simp [bU] at h5

def unA:AV→AV
 | .tup l => .tup (l.map un)
 | x=>un x
theorem bMh{x:AV}{u:Value}(h:Rep C M w x u):Rep C M w (unA x) u:=by
 cases h with
 | tup cs vs h1 h2 =>
  refine .tup _ _ (by simpa using h1) (fun i hi => ?_)
  simp only [gL];exact bFm (h2 i (by simpa using hi))
 | p x u h=>exact .p _ _ h
 | any u=>exact .any u
 | kb b=>exact bFm (.kb b)
 | yld l=>exact .yld l
 | own id u h0 ha h=>exact .own id u h0 ha h
 | arr id off n u h0 ha h=>exact .arr id off n u h0 ha h
 | ptr id off u h0 ha h hp=>exact .ptr id off u h0 ha h hp
 | mp id u h0 ha h=>exact .mp id u h0 ha h
 | pa id q u h0 ha h=>exact .pa id q u h0 ha h
 | rp cs off b o us h1 h2 h3=>exact .rp cs off b o us h1 h2 h3
 | agg cs vs h0 h1 h2=>exact .agg cs vs h0 h1 h2
 | fn f cs ds us vs h1 h2 h3 h4=>exact .fn f cs ds us vs h1 h2 h3 h4
theorem sP.un{f:Nat}{args:List AV}{M M1:Mem}{r:AV}(h:sP P f args M r M1):sP P f args M (unA r) M1:=fun C w us hus hM n=>by
 refine (h C w us hus hM n).mono ?_;rintro e w' ⟨u,rfl,C1,hF,Bp,hr,hP⟩;exact ⟨u,rfl,C1,hF,Bp,bMh hr,hP⟩

def bMi(k:Nat)(g:Gh)(x:Option ((AV × Mem) × AS)):Option (AV × Mem × List Prop × List OI):=match x with
 | some ((r,M1),s)=>match gh k g ⟨[unA r],M1⟩ with
  | some ⟨[r'],M'⟩=>some (r',M',s.obs,s.o)
  | _=>none
 | none=>none
theorem sP.gh{f k:Nat}{args:List AV}{M M1 M':Mem}{r r':AV}{g:Gh}(hk:M.length≤k)(h:sP P f args M r M1)(hg:KV.gh k g ⟨[r],M1⟩=some ⟨[r'],M'⟩):sP P f args M r' M':=fun C w us hus hM n=>by
 refine (h C w us hus hM n).mono ?_;rintro e w' ⟨u,rfl,C1,hF,Bp,hr,hP⟩;have hs:Sim P (C.with []) M w ⟨[r],M1⟩ { tmps := #[u],defers:=[] } w':=⟨C1,⟨rfl,fun i hi=>by
  obtain rfl:i=0:=by simpa using hi
  exact hr⟩,Bp,hF.based [],⟨[],rfl,.nil,fun D h=>by simp at h⟩,fun p hp=>(by cases hp),hP⟩
 obtain ⟨C2,hS,Ga,Ev,_,_,Px⟩:=mT hk hg hs;exact ⟨u,rfl,C2,Ev.unbased,Ga,hS.rep 0 (by simp),Px⟩
end
section
/-- numbers, by runs -/
def rng:List (Nat × Nat)→List Nat
 | []=>[]
 | (a,n)::r=>List.range' a n++rng r

abbrev aB(n:Int):PV := .v (.int .i64 n)
abbrev blP(b:Bool):PV := .v (.bool b)
abbrev bD(l:List Int):PV := .sl l.length (l.map aB)
abbrev bK:PV := .v (.slice none 0 0)

def EO:Env:=⟨fun _ _ _ _=>none,ok⟩
theorem bDy:oU Tp EO:=⟨fun _ _ _ _ _ _ h=>(by cases h),bSn⟩

def cd(f:Func):Code:=f.body.getD .skip
def sub:Code→List Nat→Code
 | c,[]=>c
 | .seq a b,i::r=>match i with | 0=>sub a r | _=>sub b r
 | .cond _ a b,i::r=>match i with | 0=>sub a r | _=>sub b r
 | .block _ b,_::r=>sub b r
 | .loop b,_::r=>sub b r
 | .scope b,_::r=>sub b r
 | .rangeFunc _ _ a b,i::r=>match i with | 0=>sub a r | _=>sub b r
 | _,_::_ => .skip
def look:List (Nat × AV)→Nat→AV
 | [],_ => .any
 | (i,x)::r,k=>match Nat.beq i k with
  | true=>x
  | false=>look r k
def frm(l:List (Nat × AV)):Nat→Nat→List AV
 | 0,_=>[]
 | n+1,k=>look l k::frm l n (k+1)
abbrev fr(n:Nat)(l:List (Nat × AV)):List AV:=frm l n 0

abbrev asg(o:List OI):AS:=⟨false,o,[]⟩
abbrev out(l:List Prop):AS:=⟨false,[],l⟩
theorem gn:bA (out []):=fun _ h=>by simp at h
theorem gc{p:Prop}{l:List Prop}(hp:p)(h:bA (out l)):bA (out (p::l)):=fun q hq=>by
 rcases jU.1 hq with rfl | hq
 ·exact hp
 ·exact h q hq

def bSj(base:Nat)(x:Option ((AV × Mem) × AS)):Option (AV × Upd × List Prop × List OI):=match x with
 | some ((r,M1),s)=>match aTw M1 base (unA r) with
  | some (y,L)=>some (y,L,s.obs,s.o)
  | none=>none
 | none=>none
theorem FV.fin{f base:Nat}{fn:Func}{args:List AV}{y:AV}{L:Upd}{o:List OI}{l:List Prop}(hf:Tryz.prog.funcs[f]? = some fn)(hb:fn.body.isSome=true)
  (h:bSj base (aMd Tp tT EO 0 fn (cd fn) args [] (asg o))=some (y,L,l,[])) (g:bA (out l)):FV Tp f args base y L:=by
 unfold bSj at h
 split at h
 ·rename_i r M1 s hr
  split at h
  ·rename_i y' L' ho
   simp only [Option.some.injEq,Prod.mk.injEq] at h
   obtain ⟨rfl,rfl,rfl,hs⟩:=h;refine ⟨unA r,M1,(sP.un (wS bDz bDy mixed hf ?_ hr (fun p hp=>g p hp))).fmm,ho⟩
   unfold cd;cases h1:fn.body with
   | none=>rw [h1] at hb;cases hb
   | some c=>rfl
  ·cases h
 ·cases h
def bSk(k:Nat)(g:Gh)(x:Option ((Ex × St) × AS)):Option (Ex × St × List Prop × List OI):=match x with
 | some ((e,st1),s)=>match gh k g st1 with
  | some Aj=>some (e,Aj,s.obs,s.o)
  | none=>none
 | none=>none
theorem aA.fin{k:Nat}{c:Code}{st Aj:St}{e:Ex}{g:Gh}{o:List OI}{l:List Prop}(h:bSk k g (xR Tp tT EO k 0 c st (asg o))=some (e,Aj,l,[]))(gd:bA (out l)):aA Tp k c st e Aj:=by
 unfold bSk at h
 split at h
 ·rename_i e1 st1 s hr
  split at h
  ·rename_i st2 hg
   simp only [Option.some.injEq,Prod.mk.injEq] at h
   obtain ⟨rfl,rfl,rfl,hs⟩:=h;exact (yS bDz bDy mixed c hr (fun p hp=>gd p hp)).post hg
  ·cases h
 ·cases h
theorem sP.fin{f k:Nat}{fn:Func}{args:List AV}{M M':Mem}{r:AV}{g:Gh}{o:List OI}{l:List Prop}(hk:M.length=k)(hf:Tryz.prog.funcs[f]? = some fn)(hb:fn.body.isSome=true)
  (h:bMi k g (aMd Tp tT EO 0 fn (cd fn) args M (asg o))=some (r,M',l,[])) (gd:bA (out l)):sP Tp f args M r M':=by
 unfold bMi at h
 split at h
 ·rename_i r1 M1 s hr
  split at h
  ·rename_i r2 M2 hg
   simp only [Option.some.injEq,Prod.mk.injEq] at h
   obtain ⟨rfl,rfl,rfl,hs⟩:=h;refine sP.gh (Nat.le_of_eq hk) (sP.un (wS bDz bDy mixed hf ?_ hr (fun p hp=>gd p hp))) hg
   unfold cd;cases h1:fn.body with
   | none=>rw [h1] at hb;cases hb
   | some c=>rfl
  ·cases h
 ·cases h
theorem FMM.fin{f k:Nat}{fn:Func}{args:List AV}{M M':Mem}{r:AV}{g:Gh}{o:List OI}{l:List Prop}(hk:M.length=k)(hf:Tryz.prog.funcs[f]? = some fn)(hb:fn.body.isSome=true)
  (h:bMi k g (aMd Tp tT EO 0 fn (cd fn) args M (asg o))=some (r,M',l,[])) (gd:bA (out l)):FMM Tp f args M r M':=(sP.fin hk hf hb h gd).fmm
theorem FV.frz{P:Program}{f base:Nat}{args:List AV}{y:AV}(h:FMM P f args [] y [])(ho:aTw [] base y=some (y,[])):FV P f args base y []:=⟨y,[],h,ho⟩
theorem aA.cast{P:Program}{k:Nat}{c:Code}{st st1 Aj:St}{e:Ex}(h:aA P k c st e st1)(he:st1=Aj):aA P k c st e Aj:=he ▸ h
def cJ(st:St)(l:List (Nat × AV)):St:=⟨l.foldl (fun t p=>t.set p.1 p.2) st.t,st.m⟩

theorem dC{x y:Int}(h:x=y):(x == y)=true:=by simpa using h
theorem bJ{x y:Int}(h:x≠y):(x == y)=false:=by simpa using h
theorem eY{x y:Int}(h:x≠y):(x != y)=true:=by simpa using h
theorem bL{x y:Int}(h:x=y):(x != y)=false:=by simpa using h
theorem cN{x y:Int}(h:x<y):decide (x<y)=true:=by simpa using h
theorem bH{x y:Int}(h:y≤x):decide (x<y)=false:=by simpa using h
theorem mR{x y:Int}(h:x≤y):decide (x≤y)=true:=by simpa using h
theorem eL{x y:Int}(h:y<x):decide (x≤y)=false:=by simpa using h
theorem dB{b:Bool}(h:b=false):(!b)=true:=by simpa using h
theorem aW{b:Bool}(h:b=true):(!b)=false:=by simpa using h

theorem sL{α:Type}{g:α→PV}{l:List α}{i:Nat}{x:α}(h:l[i]? = some x):(l.map g)[i*1]? = some (g x):=by rw [Nat.mul_one,rV,h];rfl
theorem sM{α:Type}{g:α→PV}{l:List α}{i:Int}{x:α}(h0:0≤i)(h:l[i.toNat]? = some x):0≤i∧i<(l.length:Int)∧i.toNat*1<(l.map g).length:=by
 obtain ⟨h1,_⟩:=Ci.1 h;refine ⟨h0,by omega,by simpa using h1⟩
theorem fk{P:Program}{f:Nat}{args:List AV}{y:AV}{L:Upd}(base:Nat)(h:FV P f args base y L)(hn:iG args=true):FC P f args [] base y L:=h.fc hn
theorem fv{P:Program}{f base:Nat}{args Am:List AV}{y:AV}{L:Upd}{bs:List (Nat × AO)}(h:FV P f Am base y L)(hv:lQ (upds [] bs) args=some Am:=by kernel_rfl)(h1:aTy y=true:=by kernel_rfl)(h2:aTz L=true:=by kernel_rfl):FC P f args bs base y L:=h.view hv h1 h2
theorem ixn{α:Type}{l:List α}{i:Nat}{x:α}(g:α→PV)(h:l[i]? = some x):0≤(i:Int)∧(i:Int)<(l.length:Int)∧(i:Int).toNat*1<(l.map g).length:=sM (Bt _) (by rwa [Int.toNat_natCast])
theorem atm{α:Type}{l:List α}{i:Nat}{x:α}(g:α→PV)(h:l[i]? = some x):(l.map g)[i*1]? = some (g x):=sL h
abbrev bF:OI := .b false
abbrev bT:OI := .b true
abbrev pI (n:Int):AV:=.p (aB n)
abbrev pB (b:Bool):AV:=.p (blP b)
abbrev fS (l:Lqq):PV:=.sl l.length (l.flatten.map aB)
theorem A4 {p:Prop}{l:List Prop}(hp:p)(h:bA (out l)):bA (out (p::p::l)):=gc hp (gc hp (h))
theorem A2 {p:Prop}{l:List Prop}(hp:p)(h:bA (out l)):bA (out (p::p::p::l)):=gc hp (gc hp (gc hp (h)))
theorem Gp {p:Prop}{l:List Prop}(hp:p)(h:bA (out l)):bA (out (p::p::p::p::l)):=gc hp (gc hp (gc hp (gc hp (h))))
theorem Cg {p:Prop}{l:List Prop}(hp:p)(h:bA (out l)):bA (out (p::p::p::p::p::l)):=gc hp (gc hp (gc hp (gc hp (gc hp (h)))))
theorem G3 {p:Prop}{l:List Prop}(hp:p)(h:bA (out l)):bA (out (p::p::p::p::p::p::l)):=gc hp (gc hp (gc hp (gc hp (gc hp (gc hp (h))))))
theorem I1 {p:Prop}{l:List Prop}(hp:p)(h:bA (out l)):bA (out (p::p::p::p::p::p::p::l)):=gc hp (gc hp (gc hp (gc hp (gc hp (gc hp (gc hp (h)))))))
theorem I2 {p:Prop}{l:List Prop}(hp:p)(h:bA (out l)):bA (out (p::p::p::p::p::p::p::p::l)):=gc hp (gc hp (gc hp (gc hp (gc hp (gc hp (gc hp (gc hp (h))))))))
theorem gt (p:Prop){l:List Prop}(hp:p)(h:bA (out l)):bA (out (p::l)):=gc hp h
theorem gr (v:PV){l:List Prop}(h:bA (out l)):bA (out ((some v=some v)::l)):=gc rfl h
theorem gf{l:List Prop}(h:bA (out l)):bA (out ((false=false)::l)):=gc rfl h
def FC.o{P:Program}{f:Nat}{args:List AV}{bs:List (Nat × AO)}{base:Nat}{y:AV}{L:Upd}(_:FC P f args bs base y L):OI:=.c y L
def aF.k{P:Program}{k:Nat}{c:Code}{st Aj:St}{e:Ex}(_:aF P k c st e Aj)(n:Nat)(g:Gh):OI:=.k n g e Aj
def aA.k{P:Program}{k:Nat}{c:Code}{st Aj:St}{e:Ex}(_:aA P k c st e Aj)(n:Nat)(g:Gh):OI:=.k n g e Aj
def qI(ids:List Nat)(base:Nat)(x:AV):AV:=(mpA (bkI ids base) x).getD .any
def qM(f:Nat→Option Nat):List Nat→Mem→Upd
 | i::r,some o::M=>match mpO f o with
  | some q=>(i,q)::qM f r M
  | none=>[]
 | i::r,none::M=>qM f r M
 | _,_=>[]
def qS(ids:List Nat)(f:Nat→Option Nat)(args:List AV)(M:Mem):Upd:=blocks (upds [] (qM f ids M)) (clos (upds [] (qM f ids M)) (sX args))
theorem mq(ids:List Nat)(base:Nat){P:Program}{f:Nat}{A3:List AV}{M0 M1:Mem}{r:AV}(h:FMM P f A3 M0 r M1)(hs:shown ids base (A3.map (qI ids base)) (qS ids (bkI ids base) (A3.map (qI ids base)) M0) M1 r=some (A3,M0,qI ids base r,(mG ids base ids M1).getD []):=by kernel_rfl):FC P f (A3.map (qI ids base)) (qS ids (bkI ids base) (A3.map (qI ids base)) M0) base (qI ids base r) ((mG ids base ids M1).getD []):=FMM.fc h hs
theorem FV.fi{f base:Nat}{fn:Func}{args:List AV}{y:AV}{L:Upd}{l:List Prop}(hf:Tryz.prog.funcs[f]? = some fn)(o:List OI)(g:bA (out l))(h:bSj base (aMd Tryz.prog tT EO 0 fn (cd fn) args [] (asg o))=some (y,L,l,[]):=by kernel_rfl)(hb:fn.body.isSome=true:=by kernel_rfl):FV Tryz.prog f args base y L:=FV.fin hf hb h g
theorem aA.fi{k:Nat}{c:Code}{st Aj:St}{e:Ex}(g:Gh)(o:List OI){l:List Prop}(gd:bA (out l))(h:bSk k g (xR Tryz.prog tT EO k 0 c st (asg o))=some (e,Aj,l,[]):=by kernel_rfl):aA Tryz.prog k c st e Aj:=aA.fin h gd
theorem FMM.fi(k:Nat)(g:Gh){f:Nat}{fn:Func}{args:List AV}{M M':Mem}{r:AV}{l:List Prop}(hf:Tryz.prog.funcs[f]? = some fn)(o:List OI)(gd:bA (out l))(h:bMi k g (aMd Tryz.prog tT EO 0 fn (cd fn) args M (asg o))=some (r,M',l,[]):=by kernel_rfl)(hb:fn.body.isSome=true:=by kernel_rfl)(hk:M.length=k:=by kernel_rfl):FMM Tryz.prog f args M r M':=FMM.fin hk hf hb h gd
theorem g0{a b:Int}(h:a<b):bA (out [(decide (a<b))=true]):=gc (cN h) gn
def Lp:List Nat→List Nat
 | a::n::r=>List.range' a n++Lp r
 | _=>[]
abbrev gE:Gh:=⟨[],[],[],[]⟩
abbrev gZ(l:List Nat):Gh:=⟨Lp l,[],[],[]⟩
abbrev gI(l i:List Nat):Gh:=⟨Lp l,i,[],[]⟩
abbrev gN(l i:List Nat)(n:List (Nat × Nat)):Gh:=⟨Lp l,i,[],n⟩
abbrev rF(n:Nat):List OI:=List.replicate n (.b false)
abbrev rT(n:Nat):List OI:=List.replicate n (.b true)
abbrev pS(c:Code)(n:Nat)(l:List Nat):Code:=sub c (List.replicate n 1++l)
end
section
section
variable {l:Lqq} {j i:Nat} {xs:List Int} {v:Int}
end
end
section
section
variable {P:Program} {k:Nat} {b:Code} {α:Type}
theorem aF.find(S:Nat→St)(R1:Nat→α→St)(R2:St)(e1 e2:Ex)(h1:e1 ≠ .normal)(h2:e2 ≠ .normal)(p:α→Bool)(l:List α)
  (hs:∀ (i:Nat) (x:α),l[i]? = some x→p x=false→aA P k b (S i) .normal (S (i+1)))
  (hq:∀ (i:Nat) (x:α),l[i]? = some x→p x=true→aA P k b (S i) e1 (R1 i x))
  (hx:aA P k b (S l.length) e2 R2) :
  (∃ i x,l[i]? = some x∧l.findIdx? p=some i∧p x=true∧aF P k b (S 0) e1 (R1 i x))∨(l.findIdx? p=none∧l.any p=false∧aF P k b (S 0) e2 R2):=by
 have key:∀ (r:List α) (i:Nat),l.drop i=r→i≤l.length→(∃ j x,l[i+j]? = some x∧r.findIdx? p=some j∧p x=true∧aF P k b (S i) e1 (R1 (i+j) x))∨(r.findIdx? p=none∧r.any p=false∧aF P k b (S i) e2 R2):=by
  intro r
  induction r with
  | nil =>
   intro i hd hi;have:i=l.length:=by have:=congrArg List.length hd;simp at this;omega
   subst this;exact .inr ⟨rfl,rfl,.exit hx h2⟩
  | cons x r ih =>
   intro i hd hi;have hl:l[i]? = some x:=by
    have:=congrArg (·[0]?) hd
    simpa using this
   have hlt:i<l.length:=(Ci.1 hl).1;cases hp:p x with
   | true=>exact .inl ⟨0,x,by simpa using hl,by simp [List.findIdx?_cons,hp],hp,.exit (hq i x hl hp) h1⟩
   | false =>
    have Fg:l.drop (i+1)=r:=by
     have:=congrArg List.tail hd;simpa [List.tail_drop] using this
    rcases ih (i+1) Fg (by omega) with ⟨j,y,q1,q2,q3,q4⟩ | ⟨q1,q2,q3⟩
    ·refine .inl ⟨j+1,y,by rw [← q1];congr 1;omega,by simp [List.findIdx?_cons,hp,q2],q3,?_⟩
     rw [show i+(j+1)=i+1+j by omega]
     exact .step (hs i x hl hp) q4
    ·exact .inr ⟨by simp [List.findIdx?_cons,hp,q1],by simp [hp,q2],.step (hs i x hl hp) q3⟩
 rcases key l 0 (by simp) (Nat.zero_le _) with ⟨j,x,q1,q2,q3,q4⟩ | q
 ·exact .inl ⟨j,x,by simpa using q1,q2,q3,by simpa using q4⟩
 ·exact .inr q
end
def nE{α:Type}(p:α→Bool)(l:List α):Int:=match l.findIdx? p with
 | some i=>(i:Int)
 | none => -1
theorem jF{α:Type}{p:α→Bool}{l:List α}{i:Nat}(h:l.findIdx? p=some i):nE p l=(i:Int):=by unfold nE;rw [h]
theorem jG{α:Type}{p:α→Bool}{l:List α}(h:l.findIdx? p=none):nE p l = -1:=by unfold nE;rw [h]
theorem lG{α:Type}(p:α→Bool)(l:List α):decide (nE p l ≥ 0)=l.any p:=by
 unfold nE;cases h:l.findIdx? p with
 | none =>
  have:l.any p=false:=by simpa using h
  simp [this]
 | some i =>
  have:l.any p=true:=by
   have h2:(l.findIdx? p).isSome=true:=by rw [h];rfl
   rwa [List.findIdx?_isSome] at h2
  simp [this]
theorem aR{n:Nat}(h:n≤1000000):inR ((n:Nat):Int):=by unfold inR;omega
theorem bC{α:Type}{l:List α}{i:Nat}{x:α}(h:l[i]? = some x):i<l.length:=(Ci.1 h).1
abbrev small(n:Nat):Prop:=n<1000000
end
section
abbrev aD(l:List UInt8):PV := .v (.string ⟨l.toArray⟩)
theorem bSi(b:UInt8):inR (b.toNat:Int):=by
 have:=b.toNat_lt;unfold inR;omega
theorem bDx{l:List UInt8}{i:Nat}{b:UInt8}(h:l[i]? = some b):(l[i]?).map (fun b:UInt8=>PV.v (.int .u8 (b.toNat:Int)))=some (.v (.int .u8 (b.toNat:Int))):=by rw [h];rfl
theorem bQg(b:UInt8):0≤(b.toNat:Int)∧(b.toNat:Int)<256:=by
 have:=b.toNat_lt;omega
end
end KV
end Go.Proofs
section
namespace Go.Proofs
open Go.RowKit
namespace KV
open Tryz
theorem FV.ofc{f base:Nat}{args:List AV}{y:AV}(ho:aTw [] base y=some (y,[]))(h:∀ (C:Cx) (w:World) (us:List Value),cT C [] w args us→aX Tp C [] w→Calls Tp f us.toArray w fun e w'=>∃ v,e = .returned v∧Below w.heap.size w w'∧Rep (C.after w w' none) [] w' y v):FV Tp f args base y [] :=
 ⟨y,[],fun C w us hus hM n=>(callsIn_wide.2 (h C w us hus hM)).mono (by
  rintro e w' ⟨v,rfl,hb,hr⟩;obtain ⟨f1,m1⟩:=pJ (C:=C) (M:=[]) (w:=w) (w':=w') (kb:=none) hM hb.os hb.tape hb.output hb.size (fun b Aq=>hb.block b Aq)
  exact ⟨v,rfl,_,f1,m1,hr⟩),ho⟩
theorem I0{C:Cx}{M:Mem}{w:World}{x:PV}{us:List Value}{v:Value}(e:x = .v v)(h:cT C M w [.p x] us):us=[v]:=by
 subst e;cases h with | cons _ u _ k h hr =>
 cases hr;cases h with | p _ _ h=>cases h;rfl
theorem Gm{C:Cx}{M:Mem}{w:World}{x y:PV}{us:List Value}{v u:Value}(e:x = .v v)(e2:y = .v u)(h:cT C M w [.p x,.p y] us):us=[v,u]:=by
 subst e;subst e2;cases h with | cons _ u _ k h hr =>
 cases hr with | cons _ u2 _ k2 h2 Dm =>
 cases Dm;cases h with | p _ _ h=>cases h with | v _=>cases h2 with | p _ _ h2=>cases h2 with | v _=>rfl
theorem yL{C : Cx}{w : World}(h : oY C w) : (∃ m, w.cell? ⟨0, 0, none⟩ = some (.int .i64 m)) ∧ Lib.TabIs Tp w "internal/strconv.uint64pow10" .u64 Lib.pow10Tab := by
 obtain ⟨_,cs0,h0,m,hm⟩:=h (0,_) (jT ..);obtain ⟨_,Ei,h1,h2⟩:=h (1,_) (Cn _ (jT ..));dsimp only at h0 hm h1 h2
 refine ⟨⟨m,?_⟩,?_⟩
 ·unfold vX at h0
  split at h0
  ·rename_i he
   cases h0;unfold World.cell?;simp [he,hm]
  ·cases h0
 ·unfold Lib.TabIs World.var?
  have hg : Tryz.prog.globalNamed "internal/strconv.uint64pow10" = some 1 := by kernel_rfl
  rw [hg];unfold vX at h1
  split at h1
  ·rename_i he
   cases h1;show (match w.heap[1]? with | some (Obj.cells cs _ _)=>some cs | _=>none)=_
   rw [he,h2];rfl
  ·cases h1
theorem aMa{w:World}{k:Nat}{os:Array Obj}:Below w.heap.size w (Go.Sort.grow (w.drewN k) os):=⟨rfl,rfl,rfl,by simp [Go.Sort.grow,World.drewN],fun b hb=>by simp [Go.Sort.grow,World.drewN,Array.getElem?_append,hb]⟩
theorem wO{w:World}{k:Nat}:Below w.heap.size w (w.drewN k):=⟨rfl,rfl,rfl,dD _,fun b hb=>rfl⟩
theorem dH(n:Int)(h:inR n){base:Nat}:FV Tp 120 [.p (aB n)] base (.p (aD (Lib.itoa n))) []:=FV.ofc rfl fun C w us hus hM=>by
 obtain rfl:=I0 rfl hus;refine (Tryz.strconv_Itoa n h.1 h.2 w (yL hM.lib).2).mono ?_;rintro e w' ⟨rfl,k,os,rfl⟩;exact ⟨_,rfl,aMa,.p _ _ (.v _)⟩
theorem gA(s sep:List UInt8)(h:s.length<4294967281){base:Nat}:FV Tp 130 [.p (aD s),.p (aD sep)] base (.tup [.p (aD (Lib.cut s sep).1),.p (aD (Lib.cut s sep).2.1),.p (blP (Lib.cut s sep).2.2)]) []:=FV.ofc rfl fun C w us hus hM=>by
 obtain rfl:=Gm rfl rfl hus;obtain ⟨m,hm⟩:=(yL hM.lib).1;refine (Tryz.strings_Cut ⟨s.toArray⟩ ⟨sep.toArray⟩ m w (by rw [Lib.size_eq];exact h) hm).mono ?_
 rintro e w' ⟨rfl,k,rfl⟩;refine ⟨_,rfl,wO,.tup _ _ rfl fun i hi => ?_⟩
 match i,hi with
 | 0,_=>exact .p _ _ (.v _)
 | 1,_=>exact .p _ _ (.v _)
 | 2,_=>exact .p _ _ (.v _)
theorem bSh(s p:List UInt8){base:Nat}:FV Tp 32 [.p (aD s),.p (aD p)] base (.p (blP (Lib.hasPrefix s p))) []:=FV.ofc rfl fun C w us hus hM=>by
 obtain rfl:=Gm rfl rfl hus;refine (Tryz.strings_HasPrefix ⟨s.toArray⟩ ⟨p.toArray⟩ w).mono ?_;rintro e w' ⟨rfl,rfl⟩;exact ⟨_,rfl,Below.refl _ _,.p _ _ (.v _)⟩
theorem bLc{s:List UInt8}{v:Int}(hs:s.length≤1000)(h:Lib.atoiAll s = .ok v){base:Nat}:FV Tp 198 [.p (aD s)] base (.tup [.p (aB v),.p (.v .nilIface)]) []:=FV.ofc rfl fun C w us hus hM=>by
 obtain rfl:=I0 rfl hus;refine (Tryz.strconv_Atoi_ok ⟨s.toArray⟩ (by rw [Lib.size_eq];show s.length≤_;omega) v h w).mono ?_
 rintro e w' ⟨rfl,hw⟩;refine ⟨_,rfl,?_,.tup _ _ rfl fun i hi => ?_⟩
 ·rcases hw with rfl | ⟨t,rfl⟩
  ·exact Below.refl _ _
  ·exact ⟨by simp [Lib.bytesWorld,World.freeze,World.alloc,World.drew,-World.alloc_eq,-World.drew_eq],by simp [Lib.bytesWorld,World.freeze,World.alloc,World.drew,-World.alloc_eq,-World.drew_eq],by simp [Lib.bytesWorld,World.freeze,World.alloc,World.drew,-World.alloc_eq,-World.drew_eq],by rw [Lib.bytesWorld_size];omega,fun b hb=>Lib.bytesWorld_at_old w 5 t b hb⟩
 ·match i,hi with
  | 0,_=>exact .p _ _ (.v _)
  | 1,_=>exact .p _ _ (.v _)
end KV
end Go.Proofs
end
section
namespace Go.Proofs
open Go.ChangeShapes Go.WideShapes Go.ChangeAt Go.RowKit
namespace KV
open Tryz
variable {P:Program} {W W':World}
def CxW(W:World):Cx:={ ι:=fun _=>none,κ:=fun _=>0,F:=fun b=>b<W.heap.size }
theorem cEc{W:World}(hl:oY (CxW W) W):aX P (CxW W) [] W:=⟨fun i ty n cs h=>by simp at h,fun i ty cs h=>by simp at h,fun i es cl h=>by simp at h,fun i i' o o' b h=>by simp at h,fun i o b h=>by simp at h,fun b h=>h,fun i o b h=>by simp at h,hl⟩
theorem FV.law{f:Nat}{args:List AV}{us:List Value}(hl:oY (CxW W) W)(h:∀ base:Nat,FV P f args base (.p (blP true)) [])(hn:iG args=true)(hus:cT (CxW W) [] W args us):Calls P f us.toArray W fun e W'=>e = .returned (.bool true)∧Below W.heap.size W W':=by
 have hc:=(h 0).fc (bs:=[]) hn [] (fun p hp=>by simp at hp) rfl
 refine (callsIn_wide (n:=0)).1 ((hc (fun j _=>by rw [iP];cases j <;> rfl) (CxW W) W us hus (cEc hl) 0).mono ?_)
 rintro e w' ⟨u,rfl,C',hF,hM,hr⟩;cases hr with
 | p _ _ h =>
  cases h;exact ⟨rfl,hF.os,hF.tape,hF.out,hF.size,fun b hb=>hF.keep b hb fun id o ho=>by simp at ho⟩
theorem aTv{w:World}{b:Nat}{v:Value}(h:w.cell? ⟨b,0,none⟩=some v):∃ cs,vX w b=some cs∧cs[0]? = some v:=by
 unfold World.cell? at h
 unfold vX
 split at h
 ·rename_i cs _ _ hh
  rw [hh];exact ⟨cs,rfl,by simpa using h⟩
 ·cases h
theorem bDw{w:World}{n:String}{g:Nat}{cs:Array Value}(hg:P.globalNamed n=some g)(h:w.var? P n=some cs):vX w g=some cs:=by
 simp only [World.var?,hg,Option.bind_some] at h
 exact h
theorem Ii{W:World}(hL:laidMetH Tp YtfekapdegmfgaaaGreatDoor.Rows.sheetFieldsRow.laid W):vX W 1=some ((List.range 20).map fun i=>Value.int .u64 ((10:Int) ^ i)).toArray:=by
 rw [MakeChecks.laidMetH_plain _ _ _ (by kernel_rfl)] at hL
 obtain ⟨g, t, cs, fuel, p, h1, h2, h3, h4⟩ := Lib.laidMet.reads hL (n := "internal/strconv.uint64pow10") (d := YtfekapdegmfgaaaGreatDoor.Rows.laid_internal_strconv_uint64pow10) (.tail _ (.tail _ (.head _)));have hg : Tryz.prog.globalNamed "internal/strconv.uint64pow10" = some 1 := by kernel_rfl
 obtain rfl:=Option.some.inj (hg.symm.trans h1);obtain rfl:=Option.some.inj ((show (Tryz.prog.globals[1]?).map (·.type)=some 363 by kernel_rfl).symm.trans h2)
 have e:=Lib.cells_of_tab (zs:=(List.range 20).map fun i=>(10:Int) ^ i) (k := .u64) Tryz.underlying363 Tryz.underlying305 (by kernel_rfl) (by kernel_rfl) h4
 refine bDw hg (h3.trans ?_);rw [aAk] at e
 obtain ⟨l⟩:=cs;exact congrArg some (congrArg List.toArray e)
theorem bLb{W:World}(h:W.ShapedOpen Tp):∃ cs,vX W 0=some cs∧∃ m,cs[0]? = some (Value.int .i64 m):=by
 obtain ⟨m,hm⟩:=cell_of_shapedOpen_int (P:=Tp) (g:=0) (t:=3) (zero := #[.int .i64 0]) h (of_decide_eq_true (by kernel_rfl)) (by kernel_rfl) rfl (by kernel_rfl) (by kernel_rfl) Tryz.underlying3
 obtain ⟨cs,h1,h2⟩:=aTv hm;exact ⟨cs,h1,m,h2⟩
theorem aQo{w:World}{b:Nat}{cs:Array Value}(h:vX w b=some cs):b<w.heap.size:=by
 unfold vX at h
 split at h
 ·rename_i hh
  exact (mF.1 hh).1
 ·cases h
theorem cEd{W:World}(hL:laidMetH Tp YtfekapdegmfgaaaGreatDoor.Rows.sheetFieldsRow.laid W)(h:W.ShapedOpen Tp):oY (CxW W) W:=by
 intro p hp;simp only [bSx,jU,List.mem_nil_iff,or_false] at hp
 rcases hp with rfl | rfl
 ·obtain ⟨cs,h1,h2⟩:=bLb h
  exact ⟨aQo h1,cs,h1,h2⟩
 ·exact ⟨aQo (Ii hL),_,Ii hL,rfl⟩
section
variable {H:Type} {enc:TypeId × Value→H}
theorem sA(hl:laidOutB P=true)(hb:Below W.heap.size W W'):∀ {ts:List TypeId} {vs:List Value} {ds:List (DataW H)} {ps:List MemPlace},(ts.all fun t=>P.readableRec t && decide (t<P.types.size))=true→DataW.TrodAll enc P W 0 (fun _=>true) true ts vs ds ps→(∀ x∈ps,x.block<W.heap.size) →
  DataW.TrodAll enc P W' 0 (fun b=>decide (b<W.heap.size)) true ts vs ds ps
 | [],[],[],_,_,h,_=>h
 | t::ts,v::vs,d::ds,ps,hr,⟨p,q,h1,h2,e⟩,hlt=>by
  rw [List.all_cons,B4,B4,decide_eq_true_eq] at hr
  subst e;exact ⟨p,q,Below.trod hl hr.1.1 hr.1.2 h1 hb (fun x hx=>hlt x (aCi _ hx)),sA hl hb hr.2 h2 (fun x hx=>hlt x (aVu _ hx)),rfl⟩
 | [],_::_,_,_,_,h,_=>h.elim
 | _::_,[],_,_,_,h,_=>h.elim
 | [],[],_::_,_,_,h,_=>h.elim
 | _::_,_::_,[],_,_,h,_=>h.elim
theorem aLz{a:Assume}{C:Checked}{os:Os}{f:FuncId}{fn:Func}{s:ChangeSpec}{conds:List PathCond}{apart fresh handsOn again:Bool}{X:World→Array Value→Prop}
  (hX:∀ (w w':World) (args:Array Value),w.heap=w'.heap→X w args→X w' args)
  (own:ownKnob C.prog.godebug=none) (started:os.Started) (noInit:C.prog.inits.idxOf? f=none) (hfn:C.prog.funcs[f]? = some fn)
  (witness:∃ (w:World) (tape:Tape) (i:Input),w.os=os∧(w.forCall tape i).Shaped C.prog∧i.vars=[]∧Input.okWide C.prog (w.forCall tape i) .any w.heap.size f i ∧
   ((s.pre enc C.prog fn conds apart (w.forCall tape i).memory i.args∧X (w.forCall tape i).memory i.args)∧sizedMet enc C.prog fn (OpenSpec.ofChange s) apart (w.forCall tape i).memory i.args)∧a.holds C.prog (lone (Frame.enter C.prog f i.args .normal) [] (w.forCall tape i)))
  (contract:∀ (W:World) (base:Nat) (args:Array Value) (ds gs:List (DataW H)) (before:List MemPlace),
   (∀ (j:Nat) t v,fn.params[j]? = some t→args[j]? = some v→Value.okWide C.prog W .any base t v) →
   DataW.Whole enc C.prog fn.params.toList s.vars apart W args.toList ds gs before→X W args→W.ShapedOpen C.prog →
   Calls C.prog f args W fun e W'=>∃ v,e = .returned v∧s.post enc C.prog fn apart fresh handsOn again W args v W') :
  ReturnsInHanded a C os f .any (fun w args=>(s.pre enc C.prog fn conds apart w args∧X w args)∧sizedMet enc C.prog fn (OpenSpec.ofChange s) apart w args) (s.post enc C.prog fn apart fresh handsOn again):=by
 refine returnsInHanded_of_calls own started noInit witness ?_;intro w tape i _ hsh _ hok hpre hholds;obtain ⟨_,_,_,Pf,Mg,_,_,_,_,hval⟩:=hok;have e:Pf=fn:=Option.some.inj (Mg.symm.trans hfn);subst e;obtain ⟨⟨⟨ds,gs,before,hw,hc⟩,hx⟩,hz⟩:=hpre;have Pg:=DataW.Whole.of_heap (w':=w.forCall tape i) (by rfl) hw
 refine (contract (w.forCall tape i) w.heap.size i.args ds gs before hval Pg (hX _ _ _ (by rfl) hx) hsh).mono fun e W' ⟨v,he,hp⟩ => ?_
 subst he;exact ChangeSpec.post_blind hp
end
end KV
end Go.Proofs
end
section
namespace Go.Proofs
open Go.ChangeShapes Go.WideShapes Go.ChangeAt Go.RowKit
namespace KV
open Tryz
variable {P:Program} {W W':World}
section
variable {H:Type} {enc:TypeId × Value→H}
theorem aWc{a:Addr}{v:Value}(h:W.cell? (a.add 0)=some v):a=⟨a.block,a.off,none⟩:=by
 obtain ⟨b,o,s⟩:=a;cases s with
 | none=>rfl
 | some x =>
  unfold World.cell? at h
  simp only [Addr.add,if_true] at h
  split at h <;> simp at h

theorem aWd{t e:TypeId}{k:IntKind}{v:Value}{d:DataW H}{ps:List MemPlace}{base:Nat}(ht:P.underlying t=some (.slice e))(he:P.underlying e=some (.int k))(hc:P.cellsOf e=1)(hok:Value.okWide P W .any base t v)
  (h:DataW.Trod enc P W 0 (fun _=>true) true t v d ps):∃ l:List Int,cS (CxW W).F W (.sl l.length (l.map fun n => .v (.int k n))) v∧(∀ n∈l,(Lit.int k n).wf=true)∧l.length≤maxLen:=by
 obtain ⟨a0,len,cap,rfl⟩:=okWide_slice ht hok;obtain ⟨fuel,hf⟩:=h
 rcases open_ints ht he hc hf with ⟨hcs,hx⟩ | ⟨a,Py,Pz,zs,hcs,_,hl,hm,hz,hx,hcell,hwz⟩
 ·simp [Value.cells] at hcs
  obtain ⟨rfl,rfl,rfl⟩:=hcs;exact ⟨[],.sl 0 [] none 0 (fun _=>undef) (dD _) (Nat.zero_le _) (fun i h=>by simp at h) (fun i h=>by simp at h) (fun i h=>by simp at h),fun n h=>by simp at h,Nat.zero_le _⟩
 ·simp [Value.cells] at hcs
  obtain ⟨rfl,rfl,rfl⟩:=hcs;simp only [if_true] at hz
  have hlen:(zs.take len).length=len:=by rw [pF];omega
  refine ⟨zs.take len,?_,fun n hn=>hwz n (List.mem_of_mem_take hn),by rw [hlen];omega⟩
  rw [hlen];refine .sl len _ (some a) cap (fun i => .int k (zs.getD i 0)) hl hm (fun i hi => ?_) (fun i hi => ?_) (fun i hi=>rfl)
  ·have C8:i<len:=by rw [kI,hlen] at hi;exact hi
   have q1:=aWc (hcell 0 (by omega))
   have q2:=hcell i (by omega)
   rw [q1,Addr.add_lit] at q2
   exact ⟨a.block,a.off,by rw [← q1],World.block_lt_of_cell? W ⟨a.block,a.off+i,none⟩ q2,q2⟩
  ·have C8:i<len:=by rw [kI,hlen] at hi;exact hi
   simp only [gL,List.getElem_take];have:zs.getD i 0=zs[i]'(by omega):=by rw [uP,Bw (by omega)];rfl
   rw [this];exact .v _
end
end KV
end Go.Proofs
end
section
namespace Go.Proofs
open Go.RowKit
namespace KV
open Tryz
theorem hid{p:Prop}(h:p):Hid p:=h
def qJ(z:Bool)(most:Int):List UInt8→Nat→Int→Int × Int
 | [],i,acc=>if i=0 then (0,11) else if acc > most then (0,3) else (acc,0)
 | b::r,i,acc=>if (b.toNat<48∨57<b.toNat)∨(0<i∧z=true) then (0,11) else qJ z most r (i+1) (min (10*acc+((b.toNat:Int)-48)) (most+1))
def aKn(l:List UInt8):Bool:=decide (l[0]? = some 48)
def bN(l:List UInt8)(most:Int):Int × Int:=qJ (aKn l) most l 0 0
theorem cCy{b:UInt8}(h:((b.toNat:Int) == 48)=true):b=48:=by
 have:b.toNat=48:=by have:=eq_of_beq h;omega
 exact UInt8.toNat_inj.1 (by simpa using this)
theorem bHy(s:ByteArray)(w:World)(most:Int)(pos:Nat)(acc:Int)(b:Nat)(z:Bool)(hp:pos<s.size)(hm:0≤most∧most≤1000000000)(hacc:0≤acc∧acc≤most+1)(h1:48≤b)(h2:b≤57)
  (h:qJ z most (s.data.toList.drop (pos+1)) (pos+1) (min (10*acc+((b:Int)-48)) (most+1))=bN s.data.toList most) :
  (∃ (p:Nat) (a:Int),w.iter s (pos+1)=w.iter s p∧Value.int .i64 (min (10*acc+((b:Int)-48)) (most+1)) = .int .i64 a∧p≤s.size∧(0≤a∧a≤most+1)∧qJ z most (s.data.toList.drop p) p a=bN s.data.toList most) ∧
   s.size-(w.iter s (pos+1)).iterPos w.heap.size<s.size-(w.iter s pos).iterPos w.heap.size:=by
 refine ⟨⟨pos+1,_,rfl,rfl,hp,⟨by omega,by omega⟩,h⟩,?_⟩
 simp only [World.iterPos_iter];omega
theorem bOj{s:ByteArray}{pos:Nat}(h:pos=s.size):s.toList.isEmpty=decide (pos=0):=by
 subst h;rw [ByteArray.toList_eq,Lib.size_eq];cases s.data.toList <;> simp
theorem bOk(s:ByteArray)(most:Int)(hm:0≤most∧most≤1000000000)(w:World) :
  Calls Tp 131 #[.string s,.int .i64 most] w fun e w'=>e = .returned (.tuple #[.int .i64 (bN s.data.toList most).1,.int .i64 (bN s.data.toList most).2])∧∃ pos,w'=w.iter s pos:=by
 go_enter func131,Tryz.ntmps131
 go_wp2
 go_loopw [6] (fun n w'=>∃ (pos:Nat) (acc:Int),w'=w.iter s pos∧n = .int .i64 acc∧pos≤s.size∧(0≤acc∧acc≤most+1)∧qJ (aKn s.data.toList) most (s.data.toList.drop pos) pos acc=bN s.data.toList most) (fun _ w'=>s.size-w'.iterPos w.heap.size)
 case atStart=>exact ⟨0,0,rfl,rfl,Nat.zero_le _,by omega,rfl⟩
 case round =>
  obtain ⟨pos,acc,rfl,rfl,hps,hacc,hpre⟩:=hrel
  by_cases hp:pos<s.size
  ·have hl:pos<s.data.toList.length:=by rw [← Lib.size_eq];exact hp
   have hd:s.data.toList.drop pos=s.data.toList[pos]::s.data.toList.drop (pos+1):=bMc hl;have hb:(s[pos]'hp)=s.data.toList[pos]:=(Array.getElem_toList _).symm;have h0:0<s.size:=by omega
   have hz:aKn s.data.toList=decide ((s[0]'h0)=48):=by
    unfold aKn;have:s.data.toList[0]? = some (s[0]'h0):=by
     rw [Bw (by rw [← Lib.size_eq];exact h0)]
     exact congrArg some (Array.getElem_toList _)
    rw [this];simp
   rw [hd,← hb,hz] at hpre
   simp only [qJ,decide_eq_true_eq] at hpre
   have hz:=hid hz;clear hd hb
   by_cases ha:(s[pos]'hp).toNat<128
   ·have hnx:∀ ty,(Instr.next (.pointer (some ⟨w.heap.size,0,none⟩)) true ty).run Tp (w.iter s pos)=_:=fun ty=>run_next_ascii w s pos ty hp ha
    generalize hbb:(s[pos]'hp).toNat=b at *
    by_cases h1:b<48
    ·have hpre:=hid hpre
     go_wp2
     go_ret2
     have:=hpre.out;rw [if_pos (.inl (.inl h1))] at this
     exact ⟨by rw [← this];rfl,_,rfl⟩
    ·by_cases h2:57<b
     ·have hpre:=hid hpre
      go_wp2
      go_ret2
      have:=hpre.out;rw [if_pos (.inl (.inr h2))] at this
      exact ⟨by rw [← this];rfl,_,rfl⟩
     ·by_cases h3:0<pos
      ·by_cases h4:(s[0]'h0)=48
       ·have hpre:=hid hpre
        have hz:=hid hz
        go_wp2
        go_ret2
        have:=hpre.out;rw [if_pos (.inr ⟨h3,h4⟩)] at this
        exact ⟨by rw [← this];rfl,_,rfl⟩
       ·have hpre:=hid hpre
        have hz:=hid hz;have hne:(((s[0]'h0).toNat:Int) == 48)=false:=by
         rcases hq:(((s[0]'h0).toNat:Int) == 48) with _ | _
         ·rfl
         ·exact absurd (cCy hq) h4
        go_wp2
        all_goals first
         | (exfalso;rename_i hx;exact hno hne (by omega) (by omega) hx)
         | (exact bHy s w most pos acc b (aKn s.data.toList) hp hm hacc (by omega) (by omega) (by rw [hz.out];have:=hpre.out;rw [if_neg (by simp [h1,h2,h4])] at this;exact this))
      ·have hpre:=hid hpre
       have hz:=hid hz
       go_wp2
       all_goals exact bHy s w most pos acc b (aKn s.data.toList) hp hm hacc (by omega) (by omega) (by rw [hz.out];have:=hpre.out;rw [if_neg (by simp [h1,h2,h3])] at this;exact this)
   ·have hq:=decode_high s pos hp (by omega)
    have Kf:=decode_le s pos;have hnx:∀ ty,(Instr.next (.pointer (some ⟨w.heap.size,0,none⟩)) true ty).run Tp (w.iter s pos)=_:=fun ty=>run_next_any w s pos ty hp
    have hpre:=hid hpre;generalize hbb:(Utf8.decode s pos).1=b at *
    generalize hcc:(Utf8.decode s pos).2=c at *
    go_wp2
    go_ret2
    have:=hpre.out;rw [if_pos (.inl (.inr (by omega)))] at this
    exact ⟨by rw [← this];rfl,_,rfl⟩
  ·have hnx:∀ ty,(Instr.next (.pointer (some ⟨w.heap.size,0,none⟩)) true ty).run Tp (w.iter s pos)=_:=fun ty=>run_next_end w s pos ty hp
   have hpre:=hid hpre
   go_wp2
   all_goals have hpre:=hpre.out
   all_goals have hpe:pos=s.size:=by omega
   all_goals have he:s.toList.isEmpty=decide (pos=0):=bOj hpe
   all_goals rw [List.drop_eq_nil_of_le (by rw [← Lib.size_eq];omega)] at hpre
   all_goals simp only [qJ] at hpre
   all_goals go_ret2
   ·rename_i h;rw [he] at h;rw [if_pos (of_decide_eq_true h)] at hpre;exact ⟨by rw [← hpre];rfl,_,rfl⟩
   ·rename_i h h2;rw [he] at h;rw [if_neg (of_decide_eq_false h),if_pos h2] at hpre;exact ⟨by rw [← hpre];rfl,_,rfl⟩
   ·rename_i h h2;rw [he] at h;rw [if_neg (of_decide_eq_false h),if_neg (by omega)] at hpre;exact ⟨by rw [← hpre];rfl,_,rfl⟩
theorem aPl{w:World}{s:ByteArray}{pos:Nat}:Below w.heap.size w (w.iter s pos):=⟨rfl,rfl,rfl,by simp [World.iter,World.alloc,-World.alloc_eq],fun b hb=>by simp [World.iter,World.alloc,-World.alloc_eq,Array.getElem?_push];omega⟩
theorem gG(s:List UInt8)(most:Int)(h:0≤most∧most≤1000000000){base:Nat}:FV Tp 131 [.p (aD s),.p (aB most)] base (.tup [.p (aB (bN s most).1),.p (aB (bN s most).2)]) []:=FV.ofc rfl fun C w us hus hM=>by
 obtain rfl:=Gm rfl rfl hus;refine (bOk ⟨s.toArray⟩ most h w).mono ?_;rintro e w' ⟨rfl,pos,rfl⟩;refine ⟨_,rfl,aPl,.tup _ _ rfl fun i hi => ?_⟩
 match i,hi with
 | 0,_=>exact .p _ _ (.v _)
 | 1,_=>exact .p _ _ (.v _)
theorem aSl(z:Bool)(most:Int)(hm:0≤most):∀ (l:List UInt8) (i:Nat) (acc:Int),0≤acc→0≤(qJ z most l i acc).1∧(qJ z most l i acc).1≤most∧((qJ z most l i acc).2=0∨(qJ z most l i acc).2=3∨(qJ z most l i acc).2=11)
 | [],i,acc,h=>by
  unfold qJ
  split
  ·simp [hm]
  ·split
   ·simp [hm]
   ·exact ⟨h,by show acc≤most;omega,.inl rfl⟩
 | b::r,i,acc,h=>by
  unfold qJ
  split
  ·simp [hm]
  ·rename_i q
   exact aSl z most hm r _ _ (by have:48≤b.toNat:=Nat.le_of_not_lt fun h=>q (.inl (.inl h));omega)
theorem yG(l:List UInt8)(most:Int)(hm:0≤most):0≤(bN l most).1∧(bN l most).1≤most∧((bN l most).2=0∨(bN l most).2=3∨(bN l most).2=11):=aSl _ most hm l 0 0 (aWa _)
end KV
end Go.Proofs
end
namespace Go.Proofs
namespace KV
open Tryz
section
variable {r0:Bool}{k n o hi lo:Int}{i base:Nat}

noncomputable abbrev aSm:Code:=sub (cd Tryz.f30) [1,1,1,0,1,0,0]
theorem bYe(h0:lo≤n)(Al:r0=(decide (n≤hi))):FV Tp 128 [(pI n),(pI lo),(pI hi)] base (pB r0) []:=by
 subst Al;exact FV.fi func128 [bT,bT,bT,bT] (Gp (mR h0) gn)
theorem bYf(h0:n<lo):FV Tp 128 [(pI n),(pI lo),(pI hi)] base (pB false) []:=FV.fi func128 [bF,bF,bF,bF] (Gp (eL h0) gn)
def within(n lo hi:Int):Bool:=decide (lo≤n) && decide (n≤hi)
theorem cO{n lo hi:Int}:within n lo hi=true↔lo≤n∧n≤hi:=by simp [within]
theorem mI(n lo hi:Int){base:Nat}:FV Tp 128 [.p (aB n),.p (aB lo),.p (aB hi)] base (pB (within n lo hi)) []:=by
 by_cases h:lo≤n
 ·exact bYe h (by simp [within,h])
 ·have e:within n lo hi=false:=by simp [within,h]
  rw [e];exact bYf (show n<lo by omega)
theorem kJ:FV Tp 119 [] base (.p (.agg [(aD ([115,116,97,114,116,115]:List UInt8)),(aD ([112,97,115,115,101,115]:List UInt8)),(aD ([116,97,114,103,101,116,115]:List UInt8)),(aD ([106,117,100,103,101,109,101,110,116,115]:List UInt8)),(aD ([99,117,112,115]:List UInt8))])) []:=FV.fi func119 [] gn
theorem bYg(Al:r0=(within k 0 4)):FV Tp 127 [(pI k)] base (pB r0) []:=by
 subst Al;have k1:=fk 0 (kJ) rfl;have k2:=fk 0 (mI k 0 4) rfl;exact FV.fi func127 [k1.o,k2.o] (gc k2 (gt (inR 4) (by show _∧_;omega) (gc k1 gn)))
theorem oN(k:Int){base:Nat}:FV Tp 127 [.p (aB k)] base (pB (within k 0 4)) []:=bYg rfl
theorem bHz(h0:k=0):FV Tp 103 [(pI k)] base (.tup [(.p (.sl 3 [(aB 0),(aB 1),(aB 0)])),(pI 1)]) []:=FV.frz (FMM.fi 0 ⟨[],[],[0],[]⟩ func103 [bT] (gc (dC h0) gn)) (by kernel_rfl)
theorem bYh(h0:k≠0)(h1:k=1):FV Tp 103 [(pI k)] base (.tup [(.p (.sl 4 [(aB 0),(aB 0),(aB 0),(aB 1)])),(pI 3)]) []:=FV.frz (FMM.fi 0 ⟨[],[],[0],[]⟩ func103 [bF,bT] (gc (dC h1) (gc (bJ h0) gn))) (by kernel_rfl)
section
variable(h0:k≠0)(h1:k≠1)
include h0 h1
theorem bYi(h2:k=2):FV Tp 103 [(pI k)] base (.tup [(.p (.sl 3 [(aB 0),(aB 0),(aB 2)])),(pI 2)]) []:=FV.frz (FMM.fi 0 ⟨[],[],[0],[]⟩ func103 [bF,bF,bT] (gc (dC h2) (gc (bJ h1) (gc (bJ h0) gn)))) (by kernel_rfl)
theorem bYj(h2:k≠2)(h3:k=3):FV Tp 103 [(pI k)] base (.tup [(.p (.sl 4 [(aB 0),(aB 0),(aB 3),(aB 0)])),(pI 1)]) []:=FV.frz (FMM.fi 0 ⟨[],[],[0],[]⟩ func103 [bF,bF,bF,bT] (gc (dC h3) (gc (bJ h2) (gc (bJ h1) (gc (bJ h0) gn))))) (by kernel_rfl)
theorem bYk(h2:k≠2)(h3:k≠3):FV Tp 103 [(pI k)] base (.tup [(.p (.sl 3 [(aB 0),(aB 0),(aB 0)])),(pI 1)]) []:=FV.frz (FMM.fi 0 ⟨[],[],[0],[]⟩ func103 [bF,bF,bF,bF] (gc (bJ h3) (gc (bJ h2) (gc (bJ h1) (gc (bJ h0) gn))))) (by kernel_rfl)
end
def aJ(k:Int):List Int:=if k=0 then [0,1,0] else if k=1 then [0,0,0,1] else if k=2 then [0,0,2] else if k=3 then [0,0,3,0] else [0,0,0]
def aM(k:Int):Int:=if k=1 then 3 else if k=2 then 2 else 1
theorem eT(k:Int){base:Nat}:FV Tp 103 [.p (aB k)] base (.tup [.p (bD (aJ k)),.p (aB (aM k))]) []:=by
 unfold aJ aM
 by_cases h0:k=0
 ·subst h0;exact bHz rfl
 ·rw [if_neg h0]
  by_cases h1:k=1
  ·subst h1;exact bYh (by decide) rfl
  ·rw [if_neg h1,if_neg h1]
   by_cases h2:k=2
   ·subst h2;exact bYi (by decide) (by decide) rfl
   ·rw [if_neg h2,if_neg h2]
    by_cases h3:k=3
    ·subst h3;exact bYj (by decide) (by decide) (by decide) rfl
    ·rw [if_neg h3];exact bYk h0 h1 h2 h3
theorem bYl{r0:Int}(h0:(within k 0 4)=true)(Al:r0=(aM k)):FV Tp 35 [(pI k)] base (.tup [(.p (bD (aJ k))),(pI r0),(pI 0)]) []:=by
 subst Al;have k1:=fk 0 (oN k) rfl;have k2:=fk 0 (eT k) rfl;exact FV.fi func35 [k1.o,bF,k2.o] (gc k2 (gc (aW h0) (gc k1 gn)))
theorem bYm{k:Int}(h:within k 0 4=true){base:Nat}:FV Tp 35 [.p (aB k)] base (.tup [.p (bD (aJ k)),.p (aB (aM k)),.p (aB 0)]) []:=bYl h rfl
def qK(s:List UInt8)(i:Nat)(o:Int):St:=⟨fr 25 [(2,(pI 0)),(3,(pI 0)),(4,(pI o)),(11,(.p (.sl s.length (s.map dI)))),(12,(pI (s.length:Int))),(13,(pI (i:Int)))],[]⟩
theorem bYn{s:List UInt8}(h0:(65536:Int)<(s.length:Int)):FV Tp 30 [(.p (aD s))] base (.tup [(pI 0),(pI 10)]) []:=FV.fi func30 [bT] (g0 h0)
theorem bYo{s:List UInt8}{Ap:Nat}{Ak:Int}(h0:(s.length:Int)≤65536)(h1:s.length≤1000000000)(Bl:aF Tp 0 aSm (qK s 0 0) (.exit 0) (qK s Ap Ak)):FV Tp 30 [(.p (aD s))] base (.tup [(pI Ak),(pI 0)]) []:=FV.fi func30 [bF,Bl.k 6 (gZ [0,2,5,6,14,10])] (gc Bl.code (gc h1 (gc (bH h0) gn)))
theorem aZt{s:List UInt8}{Ab:UInt8}{i':Nat}{o':Int}(h0:(i:Int)<(s.length:Int))(h1:s[i]? = some Ab)(h2:inR ((31:Int)*o))(h3:inR (((31:Int)*o)+(Ab.toNat:Int)))(h4:cp i)(Ai:i'=(i+1))(Nc:o'=((((31:Int)*o)+(Ab.toNat:Int)).tmod 65521)):aA Tp 0 aSm (qK s i o) .normal (qK s i' o'):=by
 subst Ai Nc;exact aA.fi (gZ [0,2,5,6,14,10]) [bT,.x (.v (.int .u8 (Ab.toNat:Int)))] (gc h4 (gt ((65521:Int)≠0) (by first | decide | simp) (gc h3 (gt (inR (Ab.toNat:Int)) (bSi _) (gc h2 (gc (atm dI h1) (gc (ixn dI h1) (g0 h0))))))))
theorem aZu{s:List UInt8}(h0:(s.length:Int)≤(i:Int)):aA Tp 0 aSm (qK s i o) (.exit 0) (qK s i o):=aA.fi (gZ [0,2,5,6,14,10]) [bF] (gc (bH h0) gn)
def bQ(s:List UInt8):Int:=s.foldl (fun o b=>(31*o+(b.toNat:Int)).tmod 65521) 0
theorem aKo{o:Int}(b:UInt8)(h:0≤o∧o<65521):0≤(31*o+(b.toNat:Int)).tmod 65521∧(31*o+(b.toNat:Int)).tmod 65521<65521:=by
 have:=bQg b;rw [Int.tmod_eq_emod_of_nonneg (by omega)]
 omega
theorem bIa:∀ (s:List UInt8) (o:Int),0≤o∧o<65521→0≤s.foldl (fun o b=>(31*o+(b.toNat:Int)).tmod 65521) o∧s.foldl (fun o b=>(31*o+(b.toNat:Int)).tmod 65521) o<65521
 | [],o,h=>h
 | b::s,o,h=>bIa s _ (aKo b h)
theorem bYp{s:List UInt8}(h:s.length≤65536){base:Nat}:FV Tp 30 [.p (aD s)] base (.tup [.p (aB (bQ s)),.p (aB 0)]) []:=by
 have:=aF.range (P:=Tp) (k:=0) (b:=aSm) (e := .exit 0) (fun i (o:Int)=>qK s i o) (fun o=>qK s s.length o) (fun o b=>(31*o+(b.toNat:Int)).tmod 65521) (fun _ o=>0≤o∧o<65521) (by simp) s (a0:=0) (by omega)
  (fun i b o hx ho=>by
   have hi:=bC hx;have hb:=bQg b;exact ⟨aKo b ho,aZt (by omega) hx (by show _∧_;omega) (by show _∧_;omega) (aR (by omega)) rfl rfl⟩)
  (fun o _=>aZu (by omega))
 exact bYo (by omega) (by omega) this
theorem bOl{s:List UInt8}(h:65536<s.length){base:Nat}:FV Tp 30 [.p (aD s)] base (.tup [.p (aB 0),.p (aB 10)]) []:=bYn (by omega)
end
section
variable {r0:Bool}{b m n:Int}{i Ap base:Nat}

noncomputable abbrev aEj:Code:=sub (cd Tryz.f281) [1,0,1,0,0]
theorem bXw{x:UInt8}(h0:(48:Int)≤(x.toNat:Int))(Al:r0=(decide ((x.toNat:Int)≤57))):FV Tp 197 [(.p (.v (.int .u8 (x.toNat:Int))))] base (pB r0) []:=by
 subst Al;exact FV.fi func197 [bT,bT,bT] (A2 (mR h0) gn)
theorem bXx{x:UInt8}(h0:(x.toNat:Int)<48):FV Tp 197 [(.p (.v (.int .u8 (x.toNat:Int))))] base (pB false) []:=FV.fi func197 [bF,bF,bF] (A2 (eL h0) gn)
def isd(x:UInt8):Bool:=decide ((48:Int)≤(x.toNat:Int)) && decide ((x.toNat:Int)≤57)
theorem bXy(x:UInt8){base:Nat}:FV Tp 197 [.p (.v (.int .u8 (x.toNat:Int)))] base (pB (isd x)) []:=by
 by_cases h:(48:Int)≤(x.toNat:Int)
 ·exact bXw h (by simp [isd,h])
 ·have e:isd x=false:=by simp only [isd,h,decide_false,Bool.false_and]
  rw [e];exact bXx (by omega)
theorem bOc{x:UInt8}(Al:r0=(!(isd x))):FMM Tp 239 [(.p (.v (.int .u8 (x.toNat:Int)))),(.ptr 0 0)] [some (.box 289 [(.fn 197 [] [])])] (pB r0) [some (.box 289 [(.fn 197 [] [])])]:=by
 subst Al;exact FMM.fi 1 gE func239 [.c (pB (isd x)) []] (gc (fk 1 (bXy x) rfl) gn)
theorem aSj(x:UInt8):FMM Tp 239 [.p (.v (.int .u8 (x.toNat:Int))),.ptr 0 0] [some (.box 289 [(.fn 197 [] [])])] (pB (!(isd x))) [some (.box 289 [(.fn 197 [] [])])]:=bOc rfl
def fV(l:List UInt8)(i:Nat):St:=⟨fr 19 [(0,(.p (.sl l.length (l.map dI)))),(1,(.fn 239 [] [(.ptr 0 0)])),(7,(pI (l.length:Int))),(8,(pI (i:Int)))],[some (.box 289 [(.fn 197 [] [])])]⟩
theorem bOd{l:List UInt8}(hl0:aF Tp 1 aEj (fV l 0) (.exit 0) (fV l Ap)):FMM Tp 281 [(.p (.sl l.length (l.map dI))),(.fn 239 [] [(.ptr 0 0)])] [some (.box 289 [(.fn 197 [] [])])] (pI (-1)) [some (.box 289 [(.fn 197 [] [])])]:=FMM.fi 1 gE func281 [hl0.k 6 (gZ cf)] (gc hl0.code gn)
theorem bOe{l:List UInt8}(hl0:aF Tp 1 aEj (fV l 0) .ret (cJ (fV l Ap) [(4,(pI (Ap:Int)))])):FMM Tp 281 [(.p (.sl l.length (l.map dI))),(.fn 239 [] [(.ptr 0 0)])] [some (.box 289 [(.fn 197 [] [])])] (pI (Ap:Int)) [some (.box 289 [(.fn 197 [] [])])]:=FMM.fi 1 gE func281 [hl0.k 6 (gZ cf)] (gc hl0.code gn)
section
variable{l:List UInt8}{Ab:UInt8}(h0:(i:Int)<(l.length:Int))(h1:l[i]? = some Ab)
include h0 h1
theorem aPi(h2:(isd Ab)=false):aA Tp 1 aEj (fV l i) .ret (cJ (fV l i) [(4,(pI (i:Int)))]):=have k1:=mq [0] 1 (aSj Ab);aA.fi (gZ bt) [bT,.x (.v (.int .u8 (Ab.toNat:Int))),k1.o,bT] (gc (dB h2) (gc k1 (gc (atm dI h1) (gc (ixn dI h1) (g0 h0)))))
theorem aPj{i':Nat}(h2:(isd Ab)=true)(h3:cp i)(Ai:i'=(i+1)):aA Tp 1 aEj (fV l i) .normal (fV l i'):=by
 subst Ai;have k1:=mq [0] 1 (aSj Ab);exact aA.fi (gZ cf) [bT,.x (.v (.int .u8 (Ab.toNat:Int))),k1.o,bF] (gc h3 (gc (aW h2) (gc k1 (gc (atm dI h1) (gc (ixn dI h1) (g0 h0))))))
end
theorem aPk{l:List UInt8}(h0:(l.length:Int)≤(i:Int)):aA Tp 1 aEj (fV l i) (.exit 0) (fV l i):=aA.fi (gZ cf) [bF] (gc (bH h0) gn)
theorem bOf(l:List UInt8)(hl:l.length≤100000):FMM Tp 281 [.p (.sl l.length (l.map dI)),(.fn 239 [] [(.ptr 0 0)])] [some (.box 289 [(.fn 197 [] [])])] (pI (nE (fun x => !(isd x)) l)) [some (.box 289 [(.fn 197 [] [])])]:=by
 rcases aF.find (P:=Tp) (k:=1) (b:=aEj) (fun i=>fV l i) (fun i _=>cJ (fV l i) [(4,.p (aB (i:Int)))]) (fV l l.length) .ret (.exit 0) (by simp) (by simp) (fun x => !(isd x)) l
  (fun i x hx hp=>aPj (by have:=bC hx;omega) hx (by simpa using hp) (aR (by have:=bC hx;omega)) rfl)
  (fun i x hx hp=>aPi (by have:=bC hx;omega) hx (by simpa using hp))
  (aPk (l:=l) (i:=l.length) (by omega)) with ⟨i,x,h1,h2,h3,h4⟩ | ⟨h1,h2,h3⟩
 ·rw [jF h2];exact bOe h4
 ·rw [jG h1];exact bOd h3
theorem bOg{l:List UInt8}(h0:l.length≤100000)(Al:r0=(decide ((nE (fun x => !(isd x)) l) ≥ 0))):FMM Tp 238 [(.p (.sl l.length (l.map dI))),(.fn 239 [] [(.ptr 0 0)])] [some (.box 289 [(.fn 197 [] [])])] (pB r0) [some (.box 289 [(.fn 197 [] [])])]:=by
 subst Al;have k1:=mq [0] 1 (bOf l h0);exact FMM.fi 1 gE func238 [k1.o] (gc k1 gn)
theorem bOh(l:List UInt8)(hl:l.length≤100000):FMM Tp 238 [.p (.sl l.length (l.map dI)),(.fn 239 [] [(.ptr 0 0)])] [some (.box 289 [(.fn 197 [] [])])] (pB (l.any (fun x => !(isd x)))) [some (.box 289 [(.fn 197 [] [])])]:=bOg hl (lG _ _).symm
theorem bOi{l:List UInt8}(h0:l.length≤100000)(Al:r0=(!(l.any (fun x => !(isd x))))):FV Tp 196 [(.p (.sl l.length (l.map dI))),(.fn 197 [] [])] base (pB r0) []:=by
 subst Al;have k1:=mq [0] 1 (bOh l h0);exact FV.fi func196 [k1.o] (gc k1 gn)
theorem aSk(l:List UInt8)(hl:l.length≤100000){base:Nat}:FV Tp 196 [.p (.sl l.length (l.map dI)),(.fn 197 [] [])] base (pB (l.all isd)) []:=bOi hl (by rw [List.all_eq_not_any_not])
theorem bXz{s:List UInt8}(h0:(s.length:Int)≠m):FV Tp 132 [(.p (aD s)),(pI m),(pI b)] base (.tup [(pI 0),(pB false)]) []:=FV.fi func132 (rT 5) (Cg (eY h0) gn)
section
variable{s:List UInt8}(h0:(s.length:Int)=m)(h1:s.length≤1000000000)(h2:s.length≤100000)
include h0 h1 h2
theorem bYa(h3:(s.all isd)=false):FV Tp 132 [(.p (aD s)),(pI m),(pI b)] base (.tup [(pI 0),(pB false)]) []:=FV.fi func132 [bF,bF,bF,.c (pB (s.all isd)) [],bF,bF,bT] (gc (dB h3) (A4 (bL h0) (gc (fk 0 (aSk s h2) rfl) (gc (bL h0) (gc h1 (A4 (bL h0) gn))))))
theorem bYb{v0:Int}(h3:(s.all isd)=true)(h4:s.length≤1000)(h5:Lib.atoiAll s = .ok v0)(Al:r0=(decide (v0<b))):FV Tp 132 [(.p (aD s)),(pI m),(pI b)] base (.tup [(pI v0),(pB r0)]) []:=by
 subst Al;have k1:=fk 0 (bLc h4 h5) rfl;exact FV.fi func132 [bF,bF,bF,.c (pB (s.all isd)) [],bF,bF,bF,k1.o] (gc k1 (gc (aW h3) (A4 (bL h0) (gc (fk 0 (aSk s h2) rfl) (gc (bL h0) (gc h1 (A4 (bL h0) gn)))))))
end
def atV(s:List UInt8):Int:=match Lib.atoiAll s with
 | .ok v=>v
 | _=>0
def dgM(s:List UInt8)(m b:Int):Int × Bool:=if (s.length:Int)=m∧s.all isd=true then (atV s,decide (atV s<b)) else (0,false)
theorem gD{a:UInt8}(h:isd a=true):48≤a.toNat∧a.toNat≤57:=by
 simp only [isd,B4,decide_eq_true_eq] at h;omega
theorem bRt{a:UInt8}{r:List UInt8}{u:Nat}(h:isd a=true)(hp:Lib.parseUint10 0 (a::r) = .ok u)(hu:u<1000000):Lib.atoiAll (a::r) = .ok (u:Int):=by
 have:=gD h;have e1:¬ (a.toNat=43∨a.toNat=45):=by omega
 have e2:¬ a.toNat=45:=by omega
 have e3:Lib.parseMag (a::r) = .ok u:=by unfold Lib.parseMag;rw [if_neg (by simp)];exact hp
 unfold Lib.atoiAll;have e4:¬ a.toNat=43:=by omega
 simp only [e4,e2,or_self,if_false];rw [e3];show (if ¬ False∧9223372036854775808≤u then Lib.NumEnd.range else if False∧9223372036854775808<u then .range else .ok (u:Int))=_
 rw [if_neg (by omega),if_neg (by simp)]
theorem Nf{a:UInt8}(h:isd a=true):Lib.atoiAll [a] = .ok ((a.toNat:Int)-48):=by
 have h1:=gD h;have:=bRt (r:=[]) (u:=a.toNat-48) h (by
  unfold Lib.parseUint10;rw [if_pos h1,if_neg (by omega),if_neg (by omega)]
  unfold Lib.parseUint10
  congr 1;omega) (by omega)
 rw [this];congr 1;omega
theorem at2{a c:UInt8}(h:isd a=true)(h2:isd c=true):Lib.atoiAll [a,c] = .ok (10*((a.toNat:Int)-48)+((c.toNat:Int)-48)):=by
 have h1:=gD h;have h3:=gD h2;have:=bRt (r:=[c]) (u:=10*(a.toNat-48)+(c.toNat-48)) h (by
  unfold Lib.parseUint10;rw [if_pos h1,if_neg (by omega),if_neg (by omega)]
  unfold Lib.parseUint10;rw [if_pos h3,if_neg (by omega),if_neg (by omega)]
  unfold Lib.parseUint10
  congr 1;omega) (by omega)
 rw [this];congr 1;omega
theorem gF(s:List UInt8)(m b:Int)(hm:m=1∨m=2){base:Nat}:FV Tp 132 [.p (aD s),.p (aB m),.p (aB b)] base (.tup [.p (aB (dgM s m b).1),.p (blP (dgM s m b).2)]) []:=by
 unfold dgM
 by_cases h:(s.length:Int)=m
 ·by_cases h2:s.all isd=true
  ·rw [if_pos ⟨h,h2⟩]
   have hv:Lib.atoiAll s = .ok (atV s):=by
    have hl:s.length=1∨s.length=2:=by omega
    unfold atV;rw [iD] at h2
    match s,hl,h2 with
    | [a],_,h2=>rw [Nf (h2 a (by simp))]
    | [a,c],_,h2=>rw [at2 (h2 a (by simp)) (h2 c (by simp))]
   exact bYb h (by omega) (by omega) h2 (by omega) hv rfl
  ·have h3:s.all isd=false:=by simpa using h2
   rw [if_neg (by simp [h3])]
   exact bYa h (by omega) (by omega) h3
 ·rw [if_neg (fun q=>h q.1)]
  exact bXz h
theorem cCm(h0:(within n 0 360000)=false):FV Tp 37 [(pI n)] base (.tup [(.p (aD ([]:List UInt8))),(pI 3)]) []:=have k1:=fk 0 (mI n 0 360000) rfl;FV.fi func37 [k1.o,bT] (gc (dB h0) (gc k1 gn))
theorem cCn(h0:(within n 0 360000)=true)(h1:inR (n.tdiv 10))(h2:inR ((100:Int)+((n.tdiv 10).tmod 60)))(h3:inR (n.tdiv 600))(h4:(Lib.itoa (n.tdiv 600)).length+([58]:List UInt8).length≤4611686018427387904)(h5:0≤(1:Int)∧(1:Int)≤((Lib.itoa ((100:Int)+((n.tdiv 10).tmod 60))).length:Int)∧((Lib.itoa ((100:Int)+((n.tdiv 10).tmod 60))).length:Int)≤((Lib.itoa ((100:Int)+((n.tdiv 10).tmod 60))).length:Int))(h6:((Lib.itoa (n.tdiv 600))++([58]:List UInt8)).length+((Lib.itoa ((100:Int)+((n.tdiv 10).tmod 60))).drop 1).length≤4611686018427387904)(h7:(((Lib.itoa (n.tdiv 600))++([58]:List UInt8))++((Lib.itoa ((100:Int)+((n.tdiv 10).tmod 60))).drop 1)).length+([46]:List UInt8).length≤4611686018427387904)(h8:inR (n.tmod 10))(h9:((((Lib.itoa (n.tdiv 600))++([58]:List UInt8))++((Lib.itoa ((100:Int)+((n.tdiv 10).tmod 60))).drop 1))++([46]:List UInt8)).length+(Lib.itoa (n.tmod 10)).length≤4611686018427387904):FV Tp 37 [(pI n)] base (.tup [(.p (aD (((((Lib.itoa (n.tdiv 600))++([58]:List UInt8))++((Lib.itoa ((100:Int)+((n.tdiv 10).tmod 60))).drop 1))++([46]:List UInt8))++(Lib.itoa (n.tmod 10))))),(pI 0)]) []:=have k1:=fk 0 (mI n 0 360000) rfl;have k2:=fk 0 (dH ((100:Int)+((n.tdiv 10).tmod 60)) h2) rfl;have k3:=fk 0 (dH (n.tdiv 600) h3) rfl;have k4:=fk 8 (dH (n.tmod 10) h8) rfl;FV.fi func37 [k1.o,bF,k2.o,k3.o,k4.o] (gc h9 (gc k4 (gt ((10:Int)≠0) (by first | decide | simp) (gc h7 (gc h6 (gc h5 (gc h4 (gc k3 (gc h3 (gt ((600:Int)≠0) (by first | decide | simp) (gc k2 (gc h2 (gt ((60:Int)≠0) (by first | decide | simp) (gc h1 (gt ((10:Int)≠0) (by first | decide | simp) (gc (aW h0) (gc k1 gn)))))))))))))))))
section
variable{s:List UInt8}(h0:s.length<4294967281)(h1:((Lib.cut s ([58]:List UInt8)).2.1).length<4294967281)(h2:0≤(360000:Int)∧(360000:Int)≤1000000000)(h3:(2:Int)=1∨(2:Int)=2)(h4:(1:Int)=1∨(1:Int)=2)
include h0 h1 h2 h3 h4
theorem cCo(h5:((Lib.cut s ([58]:List UInt8)).2.2)=false):FV Tp 39 [(.p (aD s))] base (.tup [(pI 0),(pI 11)]) []:=have k1:=fk 0 (gA s ([58]:List UInt8) h0) rfl;have k2:=fk 0 (gA ((Lib.cut s ([58]:List UInt8)).2.1) ([46]:List UInt8) h1) rfl;have k3:=fk 0 (gG ((Lib.cut s ([58]:List UInt8)).1) 360000 h2) rfl;have k4:=fk 0 (gF ((Lib.cut ((Lib.cut s ([58]:List UInt8)).2.1) ([46]:List UInt8)).1) 2 60 h3) rfl;have k5:=fk 0 (gF ((Lib.cut ((Lib.cut s ([58]:List UInt8)).2.1) ([46]:List UInt8)).2.1) 1 10 h4) rfl;FV.fi func39 [k1.o,k2.o,k3.o,k4.o,k5.o,bT,bT,bT] (A2 (dB h5) (gc k5 (gc k4 (gc k3 (gc k2 (gc k1 gn))))))
theorem cCp(h5:((Lib.cut s ([58]:List UInt8)).2.2)=true)(h6:((Lib.cut ((Lib.cut s ([58]:List UInt8)).2.1) ([46]:List UInt8)).2.2)=false):FV Tp 39 [(.p (aD s))] base (.tup [(pI 0),(pI 11)]) []:=have k1:=fk 0 (gA s ([58]:List UInt8) h0) rfl;have k2:=fk 0 (gA ((Lib.cut s ([58]:List UInt8)).2.1) ([46]:List UInt8) h1) rfl;have k3:=fk 0 (gG ((Lib.cut s ([58]:List UInt8)).1) 360000 h2) rfl;have k4:=fk 0 (gF ((Lib.cut ((Lib.cut s ([58]:List UInt8)).2.1) ([46]:List UInt8)).1) 2 60 h3) rfl;have k5:=fk 0 (gF ((Lib.cut ((Lib.cut s ([58]:List UInt8)).2.1) ([46]:List UInt8)).2.1) 1 10 h4) rfl;FV.fi func39 [k1.o,k2.o,k3.o,k4.o,k5.o,bF,bF,bF,bT,bT,bT] (A2 (dB h6) (A2 (aW h5) (gc k5 (gc k4 (gc k3 (gc k2 (gc k1 gn)))))))
theorem cCq(h5:((Lib.cut s ([58]:List UInt8)).2.2)=true)(h6:((Lib.cut ((Lib.cut s ([58]:List UInt8)).2.1) ([46]:List UInt8)).2.2)=true)(h7:((dgM ((Lib.cut ((Lib.cut s ([58]:List UInt8)).2.1) ([46]:List UInt8)).1) 2 60).2)=false):FV Tp 39 [(.p (aD s))] base (.tup [(pI 0),(pI 11)]) []:=have k1:=fk 0 (gA s ([58]:List UInt8) h0) rfl;have k2:=fk 0 (gA ((Lib.cut s ([58]:List UInt8)).2.1) ([46]:List UInt8) h1) rfl;have k3:=fk 0 (gG ((Lib.cut s ([58]:List UInt8)).1) 360000 h2) rfl;have k4:=fk 0 (gF ((Lib.cut ((Lib.cut s ([58]:List UInt8)).2.1) ([46]:List UInt8)).1) 2 60 h3) rfl;have k5:=fk 0 (gF ((Lib.cut ((Lib.cut s ([58]:List UInt8)).2.1) ([46]:List UInt8)).2.1) 1 10 h4) rfl;FV.fi func39 ([k1.o,k2.o,k3.o,k4.o,k5.o]++rF 6++[bT,bT,bT]) (A2 (dB h7) (A2 (aW h6) (A2 (aW h5) (gc k5 (gc k4 (gc k3 (gc k2 (gc k1 gn))))))))
end
section
variable{s:List UInt8}(h0:s.length<4294967281)(h1:((Lib.cut s ([58]:List UInt8)).2.1).length<4294967281)(h2:0≤(360000:Int)∧(360000:Int)≤1000000000)(h3:(2:Int)=1∨(2:Int)=2)(h4:(1:Int)=1∨(1:Int)=2)(h5:((Lib.cut s ([58]:List UInt8)).2.2)=true)(h6:((Lib.cut ((Lib.cut s ([58]:List UInt8)).2.1) ([46]:List UInt8)).2.2)=true)(h7:((dgM ((Lib.cut ((Lib.cut s ([58]:List UInt8)).2.1) ([46]:List UInt8)).1) 2 60).2)=true)
include h0 h1 h2 h3 h4 h5 h6 h7
theorem cCr(h8:((dgM ((Lib.cut ((Lib.cut s ([58]:List UInt8)).2.1) ([46]:List UInt8)).2.1) 1 10).2)=false):FV Tp 39 [(.p (aD s))] base (.tup [(pI 0),(pI 11)]) []:=have k1:=fk 0 (gA s ([58]:List UInt8) h0) rfl;have k2:=fk 0 (gA ((Lib.cut s ([58]:List UInt8)).2.1) ([46]:List UInt8) h1) rfl;have k3:=fk 0 (gG ((Lib.cut s ([58]:List UInt8)).1) 360000 h2) rfl;have k4:=fk 0 (gF ((Lib.cut ((Lib.cut s ([58]:List UInt8)).2.1) ([46]:List UInt8)).1) 2 60 h3) rfl;have k5:=fk 0 (gF ((Lib.cut ((Lib.cut s ([58]:List UInt8)).2.1) ([46]:List UInt8)).2.1) 1 10 h4) rfl;FV.fi func39 ([k1.o,k2.o,k3.o,k4.o,k5.o]++rF 9++[bT,bT,bT]) (A2 (dB h8) (A2 (aW h7) (A2 (aW h6) (A2 (aW h5) (gc k5 (gc k4 (gc k3 (gc k2 (gc k1 gn)))))))))
theorem cCs(h8:((dgM ((Lib.cut ((Lib.cut s ([58]:List UInt8)).2.1) ([46]:List UInt8)).2.1) 1 10).2)=true)(h9:((bN ((Lib.cut s ([58]:List UInt8)).1) 360000).2)=11):FV Tp 39 [(.p (aD s))] base (.tup [(pI 0),(pI 11)]) []:=have k1:=fk 0 (gA s ([58]:List UInt8) h0) rfl;have k2:=fk 0 (gA ((Lib.cut s ([58]:List UInt8)).2.1) ([46]:List UInt8) h1) rfl;have k3:=fk 0 (gG ((Lib.cut s ([58]:List UInt8)).1) 360000 h2) rfl;have k4:=fk 0 (gF ((Lib.cut ((Lib.cut s ([58]:List UInt8)).2.1) ([46]:List UInt8)).1) 2 60 h3) rfl;have k5:=fk 0 (gF ((Lib.cut ((Lib.cut s ([58]:List UInt8)).2.1) ([46]:List UInt8)).2.1) 1 10 h4) rfl;FV.fi func39 ([k1.o,k2.o,k3.o,k4.o,k5.o]++rF 12++[bT]) (gc (dC h9) (A2 (aW h8) (A2 (aW h7) (A2 (aW h6) (A2 (aW h5) (gc k5 (gc k4 (gc k3 (gc k2 (gc k1 gn))))))))))
theorem cCt(h8:((dgM ((Lib.cut ((Lib.cut s ([58]:List UInt8)).2.1) ([46]:List UInt8)).2.1) 1 10).2)=true)(h9:((bN ((Lib.cut s ([58]:List UInt8)).1) 360000).2)≠11)(A9:((bN ((Lib.cut s ([58]:List UInt8)).1) 360000).2)≠0):FV Tp 39 [(.p (aD s))] base (.tup [(pI 0),(pI 3)]) []:=have k1:=fk 0 (gA s ([58]:List UInt8) h0) rfl;have k2:=fk 0 (gA ((Lib.cut s ([58]:List UInt8)).2.1) ([46]:List UInt8) h1) rfl;have k3:=fk 0 (gG ((Lib.cut s ([58]:List UInt8)).1) 360000 h2) rfl;have k4:=fk 0 (gF ((Lib.cut ((Lib.cut s ([58]:List UInt8)).2.1) ([46]:List UInt8)).1) 2 60 h3) rfl;have k5:=fk 0 (gF ((Lib.cut ((Lib.cut s ([58]:List UInt8)).2.1) ([46]:List UInt8)).2.1) 1 10 h4) rfl;FV.fi func39 ([k1.o,k2.o,k3.o,k4.o,k5.o]++rF 13++rT 9) (I2 (eY A9) (gc (eY A9) (gc (bJ h9) (A2 (aW h8) (A2 (aW h7) (A2 (aW h6) (A2 (aW h5) (gc k5 (gc k4 (gc k3 (gc k2 (gc k1 gn))))))))))))
end
section
variable{s:List UInt8}(h0:s.length<4294967281)(h1:((Lib.cut s ([58]:List UInt8)).2.1).length<4294967281)(h2:0≤(360000:Int)∧(360000:Int)≤1000000000)(h3:(2:Int)=1∨(2:Int)=2)(h4:(1:Int)=1∨(1:Int)=2)(h5:((Lib.cut s ([58]:List UInt8)).2.2)=true)(h6:((Lib.cut ((Lib.cut s ([58]:List UInt8)).2.1) ([46]:List UInt8)).2.2)=true)(h7:((dgM ((Lib.cut ((Lib.cut s ([58]:List UInt8)).2.1) ([46]:List UInt8)).1) 2 60).2)=true)(h8:((dgM ((Lib.cut ((Lib.cut s ([58]:List UInt8)).2.1) ([46]:List UInt8)).2.1) 1 10).2)=true)(h9:((bN ((Lib.cut s ([58]:List UInt8)).1) 360000).2)≠11)(A9:((bN ((Lib.cut s ([58]:List UInt8)).1) 360000).2)=0)(Da:inR (((bN ((Lib.cut s ([58]:List UInt8)).1) 360000).1)*600))(Ba:inR (((dgM ((Lib.cut ((Lib.cut s ([58]:List UInt8)).2.1) ([46]:List UInt8)).1) 2 60).1)*10))(Cw:inR ((((bN ((Lib.cut s ([58]:List UInt8)).1) 360000).1)*600)+(((dgM ((Lib.cut ((Lib.cut s ([58]:List UInt8)).2.1) ([46]:List UInt8)).1) 2 60).1)*10)))(Ek:inR (((((bN ((Lib.cut s ([58]:List UInt8)).1) 360000).1)*600)+(((dgM ((Lib.cut ((Lib.cut s ([58]:List UInt8)).2.1) ([46]:List UInt8)).1) 2 60).1)*10))+((dgM ((Lib.cut ((Lib.cut s ([58]:List UInt8)).2.1) ([46]:List UInt8)).2.1) 1 10).1)))
include h0 h1 h2 h3 h4 h5 h6 h7 h8 h9 A9 Da Ba Cw Ek
theorem cCu(D5:(360000:Int)<(((((bN ((Lib.cut s ([58]:List UInt8)).1) 360000).1)*600)+(((dgM ((Lib.cut ((Lib.cut s ([58]:List UInt8)).2.1) ([46]:List UInt8)).1) 2 60).1)*10))+((dgM ((Lib.cut ((Lib.cut s ([58]:List UInt8)).2.1) ([46]:List UInt8)).2.1) 1 10).1))):FV Tp 39 [(.p (aD s))] base (.tup [(pI 0),(pI 3)]) []:=have k1:=fk 0 (gA s ([58]:List UInt8) h0) rfl;have k2:=fk 0 (gA ((Lib.cut s ([58]:List UInt8)).2.1) ([46]:List UInt8) h1) rfl;have k3:=fk 0 (gG ((Lib.cut s ([58]:List UInt8)).1) 360000 h2) rfl;have k4:=fk 0 (gF ((Lib.cut ((Lib.cut s ([58]:List UInt8)).2.1) ([46]:List UInt8)).1) 2 60 h3) rfl;have k5:=fk 0 (gF ((Lib.cut ((Lib.cut s ([58]:List UInt8)).2.1) ([46]:List UInt8)).2.1) 1 10 h4) rfl;FV.fi func39 ([k1.o,k2.o,k3.o,k4.o,k5.o]++rF 22++[bT]) (gc (cN D5) (A4 (bL A9) (gc Ek (A4 (bL A9) (gc Cw (gc (bL A9) (gc Ba (A4 (bL A9) (gc Da (A4 (bL A9) (gc (bJ h9) (A2 (aW h8) (A2 (aW h7) (A2 (aW h6) (A2 (aW h5) (gc k5 (gc k4 (gc k3 (gc k2 (gc k1 gn))))))))))))))))))))
theorem cCv{r0:Int}(D5:(((((bN ((Lib.cut s ([58]:List UInt8)).1) 360000).1)*600)+(((dgM ((Lib.cut ((Lib.cut s ([58]:List UInt8)).2.1) ([46]:List UInt8)).1) 2 60).1)*10))+((dgM ((Lib.cut ((Lib.cut s ([58]:List UInt8)).2.1) ([46]:List UInt8)).2.1) 1 10).1))≤360000)(Al:r0=(((((bN ((Lib.cut s ([58]:List UInt8)).1) 360000).1)*600)+(((dgM ((Lib.cut ((Lib.cut s ([58]:List UInt8)).2.1) ([46]:List UInt8)).1) 2 60).1)*10))+((dgM ((Lib.cut ((Lib.cut s ([58]:List UInt8)).2.1) ([46]:List UInt8)).2.1) 1 10).1))):FV Tp 39 [(.p (aD s))] base (.tup [(pI r0),(pI 0)]) []:=by
 subst Al;have k1:=fk 0 (gA s ([58]:List UInt8) h0) rfl;have k2:=fk 0 (gA ((Lib.cut s ([58]:List UInt8)).2.1) ([46]:List UInt8) h1) rfl;have k3:=fk 0 (gG ((Lib.cut s ([58]:List UInt8)).1) 360000 h2) rfl;have k4:=fk 0 (gF ((Lib.cut ((Lib.cut s ([58]:List UInt8)).2.1) ([46]:List UInt8)).1) 2 60 h3) rfl;have k5:=fk 0 (gF ((Lib.cut ((Lib.cut s ([58]:List UInt8)).2.1) ([46]:List UInt8)).2.1) 1 10 h4) rfl;exact FV.fi func39 ([k1.o,k2.o,k3.o,k4.o,k5.o]++rF 23) (gc Ek (gc Cw (gc Ba (gc Da (gc (bH D5) (A4 (bL A9) (gc Ek (A4 (bL A9) (gc Cw (gc (bL A9) (gc Ba (A4 (bL A9) (gc Da (A4 (bL A9) (gc (bJ h9) (A2 (aW h8) (A2 (aW h7) (A2 (aW h6) (A2 (aW h5) (gc k5 (gc k4 (gc k3 (gc k2 (gc k1 gn))))))))))))))))))))))))
end
theorem bYc{s:List UInt8}(hl:s.length=1∨s.length=2)(h2:s.all isd=true):0≤atV s:=by
 unfold atV;rw [iD] at h2
 match s,hl,h2 with
 | [a],_,h2=>rw [Nf (h2 a (by simp))];have:=gD (h2 a (by simp));simp only;omega
 | [a,c],_,h2=>rw [at2 (h2 a (by simp)) (h2 c (by simp))];have:=gD (h2 a (by simp));have:=gD (h2 c (by simp));simp only;omega
theorem aGx{s:List UInt8}{m b:Int}(hm:m=1∨m=2)(h:(dgM s m b).2=true):0≤(dgM s m b).1∧(dgM s m b).1<b:=by
 unfold dgM at h ⊢
 split
 ·rename_i q
  rw [if_pos q] at h
  have:=bYc (s:=s) (by omega) q.2
  simp only [decide_eq_true_eq] at h
  exact ⟨this,h⟩
 ·rename_i q
  rw [if_neg q] at h
  cases h
theorem bYd(u:Nat):1≤(Lib.decDigits u).length:=by
 rw [Lib.decDigits];split <;> simp
def ptM(n:Int):List UInt8 × Int:=if within n 0 360000=true then (((((Lib.itoa (n.tdiv 600))++[58])++((Lib.itoa (100+(n.tdiv 10).tmod 60)).drop 1))++[46])++Lib.itoa (n.tmod 10),0) else ([],3)
theorem itl{n:Int}(h:0≤n∧n≤1000000):1≤(Lib.itoa n).length∧(Lib.itoa n).length≤21:=by
 refine ⟨?_,Lib.itoa_length_le n (by omega) (by omega)⟩
 unfold Lib.itoa;rw [if_neg (by omega)]
 exact bYd _
theorem cCw(n:Int){base:Nat}:FV Tp 37 [.p (aB n)] base (.tup [.p (aD (ptM n).1),.p (aB (ptM n).2)]) []:=by
 unfold ptM
 by_cases h:within n 0 360000=true
 ·rw [if_pos h]
  have hb:=cO.1 h;have h1:n.tdiv 10=n / 10:=Int.tdiv_eq_ediv_of_nonneg hb.1;have h2:n.tdiv 600=n / 600:=Int.tdiv_eq_ediv_of_nonneg hb.1;have h3:n.tmod 10=n % 10:=Int.tmod_eq_emod_of_nonneg hb.1;have h4:(n.tdiv 10).tmod 60=n.tdiv 10 % 60:=Int.tmod_eq_emod_of_nonneg (by omega)
  have b1:0≤n.tdiv 600∧n.tdiv 600≤1000000:=by omega
  have b2:0≤n.tmod 10∧n.tmod 10≤1000000:=by omega
  have b3:0≤100+(n.tdiv 10).tmod 60∧100+(n.tdiv 10).tmod 60≤1000000:=by omega
  have b4:0≤n.tdiv 10∧n.tdiv 10≤1000000:=by omega
  have l1:=itl b1;have l2:=itl b2;have l3:=itl b3;exact cCn h (by show _∧_;omega) (by show _∧_;omega) (by show _∧_;omega) (by simp;omega) (by omega) (by simp;omega) (by simp;omega) (by show _∧_;omega) (by simp;omega)
 ·rw [if_neg h]
  exact cCm (by simpa using h)
def paM(s:List UInt8):Int × Int :=
 if (Lib.cut s [58]).2.2=true∧(Lib.cut (Lib.cut s [58]).2.1 [46]).2.2=true∧(dgM (Lib.cut (Lib.cut s [58]).2.1 [46]).1 2 60).2=true∧(dgM (Lib.cut (Lib.cut s [58]).2.1 [46]).2.1 1 10).2=true∧(bN (Lib.cut s [58]).1 360000).2≠11 then
  if (bN (Lib.cut s [58]).1 360000).2≠0∨360000<(bN (Lib.cut s [58]).1 360000).1*600+(dgM (Lib.cut (Lib.cut s [58]).2.1 [46]).1 2 60).1*10+(dgM (Lib.cut (Lib.cut s [58]).2.1 [46]).2.1 1 10).1 then (0,3)
  else ((bN (Lib.cut s [58]).1 360000).1*600+(dgM (Lib.cut (Lib.cut s [58]).2.1 [46]).1 2 60).1*10+(dgM (Lib.cut (Lib.cut s [58]).2.1 [46]).2.1 1 10).1,0)
 else (0,11)
theorem cCx{s:List UInt8}(hl:s.length≤100000)(hc:(Lib.cut s [58]).2.1.length≤100000){base:Nat}:FV Tp 39 [.p (aD s)] base (.tup [.p (aB (paM s).1),.p (aB (paM s).2)]) []:=by
 have g0:s.length<4294967281:=by omega
 have g1:(Lib.cut s [58]).2.1.length<4294967281:=by omega
 have g2:0≤(360000:Int)∧(360000:Int)≤1000000000:=by omega
 have g3:(2:Int)=1∨(2:Int)=2 := .inr rfl;have g4:(1:Int)=1∨(1:Int)=2 := .inl rfl;have bn:=yG (Lib.cut s [58]).1 360000 (by omega)
 by_cases h5:(Lib.cut s [58]).2.2=true
 ·by_cases h6:(Lib.cut (Lib.cut s [58]).2.1 [46]).2.2=true
  ·by_cases h7:(dgM (Lib.cut (Lib.cut s [58]).2.1 [46]).1 2 60).2=true
   ·by_cases h8:(dgM (Lib.cut (Lib.cut s [58]).2.1 [46]).2.1 1 10).2=true
    ·by_cases h9:(bN (Lib.cut s [58]).1 360000).2=11
     ·have e:paM s=(0,11):=by unfold paM;rw [if_neg (fun q=>q.2.2.2.2 h9)]
      rw [e];exact cCs g0 g1 g2 g3 g4 h5 h6 h7 h8 h9
     ·have b1:=aGx (by omega) h7
      have b2:=aGx (by omega) h8
      unfold paM;rw [if_pos ⟨h5,h6,h7,h8,h9⟩]
      by_cases A9:(bN (Lib.cut s [58]).1 360000).2=0
      ·by_cases Da:360000<(bN (Lib.cut s [58]).1 360000).1*600+(dgM (Lib.cut (Lib.cut s [58]).2.1 [46]).1 2 60).1*10+(dgM (Lib.cut (Lib.cut s [58]).2.1 [46]).2.1 1 10).1
       ·rw [if_pos (.inr Da)]
        exact cCu g0 g1 g2 g3 g4 h5 h6 h7 h8 h9 A9 (by show _∧_;omega) (by show _∧_;omega) (by show _∧_;omega) (by show _∧_;omega) Da
       ·rw [if_neg (by omega)]
        exact cCv g0 g1 g2 g3 g4 h5 h6 h7 h8 h9 A9 (by show _∧_;omega) (by show _∧_;omega) (by show _∧_;omega) (by show _∧_;omega) (by omega) rfl
      ·rw [if_pos (.inl A9)]
       exact cCt g0 g1 g2 g3 g4 h5 h6 h7 h8 h9 A9
    ·have e:paM s=(0,11):=by unfold paM;rw [if_neg (fun q=>h8 q.2.2.2.1)]
     rw [e];exact cCr g0 g1 g2 g3 g4 h5 h6 h7 (by simpa using h8)
   ·have e:paM s=(0,11):=by unfold paM;rw [if_neg (fun q=>h7 q.2.2.1)]
    rw [e];exact cCq g0 g1 g2 g3 g4 h5 h6 (by simpa using h7)
  ·have e:paM s=(0,11):=by unfold paM;rw [if_neg (fun q=>h6 q.2.1)]
   rw [e];exact cCp g0 g1 g2 g3 g4 h5 (by simpa using h6)
 ·have e:paM s=(0,11):=by unfold paM;rw [if_neg (fun q=>h5 q.1)]
  rw [e];exact cCo g0 g1 g2 g3 g4 (by simpa using h5)
end
section

theorem nK{u:Nat}(h:u<10):Lib.decDigits u=[UInt8.ofNat (48+u)]:=by rw [Lib.decDigits,dif_pos h]
theorem yF{u:Nat}(h:¬ u<10):Lib.decDigits u=Lib.decDigits (u / 10)++[UInt8.ofNat (48+u % 10)]:=by rw [Lib.decDigits,dif_neg h]
theorem bOb{x:Nat}(h:x<60):(Lib.decDigits (100+x)).drop 1=Lib.decDigits (x / 10)++Lib.decDigits (x % 10):=by
 rw [yF (by omega),yF (u:=(100+x) / 10) (by omega),nK (u:=(100+x) / 10 / 10) (by omega),nK (u:=x / 10) (by omega),nK (u:=x % 10) (by omega)]
 have e1:(100+x) / 10 % 10=x / 10:=by omega
 have e2:(100+x) % 10=x % 10:=by omega
 rw [e1,e2];rfl
def bXv(m:Int)(l:List UInt8)(n:Int):Int:=l.foldl (fun n b=>if m<10*n+(b.toNat:Int)-48 then m+1 else 10*n+(b.toNat:Int)-48) n
def aPh(s:List UInt8)(m:Int):Int:=if s=[]∨(1<s.length∧s[0]? = some 48)∨s.all isd=false then -1 else bXv m s 0
end
section

def dv(c:UInt8):Int:=(c.toNat:Int)-48
def L4(p:List UInt8)(a b c d e:UInt8):Int × Int :=
 if a=58∧d=46∧isd b=true∧isd c=true∧isd e=true∧0≤aPh p 1000∧b.toNat≤53 then
  if 360000<aPh p 1000*600+dv b*100+dv c*10+dv e then (0,3) else (aPh p 1000*600+dv b*100+dv c*10+dv e,0)
 else (0,11)
end
section
theorem aEi(x:UInt8):∀ (s:List UInt8),x∉s→Lib.index s [x] = -1
 | [],_=>rfl
 | b::l,h=>by
  have hb:¬ x=b:=fun e=>h (by simp [e])
  have:=aEi x l (fun e=>h (by simp [e]))
  unfold Lib.index;rw [if_neg (by simp [List.isPrefixOf,hb]),this]
  rfl
theorem aAy(x:UInt8)(v:List UInt8):∀ (u:List UInt8),x∉u→Lib.index (u++x::v) [x]=(u.length:Int)
 | [],_=>by
  show Lib.index (x::v) [x]=_;unfold Lib.index;rw [if_pos (by simp [List.isPrefixOf])]
  rfl
 | b::u,h=>by
  have hb:¬ x=b:=fun e=>h (by simp [e])
  have:=aAy x v u (fun e=>h (by simp [e]))
  show Lib.index (b::(u++x::v)) [x]=_;unfold Lib.index;rw [if_neg (by simp [List.isPrefixOf,hb]),this,if_neg (by simp),Cb]
  omega
theorem aZs{x:UInt8}{s:List UInt8}(h:x∉s):Lib.cut s [x]=(s,[],false):=by
 unfold Lib.cut;rw [aEi x s h,if_neg (by omega)]
theorem uX{x:UInt8}{u v:List UInt8}(h:x∉u):Lib.cut (u++x::v) [x]=(u,v,true):=by
 unfold Lib.cut;rw [aAy x v u h,if_pos (by omega)]
 have:(u.length:Int).toNat=u.length:=by omega
 rw [this,List.take_left]
 congr 2
 rw [List.length_singleton,← List.drop_drop,List.drop_left];rfl
def oM(l:List UInt8)(n:Int):Int:=l.foldl (fun n b=>10*n+dv b) n
theorem aSg:∀ (l:List UInt8) (n:Int),l.all isd=true→0≤n→n≤oM l n
 | [],n,_,h=>aWa n
 | b::l,n,ha,h=>by
  simp only [List.all_cons,B4] at ha
  have hb:=gD ha.1;have hd:0≤dv b:=by unfold dv;omega
  have:=aSg l (10*n+dv b) ha.2 (by omega)
  show n≤oM l (10*n+dv b);omega
theorem aKl(m:Int)(hm:0≤m):∀ (l:List UInt8) (n:Int),l.all isd=true→0≤n→bXv m l (min n (m+1))=min (oM l n) (m+1)
 | [],n,_,h=>rfl
 | b::l,n,ha,h=>by
  simp only [List.all_cons,B4] at ha
  have hb:=gD ha.1;have:=aKl m hm l (10*n+dv b) ha.2 (by unfold dv;omega)
  show bXv m l _=min (oM l (10*n+dv b)) (m+1);rw [← this]
  congr 1
  dsimp only [dv]
  split <;> omega
theorem aKm(z:Bool)(m:Int)(hm:0≤m):∀ (l:List UInt8) (i:Nat) (n:Int),l.all isd=true→0≤n→(0<i∨l≠[])→(z=false∨l=[]∨(i=0∧l.length=1)) →
  qJ z m l i (min n (m+1))=if m<oM l n then (0,3) else (oM l n,0)
 | [],i,n,_,h,hi,hz=>by
  have hi:¬ i=0:=by rcases hi with q | q <;> first | omega | exact absurd rfl q
  unfold qJ;rw [if_neg hi];show (if min n (m+1) > m then _ else _)=if m<n then _ else _
  by_cases q:m<n
  ·rw [if_pos q,if_pos (by omega)]
  ·rw [if_neg q,if_neg (by omega)]
   show (min n (m+1),(0:Int))=(n,0);rw [show min n (m+1)=n by omega]
 | b::l,i,n,ha,h,hi,hz=>by
  simp only [List.all_cons,B4] at ha
  have hb:=gD ha.1;unfold qJ;rw [if_neg (by
   rintro (q | ⟨q1,q2⟩)
   ·omega
   ·rcases hz with q | q | ⟨q,_⟩
    ·rw [q] at q2;cases q2
    ·cases q
    ·omega)]
  have e:min (10*min n (m+1)+((b.toNat:Int)-48)) (m+1)=min (10*n+dv b) (m+1):=by unfold dv;omega
  rw [e];exact aKm z m hm l (i+1) (10*n+dv b) ha.2 (by unfold dv;omega) (.inl (by omega)) (by
   rcases hz with q | q | ⟨_,q⟩
   ·exact .inl q
   ·cases q
   ·exact .inr (.inl (uO (by simpa using q))))
theorem aSh{p:List UInt8}{m:Int}(hm:0≤m)(ha:p.all isd=true)(hn:p≠[])(hz:¬ (1<p.length∧p[0]? = some 48)):bN p m=if m<oM p 0 then (0,3) else (oM p 0,0):=by
 have:=aKm (aKn p) m hm p 0 0 ha (by omega) (.inr hn) (by
  by_cases q:p[0]? = some 48
  ·refine .inr (.inr ⟨rfl,?_⟩)
   have:1≤p.length:=List.length_pos_iff.2 hn
   by_cases q2:1<p.length
   ·exact absurd ⟨q2,q⟩ hz
   ·omega
  ·exact .inl (by unfold aKn;simp [q]))
 rw [show min (0:Int) (m+1)=0 by omega] at this
 exact this
theorem aSi{p:List UInt8}{m:Int}(hm:0≤m)(ha:p.all isd=true)(hn:p≠[])(hz:¬ (1<p.length∧p[0]? = some 48)):aPh p m=min (oM p 0) (m+1):=by
 unfold aPh;rw [if_neg (by simp only [hn,hz,ha,false_or];decide)]
 have:=aKl m hm p 0 ha (by omega)
 rw [show min (0:Int) (m+1)=0 by omega] at this
 exact this
theorem Kv{p:List UInt8}(h:p.all isd=true)(x:UInt8)(hx:isd x=false):x∉p:=fun q=>by
 rw [iD] at h
 rw [h x q] at hx;cases hx
theorem bHw{x:UInt8}:dgM [x] 1 10=if isd x=true then (dv x,true) else (0,false):=by
 unfold dgM
 by_cases h:isd x=true
 ·rw [if_pos ⟨rfl,by simp [h]⟩,if_pos h]
  have e:atV [x]=dv x:=by unfold atV;rw [Nf h];rfl
  have:=gD h;rw [e]
  congr 1
  exact decide_eq_true (by unfold dv;omega)
 ·rw [if_neg h,if_neg (fun q=>h (by simpa using q.2))]
theorem bHx{x y:UInt8}:dgM [x,y] 2 60=if isd x=true∧isd y=true then (10*dv x+dv y,decide (x.toNat≤53)) else (0,false):=by
 unfold dgM
 by_cases h:isd x=true∧isd y=true
 ·rw [if_pos ⟨rfl,by simp [h.1,h.2]⟩,if_pos h]
  have e:atV [x,y]=10*dv x+dv y:=by unfold atV;rw [at2 h.1 h.2];rfl
  have h1:=gD h.1;have h2:=gD h.2;rw [e]
  congr 1
  by_cases q:x.toNat≤53
  ·rw [decide_eq_true q];exact decide_eq_true (by unfold dv;omega)
  ·rw [decide_eq_false q];exact decide_eq_false (by unfold dv;omega)
 ·rw [if_neg h,if_neg (fun q=>h (by simpa using q.2))]
theorem bXt{p:List UInt8}{b c e:UInt8}(hn:p≠[])(ha:p.all isd=true)(hz:¬ (1<p.length∧p[0]? = some 48))(hb:isd b=true)(hc:isd c=true)(he:isd e=true):paM (p++[58,b,c,46,e])=L4 p 58 b c 46 e:=by
 have c1:Lib.cut (p++[58,b,c,46,e]) [58]=(p,[b,c,46,e],true):=uX (Kv ha 58 (by decide))
 have c2:Lib.cut [b,c,46,e] [46]=([b,c],[e],true):=uX (u:=[b,c]) (Kv (by simp [hb,hc]) 46 (by decide))
 have D1:=bHw (x:=e);rw [if_pos he] at D1
 have D2:=bHx (x:=b) (y:=c);rw [if_pos ⟨hb,hc⟩] at D2
 have N:=aSh (m:=360000) (by omega) ha hn hz
 have F:=aSi (m:=1000) (by omega) ha hn hz
 have hv:=aSg p 0 ha (by omega)
 have b1:=gD hb;have b2:=gD hc;have b3:=gD he;have v1:0≤dv b∧dv b≤9:=by unfold dv;omega
 have v2:0≤dv c∧dv c≤9:=by unfold dv;omega
 have v3:0≤dv e∧dv e≤9:=by unfold dv;omega
 have hp:paM (p++[58,b,c,46,e])=if b.toNat≤53∧(bN p 360000).2≠11 then
   if (bN p 360000).2≠0∨360000<(bN p 360000).1*600+(10*dv b+dv c)*10+dv e then (0,3) else ((bN p 360000).1*600+(10*dv b+dv c)*10+dv e,0)
   else (0,11):=by
  unfold paM;rw [c1];dsimp only;rw [c2];dsimp only;rw [D1,D2];dsimp only
  by_cases q:b.toNat≤53∧(bN p 360000).2≠11
  ·rw [if_pos ⟨rfl,rfl,decide_eq_true q.1,rfl,q.2⟩,if_pos q]
  ·rw [if_neg (fun k=>q ⟨of_decide_eq_true k.2.2.1,k.2.2.2.2⟩),if_neg q]
 have hr:L4 p 58 b c 46 e=if b.toNat≤53 then
   if 360000<aPh p 1000*600+dv b*100+dv c*10+dv e then (0,3) else (aPh p 1000*600+dv b*100+dv c*10+dv e,0)
   else (0,11):=by
  unfold L4
  by_cases q:b.toNat≤53
  ·rw [if_pos ⟨rfl,rfl,hb,hc,he,by rw [F];omega,q⟩,if_pos q]
  ·rw [if_neg (fun k=>q k.2.2.2.2.2.2),if_neg q]
 rw [hp,hr,F]
 by_cases h5:b.toNat≤53
 ·by_cases hl:360000<oM p 0
  ·rw [if_pos hl] at N
   rw [N,if_pos ⟨h5,by decide⟩,if_pos h5,if_pos (.inl (by decide)),if_pos (by omega)]
  ·rw [if_neg hl] at N
   rw [N,if_pos ⟨h5,by simp⟩,if_pos h5]
   by_cases hq:360000<oM p 0*600+(10*dv b+dv c)*10+dv e
   ·rw [if_pos (Or.inr hq),if_pos (by omega)]
   ·rw [if_neg (by rintro (k | k) <;> first | exact k rfl | exact hq k),if_neg (by omega)]
    show (oM p 0*600+(10*dv b+dv c)*10+dv e,(0:Int))=(min (oM p 0) (1000+1)*600+dv b*100+dv c*10+dv e,0);have:oM p 0*600+(10*dv b+dv c)*10+dv e=min (oM p 0) (1000+1)*600+dv b*100+dv c*10+dv e:=by omega
    rw [this]
 ·rw [if_neg (fun k=>h5 k.1),if_neg h5]
theorem bOa{s x:List UInt8}:(Lib.cut s x).2.1.length≤s.length:=by
 unfold Lib.cut
 split
 ·simp
 ·simp
theorem bXu{s:List UInt8}(h:s.length≤90000){base:Nat}:FV Tp 39 [.p (aD s)] base (.tup [.p (aB (paM s).1),.p (aB (paM s).2)]) []:=cCx (by omega) (iE bOa (by omega))
end
section

theorem aSe(k:Int)(h:within k 0 4=true){base:Nat}:FV Tp 35 [.p (aB k)] base (.tup [.p (bD (aJ k)),.p (aB (aM k)),.p (aB 0)]) []:=bYm h
theorem mA(s:List UInt8)(h:s.length≤65536){base:Nat}:FV Tp 30 [.p (aD s)] base (.tup [.p (aB (bQ s)),.p (aB 0)]) []:=bYp h
theorem qH(s:List UInt8)(h:65536<s.length){base:Nat}:FV Tp 30 [.p (aD s)] base (.tup [.p (aB 0),.p (aB 10)]) []:=bOl h
theorem bNz(s:List UInt8)(h:s.length≤90000){base:Nat}:FV Tp 39 [.p (aD s)] base (.tup [.p (aB (paM s).1),.p (aB (paM s).2)]) []:=bXu h
def aSf:Prop:=∀ (base:Nat),FV Tp 14 [] base (.p (blP true)) []
end
section
variable {m:Int}{base:Nat}

theorem bXp:FV Tp 187 [(pI m),(.fn 188 [] []),(.fn 120 [] [])] base (.agg [(.fn 224 [] [(.rp [(PV.fn 188 [] [])] 0)]),(.fn 225 [] [(.rp [(PV.fn 120 [] [])] 0)]),(.fn 226 [] [(.rp [(aB m)] 0)])]) []:=FV.fi func187 [] gn
theorem bXq:FV Tp 187 [(pI m),(.fn 39 [] []),(.fn 189 [] [])] base (.agg [(.fn 224 [] [(.rp [(PV.fn 39 [] [])] 0)]),(.fn 225 [] [(.rp [(PV.fn 189 [] [])] 0)]),(.fn 226 [] [(.rp [(aB m)] 0)])]) []:=FV.fi func187 [] gn
theorem bXr:FV Tp 190 [(.fn 191 [] [])] base (.agg [(.fn 227 [] [(.rp [(PV.fn 191 [] [])] 0)]),(.fn 228 [] []),(.fn 229 [] [(.rp [(PV.fn 191 [] [])] 0)])]) []:=FV.fi func190 [] gn
theorem bXs:FV Tp 190 [(.fn 192 [] [])] base (.agg [(.fn 227 [] [(.rp [(PV.fn 192 [] [])] 0)]),(.fn 228 [] []),(.fn 229 [] [(.rp [(PV.fn 192 [] [])] 0)])]) []:=FV.fi func190 [] gn
theorem eS:FV Tp 121 [] base (.agg [(.fn 224 [] [(.rp [(PV.fn 188 [] [])] 0)]),(.fn 225 [] [(.rp [(PV.fn 120 [] [])] 0)]),(.fn 226 [] [(.rp [(aB 999999)] 0)]),(.fn 224 [] [(.rp [(PV.fn 39 [] [])] 0)]),(.fn 225 [] [(.rp [(PV.fn 189 [] [])] 0)]),(.fn 226 [] [(.rp [(aB 360000)] 0)]),(.fn 227 [] [(.rp [(PV.fn 191 [] [])] 0)]),(.fn 228 [] []),(.fn 229 [] [(.rp [(PV.fn 191 [] [])] 0)]),(.fn 227 [] [(.rp [(PV.fn 192 [] [])] 0)]),(.fn 228 [] []),(.fn 229 [] [(.rp [(PV.fn 192 [] [])] 0)])]) []:=have k1:=fk 1 (bXp (m:=(999999:Int))) rfl;have k2:=fk 1 (bXq (m:=(360000:Int))) rfl;have k3:=fk 1 bXr rfl;have k4:=fk 1 bXs rfl;FV.fi func121 [k1.o,k2.o,k3.o,k4.o] (gc k4 (gc k3 (gc k2 (gc k1 gn))))
end
end KV
end Go.Proofs
