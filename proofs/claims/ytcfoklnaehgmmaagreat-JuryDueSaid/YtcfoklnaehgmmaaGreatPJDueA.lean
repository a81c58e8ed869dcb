/- Parts of the proof of JDue: laws of walks, contracts of functions, plain models. No condition. -/
import Derived.WalkKit
import Derived.RangeFuncNested
import Derived.IntWalk
import Derived.Laws.Cells
import Derived.Laws.CopyRow
import Derived.Laws.OwnMore
import Derived.Laws.MakeOwn
import Derived.Great.BuildSlice
import Derived.Laws.StructEq
import Derived.Laws.CopyOwn
import Derived.Maps.Keyed
import Derived.CallsIn
import Derived.RangeFuncLeaves
import Derived.OrdersIn
import Derived.Still
set_option linter.unusedVariables false
set_option linter.unusedSimpArgs false
set_option maxRecDepth 100000
namespace Go.Proofs
namespace KV
abbrev aa:List Nat:=[0,1,2,3,4,5,7,9,10,11,12,13,14,15,16,17,18,19,20,21,22,23,24,25,26,27,28,29,30,31,32,33,34,35,36,37,38,39,40,41,42,43,44,45,46,47,48,49,50,51,52,53,54,55,56]
abbrev ae:List Nat:=[1,1,1,1,0,1,0,0,1,1,0,0,1,1,0,0,1,1,0,0,1,1,0,0]
abbrev af:List Nat:=[1,0,0,1,1,0,0,1,1,0,1,0,0,1,1,0,0,1,1,0]
abbrev ah:List Nat:=[1,0,0,1,1,0,0,1,1,0,1,0,0,1,1,0,0,1,0]
abbrev ai:List Nat:=[1,1,1,1,0,1,0,0,1,1,0,0,1,1,1,0,1,0,1]
abbrev aj:List Nat:=[1,0,0,1,1,0,0,1,1,0,1,0,0,1,1,0,0,0]
abbrev ak:List Nat:=[1,1,1,1,0,1,0,0,1,1,0,0,1,1,1,0,1,0]
abbrev am:List Nat:=[1,0,0,1,1,0,0,1,1,0,1,0,0,1,1,1]
abbrev an:List Nat:=[0,14,15,1,17,3,21,103,127,34]
abbrev ao:List Nat:=[1,3,7,4,12,2,15,40,62,30]
abbrev ap:List Nat:=[1,3,7,4,13,1,15,40,67,24]
abbrev aq:List Nat:=[1,1,3,3,13,14,29,19,51,7]
abbrev ar:List Nat:=[0,3,7,2,12,2,16,37,55,16]
abbrev av:List Nat:=[0,7,9,5,17,3,26,64,93,23]
abbrev aw:List Nat:=[0,2,3,3,9,3,14,38,54,22]
abbrev ax:List Nat:=[1,1,1,1,0,1,0,1,0,1,1,0]
abbrev ay:List Nat:=[0,1,2,2,7,2,10,22,35,39]
abbrev az:List Nat:=[1,2,7,4,12,4,19,25,45,1]
abbrev b9:List Nat:=[2,2,7,1,12,4,34,10,46,1]
abbrev ba:List Nat:=[0,2,3,3,8,2,12,24,39,18]
abbrev bb:List Nat:=[1,1,3,3,13,1,15,2,19,7]
abbrev bc:List Nat:=[1,1,1,1,0,1,0,1,0,1,0]
abbrev be:List Nat:=[0,1,2,1,4,2,7,9,19,15]
abbrev bf:List Nat:=[1,3,7,4,15,15,33,21]
abbrev bg:List Nat:=[1,3,7,7,15,40,57,36]
abbrev bh:List Nat:=[1,1,3,3,10,17,29,50]
abbrev bi:List Nat:=[1,1,1,1,0,1,0,1,0,0]
abbrev bj:List Nat:=[0,1,6,1,10,12,36,35]
abbrev bl:List Nat:=[0,3,7,2,11,42,54,48]
abbrev bm:List Nat:=[0,4,10,4,26,6,34,39]
abbrev bn:List Nat:=[0,4,5,1,7,87,96,10]
abbrev bp:List Nat:=[2,1,5,3,10,3,15,20]
abbrev bq:List Nat:=[0,1,3,3,10,2,15,22]
abbrev br:List Nat:=[2,2,7,9,19,26,46,1]
abbrev bt:List Nat:=[1,1,3,3,9,2,17,35]
abbrev bu:List Nat:=[1,1,1,1,1,0,1,0,0]
abbrev bv:List Nat:=[0,1,2,3,4,5,6,7,8]
abbrev bw:List Nat:=[0,1,2,4,7,2,10,30]
abbrev bz:List Nat:=[0,1,2,2,5,2,10,9]
abbrev c6:List Nat:=[1,1,1,1,0,1,0,0]
abbrev c7:List Nat:=[0,4,10,11,24,26]
abbrev c8:List Nat:=[5,6,7,8,9,10,11]
abbrev c9:List Nat:=[2,4,7,14,23,23]
abbrev ca:List Nat:=[0,2,5,10,18,29]
abbrev cb:List Nat:=[4,4,10,2,18,35]
abbrev ce:List Nat:=[0,4,7,40,49,35]
abbrev cf:List Nat:=[1,1,1,0,1,0,0]
abbrev cg:List Nat:=[2,2,7,3,16,14]
abbrev cj:List Nat:=[2,2,8,2,19,10]
abbrev ck:List Nat:=[0,1,2,3,4,5,6]
abbrev co:List Nat:=[0,3,4,3,10,9]
abbrev cq:List Nat:=[0,2,4,3,10,9]
abbrev cr:List Nat:=[2,2,5,2,9,10]
abbrev ct:List Nat:=[1,1,0,1,0,0]
abbrev cu:List Nat:=[2,10,14,12]
abbrev cw:List Nat:=[1,0,1,0,0]
abbrev cx:List Nat:=[2,5,9,10]
abbrev cy:List Nat:=[2,2,7,29]
abbrev cz:List Nat:=[0,1,0,0]
section
abbrev Ap:=@List.getElem?_eq_getElem
abbrev A4:=@Array.getD_eq_getD_getElem?
abbrev A2:=@List.getElem?_eq_some_iff
abbrev Bj:=@List.getD_eq_getElem?_getD
abbrev Bf:=@List.mem_of_getElem?
abbrev A8:=@List.length_map
abbrev Bg:=@Bool.and_eq_true
abbrev B7:=@List.mem_cons_of_mem
abbrev B5:=@Nat.lt_of_lt_of_le
abbrev B6:=@List.getElem?_map
abbrev kP:=@Array.getElem?_eq_some_iff
abbrev fK:=@List.length_append
abbrev eE:=@List.map_append
abbrev cP:=@Nat.le_refl
abbrev jV:=@Option.map_eq_some_iff
abbrev eT:=@List.getElem_mem
abbrev fD:=@List.all_eq_true
abbrev dH:=@List.mem_map
abbrev hZ:=@Int.natCast_nonneg
abbrev eU:=@List.mem_append
abbrev jI:=@List.mem_cons_self
abbrev pA:=@Array.getElem?_eq_getElem
abbrev mD:=@List.mem_append_left
abbrev fE:=@Nat.zero_add
abbrev gG:=@List.mem_cons
abbrev kD:=@List.getElem_map
abbrev gT:=@List.map_cons
abbrev gU:=@Bool.true_and
abbrev fL:=@Nat.le_trans
abbrev uY:=@List.mem_of_find?_eq_some
abbrev pX:=@List.map_eq_cons_iff
abbrev nI:=@List.length_take
abbrev aDh:=@List.eq_nil_of_length_eq_zero
abbrev aAx:=@List.getElem?_append_right
abbrev yN:=@List.getElem_append_left
abbrev aAy:=@List.getElem?_append_left
abbrev nJ:=@List.length_set
abbrev sD:=@List.filter_append
abbrev pY:=@List.length_cons
abbrev aAz:=@List.mem_append_right
abbrev aBa:=@List.length_filter_le
abbrev uZ:=@List.flatten_cons
abbrev yO:=@List.map_congr_left
abbrev aKs:=@List.getElem_append_right
abbrev wH:=@List.getElem_set
abbrev aBb:=@List.find?_eq_none
abbrev aDi:=@List.flatten_append
abbrev wI:=@List.foldl_cons
abbrev vA:=@List.mem_range
abbrev sE:=@List.map_map
abbrev aBc:=@List.mem_reverse
abbrev aDj:=@List.length_range
abbrev aDk:=@List.foldl_append
abbrev aBd:=@List.mem_filter
abbrev aWm:=@List.drop_eq_getElem_cons
abbrev aOg:=@List.getElem?_range
abbrev aWn:=@List.take_append_drop
abbrev aOh:=@Int.toNat_natCast
abbrev aKt:=@Bool.or_eq_true
abbrev aDl:=@Nat.succ_mul
abbrev aOi:=@Nat.not_lt_zero
abbrev aOj:=@List.find?_some
abbrev bEi:=@List.mem_map_of_mem
abbrev bIy:=@List.getElem?_set_self
abbrev bIz:=@List.getElem?_set_ne
abbrev bJa:=@List.pairwise_cons
abbrev aWo:=@Nat.sub_self
abbrev bJb:=@List.length_drop
abbrev aWp:=@Nat.mod_lt
abbrev Lqq:=List (List Int)
abbrev Lqb:=List (Int × Bool)

inductive PV where
 | v (x:Value)
 | sl (n:Nat) (cs:List PV)
 | agg (cs:List PV)
 | mp (es:List (Value × PV))
 | rp (cs:List PV) (off:Nat)
 | fn (f:FuncId) (first caps:List PV)
 deriving Inhabited

inductive PQ where
 | root
 | cell (j:Nat)
 | row (j:Nat)
 | elem (j i:Nat)
 deriving Inhabited

inductive AV where
 | p (x:PV)
 | own (id:Nat)
 | arr (id off n:Nat)
 | ptr (id off:Nat)
 | rp (cs:List PV) (off:Nat)
 | agg (cs:List AV)
 | tup (vs:List AV)
 | fn (f:FuncId) (first caps:List AV)
 | yld (l:Nat)
 | kb (b:Bool)
 | mp (id:Nat)
 | pa (id:Nat) (q:PQ)
 | any
 deriving Inhabited

inductive AO where
 | row (ty n:Nat) (cs:List PV)
 | box (ty:Nat) (cs:List AV)
 | mp (es:List (Value × PV)) (clock:Nat)
 | pk (to ti sz:Nat) (L:List (Nat × List PV))
 | dead
 deriving Inhabited

def AO.live:AO→Bool
 | .dead=>false
 | _=>true

def AO.isPk:AO→Bool
 | .pk _ _ _ _=>true
 | _=>false

abbrev Mem:=List (Option AO)

def enc:List Nat→Nat
 | []=>0
 | a::l=>2 ^ a*(2*enc l+1)
open Classical in
noncomputable def dec(n:Nat):List Nat:=if h:∃ l,enc l=n then Classical.choose h else []
noncomputable def pkB(k:Nat):Nat:=(dec k).getD 0 0
noncomputable def pkN(k:Nat):Nat:=(dec k).getD 1 0
noncomputable def pkC(k:Nat):Nat:=(dec k).getD 2 0
noncomputable def rkB(k j:Nat):Nat:=(dec k).getD (3*j+3) 0
noncomputable def rkN(k j:Nat):Nat:=(dec k).getD (3*j+4) 0
noncomputable def rkC(k j:Nat):Nat:=(dec k).getD (3*j+5) 0
noncomputable def pqV(k:Nat):PQ→Value
 | .root=>if pkC k=0 then .slice none 0 0 else .slice (some ⟨pkB k,0,none⟩) (pkN k) (pkC k)
 | .cell j => .pointer (some ⟨pkB k,j,none⟩)
 | .row j => .slice (some ⟨rkB k j,0,none⟩) (rkN k j) (rkC k j)
 | .elem j i => .pointer (some ⟨rkB k j,i,none⟩)
structure St where
 t:List AV
 m:Mem
 deriving Inhabited

inductive bW (F:Nat→Prop) (w:World):PV→Value→Prop
 | v (x:Value):bW F w (.v x) x
 | sl (n:Nat) (cs:List PV) (p:Option Addr) (cap:Nat) (us:Nat→Value) (h1:n≤cap) (h2:cap≤maxLen)
   (h3:∀ i,i<cs.length→∃ b o,p=some ⟨b,o,none⟩∧F b∧w.cell? ⟨b,o+i,none⟩=some (us i))
   (h4:∀ i (h:i<cs.length),bW F w cs[i] (us i)) (h5:∀ i,i<cs.length→(us i).oneCell'=true):bW F w (.sl n cs) (.slice p n cap)
 | agg (cs:List PV) (vs:Array Value) (h0:∀ i,i<cs.length→(vs.getD i undef).oneCell'=true) (h1:vs.size=cs.length) (h2:∀ i (h:i<cs.length),bW F w cs[i] (vs.getD i undef)):bW F w (.agg cs) (.agg vs)
 | mp (es:List (Value × PV)) (b cl:Nat) (arr:Array MapEntry) (us:Nat→Value) (hb:F b) (h0:w.heap[b]? = some (.map arr cl)) (h1:arr.size=es.length)
   (h2:∀ j (h:j<es.length),∃ e,arr[j]? = some e∧e.key=es[j].1∧e.born<cl∧e.val=us j) (h3:∀ j (h:j<es.length),bW F w es[j].2 (us j)):bW F w (.mp es) (.map (some b))
 | rp (cs:List PV) (off b o:Nat) (us:Nat→Value) (h1:∀ i,i<cs.length→F b∧w.cell? ⟨b,o+i,none⟩=some (us i))
   (h2:∀ i (h:i<cs.length),bW F w cs[i] (us i)) (h3:∀ i,i<cs.length→(us i).oneCell'=true):bW F w (.rp cs off) (.pointer (some ⟨b,o+off,none⟩))
 | fn (f:FuncId) (cs ds:List PV) (us vs:Array Value) (h1:us.size=cs.length) (h2:vs.size=ds.length) (h3:∀ i (h:i<cs.length),bW F w cs[i] (us.getD i undef))
   (h4:∀ i (h:i<ds.length),bW F w ds[i] (vs.getD i undef)):bW F w (.fn f cs ds) (.func (.func f) us vs)

theorem dR{w w':World}{b:Nat}(h:w'.heap[b]? = w.heap[b]?)(o:Nat):w'.cell? ⟨b,o,none⟩=w.cell? ⟨b,o,none⟩:=by
 unfold World.cell?;simp only [h]
theorem bW.mono{F F':Nat→Prop}{w w':World}{x:PV}{u:Value}(h:bW F w x u)(hF:∀ b,F b→F' b)(hw:∀ b,F b→w'.heap[b]? = w.heap[b]?):bW F' w' x u:=by
 induction h with
 | v x=>exact .v x
 | sl n cs p cap us h1 h2 h3 _ h5 ih =>
  refine .sl n cs p cap us h1 h2 (fun i hi => ?_) ih h5
  obtain ⟨b,o,hp,hb,hc⟩:=h3 i hi;exact ⟨b,o,hp,hF b hb,(dR (hw b hb) _).trans hc⟩
 | agg cs vs h0 h1 _ ih=>exact .agg cs vs h0 h1 ih
 | mp es b cl arr us hb h0 h1 h2 _ ih=>exact .mp es b cl arr us (hF b hb) ((hw b hb).trans h0) h1 h2 ih
 | rp cs off b o us h1 _ h3 ih=>exact .rp cs off b o us (fun i hi=>⟨hF b (h1 i hi).1,(dR (hw b (h1 i hi).1) _).trans (h1 i hi).2⟩) ih h3
 | fn f cs ds us vs h1 h2 _ _ G5 G6=>exact .fn f cs ds us vs h1 h2 G5 G6

structure Cx where
 ι:Nat→Option Nat
 κ:Nat→Nat
 F:Nat→Prop
 /-- blocks that stand beside the memory,with what lies in them -/
 R:List (Nat × Obj):=[]

def Cx.with(C:Cx)(R:List (Nat × Obj)):Cx:={ ι:=C.ι,κ:=C.κ,F:=C.F,R:=R }

inductive Rep (C:Cx) (M:Mem) (w:World):AV→Value→Prop
 | p (x:PV) (u:Value) (h:bW C.F w x u):Rep C M w (.p x) u
 | any (u:Value):Rep C M w .any u
 | kb (b:Bool):Rep C M w (.kb b) (.bool b)
 | yld (l:Nat):Rep C M w (.yld l) (.func (.yield l) #[] #[])
 | own (id:Nat) (u:Value) (h0:u.oneCell'=true) (ha:∃ o:AO,M[id]? = some (some o))
   (h:∀ ty n cs,M[id]? = some (some (.row ty n cs))→(u = .slice none 0 0∧C.ι id=none∧n=0)∨∃ b,u = .slice (some ⟨b,0,none⟩) n (C.κ id)∧C.ι id=some b):Rep C M w (.own id) u
 | arr (id off n:Nat) (u:Value) (h0:u.oneCell'=true) (ha:∃ o:AO,M[id]? = some (some o))
   (h:∀ o:AO,M[id]? = some (some o)→o.live=true→(n=0∧∃ p cap,u = .slice p 0 cap∧cap≤maxLen)∨∃ b cap,u = .slice (some ⟨b,off,none⟩) n cap∧n≤cap∧cap≤maxLen∧C.ι id=some b):Rep C M w (.arr id off n) u
 | ptr (id off:Nat) (u:Value) (h0:u.oneCell'=true) (ha:∃ o:AO,M[id]? = some (some o))
   (h:∀ o:AO,M[id]? = some (some o)→o.live=true→∃ b,u = .pointer (some ⟨b,off,none⟩)∧C.ι id=some b) (hp:∃ b,u = .pointer (some ⟨b,off,none⟩)):Rep C M w (.ptr id off) u
 | mp (id:Nat) (u:Value) (h0:u.oneCell'=true) (ha:∃ o:AO,M[id]? = some (some o))
   (h:∀ o:AO,M[id]? = some (some o)→o.live=true→∃ b,u = .map (some b)∧C.ι id=some b):Rep C M w (.mp id) u
 | pa (id:Nat) (q:PQ) (u:Value) (h0:u.oneCell'=true) (ha:∃ o:AO,M[id]? = some (some o))
   (h:∀ o:AO,M[id]? = some (some o)→o.live=true→u=pqV (C.κ id) q):Rep C M w (.pa id q) u
 | rp (cs:List PV) (off b o:Nat) (us:Nat→Value) (h1:∀ i,i<cs.length→C.F b∧w.cell? ⟨b,o+i,none⟩=some (us i))
   (h2:∀ i (h:i<cs.length),bW C.F w cs[i] (us i)) (h3:∀ i,i<cs.length→(us i).oneCell'=true):Rep C M w (.rp cs off) (.pointer (some ⟨b,o+off,none⟩))
 | agg (cs:List AV) (vs:Array Value) (h0:∀ i,i<cs.length→(vs.getD i undef).oneCell'=true) (h1:vs.size=cs.length) (h2:∀ i (h:i<cs.length),Rep C M w cs[i] (vs.getD i undef)):Rep C M w (.agg cs) (.agg vs)
 | tup (cs:List AV) (vs:Array Value) (h1:vs.size=cs.length) (h2:∀ i (h:i<cs.length),Rep C M w cs[i] (vs.getD i undef)):Rep C M w (.tup cs) (.tuple vs)
 | fn (f:FuncId) (cs ds:List AV) (us vs:Array Value) (h1:us.size=cs.length) (h2:vs.size=ds.length) (h3:∀ i (h:i<cs.length),Rep C M w cs[i] (us.getD i undef))
   (h4:∀ i (h:i<ds.length),Rep C M w ds[i] (vs.getD i undef)):Rep C M w (.fn f cs ds) (.func (.func f) us vs)

structure Le (C C':Cx) (M M':Mem) (w w':World):Prop where
 ids:∀ (id:Nat) (o:AO),M[id]? = some (some o)→∃ o',M'[id]? = some (some o')
 row:∀ (id:Nat) (o:AO),M[id]? = some (some o)→∀ ty n cs,M'[id]? = some (some (.row ty n cs))→∃ A9,M[id]? = some (some (.row ty n A9))
 liv:∀ (id:Nat) (o:AO),M[id]? = some (some o)→∀ (o':AO),M'[id]? = some (some o')→o'.live=true→o.live=true∧C'.ι id=C.ι id∧C'.κ id=C.κ id
 F:∀ b,C.F b→C'.F b
 fz:∀ b,C.F b→w'.heap[b]? = w.heap[b]?

theorem Rep.mono{C C':Cx}{M M':Mem}{w w':World}(hL:Le C C' M M' w w'){x:AV}{u:Value}(h:Rep C M w x u):Rep C' M' w' x u:=by
 induction h with
 | p x u h=>exact .p x u (h.mono hL.F hL.fz)
 | any u=>exact .any u
 | kb b=>exact .kb b
 | yld l=>exact .yld l
 | own id u h0 ha h =>
  obtain ⟨o,ho⟩:=ha;refine .own id u h0 (hL.ids _ _ ho) (fun ty n cs hm => ?_)
  obtain ⟨A9,hc⟩:=hL.row _ _ ho _ _ _ hm;obtain ⟨_,h2,h3⟩:=hL.liv _ _ ho _ hm rfl;rw [h2,h3];exact h ty n A9 hc
 | arr id off n u h0 ha h =>
  obtain ⟨o,ho⟩:=ha;refine .arr id off n u h0 (hL.ids _ _ ho) (fun o' hm hl => ?_)
  obtain ⟨h1,h2,h3⟩:=hL.liv _ _ ho _ hm hl;rw [h2];exact h o ho h1
 | ptr id off u h0 ha h hp =>
  obtain ⟨o,ho⟩:=ha;refine .ptr id off u h0 (hL.ids _ _ ho) (fun o' hm hl => ?_) hp
  obtain ⟨h1,h2,h3⟩:=hL.liv _ _ ho _ hm hl;rw [h2];exact h o ho h1
 | mp id u h0 ha h =>
  obtain ⟨o,ho⟩:=ha;refine .mp id u h0 (hL.ids _ _ ho) (fun o' hm hl => ?_)
  obtain ⟨h1,h2,h3⟩:=hL.liv _ _ ho _ hm hl;rw [h2];exact h o ho h1
 | pa id q u h0 ha h =>
  obtain ⟨o,ho⟩:=ha;refine .pa id q u h0 (hL.ids _ _ ho) (fun o' hm hl => ?_)
  obtain ⟨h1,h2,h3⟩:=hL.liv _ _ ho _ hm hl;rw [h3];exact h o ho h1
 | rp cs off b o us h1 h2 h3 =>
  exact .rp cs off b o us (fun i hi=>⟨hL.F _ (h1 i hi).1,(dR (hL.fz _ (h1 i hi).1) _).trans (h1 i hi).2⟩) (fun i hi=>(h2 i hi).mono hL.F hL.fz) h3
 | agg cs vs h0 h1 _ ih=>exact .agg cs vs h0 h1 ih
 | tup cs vs h1 _ ih=>exact .tup cs vs h1 ih
 | fn f cs ds us vs h1 h2 _ _ G5 G6=>exact .fn f cs ds us vs h1 h2 G5 G6

structure aO (P:Program) (C:Cx) (M:Mem) (w:World):Prop where
 row:∀ (id ty n:Nat) (cs:List PV),M[id]? = some (some (.row ty n cs))→(C.ι id=none∧n=0∧cs=[]) ∨
  ∃ b arr i,C.ι id=some b∧w.heap[b]? = some (.cells arr ty (0,0))∧P.info? ty=some i∧arr.size=C.κ id*i.size∧cs.length=n*i.size∧n≤C.κ id∧C.κ id≤maxLen ∧
   (∀ j (h:j<cs.length),bW C.F w cs[j] (arr.getD j undef))∧∀ j,j<cs.length→(arr.getD j undef).oneCell'=true
 box:∀ (id ty:Nat) (cs:List AV),M[id]? = some (some (.box ty cs))→∃ b arr,C.ι id=some b∧w.heap[b]? = some (.cells arr ty (0,0))∧arr.size=cs.length∧(∀ j (h:j<cs.length),Rep C M w cs[j] (arr.getD j undef))∧∀ j,j<cs.length→(arr.getD j undef).oneCell'=true
 mp:∀ (id:Nat) (es:List (Value × PV)) (cl:Nat),M[id]? = some (some (.mp es cl))→∃ b arr,C.ι id=some b∧w.heap[b]? = some (.map arr cl)∧arr.size=es.length ∧
  ∀ j (h:j<es.length),∃ e,arr[j]? = some e∧e.key=es[j].1∧e.born<cl∧bW C.F w es[j].2 e.val
 inj:∀ (id Ep:Nat) (o o':AO) (b:Nat),M[id]? = some (some o)→o.live=true→M[Ep]? = some (some o')→o'.live=true→C.ι id=some b→C.ι Ep=some b→id=Ep
 nF:∀ (id:Nat) (o:AO) (b:Nat),M[id]? = some (some o)→o.live=true→C.ι id=some b→¬ C.F b
 Fs:∀ b,C.F b→b<w.heap.size
 lt:∀ (id:Nat) (o:AO) (b:Nat),M[id]? = some (some o)→o.live=true→C.ι id=some b→b<w.heap.size

structure Fr (C0:Cx) (M0:Mem) (w0:World) (C:Cx) (M:Mem) (w:World):Prop where
 os:w.os=w0.os
 tape:w.tape=w0.tape
 out:w.output=w0.output
 size:w0.heap.size≤w.heap.size
 keep:∀ b,b<w0.heap.size→(∀ (id:Nat) (o:AO),M0[id]? = some (some o)→o.live=true→C0.ι id≠some b)→w.heap[b]? = w0.heap[b]?
 ids:∀ (id:Nat) (o:AO),M0[id]? = some (some o)→(∃ o',M[id]? = some (some o'))∧C.ι id=C0.ι id∧C.κ id=C0.κ id
 row:∀ (id:Nat) (o:AO),M0[id]? = some (some o)→∀ ty n cs,M[id]? = some (some (.row ty n cs))→∃ A9,M0[id]? = some (some (.row ty n A9))
 liv:∀ (id:Nat) (o:AO),M0[id]? = some (some o)→∀ (o':AO),M[id]? = some (some o')→o'.live=true→o.live=true
 new:∀ (id:Nat) (o:AO) (b:Nat),M[id]? = some (some o)→o.live=true→C.ι id=some b→w0.heap.size≤b∨∃ (Fq:Nat) (o0:AO),M0[Fq]? = some (some o0)∧o0.live=true∧C0.ι Fq=some b
 F1:∀ b,C0.F b→C.F b
 F2:∀ b,C.F b→C0.F b∨w0.heap.size≤b∨∃ (Fq:Nat) (o0:AO),M0[Fq]? = some (some o0)∧o0.live=true∧C0.ι Fq=some b

theorem Fr.refl(C:Cx)(M:Mem)(w:World):Fr C M w C M w :=
 ⟨rfl,rfl,rfl,cP _,fun _ _ _=>rfl,fun id o ho=>⟨⟨o,ho⟩,rfl,rfl⟩,fun _ _ _ ty n cs h=>⟨cs,h⟩,fun id o ho o' Co hl=>by rw [ho] at Co;cases Co;exact hl,
  fun id o b ho hl hb => .inr ⟨id,o,ho,hl,hb⟩,fun _ h=>h,fun _ h => .inl h⟩

theorem Fr.based{C0 C:Cx}{M0 M:Mem}{w0 w:World}(R:List (Nat × Obj))(h:Fr C0 M0 w0 C M w):Fr (C0.with R) M0 w0 C M w :=
 ⟨h.os,h.tape,h.out,h.size,h.keep,h.ids,h.row,h.liv,h.new,h.F1,h.F2⟩
theorem Fr.unbased{C0 C:Cx}{M0 M:Mem}{w0 w:World}{R:List (Nat × Obj)}(h:Fr (C0.with R) M0 w0 C M w):Fr C0 M0 w0 C M w :=
 ⟨h.os,h.tape,h.out,h.size,h.keep,h.ids,h.row,h.liv,h.new,h.F1,h.F2⟩

theorem Fr.le{C0 C:Cx}{M0 M:Mem}{w0 w:World}(h:Fr C0 M0 w0 C M w)(hn:∀ (id:Nat) (o:AO) (b:Nat),M0[id]? = some (some o)→o.live=true→C0.ι id=some b→¬ C0.F b)(hs:∀ b,C0.F b→b<w0.heap.size):Le C0 C M0 M w0 w :=
 ⟨fun id o ho=>(h.ids id o ho).1,h.row,fun id o ho o' Co hl=>⟨h.liv id o ho o' Co hl,(h.ids id o ho).2⟩,h.F1,fun b hb=>h.keep b (hs b hb) (fun id o ho hl he=>hn id o b ho hl he hb)⟩

theorem Fr.trans{C0 C1 C:Cx}{M0 M1 M:Mem}{w0 w1 w:World}(h:Fr C0 M0 w0 C1 M1 w1)(k:Fr C1 M1 w1 C M w):Fr C0 M0 w0 C M w:=by
 refine ⟨k.os.trans h.os,k.tape.trans h.tape,k.out.trans h.out,fL h.size k.size,fun b hb hn => ?_,fun id o ho => ?_,fun id o ho ty n cs hm => ?_,fun id o ho o' Co hl => ?_,fun id o b ho hl hb => ?_,fun b hb=>k.F1 b (h.F1 b hb),fun b hb => ?_⟩
 ·refine (k.keep b (B5 hb h.size) (fun id o ho hl he => ?_)).trans (h.keep b hb hn)
  rcases h.new id o b ho hl he with hnew | ⟨Fq,o0,h1,h2,h3⟩
  ·omega
  ·exact hn Fq o0 h1 h2 h3
 ·obtain ⟨⟨o1,h1⟩,h2,h3⟩:=h.ids id o ho
  obtain ⟨h4,h5,h6⟩:=k.ids id o1 h1;exact ⟨h4,h5.trans h2,h6.trans h3⟩
 ·obtain ⟨⟨o1,h1⟩,_⟩:=h.ids id o ho
  obtain ⟨Dv,h2⟩:=k.row id o1 h1 _ _ _ hm;exact h.row id o ho _ _ _ h2
 ·obtain ⟨⟨o1,h1⟩,_⟩:=h.ids id o ho
  exact h.liv id o ho o1 h1 (k.liv id o1 h1 o' Co hl)
 ·rcases k.new id o b ho hl hb with h1 | ⟨Bh,o1,h1,h2,h3⟩
  ·exact .inl (fL h.size h1)
  ·exact h.new Bh o1 b h1 h2 h3
 ·rcases k.F2 b hb with h1 | h1 | ⟨Bh,o1,h1,h2,h3⟩
  ·exact h.F2 b h1
  ·exact .inr (.inl (fL h.size h1))
  ·rcases h.new Bh o1 b h1 h2 h3 with h4 | h4
   ·exact .inr (.inl h4)
   ·exact .inr (.inr h4)
end
section

inductive Ex where
 | normal | ret
 | exit (id:Nat)

structure Gh where
 fg:List Nat
 ids:List Nat
 fz:List Nat
 nl:List (Nat × Nat)

inductive OI where
 | b (d:Bool)
 | x (x:PV)
 | c (r:AV) (L:List (Nat × AO))
 | k (n:Nat) (g:Gh) (e:Ex) (st:St)
 | g (n:Nat) (g:Gh)
 | q
 deriving Inhabited

structure AS where
 auto:Bool
 o:List OI
 obs:List Prop

def aW(s:AS):Prop:=∀ p∈s.obs,p

def Ask(α:Type):=AS→Option (α × AS)
def Ask.bind{α β:Type}(m:Ask α)(f:α→Ask β):Ask β:=fun s=>match m s with
 | some (a,s')=>f a s'
 | none=>none
instance:Monad Ask where
 pure a:=fun s=>some (a,s)
 bind:=Ask.bind

def lift{α:Type}(o:Option α):Ask α:=fun s=>match o with
 | some a=>some (a,s)
 | none=>none
def fail{α:Type}:Ask α:=fun _=>none
def fC(p:Prop)[d:Decidable p]:Ask Unit:=fun s=>match s.auto with
 | true=>match d with
  | .isTrue _=>some ((),s)
  | .isFalse _=>none
 | false=>some ((),{ s with obs:=p::s.obs })
def aOc(b:Bool):Ask Bool:=fun s=>match s.auto with
 | true=>some (b,s)
 | false=>match s.o with
  | .b d::r=>some (d,{ s with o:=r,obs:=(b=d)::s.obs })
  | _=>none
def aOd(x:Option PV):Ask PV:=fun s=>match s.auto with
 | true=>match x with
  | some a=>some (a,s)
  | none=>none
 | false=>match s.o with
  | .x a::r=>some (a,{ s with o:=r,obs:=(x=some a)::s.obs })
  | _=>none

theorem aD{α β:Type}{m:Ask α}{f:α→Ask β}{s Rh:AS}{r:β}(h:(m >>= f) s=some (r,Rh)):∃ a s',m s=some (a,s')∧f a s'=some (r,Rh):=by
 change Ask.bind m f s=_ at h
 unfold Ask.bind at h
 cases hm:m s with
 | none=>rw [hm] at h;cases h
 | some x=>obtain ⟨a,s'⟩:=x;rw [hm] at h;exact ⟨a,s',rfl,h⟩
theorem aH{α:Type}{a r:α}{s s':AS}(h:(pure a:Ask α) s=some (r,s')):r=a∧s'=s:=by
 change some (a,s)=some (r,s') at h
 cases h;exact ⟨rfl,rfl⟩
theorem aE{α:Type}{o:Option α}{r:α}{s s':AS}(h:lift o s=some (r,s')):o=some r∧s'=s:=by
 unfold lift at h
 cases o with
 | none=>cases h
 | some a=>cases h;exact ⟨rfl,rfl⟩
theorem aQ{α:Type}{r:α}{s s':AS}(h:(fail:Ask α) s=some (r,s')):False:=by cases h
theorem aW.tail{s:AS}{p:Prop}{o:List OI}{a:Bool}(h:aW { auto:=a,o:=o,obs:=p::s.obs }):p∧aW s:=⟨h p (jI ..),fun q hq=>h q (B7 _ hq)⟩
theorem dF{p:Prop}[d:Decidable p]{s s':AS}{u:Unit}(h:fC p s=some (u,s'))(g:aW s'):p∧aW s:=by
 unfold fC at h
 cases ha:s.auto with
 | true =>
  rw [ha] at h
  cases d with
  | isTrue hp=>cases h;exact ⟨hp,g⟩
  | isFalse hp=>cases h
 | false=>rw [ha] at h;cases h;exact g.tail
theorem aKq{b d:Bool}{s s':AS}(h:aOc b s=some (d,s'))(g:aW s'):b=d∧aW s:=by
 unfold aOc at h
 cases ha:s.auto with
 | true=>rw [ha] at h;cases h;exact ⟨rfl,g⟩
 | false =>
  rw [ha] at h
  dsimp only at h
  split at h
  ·cases h;exact g.tail
  ·cases h
theorem bEe{x:Option PV}{a:PV}{s s':AS}(h:aOd x s=some (a,s'))(g:aW s'):x=some a∧aW s:=by
 unfold aOd at h
 cases ha:s.auto with
 | true =>
  rw [ha] at h
  cases x with
  | none=>cases h
  | some y=>cases h;exact ⟨rfl,g⟩
 | false =>
  rw [ha] at h
  dsimp only at h
  split at h
  ·cases h;exact g.tail
  ·cases h

def inR(z:Int):Prop := -9223372036854775808≤z∧z≤9223372036854775807
abbrev da(i:Nat):Prop:=inR ((i+1:Nat):Int)
instance (z:Int):Decidable (inR z):=by unfold inR;infer_instance

def wr(k:IntKind)(z:Int):Ask Value:=fun s=>match s.auto with
 | true=>some (.int k (k.wrap z),s)
 | false=>match k with
  | .i64=>some (.int .i64 z,{ s with obs:=inR z::s.obs })
  | k=>some (.int k (k.wrap z),s)
theorem tM{k:IntKind}{z:Int}{v:Value}{s s':AS}(h:wr k z s=some (v,s'))(g:aW s'):v = .int k (k.wrap z)∧aW s:=by
 unfold wr at h
 cases ha:s.auto with
 | true=>rw [ha] at h;cases h;exact ⟨rfl,g⟩
 | false =>
  rw [ha] at h
  dsimp only at h
  split at h
  ·cases h
   obtain ⟨h1,h2⟩:=g.tail;exact ⟨by rw [IntWalk.i64_in z h1],h2⟩
  ·cases h;exact ⟨rfl,g⟩

def bEf(op:BinOp)(k:IntKind)(x y:Int):Ask Value :=
 match op with
 | .add=>wr k (x+y)
 | .sub=>wr k (x-y)
 | .mul=>wr k (x*y)
 | .quo=>do fC (y≠0);wr k (x.tdiv y)
 | .rem=>do fC (y≠0);pure (.int k (x.tmod y))
 | .eql=>pure (.bool (x == y))
 | .neq=>pure (.bool (x != y))
 | .lss=>pure (.bool (x<y))
 | .leq=>pure (.bool (x≤y))
 | .gtr=>pure (.bool (x > y))
 | .geq=>pure (.bool (x ≥ y))
 | .and=>do fC (0≤x∧x≤9223372036854775807∧y=1∧k = .i64);pure (.int k (x % 2))
 | _=>fail

def aWk(op:BinOp)(a b:Value)(tb:Bool):Ask Value :=
 match a,b with
 | .int k x,.int k' y=>match op with
  | .shr=>do fC (0≤y);pure (.int k (x.fdiv (2 ^ min y.toNat k.bits)))
  | .shl=>do fC (0≤y∧y≤60∧k = .i64);wr k (x*2 ^ y.toNat)
  | op=>if k=k' then bEf op k x y else fail
 | .bool x,.bool y=>if tb then (match op with
  | .eql=>pure (.bool (x == y))
  | .neq=>pure (.bool (!(x == y)))
  | _=>fail) else fail
 | _,_=>fail

section
variable {P:Program} {w:World}

theorem aKr(E:Int)(h0:0≤E)(h1:E≤9223372036854775807):bits BinOp.and IntKind.i64 E 1=E % 2:=by
 obtain ⟨m,rfl⟩:∃ m:Nat,E=(m:Int):=⟨E.toNat,by omega⟩
 have hb:IntKind.i64.bits=64:=rfl;have e1:(BitVec.ofInt IntKind.i64.bits (m:Int) &&& BitVec.ofInt IntKind.i64.bits 1).toNat=m % 2:=by
  rw [BitVec.toNat_and];have q1:(BitVec.ofInt IntKind.i64.bits (m:Int)).toNat=m:=by
   rw [hb,BitVec.toNat_ofInt];omega
  have q2:(BitVec.ofInt IntKind.i64.bits 1).toNat=1:=rfl;rw [q1,q2,Nat.and_one_is_mod]
 show IntKind.i64.wrap (((BitVec.ofInt IntKind.i64.bits (m:Int) &&& BitVec.ofInt IntKind.i64.bits 1).toNat:Nat):Int)=_;rw [e1];have:m % 2=0∨m % 2=1:=by omega
 rcases this with h | h
 ·rw [h];have:((m:Int) % 2)=0:=by omega
  rw [this];rfl
 ·rw [h];have:((m:Int) % 2)=1:=by omega
  rw [this];rfl
theorem aOe{op:BinOp}{k:IntKind}{x y:Int}{t:TypeId}{v:Value}{s s':AS}(h:bEf op k x y s=some (v,s'))(g:aW s') :
  (Go.binOp op t (.int k x) (.int k y)).run P w = .ok v w∧aW s:=by
 cases op <;> simp only [bEf] at h <;> try exact (aQ h).elim
 case add=>obtain ⟨rfl,g⟩:=tM h g;exact ⟨by simp [Go.binOp,Op.intArith],g⟩
 case sub=>obtain ⟨rfl,g⟩:=tM h g;exact ⟨by simp [Go.binOp,Op.intArith],g⟩
 case mul=>obtain ⟨rfl,g⟩:=tM h g;exact ⟨by simp [Go.binOp,Op.intArith],g⟩
 case quo =>
  obtain ⟨_,s1,h1,h2⟩:=aD h;obtain ⟨rfl,g⟩:=tM h2 g;obtain ⟨hy,g⟩:=dF h1 g;exact ⟨by simp [Go.binOp,Op.intDiv,hy],g⟩
 case rem =>
  obtain ⟨_,s1,h1,h2⟩:=aD h;obtain ⟨rfl,rfl⟩:=aH h2;obtain ⟨hy,g⟩:=dF h1 g;exact ⟨by simp [Go.binOp,Op.intDiv,hy],g⟩
 case and =>
  obtain ⟨_,s1,h1,h2⟩:=aD h;obtain ⟨rfl,rfl⟩:=aH h2;obtain ⟨⟨q0,q1,rfl,rfl⟩,g⟩:=dF h1 g;refine ⟨?_,g⟩;rw [binOp_and,intBits_and,aKr x q0 q1];rfl
 all_goals
  obtain ⟨rfl,rfl⟩:=aH h;exact ⟨by simp [Go.binOp,Op.intCmp],g⟩

theorem aWl(d:Nat){t:TypeId}(hu:P.underlying t=some .bool)(x y:Bool):(Op.equalIn (d+1) t (.bool x) (.bool y)).run P w = .ok (x == y) w:=by
 unfold Op.equalIn;simp [run_underlying hu]
theorem aAw{t:TypeId}(hu:P.underlying t=some .bool)(x y:Bool):(Op.equal t (.bool x) (.bool y)).run P w = .ok (x == y) w:=aWl 9999 hu x y
theorem bEg{t:TypeId}(hu:P.underlying t=some .bool)(x y:Bool):(Go.binOp .eql t (.bool x) (.bool y)).run P w = .ok (.bool (x == y)) w:=by
 show ((do pure (Value.bool (← Op.equal t (.bool x) (.bool y)))):Sem Value).run P w=_
 rw [Sem.run_bind,aAw hu];rfl
theorem bEh{t:TypeId}(hu:P.underlying t=some .bool)(x y:Bool):(Go.binOp .neq t (.bool x) (.bool y)).run P w = .ok (.bool (!(x == y))) w:=by
 show ((do pure (Value.bool (!(← Op.equal t (.bool x) (.bool y))))):Sem Value).run P w=_
 rw [Sem.run_bind,aAw hu];rfl

theorem aOf{op:BinOp}{a b v:Value}{t:TypeId}{tb:Bool}(ht:tb=true→P.underlying t=some .bool){s s':AS}(h:aWk op a b tb s=some (v,s'))(g:aW s') :
  (Go.binOp op t a b).run P w = .ok v w∧aW s:=by
 unfold aWk at h
 split at h
 ·split at h
  ·obtain ⟨_,s1,h1,k1⟩:=aD h
   obtain ⟨rfl,rfl⟩:=aH k1;obtain ⟨hy,g⟩:=dF h1 g;exact ⟨by simp [Go.binOp,Op.shift,Int.not_lt.2 hy],g⟩
  ·obtain ⟨_,s1,h1,k1⟩:=aD h
   obtain ⟨rfl,g⟩:=tM k1 g;obtain ⟨⟨q0,q1,rfl⟩,g⟩:=dF h1 g;refine ⟨?_,g⟩;have hb:IntKind.i64.bits=64:=rfl;rw [binOp_shl,shift_shl _ _ _ _ q0 (by rw [hb];omega)];rfl
  ·split at h
   ·rename_i hk;subst hk;exact aOe h g
   ·exact (aQ h).elim
 ·split at h
  ·rename_i htb
   have hu:=ht htb
   split at h
   ·obtain ⟨rfl,rfl⟩:=aH h
    exact ⟨bEg hu _ _,g⟩
   ·obtain ⟨rfl,rfl⟩:=aH h
    exact ⟨bEh hu _ _,g⟩
   ·exact (aQ h).elim
  ·exact (aQ h).elim
 ·exact (aQ h).elim
end
end
section

inductive TK where
 | int (k:IntKind)
 | bool
 | str
 | struct (fs:List (Nat × Nat × Bool))
 | array (len e:Nat)
 | slice (e:Nat)
 | ptr (e:Nat)
 | func
 | map (k e:Nat)
 | other
 deriving Inhabited

structure TI where
 k:TK
 size:Nat
 bytes:Nat
 zero:List Value
 plain:Bool
 deriving Inhabited

def kO:TypeDesc→TK
 | .int k => .int k
 | .bool => .bool
 | .string => .str
 | .struct fs => .struct (fs.toList.map fun f => (f.offset, f.type, f.name != "_"))
 | .array n e => .array n e
 | .slice e => .slice e
 | .pointer e => .ptr e
 | .func _ _ _ => .func
 | .map k e => .map k e
 | _ => .other

def bU(P:Program)(t:Nat):Option TI :=
 match P.info? t,P.underlying t with
 | some i,some d=>match i.zero with
  | some z=>some ⟨kO d,i.size,i.bytes,z.cells.toList,!P.eqGuardType P.depth t && !P.stoodInHeld t⟩
  | none=>none
 | _,_=>none

def TI.agg(i:TI):Bool:=match i.k with
 | .struct _ | .array _ _=>true
 | _=>false

theorem eH{P:Program}{t:Nat}{i:TI}(h:bU P t=some i):∃ inf d z,P.info? t=some inf∧P.underlying t=some d∧inf.zero=some z∧i.k=kO d∧i.size=inf.size∧i.bytes=inf.bytes∧i.zero=z.cells.toList ∧
  i.plain=(!P.eqGuardType P.depth t && !P.stoodInHeld t):=by
 unfold bU at h
 cases h1:P.info? t with
 | none=>rw [h1] at h;cases h
 | some inf =>
  cases h2:P.underlying t with
  | none=>rw [h1,h2] at h;cases h
  | some d =>
   cases h3:inf.zero with
   | none=>rw [h1,h2] at h;simp only [h3] at h;cases h
   | some z =>
    rw [h1,h2] at h;simp only [h3] at h
    cases h;exact ⟨inf,d,z,rfl,rfl,h3,rfl,rfl,rfl,rfl,rfl⟩

theorem bIx{d:TypeDesc}(h:kO d = .bool):d = .bool:=by cases d <;> simp [kO] at h ⊢
theorem aOb{d:TypeDesc}{k:IntKind}(h:kO d = .int k):d = .int k:=by cases d <;> simp [kO] at h ⊢;exact h
theorem nH{d:TypeDesc}{e:Nat}(h:kO d = .slice e):d = .slice e:=by cases d <;> simp [kO] at h ⊢;exact h
theorem pU{d:TypeDesc}{n e:Nat}(h:kO d = .array n e):d = .array n e:=by cases d <;> simp [kO] at h ⊢;exact h
theorem bPg{d:TypeDesc}{e:Nat}(h:kO d = .ptr e):d = .pointer e:=by cases d <;> simp [kO] at h ⊢;exact h
theorem bEb{d:TypeDesc}{k e:Nat}(h:kO d = .map k e):d = .map k e:=by cases d <;> simp [kO] at h ⊢;exact h
theorem rV{d : TypeDesc}{fs : List (Nat × Nat × Bool)}(h : kO d = .struct fs) : ∃ as, d = .struct as ∧ fs = as.toList.map fun f => (f.offset, f.type, f.name != "_") := by
 cases d <;> simp [kO] at h
 exact ⟨_,rfl,h.symm⟩

section
variable {P:Program} {w:World} {t:Nat} {i:TI}
theorem iS(h:bU P t=some i):(sizeOf t).run P w = .ok i.size w:=by
 obtain ⟨inf,d,z,h1,_,_,_,h2,_⟩:=eH h;simp [sizeOf,typeInfo,h1,h2,program,Sem.run]
theorem eO(h:bU P t=some i):∃ d,P.underlying t=some d∧i.k=kO d:=by
 obtain ⟨inf,d,z,_,h2,_,h3,_⟩:=eH h;exact ⟨d,h2,h3⟩
theorem pV(h:bU P t=some i):(isAgg t).run P w = .ok i.agg w:=by
 obtain ⟨d,h1,h2⟩:=eO h;unfold isAgg TI.agg;rw [Sem.run_bind,run_underlying h1,h2];cases d <;> rfl
theorem aSz(h:bU P t=some i):∃ z,(zeroValue t).run P w = .ok z w∧i.zero=z.cells.toList:=by
 obtain ⟨inf,d,z,h1,_,h2,_,_,_,h3,_⟩:=eH h;exact ⟨z,by simp [zeroValue,typeInfo,h1,h2,program,Sem.run],h3⟩
end

def cv:Value→PV
 | .agg cs=>if cs.toList.all (·.oneCell') then .agg (cs.toList.map .v) else .v (.agg cs)
 | v => .v v
theorem bEc(F:Nat→Prop)(w:World)(v:Value):bW F w (cv v) v:=by
 cases v <;> try exact .v _
 rename_i cs;simp only [cv]
 split
 ·rename_i h1
  rw [fD] at h1
  have hg:∀ i,i<cs.size→∃ h:i<cs.toList.length,cs.getD i undef=cs.toList[i]:=fun i hi=>⟨by simpa using hi,by simp [A4,hi]⟩
  refine .agg _ _ (fun i hi => ?_) (by simp) (fun i hi => ?_)
  ·obtain ⟨h2,h3⟩:=hg i (by simpa using hi)
   rw [h3];exact h1 _ (eT h2)
  ·obtain ⟨h2,h3⟩:=hg i (by simpa using hi)
   simp only [kD];rw [h3];exact .v _
 ·exact .v _

def ev(st:St):Operand→Option AV
 | .tmp t=>st.t[t]?
 | .const (.bool b)=>some (.kb b)
 | .const v=>some (.p (cv v))
 | .func f=>some (.fn f [] [])
 | .global _=>none

structure dO (C:Cx) (M:Mem) (w:World) (ts:List AV) (us:Array Value):Prop where
 size:us.size=ts.length
 rep:∀ i (h:i<ts.length),Rep C M w ts[i] (us.getD i undef)

theorem dO.at{C:Cx}{M:Mem}{w:World}{ts:List AV}{us:Array Value}(h:dO C M w ts us){i:Nat}{x:AV}(hx:ts[i]? = some x):Rep C M w x (us.getD i undef):=by
 obtain ⟨hi,rfl⟩:=A2.1 hx;exact h.rep i hi

theorem dO.ev{C:Cx}{st:St}{w:World}{a:Act}(h:dO C st.m w st.t a.tmps){x:Operand}{v:AV}(hx:ev st x=some v):Rep C st.m w v (a.eval x):=by
 cases x with
 | tmp t=>exact h.at hx
 | const c=>cases c <;> (cases hx;first | exact .kb _ | exact .p _ _ (bEc _ _ _))
 | func f=>cases hx;exact .fn f [] [] #[] #[] rfl rfl (fun i h=>by simp at h) (fun i h=>by simp at h)
 | global g=>cases hx

def put(ts:List AV)(d:Option Tmp)(x:AV):List AV:=match d with
 | some i=>ts.set i x
 | none=>ts

theorem dO.put{C:Cx}{M:Mem}{w:World}{ts:List AV}{a:Act}(h:dO C M w ts a.tmps){d:Option Tmp}{x:AV}{v:Value}(hx:Rep C M w x v):dO C M w (put ts d x) (a.put d v).tmps:=by
 cases d with
 | none=>exact h
 | some i =>
  refine ⟨by simp [KV.put,Act.put,h.size],fun j hj => ?_⟩
  simp only [KV.put,nJ] at hj
  simp only [KV.put,Act.put,A4,Array.getElem?_setIfInBounds,wH];have hs:=h.size
  by_cases hij:i=j
  ·subst hij
   simp [hs,hj];exact hx
  ·simp only [hij,if_false]
   have:=h.rep j hj
   rwa [A4] at this

theorem dO.le{C C':Cx}{M M':Mem}{w w':World}{ts:List AV}{us:Array Value}(h:dO C M w ts us)(hL:Le C C' M M' w w'):dO C' M' w' ts us:=⟨h.size,fun i hi=>(h.rep i hi).mono hL⟩

def un:AV→AV
 | .kb b => .p (.v (.bool b))
 | x=>x
theorem bEd{C:Cx}{M:Mem}{w:World}{x:AV}{u:Value}(h:Rep C M w x u):Rep C M w (un x) u:=by
 cases h <;> (try (constructor <;> assumption))
 exact .p _ _ (.v _)

def toV:AV→Option Value
 | .p (.v x)=>some x
 | .kb b=>some (.bool b)
 | _=>none
theorem rW{C:Cx}{M:Mem}{w:World}{x:AV}{u v:Value}(h:Rep C M w x u)(hv:toV x=some v):u=v:=by
 cases h with
 | p x u h=>cases h <;> simp [toV] at hv;exact hv
 | kb b=>simpa [toV] using hv
 | _=>simp [toV] at hv

def toI(x:AV):Option (IntKind × Int):=match toV x with
 | some (.int k n)=>some (k,n)
 | _=>none
theorem oG{C:Cx}{M:Mem}{w:World}{x:AV}{u:Value}{k:IntKind}{n:Int}(h:Rep C M w x u)(hv:toI x=some (k,n)):u = .int k n:=by
 unfold toI at hv
 split at hv
 ·rename_i h2;cases hv;exact rW h h2
 ·cases hv

def cellsOf:AV→Option (List AV)
 | .p (.agg xs)=>some (xs.map .p)
 | .p (.v x)=>if x.oneCell' then some [.p (.v x)] else none
 | .agg cs=>some cs
 | .tup _=>none
 | .any=>none
 | x=>some [x]

def pvs:List AV→Option (List PV)
 | []=>some []
 | .p x::r=>(pvs r).map (x :: ·)
 | .kb b::r=>(pvs r).map (.v (.bool b) :: ·)
 | _=>none

def iT(cs:List AV):AV:=match pvs cs with
 | some xs => .p (.agg xs)
 | none => .agg cs

theorem uX{C:Cx}{M:Mem}{w:World}:∀ (cs:List AV) (xs:List PV),pvs cs=some xs→xs.length=cs.length∧∀ i (h:i<cs.length) (h':i<xs.length) (u:Value),Rep C M w cs[i] u→bW C.F w xs[i] u
 | [],xs,h=>by cases h;exact ⟨rfl,fun i h=>by simp at h⟩
 | x::r,xs,h=>by
  cases x <;> simp only [pvs] at h <;> (try cases h)
  ·rename_i x
   cases hr:pvs r with
   | none=>rw [hr] at h;cases h
   | some ys =>
    rw [hr] at h;cases h
    obtain ⟨h1,h2⟩:=uX r ys hr;refine ⟨by simp [h1],fun i hi B2 u hu => ?_⟩
    cases i with
    | zero=>cases hu with | p _ _ h=>exact h
    | succ i=>exact h2 i (by simpa using hi) (by simpa using B2) u hu
  ·rename_i b
   cases hr:pvs r with
   | none=>rw [hr] at h;cases h
   | some ys =>
    rw [hr] at h;cases h
    obtain ⟨h1,h2⟩:=uX r ys hr;refine ⟨by simp [h1],fun i hi B2 u hu => ?_⟩
    cases i with
    | zero=>cases hu;exact .v _
    | succ i=>exact h2 i (by simpa using hi) (by simpa using B2) u hu

theorem jU{C:Cx}{M:Mem}{w:World}{cs:List AV}{vs:Array Value}(h0:∀ i,i<cs.length→(vs.getD i undef).oneCell'=true)(h1:vs.size=cs.length)(h2:∀ i (h:i<cs.length),Rep C M w cs[i] (vs.getD i undef)):Rep C M w (iT cs) (.agg vs):=by
 unfold iT
 split
 ·rename_i xs hx
  obtain ⟨h3,h4⟩:=uX (C:=C) (M:=M) (w:=w) cs xs hx;exact .p _ _ (.agg _ _ (fun i hi=>h0 i (by omega)) (by omega) (fun i hi=>h4 i (by omega) hi _ (h2 i (by omega))))
 ·exact .agg _ _ h0 h1 h2

theorem aEx{v:Value}(h:v.oneCell'=true):v.cells = #[v]:=by cases v <;> first | rfl | (simp [Value.oneCell'] at h)
theorem fF{C:Cx}{M:Mem}{w:World}{x:AV}{u:Value}(h:Rep C M w x u)(h1:u.oneCell'=true):u.cells.size=[x].length∧(∀ i (hi:i<[x].length),Rep C M w [x][i] (u.cells.getD i undef))∧∀ i,i<[x].length→(u.cells.getD i undef).oneCell'=true:=by
 rw [aEx h1];refine ⟨rfl,fun i hi => ?_,fun i hi => ?_⟩
 ·obtain rfl:i=0:=by simpa using hi
  exact h
 ·obtain rfl:i=0:=by simpa using hi
  exact h1

theorem pW{C:Cx}{M:Mem}{w:World}{x:AV}{u:Value}(h:Rep C M w x u){cs:List AV}(hc:cellsOf x=some cs):u.cells.size=cs.length∧(∀ i (hi:i<cs.length),Rep C M w cs[i] (u.cells.getD i undef)) ∧
  ∀ i,i<cs.length→(u.cells.getD i undef).oneCell'=true:=by
 cases h with
 | p x u h =>
  cases h with
  | v y =>
   simp only [cellsOf] at hc
   split at hc
   ·rename_i h1;cases hc;exact fF (.p _ _ (.v _)) h1
   ·cases hc
  | sl n cs p cap us h1 h2 h3 h4 h5=>cases hc;exact fF (.p _ _ (.sl n cs p cap us h1 h2 h3 h4 h5)) rfl
  | agg xs vs h0 h1 h2 =>
   cases hc;refine ⟨by simpa [Value.cells] using h1,fun i hi => ?_,fun i hi=>h0 i (by simpa using hi)⟩
   simp only [kD];exact .p _ _ (h2 i (by simpa using hi))
  | mp es b cl arr us hb h0 h1 h2 h3=>cases hc;exact fF (.p _ _ (.mp es b cl arr us hb h0 h1 h2 h3)) rfl
  | rp cs off b o us h1 h2 h3=>cases hc;exact fF (.p _ _ (.rp cs off b o us h1 h2 h3)) rfl
  | fn f cs ds us vs h1 h2 h3 h4=>cases hc;exact fF (.p _ _ (.fn f cs ds us vs h1 h2 h3 h4)) rfl
 | any u=>cases hc
 | tup cs vs h1 h2=>cases hc
 | agg cs vs h0 h1 h2=>cases hc;exact ⟨h1,h2,h0⟩
 | kb b=>cases hc;exact fF (.kb b) rfl
 | yld l=>cases hc;exact fF (.yld l) rfl
 | own id u h0 ha h=>cases hc;exact fF (.own id u h0 ha h) h0
 | arr id off n u h0 ha h=>cases hc;exact fF (.arr id off n u h0 ha h) h0
 | ptr id off u h0 ha h hp=>cases hc;exact fF (.ptr id off u h0 ha h hp) h0
 | mp id u h0 ha h=>cases hc;exact fF (.mp id u h0 ha h) h0
 | pa id q u h0 ha h=>cases hc;exact fF (.pa id q u h0 ha h) h0
 | rp cs off b o us h1 h2 h3=>cases hc;exact fF (.rp cs off b o us h1 h2 h3) rfl
 | fn f cs ds us vs h1 h2 h3 h4=>cases hc;exact fF (.fn f cs ds us vs h1 h2 h3 h4) rfl
end
section

abbrev TT:=Nat→Option TI

def aNy(c:AV):Ask Bool:=match c with
 | .kb b=>pure b
 | .p (.v (.bool b))=>aOc b
 | _=>fail

theorem oF{C:Cx}{M:Mem}{w:World}{c:AV}{u:Value}(hc:Rep C M w c u){d:Bool}{s s':AS}(h:aNy c s=some (d,s'))(g:aW s'):u = .bool d∧aW s:=by
 unfold aNy at h
 split at h
 ·obtain ⟨rfl,rfl⟩:=aH h;cases hc;exact ⟨rfl,g⟩
 ·obtain ⟨rfl,g⟩:=aKq h g
  cases hc with | p _ _ h=>cases h;exact ⟨rfl,g⟩
 ·exact (aQ h).elim

def bOs:AV→Bool
 | .p (.v (.slice none 0 0))=>true
 | .p (.v (.pointer none))=>true
 | .p (.v .nilFunc)=>true
 | .p (.v (.map none))=>true
 | _=>false

def bG(m:Mem)(id:Nat):Option AO:=match m[id]? with
 | some (some o)=>some o
 | _=>none
theorem dJ{m:Mem}{id:Nat}{o:AO}(h:bG m id=some o):m[id]? = some (some o):=by
 unfold bG at h;split at h
 ·cases h;assumption
 ·cases h
theorem aZ{m:Mem}{id:Nat}{o:AO}:bG m id=some o↔m[id]? = some (some o):=⟨dJ,fun h=>by unfold bG;rw [h]⟩
def eM(m:Mem)(id:Nat):Option (Nat × Nat × List PV):=match bG m id with
 | some (.row ty n cs)=>some (ty,n,cs)
 | _=>none
def dP(m:Mem)(id:Nat):Bool:=match bG m id with
 | some o=>o.live
 | _=>false
theorem cN{m:Mem}{id:Nat}{r:Nat × Nat × List PV}(h:eM m id=some r):m[id]? = some (some (.row r.1 r.2.1 r.2.2)):=by
 unfold eM at h;split at h
 ·cases h;exact dJ (by assumption)
 ·cases h
theorem cT{m:Mem}{id:Nat}(h:dP m id=true):∃ o,m[id]? = some (some o)∧o.live=true:=by
 unfold dP at h;split at h
 ·exact ⟨_,dJ (by assumption),h⟩
 ·cases h
theorem gX{m:Mem}{id:Nat}{o:AO}(h:m[id]? = some (some o))(hl:o.live=true):dP m id=true:=by
 unfold dP;rw [aZ.2 h];exact hl

def aSy(T:TT)(t:Nat):Bool:=match T t with
 | some i=>match i.k with | .bool=>true | _=>false
 | none=>false

def bIw(T:TT)(op:BinOp)(t:Nat)(a b:AV):Ask AV:=do
 let x ← lift (toV a)
 let y ← lift (toV b)
 let v ← aWk op x y (aSy T t)
 pure (.p (.v v))

def vun(op:UnOp)(x:AV):Ask AV:=match toV x with
 | some (.bool b)=>match op with
  | .not=>pure (.p (.v (.bool (!b))))
  | _=>fail
 | some (.int k n)=>match op with
  | .neg=>do let v ← wr k (0-n);pure (.p (.v v))
  | _=>fail
 | _=>fail

def vconv(T:TT)(src dst:Nat)(x:AV):Ask AV:=do
 let _ ← lift (T src)
 let i ← lift (T dst)
 match i.k,toV x with
 | .int k,some (.int _ n)=>do let v ← wr k n;pure (.p (.v v))
 | _,_=>fail

def vext(x:AV)(ix:Nat):Ask AV:=match x with
 | .tup vs=>lift vs[ix]?
 | _=>fail

variable {P:Program} {T:TT} {C:Cx} {M:Mem} {w:World}

theorem uW{op:BinOp}{t:Nat}{x y:Operand}{a b:Value}(h:∀ cs,a ≠ .agg cs)(h2:a ≠ .nilIface):(eqGuard op t x y a b).run P w = .ok () w:=by
 unfold eqGuard
 split <;> (cases a <;> first | rfl | exact absurd rfl h2 | exact absurd rfl (h _))

theorem aNz(hT:∀ t i,T t=some i→bU P t=some i){op:BinOp}{t:Nat}{a b x:AV}{u v:Value}{s s':AS}(ha:Rep C M w a u)(hb:Rep C M w b v)(h:bIw T op t a b s=some (x,s'))(g:aW s') :
  aW s∧∃ r,(Go.binOp op t u v).run P w = .ok r w∧Rep C M w x r∧(∀ cs,u ≠ .agg cs)∧u ≠ .nilIface:=by
 unfold bIw at h
 obtain ⟨p,s1,h1,k1⟩:=aD h;obtain ⟨e1,rfl⟩:=aE h1;obtain ⟨q,s2,h2,k2⟩:=aD k1;obtain ⟨e2,rfl⟩:=aE h2;obtain ⟨r,s3,h3,k3⟩:=aD k2;obtain ⟨rfl,rfl⟩:=aH k3;obtain rfl:=rW ha e1;obtain rfl:=rW hb e2;have hk:(∀ cs,u ≠ .agg cs)∧u ≠ .nilIface:=by
  unfold aWk at h3
  split at h3
  ·exact ⟨nofun,nofun⟩
  ·exact ⟨nofun,nofun⟩
  ·exact (aQ h3).elim
 obtain ⟨h4,g⟩:=aOf (P:=P) (w:=w) (t:=t) (fun hb=>by
  unfold aSy at hb
  split at hb
  ·rename_i i hi
   obtain ⟨d,hd,hk⟩:=eO (hT _ _ hi)
   split at hb
   ·rename_i E7;rw [E7] at hk;rw [bIx hk.symm] at hd;exact hd
   ·cases hb
  ·cases hb) h3 g
 exact ⟨g,r,h4,.p _ _ (.v _),hk⟩

theorem aWj{op:UnOp}{a x:AV}{u:Value}{s s':AS}(ha:Rep C M w a u)(h:vun op a s=some (x,s'))(g:aW s'):aW s∧∃ r,(Op.unary op u).run P w = .ok r w∧Rep C M w x r:=by
 unfold vun at h
 generalize hv:toV a=q at h
 split at h
 ·rename_i b
  obtain rfl:=rW ha hv
  split at h
  ·obtain ⟨rfl,rfl⟩:=aH h
   exact ⟨g,_,rfl,.p _ _ (.v _)⟩
  ·exact (aQ h).elim
 ·rename_i k n
  obtain rfl:=rW ha hv
  split at h
  ·obtain ⟨r,s1,h1,k1⟩:=aD h
   obtain ⟨rfl,rfl⟩:=aH k1;obtain ⟨rfl,g⟩:=tM h1 g;exact ⟨g,_,rfl,.p _ _ (.v _)⟩
  ·exact (aQ h).elim
 ·exact (aQ h).elim

theorem aKp(hT:∀ t i,T t=some i→bU P t=some i){src dst:Nat}{a x:AV}{u:Value}{s s':AS}(ha:Rep C M w a u)(h:vconv T src dst a s=some (x,s'))(g:aW s'):aW s∧∃ r,(Go.convert src dst u).run P w = .ok r w∧Rep C M w x r:=by
 unfold vconv at h
 obtain ⟨i1,s1,h1,k1⟩:=aD h;obtain ⟨e1,rfl⟩:=aE h1;obtain ⟨i2,s2,h2,k2⟩:=aD k1;obtain ⟨e2,rfl⟩:=aE h2;clear h k1;obtain ⟨d1,I2,_⟩:=eO (hT _ _ e1);obtain ⟨d2,I1,E7⟩:=eO (hT _ _ e2);generalize hv:toV a=q at k2
 generalize hk:i2.k=q2 at k2
 split at k2
 ·rename_i k kk n
  obtain rfl:=rW ha hv;obtain ⟨r,s1,h3,k3⟩:=aD k2;obtain ⟨rfl,rfl⟩:=aH k3;obtain ⟨rfl,g⟩:=tM h3 g;rw [hk] at E7
  have:=aOb E7.symm;subst this;refine ⟨g,_,?_,.p _ _ (.v _)⟩;simp [Go.convert,run_underlying I2,run_underlying I1,Conv.intToInt]
 ·exact (aQ k2).elim

theorem aOa{a x:AV}{ix:Nat}{u:Value}{s s':AS}(ha:Rep C M w a u)(h:vext a ix s=some (x,s'))(g:aW s'):aW s∧∃ r,(Instr.extract u ix).run P w = .ok r w∧Rep C M w x r:=by
 unfold vext at h
 split at h
 ·obtain ⟨e1,rfl⟩:=aE h
  cases ha with
  | tup cs vs h2 h3 =>
   obtain ⟨hi,rfl⟩:=A2.1 e1;have B2:ix<vs.size:=by omega
   have h4:=h3 ix hi;rw [A4,pA B2] at h4
   exact ⟨g,_,by simp [Instr.extract,pA B2],h4⟩
 ·exact (aQ h).elim
end
section

def oE(T:TT)(m:Mem)(t:Nat)(x:AV)(f:Nat):Ask AV:=do
 let i ← lift (T t)
 let fs ← lift (match i.k with | .struct fs=>some fs | _=>none)
 let fd ← lift fs[f]?
 let j ← lift (T fd.2.1)
 lift (if j.size=0 then none else match x with
  | .ptr id off=>some (.ptr id (off+fd.1))
  | .rp cs off=>some (.rp cs (off+fd.1))
  | _=>none)

def eN(T:TT)(m:Mem)(t:Nat)(x ix:AV):Ask AV:=do
 let i ← lift (T t)
 let kn ← lift (toI ix)
 match i.k with
 | .slice e=>do
  let j ← lift (T e)
  match x with
  | .own id=>do
   let r ← lift (eM m id)
   fC (0≤kn.2∧kn.2<(r.2.1:Int))
   pure (.ptr id (kn.2.toNat*j.size))
  | .arr id off l=>do
   lift (if dP m id then some () else none)
   fC (0≤kn.2∧kn.2<(l:Int))
   pure (.ptr id (off+kn.2.toNat*j.size))
  | .p (.sl l cs)=>do
   fC (0≤kn.2∧kn.2<(l:Int)∧kn.2.toNat*j.size<cs.length)
   pure (.rp cs (kn.2.toNat*j.size))
  | _=>fail
 | .array len e=>do
  let j ← lift (T e)
  match x with
  | .ptr id off=>do
   fC (0≤kn.2∧kn.2<(len:Int))
   pure (.ptr id (off+kn.2.toNat*j.size))
  | .rp cs off=>do
   fC (0≤kn.2∧kn.2<(len:Int))
   pure (.rp cs (off+kn.2.toNat*j.size))
  | _=>fail
 | _=>fail

def wD(i:TI)(cs:List PV)(off:Nat):Ask AV:=match i.agg with
 | true=>do fC (off+i.size≤cs.length);let x ← aOd (some (.agg ((cs.drop off).take i.size)));pure (.p x)
 | false=>do let x ← aOd cs[off]?;pure (.p x)
def wE(i:TI)(cs:List AV)(off:Nat):Ask AV:=match i.agg with
 | true=>lift (if off+i.size≤cs.length then some (iT ((cs.drop off).take i.size)) else none)
 | false=>lift cs[off]?

def vload(T:TT)(m:Mem)(t:Nat)(x:AV):Ask AV:=do
 let i ← lift (T t)
 match x with
 | .ptr id off=>do
  let o ← lift (bG m id)
  match o with
  | .box _ cs=>wE i cs off
  | .row _ _ cs=>wD i cs off
  | _=>fail
 | .rp cs off=>wD i cs off
 | _=>fail

def vpart(T:TT)(t:Nat)(x:AV)(off:Nat):Ask AV:=do
 let j ← lift (T t)
 match x with
 | .p (.agg xs)=>match j.agg with
  | true=>do fC (off+j.size≤xs.length);pure (.p (.agg ((xs.drop off).take j.size)))
  | false=>do let y ← lift xs[off]?;pure (.p y)
 | .agg cs=>wE j cs off
 | _=>fail

def vfield(T:TT)(t:Nat)(x:AV)(f:Nat):Ask AV:=do
 let i ← lift (T t)
 let fs ← lift (match i.k with | .struct fs=>some fs | _=>none)
 let fd ← lift fs[f]?
 vpart T fd.2.1 x fd.1

def vindex(T:TT)(t:Nat)(x ix:AV):Ask AV:=do
 let i ← lift (T t)
 let kn ← lift (toI ix)
 match i.k with
 | .array len e=>do
  let j ← lift (T e)
  fC (0≤kn.2∧kn.2<(len:Int))
  vpart T e x (kn.2.toNat*j.size)
 | .str=>match x with
  | .p (.v (.string s))=>do
   let b ← lift (s.data.toList[kn.2.toNat]?)
   fC (0≤kn.2)
   pure (.p (.v (.int .u8 (b.toNat:Int))))
  | _=>fail
 | _=>fail

variable {P:Program} {T:TT} {C:Cx} {M:Mem} {w:World}

theorem tK{i:TI}{fs:List (Nat × Nat × Bool)}(h:(match i.k with | .struct fs=>some fs | _=>none)=some fs):i.k = .struct fs:=by
 split at h
 ·cases h;assumption
 ·cases h

theorem aEv{as : Array Field}{f : Nat}{fd : Nat × Nat × Bool}(h : (as.toList.map fun f => (f.offset, f.type, f.name != "_"))[f]? = some fd) : ∃ fl, as[f]? = some fl ∧ fl.offset = fd.1 ∧ fl.type = fd.2.1 := by
 rw [B6,jV] at h
 obtain ⟨fl,h1,rfl⟩:=h;exact ⟨fl,by simpa using h1,rfl,rfl⟩

theorem fJ{id off:Nat}{u:Value}(h:Rep C M w (.ptr id off) u)(hl:dP M id=true):∃ b,u = .pointer (some ⟨b,off,none⟩)∧C.ι id=some b:=by
 cases h with
 | ptr id off u h0 ha h hp =>
  obtain ⟨o,ho,hl⟩:=cT hl;exact h o ho hl
theorem aEw{id off:Nat}{u:Value}(h:Rep C M w (.ptr id off) u):∃ b,u = .pointer (some ⟨b,off,none⟩)∧∀ k,Rep C M w (.ptr id (off+k)) (.pointer (some ⟨b,off+k,none⟩)):=by
 cases h with
 | ptr id off u h0 ha h hp =>
  obtain ⟨b,rfl⟩:=hp;refine ⟨b,rfl,fun k => .ptr _ _ _ rfl ha (fun o ho hl => ?_) ⟨b,rfl⟩⟩
  obtain ⟨b',h1,h2⟩:=h o ho hl;cases h1;exact ⟨b,rfl,h2⟩

theorem aSx{id off b:Nat}(hl:dP M id=true)(hb:C.ι id=some b):Rep C M w (.ptr id off) (.pointer (some ⟨b,off,none⟩)):=by
 obtain ⟨o,ho,_⟩:=cT hl;exact .ptr id off _ rfl ⟨o,ho⟩ (fun _ _ _=>⟨b,rfl,hb⟩) ⟨b,rfl⟩

theorem aKo{id:Nat}{r:Nat × Nat × List PV}(h:eM M id=some r):dP M id=true:=by
 exact gX (cN h) rfl

theorem bD{α:Type}{c:Prop}[Decidable c]{x y:α}(h:(if c then some x else none)=some y):c∧x=y:=by
 split at h
 ·cases h;exact ⟨by assumption,rfl⟩
 ·cases h

theorem pT{f:Field}{j:TI}(hj:bU P f.type=some j)(h0:j.size≠0)(b off:Nat):(fieldPlace ⟨b,off,none⟩ f).run P w = .ok ⟨b,off+f.offset,none⟩ w:=by
 unfold fieldPlace;rw [Sem.run_bind,iS hj,Result.andThen_ok,if_neg h0,Addr.add_lit];rfl

theorem wF(hT:∀ t i,T t=some i→bU P t=some i){t f:Nat}{a x:AV}{u:Value}{s s':AS}(ha:Rep C M w a u)(h:oE T M t a f s=some (x,s'))(g:aW s') :
  aW s∧∃ r,(Instr.fieldAt t u f).run P w = .ok r w∧Rep C M w x r:=by
 unfold oE at h
 obtain ⟨i,s1,h1,k1⟩:=aD h;obtain ⟨e1,rfl⟩:=aE h1;obtain ⟨fs,s2,h2,k2⟩:=aD k1;obtain ⟨e2,rfl⟩:=aE h2;obtain ⟨fd,s3,h3,k3⟩:=aD k2;obtain ⟨e3,rfl⟩:=aE h3;obtain ⟨j,s4,h4,k4⟩:=aD k3;obtain ⟨e4,rfl⟩:=aE h4;obtain ⟨e5,rfl⟩:=aE k4;clear h1 h2 h3 h4 k1 k2 k3 k4 h;obtain ⟨d,hd,hk⟩:=eO (hT _ _ e1);rw [tK e2] at hk
 obtain ⟨as,rfl,rfl⟩:=rV hk.symm;obtain ⟨fl,hf,ho,ht⟩:=aEv e3
 split at e5
 ·cases e5
 rename_i h0;refine ⟨g,?_⟩;have hj:bU P fl.type=some j:=by rw [ht];exact hT _ _ e4
 have hrun:∀ b off,u = .pointer (some ⟨b,off,none⟩)→(Instr.fieldAt t u f).run P w = .ok (.pointer (some ⟨b,off+fd.1,none⟩)) w:=by
  rintro b off rfl;unfold Instr.fieldAt;rw [Sem.run_bind,run_underlying hd,Result.andThen_ok];simp only [hf];rw [Sem.run_bind];show ((pure (⟨b,off,none⟩:Addr):Sem Addr).run P w).andThen _=_;rw [Sem.run_pure,Result.andThen_ok,Sem.run_bind,pT hj h0,Result.andThen_ok,ho];rfl
 split at e5
 ·rename_i id off
  cases e5;obtain ⟨b,hu,hb⟩:=aEw ha;exact ⟨_,hrun b off hu,hb _⟩
 ·rename_i cs off
  cases e5;cases ha with
  | rp cs off b o us h1 h2 h3 =>
   refine ⟨_,hrun b (o+off) rfl,?_⟩;rw [Nat.add_assoc];exact .rp cs _ b o us h1 h2 h3
 ·cases e5

theorem iR{t e:Nat}{j:TI}(hu:P.underlying t=some (.slice e))(hj:bU P e=some j){b off n cap:Nat}{k:IntKind}{i:Int}(h0:0≤i)(h1:i<n) :
  (Instr.indexAt t (.slice (some ⟨b,off,none⟩) n cap) (.int k i)).run P w = .ok (.pointer (some ⟨b,off+i.toNat*j.size,none⟩)) w:=by
 unfold Instr.indexAt;simp [asIntOf,run_underlying hu,iS hj,h0,h1,Addr.add_lit]
theorem lU{t e len:Nat}{j:TI}(hu:P.underlying t=some (.array len e))(hj:bU P e=some j){b off:Nat}{k:IntKind}{i:Int}(h0:0≤i)(h1:i<len) :
  (Instr.indexAt t (.pointer (some ⟨b,off,none⟩)) (.int k i)).run P w = .ok (.pointer (some ⟨b,off+i.toNat*j.size,none⟩)) w:=by
 unfold Instr.indexAt;simp [asIntOf,run_underlying hu,iS hj,h0,h1,Addr.add_lit,Instr.sureAddr]

theorem wG(hT:∀ t i,T t=some i→bU P t=some i){t:Nat}{a b x:AV}{u v:Value}{s s':AS}(ha:Rep C M w a u)(hb:Rep C M w b v)(h:eN T M t a b s=some (x,s'))(g:aW s') :
  aW s∧∃ r,(Instr.indexAt t u v).run P w = .ok r w∧Rep C M w x r:=by
 unfold eN at h
 obtain ⟨i,s1,h1,k1⟩:=aD h;obtain ⟨e1,rfl⟩:=aE h1;obtain ⟨⟨kd,n⟩,s2,h2,k2⟩:=aD k1;obtain ⟨e2,rfl⟩:=aE h2;clear h1 h2 k1 h;obtain rfl:=oG hb e2;obtain ⟨d,hd,hk⟩:=eO (hT _ _ e1);generalize hik:i.k=ik at k2
 split at k2
 ·rename_i e
  rw [hik] at hk
  obtain rfl:=nH hk.symm;obtain ⟨j,s3,h3,k3⟩:=aD k2;obtain ⟨e3,rfl⟩:=aE h3;clear k2 h3
  split at k3
  ·rename_i id
   obtain ⟨r,s4,h4,k4⟩:=aD k3;obtain ⟨e4,rfl⟩:=aE h4;obtain ⟨_,s5,h5,k5⟩:=aD k4;obtain ⟨rfl,rfl⟩:=aH k5;obtain ⟨⟨h6,h7⟩,g⟩:=dF h5 g;refine ⟨g,?_⟩;cases ha with
   | own id u h0 ha h =>
    rcases h _ _ _ (cN e4) with ⟨_,_,hn⟩ | ⟨b,rfl,hb⟩
    ·dsimp only at h6 h7 hn;omega
    ·refine ⟨_,iR hd (hT _ _ e3) h6 h7,?_⟩
     rw [fE];exact aSx (aKo e4) hb
  ·rename_i id off l
   obtain ⟨_,s4,h4,k4⟩:=aD k3;obtain ⟨e4,rfl⟩:=aE h4;obtain ⟨hl,_⟩:=bD e4;obtain ⟨_,s5,h5,k5⟩:=aD k4;obtain ⟨rfl,rfl⟩:=aH k5;obtain ⟨⟨h6,h7⟩,g⟩:=dF h5 g;refine ⟨g,?_⟩;cases ha with
   | arr id off l u h0 ha h =>
    obtain ⟨o,ho,hlo⟩:=cT hl
    rcases h o ho hlo with ⟨hn,_⟩ | ⟨b,cap,rfl,_,_,hb⟩
    ·dsimp only at h6 h7;omega
    ·exact ⟨_,iR hd (hT _ _ e3) h6 h7,aSx hl hb⟩
  ·rename_i l cs
   obtain ⟨_,s5,h5,k5⟩:=aD k3;obtain ⟨rfl,rfl⟩:=aH k5;obtain ⟨⟨h6,h7,h8⟩,g⟩:=dF h5 g;refine ⟨g,?_⟩;cases ha with
   | p x u hp =>
    cases hp with
    | sl n cs p cap us Gc Kt Ku O7 O8 =>
     obtain ⟨b,o,rfl,_,_⟩:=Ku _ h8;refine ⟨_,iR hd (hT _ _ e3) h6 h7,.rp cs _ b o us (fun i hi => ?_) O7 O8⟩
     obtain ⟨b',o',hp,hF,hc⟩:=Ku i hi;cases hp;exact ⟨hF,hc⟩
  ·exact (aQ k3).elim
 ·rename_i len e
  rw [hik] at hk
  obtain rfl:=pU hk.symm;obtain ⟨j,s3,h3,k3⟩:=aD k2;obtain ⟨e3,rfl⟩:=aE h3;clear k2 h3
  split at k3
  ·rename_i id off
   obtain ⟨_,s5,h5,k5⟩:=aD k3;obtain ⟨rfl,rfl⟩:=aH k5;obtain ⟨⟨h6,h7⟩,g⟩:=dF h5 g;obtain ⟨b,rfl,hb⟩:=aEw ha;exact ⟨g,_,lU hd (hT _ _ e3) h6 h7,hb _⟩
  ·rename_i cs off
   obtain ⟨_,s5,h5,k5⟩:=aD k3;obtain ⟨rfl,rfl⟩:=aH k5;obtain ⟨⟨h6,h7⟩,g⟩:=dF h5 g;cases ha with
   | rp cs off b o us h1 h2 h3 =>
    refine ⟨g,_,lU hd (hT _ _ e3) h6 h7,?_⟩;rw [Nat.add_assoc];exact .rp cs _ b o us h1 h2 h3
  ·exact (aQ k3).elim
 ·exact (aQ k2).elim
end
section
variable {P:Program} {T:TT} {C:Cx} {M:Mem} {w:World}

theorem aSw{vs:Array Value}{i:Nat}(h:i<vs.size):vs[i]? = some (vs.getD i undef):=by
 rw [A4,pA h];rfl

theorem rU(k:Nat)(f:Nat→Value)(j:Nat)(h:j<k):(((List.range k).map f).toArray).getD j undef=f j:=by
 simp [A4,h]

theorem aEt{F:Nat→Prop}{cs:List PV}{off k:Nat}{f:Nat→Value}(hl:off+k≤cs.length)(h:∀ j (hj:off+j<cs.length),j<k→bW F w cs[off+j] (f j))(h0:∀ j,j<k→(f j).oneCell'=true) :
  bW F w (.agg ((cs.drop off).take k)) (.agg ((List.range k).map f).toArray):=by
 refine .agg _ _ (fun i hi=>by
  have B2:i<k:=by simp at hi;omega
  rw [rU k f i B2];exact h0 i B2) (by simp;omega) (fun i hi => ?_)
 have B2:i<k:=by simp at hi;omega
 rw [rU k f i B2];simp only [List.getElem_take,List.getElem_drop];exact h i (by omega) B2
theorem aKn{cs:List AV}{off k:Nat}{f:Nat→Value}(hl:off+k≤cs.length)(h:∀ j (hj:off+j<cs.length),j<k→Rep C M w cs[off+j] (f j))(h0:∀ j,j<k→(f j).oneCell'=true) :
  Rep C M w (iT ((cs.drop off).take k)) (.agg ((List.range k).map f).toArray):=by
 refine jU (fun i hi=>by
  have B2:i<k:=by simp at hi;omega
  rw [rU k f i B2];exact h0 i B2) (by simp;omega) (fun i hi => ?_)
 have B2:i<k:=by simp at hi;omega
 rw [rU k f i B2];simp only [List.getElem_take,List.getElem_drop];exact h i (by omega) B2

theorem kB{t:Nat}{i:TI}(hi:bU P t=some i)(ha:i.agg=true){b o:Nat}{f:Nat→Value}(h:∀ j,j<i.size→w.cell? ⟨b,o+j,none⟩=some (f j)) :
  (loadVar t ⟨b,o,none⟩).run P w = .ok (.agg ((List.range i.size).map f).toArray) w:=by
 unfold loadVar;rw [Sem.run_bind,pV hi,Result.andThen_ok,if_pos ha,Sem.run_bind,iS hi,Result.andThen_ok,Sem.run_bind,run_loadCells w ⟨b,o,none⟩ i.size f (fun j hj=>by rw [Addr.add_lit];exact h j hj)]
 rfl
theorem kC{t:Nat}{i:TI}(hi:bU P t=some i)(ha:i.agg=false){b o:Nat}{v:Value}(h:w.cell? ⟨b,o,none⟩=some v) :
  (loadVar t ⟨b,o,none⟩).run P w = .ok v w:=by
 unfold loadVar;rw [Sem.run_bind,pV hi,Result.andThen_ok,if_neg (by simp [ha]),run_load,h]

theorem uV{t:Nat}{i:TI}(hi:bU P t=some i){cs:List PV}{off b o:Nat}{us:Nat→Value}(hc:∀ j,j<cs.length→w.cell? ⟨b,o+j,none⟩=some (us j))(hr:∀ j (h:j<cs.length),bW C.F w cs[j] (us j))(ho:∀ j,j<cs.length→(us j).oneCell'=true)
  {x:AV} {s s':AS} (h:wD i cs off s=some (x,s')) (g:aW s'):aW s∧∃ r,(loadVar t ⟨b,o+off,none⟩).run P w = .ok r w∧Rep C M w x r:=by
 unfold wD at h
 generalize ha:i.agg=ag at h
 split at h
 ·obtain ⟨_,s1,h1,k1⟩:=aD h
  obtain ⟨y,s2,h2,k2⟩:=aD k1;obtain ⟨rfl,rfl⟩:=aH k2;obtain ⟨hy,g⟩:=bEe h2 g;cases hy;obtain ⟨hl,g⟩:=dF h1 g;refine ⟨g,_,kB hi ha (f:=fun j=>us (off+j)) (fun j hj => ?_),.p _ _ (aEt hl (fun j hj _=>hr _ hj) (fun j hj=>ho _ (by omega)))⟩
  rw [Nat.add_assoc];exact hc _ (by omega)
 ·obtain ⟨y,s1,h1,k1⟩:=aD h
  obtain ⟨rfl,rfl⟩:=aH k1;obtain ⟨hl,g⟩:=bEe h1 g;obtain ⟨hj,rfl⟩:=A2.1 hl;exact ⟨g,_,kC hi ha (hc off hj),.p _ _ (hr off hj)⟩

theorem aEu{i:TI}{cs:List AV}{off:Nat}{x:AV}{s s':AS}(h:wE i cs off s=some (x,s')):s'=s∧((i.agg=true∧off+i.size≤cs.length∧x=iT ((cs.drop off).take i.size))∨(i.agg=false∧cs[off]? = some x)):=by
 unfold wE at h
 generalize ha:i.agg=ag at h
 split at h
 ·obtain ⟨e1,rfl⟩:=aE h
  obtain ⟨h1,rfl⟩:=bD e1;exact ⟨rfl,.inl ⟨rfl,h1,rfl⟩⟩
 ·obtain ⟨e1,rfl⟩:=aE h
  exact ⟨rfl,.inr ⟨rfl,e1⟩⟩

theorem bH{b:Nat}{arr:Array Value}{ty:TypeId}{fr:Nat × Nat}(h:w.heap[b]? = some (.cells arr ty fr)){j:Nat}(hj:j<arr.size):w.cell? ⟨b,j,none⟩=some (arr.getD j undef):=by
 unfold World.cell?;simp only [h];exact aSw hj

theorem xX(hT:∀ t i,T t=some i→bU P t=some i)(hM:aO P C M w){t:Nat}{a x:AV}{u:Value}{s s':AS}(ha:Rep C M w a u)(h:vload T M t a s=some (x,s'))(g:aW s') :
  aW s∧∃ r,(Instr.loadAt t u).run P w = .ok r w∧Rep C M w x r:=by
 unfold vload at h
 obtain ⟨i,s1,h1,k1⟩:=aD h;obtain ⟨e1,rfl⟩:=aE h1;clear h h1;have hi:=hT _ _ e1;have hrun:∀ b off r,u = .pointer (some ⟨b,off,none⟩)→(loadVar t ⟨b,off,none⟩).run P w = .ok r w→(Instr.loadAt t u).run P w = .ok r w:=by
  rintro b off r rfl h;unfold Instr.loadAt;rw [Sem.run_bind];show ((pure (⟨b,off,none⟩:Addr):Sem Addr).run P w).andThen _=_;rw [Sem.run_pure,Result.andThen_ok,h]
 split at k1
 ·rename_i id off
  obtain ⟨o,s2,h2,k2⟩:=aD k1;obtain ⟨e2,rfl⟩:=aE h2;clear k1 h2
  replace e2:=dJ e2
  split at k2
  ·rename_i ty cs
   obtain ⟨b,hu,hb⟩:=fJ ha (gX e2 rfl);obtain ⟨b',arr,Aj,hh,hsz,hr,hone⟩:=hM.box _ _ _ e2;rw [hb] at Aj;cases Aj
   obtain ⟨rfl,⟨hag,hl,rfl⟩ | ⟨hag,hx⟩⟩:=aEu k2
   ·refine ⟨g,_,hrun _ _ _ hu (kB hi hag (f:=fun j=>arr.getD (off+j) undef) (fun j hj=>bH hh (by omega))),aKn hl (fun j hj _=>hr _ hj) (fun j hj=>hone _ (by omega))⟩
   ·obtain ⟨hj,rfl⟩:=A2.1 hx
    exact ⟨g,_,hrun _ _ _ hu (kC hi hag (bH hh (by omega))),hr _ hj⟩
  ·rename_i ty n cs
   obtain ⟨b,hu,hb⟩:=fJ ha (gX e2 rfl)
   rcases hM.row _ _ _ _ e2 with ⟨hn,_⟩ | ⟨b',arr,inf,Aj,hh,_,hsz,hcl,hle,_,hr,hone⟩
   ·rw [hb] at hn;cases hn
   ·rw [hb] at Aj;cases Aj
    have O6:cs.length≤arr.size:=by rw [hsz,hcl];exact Nat.mul_le_mul_right _ hle
    obtain ⟨g,r,h3,h4⟩:=uV (C:=C) (M:=M) hi (cs:=cs) (b:=b) (o:=0) (us:=fun j=>arr.getD j undef) (fun j hj=>by rw [fE];exact bH hh (by omega)) hr hone k2 g
    rw [fE] at h3
    exact ⟨g,r,hrun _ _ _ hu h3,h4⟩
  ·exact (aQ k2).elim
 ·rename_i cs off
  cases ha with
  | rp cs off b o us h1 h2 h5 =>
   obtain ⟨g,r,h3,h4⟩:=uV (C:=C) (M:=M) hi (us:=us) (fun j hj=>(h1 j hj).2) h2 h5 k1 g
   exact ⟨g,r,hrun _ _ _ rfl h3,h4⟩
 ·exact (aQ k1).elim

theorem aDg(vs:Array Value)(off k:Nat)(h:off+k≤vs.size):vs.extract off (off+k)=((List.range k).map fun j=>vs.getD (off+j) undef).toArray:=by
 apply Array.ext
 ·simp;omega
 ·intro i h1 h2
  simp at h2
  simp [A4,show off+i<vs.size by omega]

theorem xY(hT:∀ t i,T t=some i→bU P t=some i){t off:Nat}{a x:AV}{u:Value}{s s':AS}(ha:Rep C M w a u)(h:vpart T t a off s=some (x,s'))(g:aW s') :
  aW s∧∃ vs r,u = .agg vs∧(part t vs off).run P w = .ok r w∧Rep C M w x r:=by
 unfold vpart at h
 obtain ⟨j,s1,h1,k1⟩:=aD h;obtain ⟨e1,rfl⟩:=aE h1;clear h h1;have hj:=hT _ _ e1;have hagg:∀ (vs:Array Value),j.agg=true→off+j.size≤vs.size→(part t vs off).run P w = .ok (.agg ((List.range j.size).map fun i=>vs.getD (off+i) undef).toArray) w:=by
  intro vs h1 h2;unfold part;rw [Sem.run_bind,pV hj,Result.andThen_ok,if_pos h1,Sem.run_bind,iS hj,Result.andThen_ok,aDg vs off _ h2];rfl
 have hone:∀ (vs:Array Value),j.agg=false→off<vs.size→(part t vs off).run P w = .ok (vs.getD off undef) w:=by
  intro vs h1 h2;unfold part;rw [Sem.run_bind,pV hj,Result.andThen_ok,if_neg (by simp [h1])]
  simp only [aSw h2];rfl
 split at k1
 ·rename_i xs
  cases ha with
  | p x u hp =>
   cases hp with
   | agg xs vs h0 h2 h3 =>
    generalize hag:j.agg=ag at k1
    split at k1
    ·obtain ⟨_,s1,h1,k2⟩:=aD k1
     obtain ⟨rfl,rfl⟩:=aH k2;obtain ⟨hl,g⟩:=dF h1 g;exact ⟨g,vs,_,rfl,hagg vs hag (by omega),.p _ _ (aEt hl (fun j hj _=>h3 _ hj) (fun j hj=>h0 _ (by omega)))⟩
    ·obtain ⟨y,s1,h1,k2⟩:=aD k1
     obtain ⟨e2,rfl⟩:=aE h1;obtain ⟨rfl,rfl⟩:=aH k2;obtain ⟨hj,rfl⟩:=A2.1 e2;exact ⟨g,vs,_,rfl,hone vs hag (by omega),.p _ _ (h3 _ hj)⟩
 ·rename_i cs
  cases ha with
  | agg cs vs h0 h2 h3 =>
   obtain ⟨rfl,⟨hag,hl,rfl⟩ | ⟨hag,hx⟩⟩:=aEu k1
   ·exact ⟨g,vs,_,rfl,hagg vs hag (by omega),aKn hl (fun j hj _=>h3 _ hj) (fun j hj=>h0 _ (by omega))⟩
   ·obtain ⟨hj,rfl⟩:=A2.1 hx
    exact ⟨g,vs,_,rfl,hone vs hag (by omega),h3 _ hj⟩
 ·exact (aQ k1).elim

theorem aGw(hT:∀ t i,T t=some i→bU P t=some i){t f:Nat}{a x:AV}{u:Value}{s s':AS}(ha:Rep C M w a u)(h:vfield T t a f s=some (x,s'))(g:aW s') :
  aW s∧∃ r,(Instr.field t u f).run P w = .ok r w∧Rep C M w x r:=by
 unfold vfield at h
 obtain ⟨i,s1,h1,k1⟩:=aD h;obtain ⟨e1,rfl⟩:=aE h1;obtain ⟨fs,s2,h2,k2⟩:=aD k1;obtain ⟨e2,rfl⟩:=aE h2;obtain ⟨fd,s3,h3,k3⟩:=aD k2;obtain ⟨e3,rfl⟩:=aE h3;clear h1 h2 h3 k1 k2 h;obtain ⟨d,hd,hk⟩:=eO (hT _ _ e1);rw [tK e2] at hk
 obtain ⟨as,rfl,rfl⟩:=rV hk.symm;obtain ⟨fl,hf,ho,ht⟩:=aEv e3;obtain ⟨g,vs,r,rfl,hr,hx⟩:=xY (P:=P) hT ha k3 g;refine ⟨g,r,?_,hx⟩;unfold Instr.field;rw [Sem.run_bind,run_underlying hd,Result.andThen_ok];simp only [hf];rw [ho,ht,Sem.run_bind];show ((pure vs:Sem (Array Value)).run P w).andThen _=_;rw [Sem.run_pure,Result.andThen_ok,hr]

theorem aGx(hT:∀ t i,T t=some i→bU P t=some i){t:Nat}{a b x:AV}{u v:Value}{s s':AS}(ha:Rep C M w a u)(hb:Rep C M w b v)(h:vindex T t a b s=some (x,s'))(g:aW s') :
  aW s∧∃ r,(Instr.index t u v).run P w = .ok r w∧Rep C M w x r:=by
 unfold vindex at h
 obtain ⟨i,s1,h1,k1⟩:=aD h;obtain ⟨e1,rfl⟩:=aE h1;obtain ⟨⟨kd,n⟩,s2,h2,k2⟩:=aD k1;obtain ⟨e2,rfl⟩:=aE h2;clear h1 h2 k1 h;obtain rfl:=oG hb e2;obtain ⟨d,hd,hk⟩:=eO (hT _ _ e1);generalize hik:i.k=ik at k2
 split at k2
 ·rename_i len e
  rw [hik] at hk
  obtain rfl:=pU hk.symm;obtain ⟨j,s3,h3,k3⟩:=aD k2;obtain ⟨e3,rfl⟩:=aE h3;obtain ⟨_,s4,h4,k4⟩:=aD k3;clear k2 h3 k3;obtain ⟨g,vs,r,rfl,hr,hx⟩:=xY (P:=P) hT ha k4 g;obtain ⟨⟨h6,h7⟩,g⟩:=dF h4 g;refine ⟨g,r,?_,hx⟩;dsimp only at h6 h7 hr
  unfold Instr.index;simp [asIntOf,run_underlying hd,h6,h7,iS (hT _ _ e3),hr]
 ·rw [hik] at hk
  have hds:d = .string:=by cases d <;> simp [kO] at hk ⊢
  subst hds
  split at k2
  ·rename_i str
   obtain ⟨b,s3,h3,k3⟩:=aD k2;obtain ⟨e3,rfl⟩:=aE h3;obtain ⟨_,s4,h4,k4⟩:=aD k3;obtain ⟨rfl,rfl⟩:=aH k4;obtain ⟨h6,g⟩:=dF h4 g;cases ha with | p _ _ ha=>cases ha with | v _ =>
   have D4:str[n.toNat]? = some b:=by
    obtain ⟨hl,O9⟩:=A2.1 e3;have Bu:n.toNat<str.size:=by rw [Array.length_toList] at hl;exact hl
    rw [getElem?_pos str n.toNat Bu];refine congrArg some ?_;rw [← O9];exact (Array.getElem_toList _).symm
   refine ⟨g,_,?_,.p _ _ (.v _)⟩;unfold Instr.index;dsimp only at h6
   simp [asIntOf,run_underlying hd,h6,D4]
  ·exact (aQ k2).elim
 ·exact (aQ k2).elim
end
section

def bd(x:Option AV)(d:Nat):Option Int:=match x with
 | none=>some (d:Int)
 | some a=>match toI a with
  | some (_,n)=>some n
  | none=>none

def piece(cs:List PV)(k:Nat)(lo hi:Option AV)(l h:Int):List PV:=match lo,hi with
 | none,none=>cs
 | none,some _=>cs.take (h.toNat*k)
 | some _,_=>(cs.drop (l.toNat*k)).take ((h.toNat-l.toNat)*k)

def vslice(T:TT)(m:Mem)(t:Nat)(x:AV)(lo hi:Option AV):Ask AV:=do
 let i ← lift (T t)
 match i.k with
 | .slice e=>do
  let j ← lift (T e)
  let l ← lift (bd lo 0)
  match x with
  | .own id=>do
   let r ← lift (eM m id)
   let h ← lift (bd hi r.2.1)
   fC (0≤l∧l≤h∧h≤(r.2.1:Int))
   pure (.arr id (l.toNat*j.size) (h.toNat-l.toNat))
  | .arr id off n=>do
   lift (if dP m id then some () else none)
   let h ← lift (bd hi n)
   fC (0≤l∧l≤h∧h≤(n:Int))
   pure (.arr id (off+l.toNat*j.size) (h.toNat-l.toNat))
  | .p (.sl n cs)=>do
   let h ← lift (bd hi n)
   fC (0≤l∧l≤h∧h≤(n:Int)∧cs.length=n*j.size)
   pure (.p (.sl (h.toNat-l.toNat) (piece cs j.size lo hi l h)))
  | .p (.v (.slice none 0 0))=>do
   let h ← lift (bd hi 0)
   fC (l=0∧h=0)
   pure (.p (.v (.slice none 0 0)))
  | _=>fail
 | .array n e=>do
  let j ← lift (T e)
  let l ← lift (bd lo 0)
  match x with
  | .ptr id off=>do
   lift (if dP m id then some () else none)
   let h ← lift (bd hi n)
   fC (0≤l∧l≤h∧h≤(n:Int)∧n≤maxLen)
   pure (.arr id (off+l.toNat*j.size) (h.toNat-l.toNat))
  | _=>fail
 | _=>fail

def vlen(T:TT)(m:Mem)(t:Nat)(x:AV):Ask AV:=do
 let i ← lift (T t)
 let n ← lift (match i.k with
  | .slice _=>match x with
   | .own id=>(eM m id).map (·.2.1)
   | .arr id _ n=>if dP m id then some n else none
   | .p (.sl n _)=>some n
   | .p (.v (.slice _ n _))=>some n
   | _=>none
  | .array n _=>some n
  | .str=>match x with
   | .p (.v (.string s))=>some s.size
   | _=>none
  | .map _ _=>match x with
   | .mp id=>match bG m id with
    | some (.mp es _)=>some es.length
    | _=>none
   | _=>none
  | _=>none)
 pure (.p (.v (.int .i64 (n:Int))))

def vmin(big:Bool):IntKind→Int→List AV→Option AV
 | k,x,[]=>some (.p (.v (.int k x)))
 | k,x,a::r=>match toI a with
  | some (_,y)=>vmin big k (match big with | true=>if y > x then y else x | false=>if y<x then y else x) r
  | none=>none
def vminmax(big:Bool)(l:List AV):Ask AV:=match l with
 | []=>fail
 | a::r=>do
  let kx ← lift (toI a)
  lift (vmin big kx.1 kx.2 r)

variable {P:Program} {T:TT} {C:Cx} {M:Mem} {w:World}

def Bds(C:Cx)(M:Mem)(w:World)(x:Option AV)(v:Option Value):Prop:=match x,v with
 | none,none=>True
 | some a,some u=>Rep C M w a u
 | _,_=>False

theorem oD{x:Option AV}{v:Option Value}(h:Bds C M w x v){d:Nat}{n:Int}(hb:bd x d=some n):(v=none∧n=d)∨∃ k,v=some (.int k n):=by
 cases x with
 | none=>cases v with
  | none=>cases hb;exact .inl ⟨rfl,rfl⟩
  | some u=>exact h.elim
 | some a=>cases v with
  | none=>exact h.elim
  | some u =>
   unfold bd at hb
   simp only at hb
   split at hb
   ·rename_i k m hm
    cases hb;exact .inr ⟨k,by rw [oG h hm]⟩
   ·cases hb

theorem oV{q:Bool}{lo hi:Option Value}{l h:Int}{n cap:Nat}(hl:(lo=none∧l=0)∨∃ k,lo=some (.int k l))(hh:(hi=none∧h=n)∨∃ k,hi=some (.int k h))(h0:0≤l)(h1:l≤h)(h2:h≤n)(h3:n≤cap) :
  (Instr.sliceBounds q n cap lo hi none).run P w = .ok (l.toNat,h.toNat,cap) w:=by
 have hb:∀ (k:IntKind) (i:Int) (y:Nat) (c:BoundsCode),0≤i→i≤y→(Instr.sliceBound (.int k i) y c).run P w = .ok i.toNat w:=by
  intro k i y c h4 h5;unfold Instr.sliceBound;simp [asIntOf,h4,h5]
 unfold Instr.sliceBounds
 rcases hl with ⟨rfl,rfl⟩ | ⟨k,rfl⟩ <;> rcases hh with ⟨rfl,rfl⟩ | ⟨k',rfl⟩ <;> simp
 ·rw [hb _ _ _ _ (by omega) (by omega)];simp
 ·rw [hb _ _ _ _ h0 (by omega)];simp
 ·rw [hb _ _ _ _ (by omega) (by omega)]
  simp only [Result.andThen_ok];rw [hb _ _ _ _ h0 (by omega)];simp

theorem iH{t e:Nat}{j:TI}(hu:P.underlying t=some (.slice e))(hj:bU P e=some j){lo hi:Option Value}{l h:Int}{n cap:Nat}{p:Option Addr}
  (hl:(lo=none∧l=0)∨∃ k,lo=some (.int k l)) (hh:(hi=none∧h=n)∨∃ k,hi=some (.int k h)) (h0:0≤l) (h1:l≤h) (h2:h≤n) (h3:n≤cap) :
  (Instr.sliceAt t (.slice p n cap) lo hi none).run P w = .ok (.slice (if cap=l.toNat then p else p.map (·.add (l.toNat*j.size))) (h.toNat-l.toNat) (cap-l.toNat)) w:=by
 unfold Instr.sliceAt;rw [Sem.run_bind,run_underlying hu,Result.andThen_ok];unfold Instr.slice;simp only [Sem.run_bind,run_underlying hu,Result.andThen_ok,oV (P:=P) (w:=w) hl hh h0 h1 h2 h3,iS hj];rfl

theorem aGv{t e m:Nat}{j:TI}(hu:P.underlying t=some (.array m e))(hj:bU P e=some j){lo hi:Option Value}{l h:Int}{a:Addr}
  (hl:(lo=none∧l=0)∨∃ k,lo=some (.int k l)) (hh:(hi=none∧h=m)∨∃ k,hi=some (.int k h)) (h0:0≤l) (h1:l≤h) (h2:h≤m) :
  (Instr.sliceAt t (.pointer (some a)) lo hi none).run P w = .ok (.slice (some (if m=l.toNat then a else a.add (l.toNat*j.size))) (h.toNat-l.toNat) (m-l.toNat)) w:=by
 unfold Instr.sliceAt Instr.sureAddr;rw [Sem.run_bind,run_underlying hu,Result.andThen_ok];simp only [Sem.run_bind,Sem.run_pure,Result.andThen_ok,oV (P:=P) (w:=w) (q:=false) hl hh h0 h1 h2 (cP m),iS hj]

theorem kN(hT:∀ t i,T t=some i→bU P t=some i)(hM:aO P C M w){t:Nat}{a x:AV}{u:Value}{lo hi:Option AV}{vl vh:Option Value}{s s':AS}(ha:Rep C M w a u)(hlo:Bds C M w lo vl)(hhi:Bds C M w hi vh)
  (h:vslice T M t a lo hi s=some (x,s')) (g:aW s'):aW s∧∃ r,(Instr.sliceAt t u vl vh none).run P w = .ok r w∧Rep C M w x r:=by
 unfold vslice at h
 obtain ⟨i,s1,h1,k1⟩:=aD h;obtain ⟨e1,rfl⟩:=aE h1;clear h h1;obtain ⟨d,hd,hk⟩:=eO (hT _ _ e1);generalize hik:i.k=ik at k1
 split at k1
 rotate_left
 ·rename_i n e
  rw [hik] at hk
  obtain rfl:=pU hk.symm;obtain ⟨j,s2,h2,k2⟩:=aD k1;obtain ⟨e2,rfl⟩:=aE h2;obtain ⟨l,s3,h3,k3⟩:=aD k2;obtain ⟨e3,rfl⟩:=aE h3;have hj:=hT _ _ e2;have hl:=oD hlo e3
  split at k3
  ·rename_i id off
   obtain ⟨_,s4,h4,k4⟩:=aD k3;obtain ⟨e4,rfl⟩:=aE h4;obtain ⟨hlv,_⟩:=bD e4;obtain ⟨h,s5,h5,k5⟩:=aD k4;obtain ⟨e5,rfl⟩:=aE h5;obtain ⟨_,s6,h6,k6⟩:=aD k5;obtain ⟨rfl,rfl⟩:=aH k6;obtain ⟨⟨q1,q2,q3,q4⟩,g⟩:=dF h6 g;refine ⟨g,?_⟩;cases ha with
   | ptr id off u h0 ha hrow hp =>
    obtain ⟨o,ho,Jl⟩:=cT hlv;obtain ⟨b,rfl,hb⟩:=hrow o ho Jl;refine ⟨_,aGv hd hj hl (oD hhi e5) q1 q2 q3,.arr _ _ _ _ rfl ⟨o,ho⟩ (fun _ _ _ => ?_)⟩
    by_cases hz:h.toNat-l.toNat=0
    ·left
     exact ⟨hz,_,_,by rw [hz],by omega⟩
    ·right
     rw [if_neg (by omega)]
     exact ⟨b,_,by rw [Addr.add_lit],by omega,by omega,hb⟩
  ·exact (aQ k3).elim
 ·exact (aQ k1).elim
 rename_i e;rw [hik] at hk
 obtain rfl:=nH hk.symm;obtain ⟨j,s2,h2,k2⟩:=aD k1;obtain ⟨e2,rfl⟩:=aE h2;obtain ⟨l,s3,h3,k3⟩:=aD k2;obtain ⟨e3,rfl⟩:=aE h3;clear k1 h2 k2 h3;have hj:=hT _ _ e2;have hl:=oD hlo e3;have harr:∀ (id off n:Nat) (b cap:Nat) (h:Int),dP M id=true→C.ι id=some b→0≤l→l≤h→h≤n→n≤cap→cap≤maxLen →
   Rep C M w (.arr id (off+l.toNat*j.size) (h.toNat-l.toNat)) (.slice (if cap=l.toNat then some ⟨b,off,none⟩ else (some (⟨b,off,none⟩:Addr)).map (·.add (l.toNat*j.size))) (h.toNat-l.toNat) (cap-l.toNat)):=by
  intro id off n b cap h hlv hb q1 q2 q3 q4 q5;obtain ⟨o,ho,_⟩:=cT hlv;refine .arr _ _ _ _ rfl ⟨o,ho⟩ (fun _ _ _ => ?_)
  by_cases hz:h.toNat-l.toNat=0
  ·left
   exact ⟨hz,_,_,by rw [hz],by omega⟩
  ·right
   rw [if_neg (by omega)]
   exact ⟨b,_,by rw [Option.map_some,Addr.add_lit],by omega,by omega,hb⟩
 split at k3
 ·rename_i id
  obtain ⟨r,s4,h4,k4⟩:=aD k3;obtain ⟨e4,rfl⟩:=aE h4;obtain ⟨h,s5,h5,k5⟩:=aD k4;obtain ⟨e5,rfl⟩:=aE h5;obtain ⟨_,s6,h6,k6⟩:=aD k5;obtain ⟨rfl,rfl⟩:=aH k6;obtain ⟨⟨q1,q2,q3⟩,g⟩:=dF h6 g;refine ⟨g,?_⟩;have hro:=cN e4;cases ha with
  | own id u h0 ha hrow =>
   rcases hrow _ _ _ hro with ⟨rfl,hn,hz⟩ | ⟨b,rfl,hb⟩
   ·obtain rfl:h=0:=by omega
    obtain rfl:l=0:=by omega
    refine ⟨_,iH hd hj hl (by have:=oD hhi e5;rwa [hz] at this) (by omega) (by omega) (by simp) (cP _),?_⟩
    obtain ⟨o,ho⟩:=ha;exact .arr _ _ _ _ rfl ⟨o,ho⟩ (fun _ _ _ => .inl ⟨rfl,_,_,rfl,by simp [maxLen]⟩)
   ·rcases hM.row _ _ _ _ hro with ⟨hn,_⟩ | ⟨b',arr,inf,Aj,_,_,_,_,hle,hcap,_⟩
    ·rw [hb] at hn;cases hn
    ·refine ⟨_,iH hd hj hl (oD hhi e5) q1 q2 q3 hle,?_⟩
     have:=harr id 0 r.2.1 b (C.κ id) h (aKo e4) hb q1 q2 q3 hle hcap
     rwa [fE] at this
 ·rename_i id off n
  obtain ⟨_,s4,h4,k4⟩:=aD k3;obtain ⟨e4,rfl⟩:=aE h4;obtain ⟨hlv,_⟩:=bD e4;obtain ⟨h,s5,h5,k5⟩:=aD k4;obtain ⟨e5,rfl⟩:=aE h5;obtain ⟨_,s6,h6,k6⟩:=aD k5;obtain ⟨rfl,rfl⟩:=aH k6;obtain ⟨⟨q1,q2,q3⟩,g⟩:=dF h6 g;refine ⟨g,?_⟩;cases ha with
  | arr id off n u h0 ha hrow =>
   obtain ⟨o,ho,Jl⟩:=cT hlv
   rcases hrow o ho Jl with ⟨rfl,p,cap,rfl,hcap⟩ | ⟨b,cap,rfl,hle,hcap,hb⟩
   ·obtain rfl:h=0:=by omega
    obtain rfl:l=0:=by omega
    refine ⟨_,iH hd hj hl (oD hhi e5) (by omega) (by omega) (by simp) (Nat.zero_le _),?_⟩
    exact .arr _ _ _ _ rfl ⟨o,ho⟩ (fun _ _ _ => .inl ⟨rfl,_,_,rfl,by simpa using hcap⟩)
   ·exact ⟨_,iH hd hj hl (oD hhi e5) q1 q2 q3 hle,harr id off n b cap h hlv hb q1 q2 q3 hle hcap⟩
 ·rename_i n cs
  obtain ⟨h,s5,h5,k5⟩:=aD k3;obtain ⟨e5,rfl⟩:=aE h5;obtain ⟨_,s6,h6,k6⟩:=aD k5;obtain ⟨rfl,rfl⟩:=aH k6;obtain ⟨⟨q1,q2,q3,q4⟩,g⟩:=dF h6 g;refine ⟨g,?_⟩;cases ha with
  | p x u hp =>
   cases hp with
   | sl n cs p cap us Gc Kt Ku O7 O8 =>
    refine ⟨_,iH hd hj hl (oD hhi e5) q1 q2 q3 Gc,.p _ _ ?_⟩;have hpc:piece cs j.size lo hi l h=(cs.drop (l.toNat*j.size)).take ((h.toNat-l.toNat)*j.size):=by
     unfold piece;cases lo with
     | none =>
      cases e3;cases hi with
      | none=>cases e5;simp [← q4]
      | some _=>simp
     | some _=>rfl
    rw [hpc];have hlen:((cs.drop (l.toNat*j.size)).take ((h.toNat-l.toNat)*j.size)).length≤(h.toNat-l.toNat)*j.size:=List.length_take_le _ _;have I1:((cs.drop (l.toNat*j.size)).take ((h.toNat-l.toNat)*j.size)).length≤cs.length-l.toNat*j.size:=by
     rw [nI,bJb];exact Nat.min_le_right _ _
    refine .sl _ _ _ _ (fun i=>us (l.toNat*j.size+i)) (by omega) (by omega) (fun i hi => ?_) (fun i hi => ?_) (fun i hi=>O8 _ (by omega))
    ·obtain ⟨b,o,rfl,hF,hc⟩:=Ku (l.toNat*j.size+i) (by omega)
     have hne:cap≠l.toNat:=by
      intro e;have h9:(h.toNat-l.toNat)=0:=by omega
      have B0:(h.toNat-l.toNat)*j.size=0:=by rw [h9,Nat.zero_mul]
      omega
     rw [if_neg hne];exact ⟨b,o+l.toNat*j.size,by rw [Option.map_some,Addr.add_lit],hF,by rw [Nat.add_assoc];exact hc⟩
    ·simp only [List.getElem_take,List.getElem_drop]
     exact O7 _ _
 ·obtain ⟨h,s5,h5,k5⟩:=aD k3
  obtain ⟨e5,rfl⟩:=aE h5;obtain ⟨_,s6,h6,k6⟩:=aD k5;obtain ⟨rfl,rfl⟩:=aH k6;obtain ⟨⟨rfl,rfl⟩,g⟩:=dF h6 g;refine ⟨g,?_⟩;cases ha with
  | p x u hp =>
   cases hp;exact ⟨_,iH hd hj hl (oD hhi e5) (by omega) (by omega) (by simp) (cP _),.p _ _ (.v _)⟩
 ·exact (aQ k3).elim
end
section
variable {P:Program} {T:TT} {C:Cx} {M:Mem} {w:World}

theorem aNx(hT:∀ t i,T t=some i→bU P t=some i)(hM:aO P C M w){t:Nat}{ts:Array TypeId}{ty:TypeId}(ht:ts[0]? = some t){a x:AV}{u:Value}{s s':AS}(ha:Rep C M w a u)
  (h:vlen T M t a s=some (x,s')) (g:aW s'):aW s∧∃ r,(Builtin.len_ ts ty #[u]).run P w = .ok r w∧Rep C M w x r:=by
 unfold vlen at h
 obtain ⟨i,s1,h1,k1⟩:=aD h;obtain ⟨e1,rfl⟩:=aE h1;obtain ⟨n,s2,h2,k2⟩:=aD k1;obtain ⟨e2,rfl⟩:=aE h2;obtain ⟨rfl,rfl⟩:=aH k2;clear h h1 k1 h2 k2;obtain ⟨d,hd,hk⟩:=eO (hT _ _ e1);refine ⟨g,.int .i64 n,?_,.p _ _ (.v _)⟩;unfold Builtin.len_;simp only [ht];refine (Sem.run_bind ..).trans ?_;rw [run_underlying hd,Result.andThen_ok];generalize hik:i.k=ik at e2
 rw [hik] at hk
 split at e2
 ·obtain rfl:=nH hk.symm
  split at e2
  ·rename_i id
   rw [jV] at e2
   obtain ⟨r,hr,rfl⟩:=e2;cases ha with
   | own id u h0 ha hrow =>
    rcases hrow _ _ _ (cN hr) with ⟨rfl,_,hn⟩ | ⟨b,rfl,_⟩
    ·simp [goInt,hn]
    ·rfl
  ·rename_i id off n'
   obtain ⟨hl,rfl⟩:=bD e2;cases ha with
   | arr id off n u h0 ha hrow =>
    obtain ⟨o,ho,hlo⟩:=cT hl
    rcases hrow o ho hlo with ⟨rfl,p,cap,rfl,_⟩ | ⟨b,cap,rfl,_⟩
    ·rfl
    ·rfl
  ·cases e2
   cases ha with
   | p x u hp=>cases hp;rfl
  ·cases e2
   cases ha with
   | p x u hp=>cases hp;rfl
  ·cases e2
 ·cases e2
  obtain rfl:=pU hk.symm;rfl
 ·split at e2
  ·cases e2
   cases ha with
   | p x u hp =>
    cases hp;cases d <;> simp [kO] at hk
    rfl
  ·cases e2
 ·split at e2
  ·rename_i id
   split at e2
   ·rename_i es cl ho
    cases e2;obtain ⟨b,arr,hb,hh,hsz,_⟩:=hM.mp _ _ _ (dJ ho);cases ha with
    | mp id u h0 ha hrow =>
     obtain ⟨b',rfl,Aj⟩:=hrow _ (dJ ho) rfl;rw [hb] at Aj;cases Aj
     obtain rfl:=bEb hk.symm;simp [getObj,Sem.run,hh,goInt,hsz]
   ·cases e2
  ·cases e2
 ·cases e2

theorem aAv:∀ (l:List AV) (us:List Value) (big:Bool) (k:IntKind) (y:Int) (x:AV),us.length=l.length→(∀ i (h:i<l.length),Rep C M w l[i] (us.getD i undef))→vmin big k y l=some x →
  ∃ r,(us.foldlM (if big then Builtin.max2 else Builtin.min2) (.int k y)).run P w = .ok r w∧Rep C M w x r
 | [],us,big,k,y,x,hl,_,h=>by
  obtain rfl:us=[]:=aDh hl;cases h;exact ⟨_,rfl,.p _ _ (.v _)⟩
 | a::l,us,big,k,y,x,hl,hr,h=>by
  cases us with
  | nil=>cases hl
  | cons u us =>
   unfold vmin at h
   cases ht:toI a with
   | none=>rw [ht] at h;cases h
   | some kn =>
    obtain ⟨k',n⟩:=kn;rw [ht] at h
    have h0:=hr 0 (by simp)
    have:=oG h0 ht;simp only [List.getD_cons_zero] at this
    subst this;obtain ⟨r,h1,h2⟩:=aAv l us big k _ x (by simpa using hl) (fun i hi=>by have:=hr (i+1) (by simpa using hi);simpa using this) h
    refine ⟨r,?_,h2⟩;rw [List.foldlM_cons,Sem.run_bind];cases big
    ·exact h1
    ·exact h1

theorem sP{big:Bool}{l:List AV}{us:Array Value}{x:AV}{s s':AS}(hl:us.size=l.length)(hr:∀ i (h:i<l.length),Rep C M w l[i] (us.getD i undef))(h:vminmax big l s=some (x,s'))(g:aW s'){ts:Array TypeId}{ty:TypeId} :
  aW s∧∃ r,(if big then Builtin.max_ ts ty us else Builtin.min_ ts ty us).run P w = .ok r w∧Rep C M w x r:=by
 unfold vminmax at h
 split at h
 ·exact (aQ h).elim
 ·rename_i a l
  obtain ⟨kx,s1,h1,k1⟩:=aD h;obtain ⟨e1,rfl⟩:=aE h1;obtain ⟨e2,rfl⟩:=aE k1;refine ⟨g,?_⟩;obtain ⟨us⟩:=us;cases us with
  | nil=>simp at hl
  | cons u us =>
   have h0:=hr 0 (by simp)
   have:=oG h0 e1;simp [A4] at this
   subst this;obtain ⟨r,h3,h4⟩:=aAv (P:=P) l us big kx.1 kx.2 x (by simpa using hl) (fun i hi=>by
    have:=hr (i+1) (by simpa using hi)
    simpa [A4,Bj] using this) e2
   refine ⟨r,?_,h4⟩;cases big
   ·simpa [Builtin.min_] using h3
   ·simpa [Builtin.max_] using h3
end
section

def aAs(pl:Nat→Option (Nat × Nat)):List AV→List (Nat × AV)→Option (List AV)
 | cells,[]=>some cells
 | cells,(i,v)::r=>match pl i with
  | some (off,size)=>match cellsOf v with
   | some cs=>if cs.length=size∧off+size≤cells.length then aAs pl (cells.take off++cs++cells.drop (off+size)) r else none
   | none=>none
  | none=>none

def uT(T:TT)(i:TI)(k:Nat):Option (Nat × Nat):=match i.k with
 | .struct fs=>match fs[k]? with
  | some fd=>match T fd.2.1 with
   | some j=>some (fd.1,j.size)
   | none=>none
  | none=>none
 | .array _ e=>match T e with
  | some j=>some (k*j.size,j.size)
  | none=>none
 | _=>none
def aSv(T:TT)(i:TI):Bool:=match i.k with
 | .struct fs=>fs.all fun fd=>(T fd.2.1).isSome
 | .array _ e=>(T e).isSome
 | _=>false

def evs(st:St):List Operand→Option (List AV)
 | []=>some []
 | x::r=>match ev st x,evs st r with
  | some a,some l=>some (a::l)
  | _,_=>none

def vbuild(T:TT)(t:Nat)(parts:List (Nat × AV)):Ask AV:=do
 let i ← lift (T t)
 lift (if aSv T i && i.zero.all (·.oneCell') then some () else none)
 let cs ← lift (aAs (uT T i) (i.zero.map fun v => .p (.v v)) parts)
 pure (iT cs)

variable {P:Program} {T:TT} {C:Cx} {M:Mem} {w:World}

theorem aAt(off:Nat):∀ (l:List Value) (s:Nat) (cells:Array Value),off+s+l.length≤cells.size →
  ((l.zipIdx s).foldl (fun (cs:Array Value) (x:Value × Nat)=>cs.setIfInBounds (off+x.2) x.1) cells).size=cells.size ∧
  ∀ k,((l.zipIdx s).foldl (fun (cs:Array Value) (x:Value × Nat)=>cs.setIfInBounds (off+x.2) x.1) cells)[k]? = if off+s≤k∧k<off+s+l.length then l[k-(off+s)]? else cells[k]?
 | [],s,cells,_=>⟨rfl,fun k=>by rw [if_neg (by simp only [List.length_nil];omega)];rfl⟩
 | v::l,s,cells,h=>by
  rw [List.zipIdx_cons,wI];simp only [pY] at h
  obtain ⟨h1,h2⟩:=aAt off l (s+1) (cells.setIfInBounds (off+s) v) (by simp;omega)
  refine ⟨by rw [h1];simp,fun k => ?_⟩
  rw [h2]
  by_cases hk:off+(s+1)≤k∧k<off+(s+1)+l.length
  ·rw [if_pos hk,if_pos (by simp;omega),show k-(off+s)=(k-(off+(s+1)))+1 by omega,List.getElem?_cons_succ]
  ·rw [if_neg hk]
   by_cases E7:k=off+s
   ·subst E7
    rw [if_pos (by simp only [pY];omega),aWo,Array.getElem?_setIfInBounds_self_of_lt (by omega)];rfl
   ·rw [if_neg (by simp;omega),Array.getElem?_setIfInBounds_ne (by omega)]

theorem uU(off:Nat)(c cells:Array Value):c.zipIdx.foldl (fun cs (x:Value × Nat)=>cs.setIfInBounds (off+x.2) x.1) cells=(c.toList.zipIdx 0).foldl (fun (cs:Array Value) (x:Value × Nat)=>cs.setIfInBounds (off+x.2) x.1) cells:=by
 rw [← Array.foldl_toList,Array.toList_zipIdx]

inductive dZ (C:Cx) (M:Mem) (w:World):List (Nat × AV)→List (Nat × Value)→Prop
 | nil:dZ C M w [] []
 | cons (i:Nat) (v:AV) (u:Value) (l:List (Nat × AV)) (k:List (Nat × Value)) (h:Rep C M w v u) (hr:dZ C M w l k):dZ C M w ((i,v)::l) ((i,u)::k)

theorem tJ{pl:Nat→Option (Nat × Nat)}:∀ {l:List (Nat × AV)} {k:List (Nat × Value)} {cs A9:List AV} {us:Array Value},dZ C M w l k→us.size=cs.length→(∀ i (h:i<cs.length),Rep C M w cs[i] (us.getD i undef))→(∀ i,i<cs.length→(us.getD i undef).oneCell'=true) →
  aAs pl cs l=some A9→∃ I0,Instr.fill pl us k=some I0∧I0.size=A9.length∧(∀ i (h:i<A9.length),Rep C M w A9[i] (I0.getD i undef))∧∀ i,i<A9.length→(I0.getD i undef).oneCell'=true
 | [],_,cs,A9,us,.nil,h1,h2,h0,h=>by cases h;exact ⟨us,rfl,h1,h2,h0⟩
 | _,_,cs,A9,us,.cons i v u l k hv hr,h1,h2,h0,h=>by
  unfold aAs at h
  split at h
  ·rename_i off size hp
   split at h
   ·rename_i xs hx
    obtain ⟨h3,h4,S3⟩:=pW hv hx
    split at h
    ·rename_i hc
     obtain ⟨Ra,hc2⟩:=hc;obtain ⟨q1,q2⟩:=aAt off u.cells.toList 0 us (by simp;omega)
     have hsz:(cs.take off++xs++cs.drop (off+size)).length=cs.length:=by simp;omega
     obtain ⟨I0,h5,h6,h7,h8⟩:=tJ (pl:=pl) (us:=u.cells.zipIdx.foldl (fun cs (x:Value × Nat)=>cs.setIfInBounds (off+x.2) x.1) us) hr (by rw [uU,q1,hsz,h1]) (fun j hj=>by
      have Bp:j<cs.length:=by omega
      rw [uU,A4,q2]
      by_cases hjo:j<off
      ·rw [if_neg (by omega),yN (by simp;omega),yN (by simp;omega),List.getElem_take]
       have:=h2 j Bp
       rwa [A4] at this
      ·by_cases hjs:j<off+size
       ·rw [if_pos (by simp;omega),yN (by simp;omega),aKs (by simp;omega)]
        have hlen:(cs.take off).length=off:=by simp;omega
        have:=h4 (j-off) (by omega)
        rw [A4] at this
        simp only [hlen,Nat.add_zero,Array.getElem?_toList];exact this
       ·rw [if_neg (by simp;omega),aKs (by simp;omega),List.getElem_drop]
        have:=h2 j Bp;rw [A4] at this
        have e:off+size+(j-(cs.take off++xs).length)=j:=by simp;omega
        simp only [e];exact this) (fun j hj=>by
      have Bp:j<cs.length:=by omega
      rw [uU,A4,q2]
      by_cases hjs:off≤j∧j<off+size
      ·rw [if_pos (by simp;omega)]
       have:=S3 (j-off) (by omega)
       rw [A4] at this
       simp only [Nat.add_zero,Array.getElem?_toList];exact this
      ·rw [if_neg (by simp;omega)]
       have:=h0 j Bp
       rwa [A4] at this) h
     refine ⟨I0,?_,h6,h7,h8⟩;unfold Instr.fill;simp only [hp];rw [if_neg (by simp;omega)]
     exact h5
    ·cases h
   ·cases h
  ·cases h

theorem bEa{α β:Type}(f:α→Sem β)(g:α→β)(l:List α)(h:∀ x∈l,(f x).run P w = .ok (g x) w):(l.mapM f).run P w = .ok (l.map g) w:=by
 induction l with
 | nil=>rfl
 | cons x r ih =>
  rw [List.mapM_cons,Sem.run_bind,h x (by simp),Result.andThen_ok,Sem.run_bind,ih (fun y hy=>h y (by simp [hy]))];rfl

theorem aAu{p q:Nat→Option (Nat × Nat)}(h:p=q)(us:Array Value)(k:List (Nat × Value)):Instr.fill p us k=Instr.fill q us k:=by rw [h]

theorem aGu(hT:∀ t i,T t=some i→bU P t=some i){t:Nat}{parts:List (Nat × AV)}{ps:Array (Nat × Value)}(hp:dZ C M w parts ps.toList){x:AV}{s s':AS}(h:vbuild T t parts s=some (x,s'))(g:aW s') :
  aW s∧∃ r,(Instr.build t ps).run P w = .ok r w∧Rep C M w x r:=by
 unfold vbuild at h
 obtain ⟨i,s1,h1,k1⟩:=aD h;obtain ⟨e1,rfl⟩:=aE h1;obtain ⟨_,s2,h2,k2⟩:=aD k1;obtain ⟨e2,rfl⟩:=aE h2;obtain ⟨Lh,_⟩:=bD e2;rw [Bg] at Lh
 obtain ⟨hok,hzo⟩:=Lh;rw [fD] at hzo
 obtain ⟨cs,s3,h3,k3⟩:=aD k2;obtain ⟨e3,rfl⟩:=aE h3;obtain ⟨rfl,rfl⟩:=aH k3;clear h h1 k1 h2 k2 h3 k3 e2;refine ⟨g,?_⟩;have hi:=hT _ _ e1;obtain ⟨z,hz,hzc⟩:=aSz (w:=w) hi;obtain ⟨d,hd,hk⟩:=eO hi;have Ks:z.cells.size=(i.zero.map fun v=>AV.p (.v v)).length:=by rw [hzc];simp
 have S4:∀ j (h:j<(i.zero.map fun v=>AV.p (.v v)).length),Rep C M w (i.zero.map fun v=>AV.p (.v v))[j] (z.cells.getD j undef):=by
  intro j hj;rw [kD];have Bp:j<z.cells.size:=by omega
  have:z.cells.getD j undef=i.zero[j]'(by simpa using hj):=by
   simp only [hzc,A4,pA Bp];simp
  rw [this];exact .p _ _ (.v _)
 have S5:∀ j,j<(i.zero.map fun v=>AV.p (.v v)).length→(z.cells.getD j undef).oneCell'=true:=by
  intro j hj;have Bp:j<z.cells.size:=by omega
  have Dm:j<i.zero.length:=by simpa using hj
  have:z.cells.getD j undef=i.zero[j]:=by
   simp only [hzc,A4,pA Bp];simp
  rw [this];exact hzo _ (eT Dm)
 obtain ⟨I0,hf,Gd,Iw,S6⟩:=tJ hp Ks S4 S5 e3;refine ⟨.agg I0,?_,jU S6 Gd Iw⟩;unfold Instr.build;rw [Sem.run_bind,hz,Result.andThen_ok,Sem.run_bind,run_underlying hd,Result.andThen_ok];unfold aSv at hok
 generalize hik:i.k=ik at hok
 rw [hik] at hk
 split at hok
 ·rename_i fs
  obtain ⟨as,rfl,rfl⟩:=rV hk.symm;simp only;rw [fD] at hok
  have hm:(as.mapM fun f=>(do pure (f.offset,← sizeOf f.type):Sem (Nat × Nat))).run P w = .ok ((as.toList.map fun f=>(f.offset,((T f.type).map (·.size)).getD 0)).toArray) w:=by
   rw [Array.mapM_eq_mapM_toList,Sem.run_map,bEa (g:=fun f=>(f.offset,((T f.type).map (·.size)).getD 0)) _ _ (fun f hf => ?_)]
   ·rfl
   ·have:=hok _ (bEi hf)
    obtain ⟨j,hj⟩:=Option.isSome_iff_exists.1 this;simp only at hj
    rw [Sem.run_bind,iS (hT _ _ hj),hj];rfl
  rw [Sem.run_bind,hm,Result.andThen_ok];have:(fun k=>((as.toList.map fun f=>(f.offset,((T f.type).map (·.size)).getD 0)).toArray)[k]?)=uT T i:=by
   funext k;unfold uT;rw [hik]
   simp only [List.getElem?_toArray,B6];cases hf:as.toList[k]? with
   | none=>rfl
   | some f =>
    simp only [Option.map_some];have:=hok _ (bEi (Bf hf));obtain ⟨j,hj⟩:=Option.isSome_iff_exists.1 this;simp only at hj
    simp [hj]
  rw [aAu this,hf];rfl
 ·rename_i len e
  obtain rfl:=pU hk.symm;obtain ⟨j,hj⟩:=Option.isSome_iff_exists.1 hok;simp only;rw [Sem.run_bind,iS (hT _ _ hj),Result.andThen_ok];have:(fun k=>some (k*j.size,j.size))=uT T i:=by
   funext k;unfold uT;rw [hik];simp only [hj]
  rw [aAu this,hf];rfl
 ·cases hok
end
section

def aT:Mem→Nat→Option AO→Mem
 | [],0,x=>[x]
 | [],n+1,x=>none::aT [] n x
 | _::l,0,x=>x::l
 | y::l,n+1,x=>y::aT l n x

theorem aS:∀ (m:Mem) (i:Nat) (x:Option AO),(aT m i x)[i]? = some x
 | [],0,x=>rfl
 | [],n+1,x=>by simp only [aT,List.getElem?_cons_succ];exact aS [] n x
 | _::l,0,x=>rfl
 | y::l,n+1,x=>by simp only [aT,List.getElem?_cons_succ];exact aS l n x
theorem aN:∀ (m:Mem) (i j:Nat) (x:Option AO) (o:AO),i≠j→((aT m i x)[j]? = some (some o)↔m[j]? = some (some o))
 | [],0,j,x,o,h=>by cases j with
  | zero=>exact absurd rfl h
  | succ j=>simp [aT]
 | [],n+1,j,x,o,h=>by cases j with
  | zero=>simp [aT]
  | succ j=>simp only [aT,List.getElem?_cons_succ];rw [aN [] n j x o (by omega)];simp
 | y::l,0,j,x,o,h=>by cases j with
  | zero=>exact absurd rfl h
  | succ j=>simp [aT]
 | y::l,n+1,j,x,o,h=>by cases j with
  | zero=>simp [aT]
  | succ j=>simp only [aT,List.getElem?_cons_succ];exact aN l n j x o (by omega)

abbrev Upd:=List (Nat × AO)
def upds:Mem→Upd→Mem
 | m,[]=>m
 | m,(i,o)::l=>upds (aT m i (some o)) l

def yM(m:Mem)(id:Nat):Prop:=∀ o,m[id]? ≠ some (some o)
def eG(m:Mem)(id:Nat):Bool:=(bG m id).isNone
theorem cA{m:Mem}{id:Nat}(h:eG m id=true):yM m id:=fun o ho=>by
 unfold eG at h;rw [aZ.2 ho] at h;cases h

variable {P:Program} {T:TT} {C:Cx} {M:Mem} {w:World}

theorem aO.le(hM:aO P C M w){C':Cx}{M':Mem}{w':World}(h:Fr C M w C' M' w'):Le C C' M M' w w':=h.le hM.nF hM.Fs

def Cx.grow(C:Cx)(id b k:Nat):Cx:={ ι:=fun i=>if i=id then some b else C.ι i,κ:=fun i=>if i=id then k else C.κ i,F:=C.F }

theorem iG(w:World)(o:Obj):(w.alloc o).heap.size=w.heap.size+1∧(w.alloc o).heap[w.heap.size]? = some o∧∀ b,b<w.heap.size→(w.alloc o).heap[b]? = w.heap[b]? := by
 refine ⟨by simp,heap_alloc_new w o,fun b hb=>(World.grownBy_alloc w o none).block b hb (by simp)⟩

theorem wC{id k:Nat}(hf:yM M id)(o:AO)(obj:Obj):Fr C M w (C.grow id w.heap.size k) (aT M id (some o)) (w.alloc obj):=by
 obtain ⟨h1,h2,h3⟩:=iG w obj;have hne:∀ (i:Nat) (o':AO),M[i]? = some (some o')→i≠id:=fun i o' h e=>hf o' (e ▸ h)
 refine ⟨rfl,rfl,rfl,by omega,fun b hb _=>h3 b hb,fun i o' h => ?_,fun i o' h ty n cs hm => ?_,fun i o' h o2 hm hl => ?_,fun i o' b hm hl hb => ?_,fun b h=>h,fun b h => .inl h⟩
 ·have:=hne i o' h
  exact ⟨⟨o',(aN M id i _ o' (fun e=>this e.symm)).2 h⟩,by simp [Cx.grow,this],by simp [Cx.grow,this]⟩
 ·have:=hne i o' h
  exact ⟨cs,(aN M id i _ _ (fun e=>this e.symm)).1 hm⟩
 ·have:=hne i o' h
  have h4:=(aN M id i _ _ (fun e=>this e.symm)).1 hm
  rw [h] at h4;cases h4;exact hl
 ·by_cases e:i=id
  ·subst e
   simp only [Cx.grow,if_true] at hb
   cases hb;exact .inl (cP _)
  ·simp only [Cx.grow,e,if_false] at hb
   exact .inr ⟨i,o',(aN M id i _ _ (fun e'=>e e'.symm)).1 hm,hl,hb⟩

theorem rS(hM:aO P C M w){id k:Nat}(hf:yM M id)(o:AO)(obj:Obj)
  (hrow:∀ ty n cs,o = .row ty n cs→∃ arr i,obj = .cells arr ty (0,0)∧P.info? ty=some i∧arr.size=k*i.size∧cs.length=n*i.size∧n≤k∧k≤maxLen∧(∀ j (h:j<cs.length),bW C.F w cs[j] (arr.getD j undef))∧∀ j,j<cs.length→(arr.getD j undef).oneCell'=true)
  (hbox:∀ ty cs,o = .box ty cs→∃ arr,obj = .cells arr ty (0,0)∧arr.size=cs.length∧(∀ j (h:j<cs.length),Rep C M w cs[j] (arr.getD j undef))∧∀ j,j<cs.length→(arr.getD j undef).oneCell'=true)
  (hmp:∀ es cl,o = .mp es cl→es=[]∧obj = .map #[] cl):aO P (C.grow id w.heap.size k) (aT M id (some o)) (w.alloc obj):=by
 have hFr:=wC (C:=C) (w:=w) hf o obj (k:=k);have hL:=hM.le hFr;obtain ⟨h1,h2,h3⟩:=iG w obj;have hold:∀ (i:Nat) (o':AO),i≠id→(aT M id (some o))[i]? = some (some o')→M[i]? = some (some o'):=fun i o' h=>(aN M id i _ o' (fun e=>h e.symm)).1
 have hnew:∀ (o':AO),(aT M id (some o))[id]? = some (some o')→o'=o:=fun o' h=>by rw [aS] at h;cases h;rfl
 have hι:∀ i,i≠id→(C.grow id w.heap.size k).ι i=C.ι i:=fun i h=>by simp [Cx.grow,h]
 have hκ:∀ i,i≠id→(C.grow id w.heap.size k).κ i=C.κ i:=fun i h=>by simp [Cx.grow,h]
 have hιs:(C.grow id w.heap.size k).ι id=some w.heap.size:=by simp [Cx.grow]
 have hκs:(C.grow id w.heap.size k).κ id=k:=by simp [Cx.grow]
 refine ⟨fun i ty n cs hm => ?_,fun i ty cs hm => ?_,fun i es cl hm => ?_,fun i i' o1 o2 b hm hl B8 Cy hb Aj => ?_,fun i o' b hm hl hb => ?_,fun b hb => ?_,fun i o' b hm hl hb => ?_⟩
 ·by_cases e:i=id
  ·subst e
   obtain ⟨arr,inf,rfl,q1,q2,q3,q4,q5,q6,q7⟩:=hrow _ _ _ (hnew _ hm).symm
   right
   refine ⟨_,arr,inf,hιs,h2,q1,by rw [hκs];exact q2,q3,by rw [hκs];exact q4,by rw [hκs];exact q5,fun j hj=>(q6 j hj).mono hL.F hL.fz,q7⟩
  ·rw [hι i e,hκ i e]
   rcases hM.row _ _ _ _ (hold i _ e hm) with h4 | ⟨b,arr,inf,q0,q1,q2,q3,q4,q5,q6,q7,q8⟩
   ·exact .inl h4
   ·exact .inr ⟨b,arr,inf,q0,(h3 b (hM.lt _ _ _ (hold i _ e hm) rfl q0)).trans q1,q2,q3,q4,q5,q6,fun j hj=>(q7 j hj).mono hL.F hL.fz,q8⟩
 ·by_cases e:i=id
  ·subst e
   obtain ⟨arr,rfl,q1,q2,q3⟩:=hbox _ _ (hnew _ hm).symm;exact ⟨_,arr,hιs,h2,q1,fun j hj=>(q2 j hj).mono hL,q3⟩
  ·rw [hι i e]
   obtain ⟨b,arr,q0,q1,q2,q3,q4⟩:=hM.box _ _ _ (hold i _ e hm);exact ⟨b,arr,q0,(h3 b (hM.lt _ _ _ (hold i _ e hm) rfl q0)).trans q1,q2,fun j hj=>(q3 j hj).mono hL,q4⟩
 ·by_cases e:i=id
  ·subst e
   obtain ⟨rfl,rfl⟩:=hmp _ _ (hnew _ hm).symm;exact ⟨_,#[],hιs,h2,rfl,fun j hj=>by simp at hj⟩
  ·rw [hι i e]
   obtain ⟨b,arr,q0,q1,q2,q3⟩:=hM.mp _ _ _ (hold i _ e hm);refine ⟨b,arr,q0,(h3 b (hM.lt _ _ _ (hold i _ e hm) rfl q0)).trans q1,q2,fun j hj => ?_⟩
   obtain ⟨en,r1,r2,r3,r4⟩:=q3 j hj;exact ⟨en,r1,r2,r3,r4.mono hL.F hL.fz⟩
 ·by_cases e:i=id
  ·by_cases e':i'=id
   ·rw [e,e']
   ·subst e
    rw [hιs] at hb;cases hb
    rw [hι i' e'] at Aj
    have:=hM.lt _ _ _ (hold i' _ e' B8) Cy Aj;omega
  ·by_cases e':i'=id
   ·subst e'
    rw [hιs] at Aj;cases Aj
    rw [hι i e] at hb
    have:=hM.lt _ _ _ (hold i _ e hm) hl hb;omega
   ·rw [hι i e] at hb;rw [hι i' e'] at Aj
    exact hM.inj _ _ _ _ _ (hold i _ e hm) hl (hold i' _ e' B8) Cy hb Aj
 ·by_cases e:i=id
  ·subst e
   rw [hιs] at hb;cases hb
   intro hF;have:=hM.Fs _ hF;omega
  ·rw [hι i e] at hb
   exact hM.nF _ _ _ (hold i _ e hm) hl hb
 ·have:=hM.Fs b hb
  omega
 ·by_cases e:i=id
  ·subst e
   rw [hιs] at hb;cases hb;omega
  ·rw [hι i e] at hb
   have:=hM.lt _ _ _ (hold i _ e hm) hl hb;omega
end
section
variable {P:Program} {T:TT} {C:Cx} {M:Mem} {w:World}

structure But (w w':World) (b:Nat):Prop where
 os:w'.os=w.os
 tape:w'.tape=w.tape
 out:w'.output=w.output
 size:w'.heap.size=w.heap.size
 heap:∀ k,k≠b→w'.heap[k]? = w.heap[k]?

theorem aAr{id b:Nat}{o o':AO}{w':World}(ho:M[id]? = some (some o))(hl:o.live=true)(hb:C.ι id=some b)(hw:But w w' b)
  (hrow:∀ ty n cs,o' = .row ty n cs→∃ A9,o = .row ty n A9):Fr C M w C (aT M id (some o')) w':=by
 refine ⟨hw.os,hw.tape,hw.out,by rw [hw.size];exact cP _,fun k hk hn => ?_,fun i o1 h => ?_,fun i o1 h ty n cs hm => ?_,fun i o1 h o2 hm Bu => ?_,fun i o1 k hm hl1 hk => ?_,fun k h=>h,fun k h => .inl h⟩
 ·exact hw.heap k (fun e=>hn id o ho hl (e ▸ hb))
 ·by_cases e:i=id
  ·subst e;exact ⟨⟨o',aS ..⟩,rfl,rfl⟩
  ·exact ⟨⟨o1,(aN M id i _ o1 (fun e'=>e e'.symm)).2 h⟩,rfl,rfl⟩
 ·by_cases e:i=id
  ·subst e
   rw [aS] at hm
   injection hm with hm;injection hm with hm
   obtain ⟨A9,h2⟩:=hrow _ _ _ hm;exact ⟨A9,by rw [ho,h2]⟩
  ·exact ⟨cs,(aN M id i _ _ (fun e'=>e e'.symm)).1 hm⟩
 ·by_cases e:i=id
  ·subst e;rw [ho] at h;cases h;exact hl
  ·have:=(aN M id i _ _ (fun e'=>e e'.symm)).1 hm
   rw [h] at this;cases this;exact Bu
 ·right
  by_cases e:i=id
  ·subst e;exact ⟨i,o,ho,hl,hk⟩
  ·exact ⟨i,o1,(aN M id i _ _ (fun e'=>e e'.symm)).1 hm,hl1,hk⟩

theorem yY(hM:aO P C M w){id b:Nat}{o o':AO}{w':World}(ho:M[id]? = some (some o))(hl:o.live=true)(hb:C.ι id=some b)(hw:But w w' b)
  (Dw:∀ ty n cs,o' = .row ty n cs→∃ A9,o = .row ty n A9)
  (hrow:∀ ty n cs,o' = .row ty n cs→∃ arr i,w'.heap[b]? = some (.cells arr ty (0,0))∧P.info? ty=some i∧arr.size=C.κ id*i.size∧cs.length=n*i.size∧n≤C.κ id∧C.κ id≤maxLen∧(∀ j (h:j<cs.length),bW C.F w cs[j] (arr.getD j undef))∧∀ j,j<cs.length→(arr.getD j undef).oneCell'=true)
  (hbox:∀ ty cs,o' = .box ty cs→∃ arr,w'.heap[b]? = some (.cells arr ty (0,0))∧arr.size=cs.length∧(∀ j (h:j<cs.length),Rep C M w cs[j] (arr.getD j undef))∧∀ j,j<cs.length→(arr.getD j undef).oneCell'=true)
  (hmp:∀ es cl,o' = .mp es cl→∃ arr,w'.heap[b]? = some (.map arr cl)∧arr.size=es.length∧∀ j (h:j<es.length),∃ e,arr[j]? = some e∧e.key=es[j].1∧e.born<cl∧bW C.F w es[j].2 e.val) :
  aO P C (aT M id (some o')) w':=by
 have hFr:=aAr (C:=C) ho hl hb hw Dw;have hL:=hM.le hFr;have hold:∀ (i:Nat) (o1:AO),i≠id→(aT M id (some o'))[i]? = some (some o1)→M[i]? = some (some o1):=fun i o1 h=>(aN M id i _ o1 (fun e=>h e.symm)).1
 have hnew:∀ (o1:AO),(aT M id (some o'))[id]? = some (some o1)→o1=o':=fun o1 h=>by rw [aS] at h;cases h;rfl
 have hne:∀ (i:Nat) (o1:AO) (k:Nat),i≠id→M[i]? = some (some o1)→o1.live=true→C.ι i=some k→k≠b:=fun i o1 k h hm hl1 hk e=>h (hM.inj i id o1 o b hm hl1 ho hl (e ▸ hk) hb)
 refine ⟨fun i ty n cs hm => ?_,fun i ty cs hm => ?_,fun i es cl hm => ?_,fun i i' o1 o2 k hm hl1 B8 Cy hk E2 => ?_,fun i o1 k hm hl1 hk => ?_,fun k hk => ?_,fun i o1 k hm hl1 hk => ?_⟩
 ·by_cases e:i=id
  ·subst e
   obtain ⟨arr,inf,q0,q1,q2,q3,q4,q5,q6,q7⟩:=hrow _ _ _ (hnew _ hm).symm;exact .inr ⟨b,arr,inf,hb,q0,q1,q2,q3,q4,q5,fun j hj=>(q6 j hj).mono hL.F hL.fz,q7⟩
  ·have Cm:=hold i _ e hm
   rcases hM.row _ _ _ _ Cm with h4 | ⟨k,arr,inf,q0,q1,q2,q3,q4,q5,q6,q7,q8⟩
   ·exact .inl h4
   ·exact .inr ⟨k,arr,inf,q0,(hw.heap k (hne i _ k e Cm rfl q0)).trans q1,q2,q3,q4,q5,q6,fun j hj=>(q7 j hj).mono hL.F hL.fz,q8⟩
 ·by_cases e:i=id
  ·subst e
   obtain ⟨arr,q0,q1,q2,q3⟩:=hbox _ _ (hnew _ hm).symm;exact ⟨b,arr,hb,q0,q1,fun j hj=>(q2 j hj).mono hL,q3⟩
  ·have Cm:=hold i _ e hm
   obtain ⟨k,arr,q0,q1,q2,q3,q4⟩:=hM.box _ _ _ Cm;exact ⟨k,arr,q0,(hw.heap k (hne i _ k e Cm rfl q0)).trans q1,q2,fun j hj=>(q3 j hj).mono hL,q4⟩
 ·by_cases e:i=id
  ·subst e
   obtain ⟨arr,q0,q1,q2⟩:=hmp _ _ (hnew _ hm).symm;refine ⟨b,arr,hb,q0,q1,fun j hj => ?_⟩
   obtain ⟨en,r1,r2,r3,r4⟩:=q2 j hj;exact ⟨en,r1,r2,r3,r4.mono hL.F hL.fz⟩
  ·have Cm:=hold i _ e hm
   obtain ⟨k,arr,q0,q1,q2,q3⟩:=hM.mp _ _ _ Cm;refine ⟨k,arr,q0,(hw.heap k (hne i _ k e Cm rfl q0)).trans q1,q2,fun j hj => ?_⟩
   obtain ⟨en,r1,r2,r3,r4⟩:=q3 j hj;exact ⟨en,r1,r2,r3,r4.mono hL.F hL.fz⟩
 ·have h1:∃ o1,M[i]? = some (some o1)∧o1.live=true:=by
   by_cases e:i=id
   ·subst e;exact ⟨o,ho,hl⟩
   ·exact ⟨_,hold i _ e hm,hl1⟩
  have h2:∃ o1,M[i']? = some (some o1)∧o1.live=true:=by
   by_cases e:i'=id
   ·subst e;exact ⟨o,ho,hl⟩
   ·exact ⟨_,hold i' _ e B8,Cy⟩
  obtain ⟨x1,h3,h4⟩:=h1;obtain ⟨x2,h5,h6⟩:=h2;exact hM.inj _ _ _ _ _ h3 h4 h5 h6 hk E2
 ·by_cases e:i=id
  ·subst e;exact hM.nF _ _ _ ho hl hk
  ·exact hM.nF _ _ _ (hold i _ e hm) hl1 hk
 ·have:=hM.Fs k hk
  rw [hw.size];exact this
 ·rw [hw.size]
  by_cases e:i=id
  ·subst e;exact hM.lt _ _ _ ho hl hk
  ·exact hM.lt _ _ _ (hold i _ e hm) hl1 hk

def Cx.close(C:Cx)(id:Nat)(f:Bool):Cx:={ ι:=C.ι,κ:=C.κ,F:=fun b=>C.F b∨(f=true∧C.ι id=some b) }

theorem cE{id:Nat}{o:AO}(f:Bool)(ho:M[id]? = some (some o))(hl:o.live=true):Fr C M w (C.close id f) (aT M id (some .dead)) w:=by
 refine ⟨rfl,rfl,rfl,cP _,fun k hk hn=>rfl,fun i o1 h => ?_,fun i o1 h ty n cs hm => ?_,fun i o1 h o2 hm Bu => ?_,fun i o1 k hm hl1 hk => ?_,fun k h => .inl h,fun k h => ?_⟩
 ·by_cases e:i=id
  ·subst e;exact ⟨⟨.dead,aS ..⟩,rfl,rfl⟩
  ·exact ⟨⟨o1,(aN M id i _ o1 (fun e'=>e e'.symm)).2 h⟩,rfl,rfl⟩
 ·by_cases e:i=id
  ·subst e;rw [aS] at hm;cases hm
  ·exact ⟨cs,(aN M id i _ _ (fun e'=>e e'.symm)).1 hm⟩
 ·by_cases e:i=id
  ·subst e;rw [aS] at hm;cases hm;cases Bu
  ·have:=(aN M id i _ _ (fun e'=>e e'.symm)).1 hm
   rw [h] at this;cases this;exact Bu
 ·by_cases e:i=id
  ·subst e;rw [aS] at hm;cases hm;cases hl1
  ·exact .inr ⟨i,o1,(aN M id i _ _ (fun e'=>e e'.symm)).1 hm,hl1,hk⟩
 ·rcases h with h | ⟨_,h⟩
  ·exact .inl h
  ·exact .inr (.inr ⟨id,o,ho,hl,h⟩)

theorem lC(hM:aO P C M w){id:Nat}{o:AO}(f:Bool)(ho:M[id]? = some (some o))(hl:o.live=true):aO P (C.close id f) (aT M id (some .dead)) w:=by
 have hL:=hM.le (cE (C:=C) (w:=w) f ho hl);have hold:∀ (i:Nat) (o1:AO),o1.live=true→(aT M id (some .dead))[i]? = some (some o1)→i≠id∧M[i]? = some (some o1):=fun i o1 hl1 h=>by
  by_cases e:i=id
  ·subst e;rw [aS] at h;cases h;cases hl1
  ·exact ⟨e,(aN M id i _ o1 (fun e'=>e e'.symm)).1 h⟩
 refine ⟨fun i ty n cs hm => ?_,fun i ty cs hm => ?_,fun i es cl hm => ?_,fun i i' o1 o2 k hm hl1 B8 Cy hk E2 => ?_,fun i o1 k hm hl1 hk => ?_,fun k hk => ?_,fun i o1 k hm hl1 hk => ?_⟩
 ·rcases hM.row _ _ _ _ (hold i _ rfl hm).2 with h4 | ⟨k,arr,inf,q0,q1,q2,q3,q4,q5,q6,q7,q8⟩
  ·exact .inl h4
  ·exact .inr ⟨k,arr,inf,q0,q1,q2,q3,q4,q5,q6,fun j hj=>(q7 j hj).mono hL.F hL.fz,q8⟩
 ·obtain ⟨k,arr,q0,q1,q2,q3,q4⟩:=hM.box _ _ _ (hold i _ rfl hm).2
  exact ⟨k,arr,q0,q1,q2,fun j hj=>(q3 j hj).mono hL,q4⟩
 ·obtain ⟨k,arr,q0,q1,q2,q3⟩:=hM.mp _ _ _ (hold i _ rfl hm).2
  refine ⟨k,arr,q0,q1,q2,fun j hj => ?_⟩
  obtain ⟨en,r1,r2,r3,r4⟩:=q3 j hj;exact ⟨en,r1,r2,r3,r4.mono hL.F hL.fz⟩
 ·exact hM.inj _ _ _ _ _ (hold i _ hl1 hm).2 hl1 (hold i' _ Cy B8).2 Cy hk E2
 ·obtain ⟨hne,Cm⟩:=hold i _ hl1 hm
  rintro (h | ⟨_,h⟩)
  ·exact hM.nF _ _ _ Cm hl1 hk h
  ·exact hne (hM.inj _ _ _ _ _ Cm hl1 ho hl hk h)
 ·rcases hk with h | ⟨_,h⟩
  ·exact hM.Fs k h
  ·exact hM.lt _ _ _ ho hl h
 ·exact hM.lt _ _ _ (hold i _ hl1 hm).2 hl1 hk

theorem tI(hM:aO P C M w){id ty n:Nat}{cs:List PV}(ho:M[id]? = some (some (.row ty n cs))){u:Value}(h:Rep C M w (.own id) u):bW (C.close id true).F w (.sl n cs) u:=by
 cases h with
 | own id u h0 ha h =>
  rcases h _ _ _ ho with ⟨rfl,hn,hz⟩ | ⟨b,rfl,hb⟩
  ·rcases hM.row _ _ _ _ ho with ⟨_,_,rfl⟩ | ⟨b,_,_,hb,_⟩
   ·subst hz
    exact .sl 0 [] none 0 (fun _=>undef) (cP _) (by simp [maxLen]) (fun i h=>by simp at h) (fun i h=>by simp at h) (fun i h=>by simp at h)
   ·rw [hn] at hb;cases hb
  ·rcases hM.row _ _ _ _ ho with ⟨hn,_⟩ | ⟨b',arr,inf,Aj,q1,q2,q3,q4,q5,q6,q7,q8⟩
   ·rw [hb] at hn;cases hn
   ·rw [hb] at Aj;cases Aj
    have hle:cs.length≤arr.size:=by rw [q3,q4];exact Nat.mul_le_mul_right _ q5
    refine .sl n cs _ _ (fun j=>arr.getD j undef) q5 q6 (fun i hi=>⟨b,0,rfl,.inr ⟨rfl,hb⟩,?_⟩) (fun i hi=>(q7 i hi).mono (fun _ h => .inl h) (fun _ _=>rfl)) q8
    rw [fE];exact bH q1 (by omega)
end
section

def Out(P:Program)(C:Cx)(M:Mem)(w:World)(x:AV)(M':Mem)(r:Result Value):Prop :=
 ∃ C' w' u,r = .ok u w'∧Fr C M w C' M' w'∧aO P C' M' w'∧Rep C' M' w' x u

def salloc(T:TT)(m:Mem)(id t:Nat):Ask (AV × Upd):=do
 let i ← lift (T t)
 lift (if eG m id && i.zero.length == i.size && i.zero.all (·.oneCell') then some () else none)
 pure (.ptr id 0,[(id,if i.size≤16 then .box t (i.zero.map fun v => .p (.v v)) else .row t 1 (i.zero.map .v))])

def sbox(T:TT)(m:Mem)(id t:Nat)(x:AV):Ask (AV × Upd):=do
 let i ← lift (T t)
 lift (if eG m id then some () else none)
 match decide (i.size≤16) with
 | true=>do
  let cs ← lift (cellsOf x)
  pure (.ptr id 0,[(id,.box t cs)])
 | false=>match x with
  | .p (.agg xs)=>do
   fC (xs.length=i.size)
   pure (.ptr id 0,[(id,.row t 1 xs)])
  | _=>fail

def bDy:AV→Option PV
 | .p (.v x)=>if x.oneCell' then some (.v x) else none
 | .p (.sl n cs)=>some (.sl n cs)
 | .p (.mp es)=>some (.mp es)
 | .p (.rp cs off)=>some (.rp cs off)
 | .p (.fn f a b)=>some (.fn f a b)
 | .rp cs off=>some (.rp cs off)
 | .kb b=>some (.v (.bool b))
 | _=>none

def sstore(T:TT)(m:Mem)(t:Nat)(a x:AV):Ask Upd:=do
 let i ← lift (T t)
 match a with
 | .ptr id off=>do
  let o ← lift (bG m id)
  match o with
  | .box ty cs=>do
   let xs ← lift (cellsOf x)
   lift (if xs.length=i.size∧off+i.size≤cs.length then some () else none)
   pure [(id,.box ty (cs.take off++xs++cs.drop (off+i.size)))]
  | .row ty n cs=>match decide (i.size=1) with
   | true=>do
    let y ← lift (bDy x)
    fC (off<cs.length)
    pure [(id,.row ty n (cs.set off y))]
   | false=>match x with
    | .p (.agg xs)=>do
     fC (xs.length=i.size∧off+i.size≤cs.length)
     pure [(id,.row ty n (cs.take off++xs++cs.drop (off+i.size)))]
    | _=>fail
  | _=>fail
 | _=>fail

variable {P:Program} {T:TT} {C:Cx} {M:Mem} {w:World}

theorem aWi{x:AV}{y:PV}{u:Value}(h:Rep C M w x u)(hx:bDy x=some y):bW C.F w y u∧u.oneCell'=true:=by
 cases h with
 | p x u h =>
  cases h with
  | v z =>
   simp only [bDy] at hx
   obtain ⟨h1,rfl⟩:=bD hx;exact ⟨.v _,h1⟩
  | sl n cs p cap us h1 h2 h3 h4 h5=>cases hx;exact ⟨.sl n cs p cap us h1 h2 h3 h4 h5,rfl⟩
  | agg=>cases hx
  | mp es b cl arr us hb h0 h1 h2 h3=>cases hx;exact ⟨.mp es b cl arr us hb h0 h1 h2 h3,rfl⟩
  | rp cs off b o us h1 h2 h3=>cases hx;exact ⟨.rp cs off b o us h1 h2 h3,rfl⟩
  | fn f cs ds us vs h1 h2 h3 h4=>cases hx;exact ⟨.fn f cs ds us vs h1 h2 h3 h4,rfl⟩
 | kb b=>cases hx;exact ⟨.v _,rfl⟩
 | rp cs off b o us h1 h2 h3=>cases hx;exact ⟨.rp cs off b o us h1 h2 h3,rfl⟩
 | _=>cases hx

theorem bDz{i:TI}{t:Nat}(hi:bU P t=some i)(hz:i.zero.all (·.oneCell')=true):∃ z:Value,(zeroValue t).run P w = .ok z w∧z.cells.size=i.zero.length∧(∀ j (h:j<i.zero.length),z.cells.getD j undef=i.zero[j])∧∀ j,j<i.zero.length→(z.cells.getD j undef).oneCell'=true:=by
 obtain ⟨z,h1,h2⟩:=aSz (w:=w) hi;rw [fD] at hz
 have hs:z.cells.size=i.zero.length:=by rw [h2];simp
 have hg:∀ j (h:j<i.zero.length),z.cells.getD j undef=i.zero[j]:=fun j h=>by
  have Bp:j<z.cells.size:=by omega
  simp only [h2,A4,pA Bp];simp
 exact ⟨z,h1,hs,hg,fun j h=>by rw [hg j h];exact hz _ (eT h)⟩

theorem aGt(hT:∀ t i,T t=some i→bU P t=some i)(hM:aO P C M w){id t:Nat}{x:AV}{L:Upd}{old:Value}{s s':AS}(h:salloc T M id t s=some ((x,L),s'))(g:aW s') :
  aW s∧Out P C M w x (upds M L) ((Instr.alloc t true old).run P w):=by
 unfold salloc at h
 obtain ⟨i,s1,h1,k1⟩:=aD h;obtain ⟨e1,rfl⟩:=aE h1;obtain ⟨_,s2,h2,k2⟩:=aD k1;obtain ⟨e2,rfl⟩:=aE h2;obtain ⟨hc,_⟩:=bD e2;obtain ⟨hx,rfl⟩:=aH k2;cases hx;clear h h1 k1 h2 k2 e2;simp only [Bg,beq_iff_eq] at hc
 obtain ⟨⟨hf,hlen⟩,hz⟩:=hc;have hf:=cA hf;have hi:=hT _ _ e1;obtain ⟨inf,d,_,hinf,_,_,_,hsz,_⟩:=eH hi;obtain ⟨z,hzr,hzs,hzg,hzo⟩:=bDz (w:=w) hi hz;refine ⟨g,C.grow id w.heap.size 1,w.alloc (.cells z.cells t),.pointer (some ⟨w.heap.size,0,none⟩),?_,wC hf _ _,?_,?_⟩
 ·unfold Instr.alloc
  rw [Sem.run_bind,hzr,Result.andThen_ok];rfl
 ·split
  ·refine rS hM hf _ _ (fun _ _ _ h=>by cases h) (fun ty cs h => ?_) (fun _ _ h=>by cases h)
   cases h;refine ⟨_,rfl,by simp [hzs],fun j hj => ?_,fun j hj=>hzo j (by simpa using hj)⟩
   rw [kD,hzg j (by simpa using hj)]
   exact .p _ _ (.v _)
  ·refine rS hM hf _ _ (fun ty n cs h => ?_) (fun _ _ h=>by cases h) (fun _ _ h=>by cases h)
   cases h;refine ⟨_,inf,rfl,hinf,by omega,by simp;omega,cP _,by simp [maxLen],fun j hj => ?_,fun j hj=>hzo j (by simpa using hj)⟩
   rw [kD,hzg j (by simpa using hj)]
   exact .v _
 ·exact .ptr id 0 _ rfl ⟨_,aS ..⟩ (fun _ _ _=>⟨_,rfl,by simp [Cx.grow]⟩) ⟨_,rfl⟩

theorem aNw(hT:∀ t i,T t=some i→bU P t=some i)(hM:aO P C M w){id t:Nat}{x y:AV}{u:Value}{L:Upd}{s s':AS}(hy:Rep C M w y u)(h:sbox T M id t y s=some ((x,L),s'))(g:aW s') :
  aW s∧Out P C M w x (upds M L) ((Instr.box t u).run P w):=by
 unfold sbox at h
 obtain ⟨i,s1,h1,k1⟩:=aD h;obtain ⟨e1,rfl⟩:=aE h1;obtain ⟨_,s2,h2,k2⟩:=aD k1;obtain ⟨e2,rfl⟩:=aE h2;obtain ⟨hc,_⟩:=bD e2;clear h h1 k1 h2 e2;have hf:=cA hc;have hi:=hT _ _ e1;obtain ⟨inf,d,_,hinf,_,_,_,hsz,_⟩:=eH hi;have hrun:(Instr.box t u).run P w = .ok (.pointer (some ⟨w.heap.size,0,none⟩)) (w.alloc (.cells u.cells t)):=rfl;have hrep:∀ (o:AO) (k:Nat),Rep (C.grow id w.heap.size k) (aT M id (some o)) (w.alloc (.cells u.cells t)) (.ptr id 0) (.pointer (some ⟨w.heap.size,0,none⟩)):=fun o k =>
  .ptr id 0 _ rfl ⟨_,aS ..⟩ (fun _ _ _=>⟨_,rfl,by simp [Cx.grow]⟩) ⟨_,rfl⟩
 generalize hd:decide (i.size≤16)=d at k2
 split at k2
 ·obtain ⟨cs,s3,h3,k3⟩:=aD k2
  obtain ⟨e3,rfl⟩:=aE h3;obtain ⟨hx,rfl⟩:=aH k3;cases hx;obtain ⟨q1,q2,q3⟩:=pW hy e3;refine ⟨g,C.grow id w.heap.size 1,_,_,hrun,wC hf _ _,rS hM hf _ _ (fun _ _ _ h=>by cases h) (fun ty A9 h => ?_) (fun _ _ h=>by cases h),hrep _ _⟩
  cases h;exact ⟨_,rfl,q1,q2,q3⟩
 ·split at k2
  ·rename_i xs
   obtain ⟨_,s3,h3,k3⟩:=aD k2;obtain ⟨hx,rfl⟩:=aH k3;cases hx;obtain ⟨hl,g⟩:=dF h3 g;cases hy with
   | p _ u hp =>
    cases hp with
    | agg xs vs h0 h1 h2 =>
     refine ⟨g,C.grow id w.heap.size 1,_,_,hrun,wC hf _ _,rS hM hf _ _ (fun ty n cs h => ?_) (fun _ _ h=>by cases h) (fun _ _ h=>by cases h),hrep _ _⟩
     cases h;exact ⟨_,inf,rfl,hinf,by simp only [Value.cells];omega,by omega,cP _,by simp [maxLen],h2,h0⟩
  ·exact (aQ k2).elim

theorem jH(w:World)(b:Nat)(arr:Array Value):But w (w.setRow b arr) b:=⟨rfl,rfl,rfl,by simp [World.setRow],fun k hk=>setRow_other w b k _ hk⟩

theorem spliced(cur vs:Array Value)(off:Nat)(h:off+vs.size≤cur.size):((cur.toList.take off++vs.toList++cur.toList.drop (off+vs.toList.length)).toArray).size=cur.size ∧
  ∀ j,j<cur.size→((cur.toList.take off++vs.toList++cur.toList.drop (off+vs.toList.length)).toArray).getD j undef=if j<off then cur.getD j undef else if j<off+vs.size then vs.getD (j-off) undef else cur.getD j undef:=by
 refine ⟨by simp;omega,fun j hj => ?_⟩
 rw [A4];simp only [List.getElem?_toArray]
 by_cases h1:j<off
 ·rw [if_pos h1,List.append_assoc,aAy (by simp;omega),List.getElem?_take_of_lt h1,A4];simp
 ·rw [if_neg h1]
  by_cases h2:j<off+vs.size
  ·rw [if_pos h2,aAy (by simp;omega),aAx (by simp;omega),A4]
   have:(cur.toList.take off).length=off:=by simp;omega
   rw [this];simp
  ·rw [if_neg h2,aAx (by simp;omega),List.getElem?_drop,A4]
   have:off+vs.toList.length+(j-(cur.toList.take off++vs.toList).length)=j:=by simp;omega
   rw [this];simp

theorem wB{t:Nat}{i:TI}(hi:bU P t=some i){b off:Nat}{u:Value}{cur:Array Value}{ty:TypeId}(hg:w.heap[b]? = some (.cells cur ty (0,0)))(hs:u.cells.size=i.size)(hl:off+i.size≤cur.size)(h1:∀ j,j<u.cells.size→(u.cells.getD j undef).oneCell'=true) :
  (Instr.storeAt t (.pointer (some ⟨b,off,none⟩)) u).run P w = .ok () (w.setRow b (cur.toList.take off++u.cells.toList++cur.toList.drop (off+u.cells.toList.length)).toArray):=by
 unfold Instr.storeAt;rw [Sem.run_bind];show ((pure (⟨b,off,none⟩:Addr):Sem Addr).run P w).andThen _=_;rw [Sem.run_pure,Result.andThen_ok];unfold storeVar;rw [Sem.run_bind,iS hi,Result.andThen_ok,if_neg (by simp [hs])]
 have:=run_storeCells_at P b off ty u.cells.toList 0 cur w hg (by simp;omega) (fun v hv=>by
  obtain ⟨j,hj,rfl⟩:=List.getElem_of_mem hv;have:=h1 j (by simpa using hj)
  rwa [A4,pA (by simpa using hj)] at this)
 simpa using this
end
section
variable {P:Program} {T:TT} {C:Cx} {M:Mem} {w:World}

theorem xW{α:Type}(cs xs:List α)(off:Nat)(h:off+xs.length≤cs.length):(cs.take off++xs++cs.drop (off+xs.length)).length=cs.length ∧
  ∀ j (hj:j<(cs.take off++xs++cs.drop (off+xs.length)).length),(j<off→∃ h2:j<cs.length,(cs.take off++xs++cs.drop (off+xs.length))[j]=cs[j]) ∧
   (off≤j→j<off+xs.length→∃ h2:j-off<xs.length,(cs.take off++xs++cs.drop (off+xs.length))[j]=xs[j-off]) ∧
   (off+xs.length≤j→∃ h2:j<cs.length,(cs.take off++xs++cs.drop (off+xs.length))[j]=cs[j]):=by
 have hl:(cs.take off++xs++cs.drop (off+xs.length)).length=cs.length:=by simp;omega
 have ht:(cs.take off).length=off:=by simp;omega
 refine ⟨hl,fun j hj=>⟨fun h1=>⟨by omega,?_⟩,fun h1 h2=>⟨by omega,?_⟩,fun h1=>⟨by omega,?_⟩⟩⟩
 ·rw [yN (by simp;omega),yN (by omega),List.getElem_take]
 ·rw [yN (by simp;omega),aKs (by omega)]
  simp only [ht]
 ·rw [aKs (by simp;omega),List.getElem_drop]
  have e:off+xs.length+(j-(cs.take off++xs).length)=j:=by simp;omega
  simp only [e]

theorem uR(hM:aO P C M w){id ty n off b:Nat}{cs xs:List PV}{vs cur:Array Value}(ho:M[id]? = some (some (.row ty n cs)))(hb:C.ι id=some b)(hg:w.heap[b]? = some (.cells cur ty (0,0)))
  (hvs:vs.size=xs.length) (hl:off+xs.length≤cs.length) (hr:∀ j (h:j<xs.length),bW C.F w xs[j] (vs.getD j undef)) (h1:∀ j,j<xs.length→(vs.getD j undef).oneCell'=true) :
  aO P C (aT M id (some (.row ty n (cs.take off++xs++cs.drop (off+xs.length))))) (w.setRow b (cur.toList.take off++vs.toList++cur.toList.drop (off+vs.toList.length)).toArray) ∧
  Fr C M w C (aT M id (some (.row ty n (cs.take off++xs++cs.drop (off+xs.length))))) (w.setRow b (cur.toList.take off++vs.toList++cur.toList.drop (off+vs.toList.length)).toArray):=by
 rcases hM.row _ _ _ _ ho with ⟨hn,_⟩ | ⟨b',arr,inf,Aj,q1,q2,q3,q4,q5,q6,q7,q8⟩
 ·rw [hb] at hn;cases hn
 rw [hb] at Aj;cases Aj
 rw [hg] at q1;cases q1
 have hle:cs.length≤cur.size:=by rw [q3,q4];exact Nat.mul_le_mul_right _ q5
 obtain ⟨p1,p2⟩:=spliced cur vs off (by omega)
 obtain ⟨r1,r2⟩:=xW cs xs off hl;have Dw:∀ Cb n' A9,AO.row ty n (cs.take off++xs++cs.drop (off+xs.length)) = .row Cb n' A9→∃ Jk,AO.row ty n cs = .row Cb n' Jk:=fun _ _ _ h=>by cases h;exact ⟨cs,rfl⟩
 refine ⟨yY hM ho rfl hb (jH _ _ _) Dw (fun Cb n' A9 h => ?_) (fun _ _ h=>by cases h) (fun _ _ h=>by cases h),aAr ho rfl hb (jH _ _ _) Dw⟩
 cases h;refine ⟨_,inf,setRow_heap w b cur _ ty _ hg,q2,by rw [p1];exact q3,by rw [r1];exact q4,q5,q6,fun j hj => ?_,fun j hj => ?_⟩
 ·rw [p2 j (by omega)]
  obtain ⟨s1,s2,s3⟩:=r2 j hj
  by_cases c1:j<off
  ·obtain ⟨h3,h4⟩:=s1 c1
   rw [if_pos c1,h4];exact q7 j h3
  ·rw [if_neg c1]
   by_cases c2:j<off+vs.size
   ·obtain ⟨h3,h4⟩:=s2 (by omega) (by omega)
    rw [if_pos c2,h4];exact hr _ h3
   ·obtain ⟨h3,h4⟩:=s3 (by omega)
    rw [if_neg c2,h4];exact q7 j h3
 ·rw [p2 j (by omega)]
  split
  ·exact q8 j (by omega)
  ·split
   ·exact h1 _ (by omega)
   ·exact q8 j (by omega)

theorem bIv(hM:aO P C M w){id ty off b:Nat}{cs xs:List AV}{vs cur:Array Value}(ho:M[id]? = some (some (.box ty cs)))(hb:C.ι id=some b)(hg:w.heap[b]? = some (.cells cur ty (0,0)))
  (hvs:vs.size=xs.length) (hl:off+xs.length≤cs.length) (hr:∀ j (h:j<xs.length),Rep C M w xs[j] (vs.getD j undef)) (h1:∀ j,j<xs.length→(vs.getD j undef).oneCell'=true) :
  aO P C (aT M id (some (.box ty (cs.take off++xs++cs.drop (off+xs.length))))) (w.setRow b (cur.toList.take off++vs.toList++cur.toList.drop (off+vs.toList.length)).toArray) ∧
  Fr C M w C (aT M id (some (.box ty (cs.take off++xs++cs.drop (off+xs.length))))) (w.setRow b (cur.toList.take off++vs.toList++cur.toList.drop (off+vs.toList.length)).toArray):=by
 obtain ⟨b',arr,Aj,q1,q3,q7,q8⟩:=hM.box _ _ _ ho;rw [hb] at Aj;cases Aj
 rw [hg] at q1;cases q1
 obtain ⟨p1,p2⟩:=spliced cur vs off (by omega)
 obtain ⟨r1,r2⟩:=xW cs xs off hl;have Dw:∀ Cb n' A9,AO.box ty (cs.take off++xs++cs.drop (off+xs.length)) = .row Cb n' A9→∃ Jk,AO.box ty cs = .row Cb n' Jk:=fun _ _ _ h=>by cases h
 refine ⟨yY hM ho rfl hb (jH _ _ _) Dw (fun _ _ _ h=>by cases h) (fun Cb A9 h => ?_) (fun _ _ h=>by cases h),aAr ho rfl hb (jH _ _ _) Dw⟩
 cases h;refine ⟨_,setRow_heap w b cur _ ty _ hg,by rw [p1,r1];exact q3,fun j hj => ?_,fun j hj => ?_⟩
 ·rw [p2 j (by omega)]
  obtain ⟨s1,s2,s3⟩:=r2 j hj
  by_cases c1:j<off
  ·obtain ⟨h3,h4⟩:=s1 c1
   rw [if_pos c1,h4];exact q7 j h3
  ·rw [if_neg c1]
   by_cases c2:j<off+vs.size
   ·obtain ⟨h3,h4⟩:=s2 (by omega) (by omega)
    rw [if_pos c2,h4];exact hr _ h3
   ·obtain ⟨h3,h4⟩:=s3 (by omega)
    rw [if_neg c2,h4];exact q7 j h3
 ·rw [p2 j (by omega)]
  split
  ·exact q8 j (by omega)
  ·split
   ·exact h1 _ (by omega)
   ·exact q8 j (by omega)

theorem aNv{α:Type}(cs:List α)(off:Nat)(y:α)(h:off<cs.length):cs.set off y=cs.take off++[y]++cs.drop (off+[y].length):=by
 rw [List.set_eq_take_append_cons_drop,if_pos h];simp

theorem uS(hT:∀ t i,T t=some i→bU P t=some i)(hM:aO P C M w){t:Nat}{a x:AV}{u v:Value}{L:Upd}{s s':AS}(ha:Rep C M w a u)(hx:Rep C M w x v)(h:sstore T M t a x s=some (L,s'))(g:aW s') :
  aW s∧∃ w',(Instr.storeAt t u v).run P w = .ok () w'∧Fr C M w C (upds M L) w'∧aO P C (upds M L) w':=by
 unfold sstore at h
 obtain ⟨i,s1,h1,k1⟩:=aD h;obtain ⟨e1,rfl⟩:=aE h1;clear h h1;have hi:=hT _ _ e1
 split at k1
 rotate_left
 ·exact (aQ k1).elim
 rename_i id off;obtain ⟨o,s2,h2,k2⟩:=aD k1;obtain ⟨e2,rfl⟩:=aE h2;clear k1 h2
 replace e2:=dJ e2
 split at k2
 ·rename_i ty cs
  obtain ⟨xs,s3,h3,k3⟩:=aD k2;obtain ⟨e3,rfl⟩:=aE h3;obtain ⟨_,s4,h4,k4⟩:=aD k3;obtain ⟨e4,rfl⟩:=aE h4;obtain ⟨⟨c1,c2⟩,_⟩:=bD e4;obtain ⟨rfl,rfl⟩:=aH k4;obtain ⟨b,rfl,hb⟩:=fJ ha (gX e2 rfl);obtain ⟨b',cur,Aj,hg,hsz,_⟩:=hM.box _ _ _ e2;rw [hb] at Aj;cases Aj
  obtain ⟨q1,q2,q3⟩:=pW hx e3;rw [← c1];obtain ⟨m1,m2⟩:=bIv (off:=off) hM e2 hb hg q1 (by omega) q2 q3
  have hrs:=wB (u:=v) (off:=off) hi hg (by omega) (by omega) (fun j hj=>q3 j (by omega))
  exact ⟨g,_,hrs,m2,m1⟩
 ·rename_i ty n cs
  obtain ⟨b,rfl,hb⟩:=fJ ha (gX e2 rfl)
  rcases hM.row _ _ _ _ e2 with ⟨hn,_⟩ | ⟨b',cur,inf,Aj,hg,_,hsz,hcl,hle,_⟩
  ·rw [hb] at hn;cases hn
  rw [hb] at Aj;cases Aj
  have O6:cs.length≤cur.size:=by rw [hsz,hcl];exact Nat.mul_le_mul_right _ hle
  generalize hd:decide (i.size=1)=d at k2
  split at k2
  ·have hd:=of_decide_eq_true hd
   obtain ⟨y,s3,h3,k3⟩:=aD k2;obtain ⟨e3,rfl⟩:=aE h3;obtain ⟨_,s4,h4,k4⟩:=aD k3;obtain ⟨rfl,rfl⟩:=aH k4;obtain ⟨c1,g⟩:=dF h4 g;obtain ⟨q1,q2⟩:=aWi hx e3;have q3:=aEx q2;rw [aNv cs off y c1];obtain ⟨m1,m2⟩:=uR (off:=off) hM e2 hb hg (vs:=v.cells) (xs:=[y]) (by rw [q3];rfl) (by simp;omega) (fun j hj=>by
    obtain rfl:j=0:=by simpa using hj
    rw [q3];exact q1) (fun j hj=>by
    obtain rfl:j=0:=by simpa using hj
    rw [q3];exact q2)
   have hrs:=wB (u:=v) (off:=off) hi hg (by rw [q3,hd];rfl) (by omega) (fun j hj=>by
    rw [q3] at hj ⊢
    obtain rfl:j=0:=by simpa using hj
    exact q2)
   exact ⟨g,_,hrs,m2,m1⟩
  ·split at k2
   ·rename_i xs
    obtain ⟨_,s4,h4,k4⟩:=aD k2;obtain ⟨rfl,rfl⟩:=aH k4;obtain ⟨⟨c1,c2⟩,g⟩:=dF h4 g;cases hx with
    | p _ v hp =>
     cases hp with
     | agg xs vs h0 hv h2 =>
      rw [← c1];obtain ⟨m1,m2⟩:=uR (off:=off) hM e2 hb hg hv (by omega) h2 h0
      have hrs:=wB (u := .agg vs) (off:=off) hi hg (by simp only [Value.cells];omega) (by omega) (fun j hj=>h0 j (by simp only [Value.cells] at hj;omega))
      exact ⟨g,_,hrs,m2,m1⟩
   ·exact (aQ k2).elim
 ·exact (aQ k2).elim
end
section

def aGr:Value→Bool
 | .slice none 0 0=>true
 | _=>false
theorem aAq{y:Value}(h:aGr y=true):y = .slice none 0 0:=by
 unfold aGr at h
 split at h
 ·rfl
 ·cases h

def sO(m:Mem)(k:Nat)(x:AV):Option (Nat × List PV):=match x with
 | .own id=>(eM m id).map fun r=>(r.2.1,r.2.2)
 | .arr id off n=>(eM m id).map fun r=>(n,(r.2.2.drop off).take (n*k))
 | .p (.sl n cs)=>some (n,cs)
 | .p (.v y)=>if aGr y then some (0,[]) else none
 | _=>none

variable {P:Program} {T:TT} {C:Cx} {M:Mem} {w:World}

structure Src (C:Cx) (w:World) (n:Nat) (cs:List PV) (u:Value) (p:Option Addr) (cap:Nat) (us:Nat→Value):Prop where
 eq:u = .slice p n cap
 at_:∀ i,i<cs.length→∃ b o,p=some ⟨b,o,none⟩∧w.cell? ⟨b,o+i,none⟩=some (us i)
 rep:∀ i (h:i<cs.length),bW C.F w cs[i] (us i)
 one:∀ i,i<cs.length→(us i).oneCell'=true

theorem pR(hM:aO P C M w){k n:Nat}{x:AV}{cs:List PV}{u:Value}(h:Rep C M w x u)(hs:sO M k x=some (n,cs))(hl:cs.length=n*k):∃ p cap us,Src C w n cs u p cap us:=by
 cases h with
 | p x u hp =>
  cases hp with
  | v y =>
   simp only [sO] at hs
   obtain ⟨h1,h2⟩:=bD hs;obtain rfl:=aAq h1;cases h2;exact ⟨none,0,fun _=>undef,rfl,fun i h=>by simp at h,fun i h=>by simp at h,fun i h=>by simp at h⟩
  | sl n' A9 p cap us h1 h2 h3 h4 h5 =>
   cases hs;exact ⟨p,cap,us,rfl,fun i hi=>by obtain ⟨b,o,q1,_,q2⟩:=h3 i hi;exact ⟨b,o,q1,q2⟩,h4,h5⟩
  | agg=>cases hs
  | mp=>cases hs
  | rp=>cases hs
  | fn=>cases hs
 | own id u h0 ha hr =>
  simp only [sO,jV] at hs
  obtain ⟨r,Fo,D8⟩:=hs;cases D8;have hro:=cN Fo
  rcases hr _ _ _ hro with ⟨rfl,hn,hz⟩ | ⟨b,rfl,hb⟩
  ·rw [hz,Nat.zero_mul] at hl
   exact ⟨none,0,fun _=>undef,by rw [hz],fun i h=>by omega,fun i h=>by omega,fun i h=>by omega⟩
  ·rcases hM.row _ _ _ _ hro with ⟨hn,_⟩ | ⟨b',arr,inf,Aj,q1,_,q3,q4,q5,_,q7,q8⟩
   ·rw [hb] at hn;cases hn
   ·rw [hb] at Aj;cases Aj
    have hle:r.2.2.length≤arr.size:=by rw [q3,q4];exact Nat.mul_le_mul_right _ q5
    exact ⟨_,_,fun j=>arr.getD j undef,rfl,fun i hi=>⟨b,0,rfl,by rw [fE];exact bH q1 (by omega)⟩,q7,q8⟩
 | arr id off n' u h0 ha hr =>
  simp only [sO,jV] at hs
  obtain ⟨r,Fo,D8⟩:=hs;cases D8;have hro:=cN Fo
  rcases hr _ hro rfl with ⟨rfl,p,cap,rfl,_⟩ | ⟨b,cap,rfl,_,_,hb⟩
  ·exact ⟨p,cap,fun _=>undef,rfl,fun i h=>by simp at h,fun i h=>by simp at h,fun i h=>by simp at h⟩
  ·rcases hM.row _ _ _ _ hro with ⟨hn,_⟩ | ⟨b',arr,inf,Aj,q1,_,q3,q4,q5,_,q7,q8⟩
   ·rw [hb] at hn;cases hn
   ·rw [hb] at Aj;cases Aj
    have hle:r.2.2.length≤arr.size:=by rw [q3,q4];exact Nat.mul_le_mul_right _ q5
    have hlt:∀ i,i<((r.2.2.drop off).take (n*k)).length→off+i<r.2.2.length:=fun i hi=>by simp at hi;omega
    refine ⟨_,_,fun j=>arr.getD (off+j) undef,rfl,fun i hi=>⟨b,off,rfl,bH q1 (by have:=hlt i hi;omega)⟩,fun i hi => ?_,fun i hi=>q8 _ (hlt i hi)⟩
    simp only [List.getElem_take,List.getElem_drop];exact q7 _ (hlt i hi)
 | _=>cases hs

theorem aGs{Bh id b k:Nat}{o o':AO}{w':World}(ho:M[Bh]? = some (some o))(hl:o.live=true)(hb:C.ι Bh=some b)(hf:yM M id)(hw:But w w' b) :
  Fr C M w (C.grow id b k) (aT (aT M Bh (some .dead)) id (some o')) w':=by
 have S1:Bh≠id:=fun e=>hf o (e ▸ ho)
 have hne:∀ (i:Nat) (x:AO),M[i]? = some (some x)→i≠id:=fun i x h e=>hf x (e ▸ h)
 have hfwd:∀ (i:Nat) (x:AO),i≠id→(aT (aT M Bh (some .dead)) id (some o'))[i]? = some (some x)→(i=Bh∧x = .dead)∨(i≠Bh∧M[i]? = some (some x)):=by
  intro i x h hm;have h1:=(aN (aT M Bh (some .dead)) id i _ x (fun e=>h e.symm)).1 hm
  by_cases e:i=Bh
  ·subst e;rw [aS] at h1;cases h1;exact .inl ⟨rfl,rfl⟩
  ·exact .inr ⟨e,(aN M Bh i _ x (fun e'=>e e'.symm)).1 h1⟩
 refine ⟨hw.os,hw.tape,hw.out,by rw [hw.size];exact cP _,fun j hj hn=>hw.heap j (fun e=>hn Bh o ho hl (e ▸ hb)),fun i x h => ?_,fun i x h ty n cs hm => ?_,fun i x h x2 hm Bu => ?_,fun i x j hm hl1 hj => ?_,fun j h=>h,fun j h => .inl h⟩
 ·have h1:=hne i x h
  refine ⟨?_,by simp [Cx.grow,h1],by simp [Cx.grow,h1]⟩
  by_cases e:i=Bh
  ·subst e;exact ⟨.dead,(aN _ id i _ _ (fun e=>h1 e.symm)).2 (aS ..)⟩
  ·exact ⟨x,(aN _ id i _ _ (fun e=>h1 e.symm)).2 ((aN M Bh i _ _ (fun e'=>e e'.symm)).2 h)⟩
 ·rcases hfwd i _ (hne i x h) hm with ⟨_,h2⟩ | ⟨_,h2⟩
  ·cases h2
  ·exact ⟨cs,h2⟩
 ·rcases hfwd i _ (hne i x h) hm with ⟨_,h2⟩ | ⟨_,h2⟩
  ·subst h2;cases Bu
  ·rw [h] at h2;cases h2;exact Bu
 ·by_cases e:i=id
  ·subst e
   simp only [Cx.grow,if_true] at hj
   cases hj;exact .inr ⟨Bh,o,ho,hl,hb⟩
  ·simp only [Cx.grow,e,if_false] at hj
   rcases hfwd i _ e hm with ⟨_,h2⟩ | ⟨_,h2⟩
   ·subst h2;cases hl1
   ·exact .inr ⟨i,x,h2,hl1,hj⟩

theorem aKm(hM:aO P C M w){Bh id b k ty n:Nat}{o:AO}{cs:List PV}{w':World}(ho:M[Bh]? = some (some o))(hl:o.live=true)(hb:C.ι Bh=some b)(hf:yM M id)(hw:But w w' b)
  (hrow:∃ arr i,w'.heap[b]? = some (.cells arr ty (0,0))∧P.info? ty=some i∧arr.size=k*i.size∧cs.length=n*i.size∧n≤k∧k≤maxLen∧(∀ j (h:j<cs.length),bW C.F w cs[j] (arr.getD j undef))∧∀ j,j<cs.length→(arr.getD j undef).oneCell'=true) :
  aO P (C.grow id b k) (aT (aT M Bh (some .dead)) id (some (.row ty n cs))) w':=by
 have hFr:=aGs (C:=C) (k:=k) (o' := .row ty n cs) ho hl hb hf hw;have hL:=hM.le hFr;have hfwd:∀ (i:Nat) (x:AO),i≠id→x.live=true→(aT (aT M Bh (some .dead)) id (some (.row ty n cs)))[i]? = some (some x)→i≠Bh∧M[i]? = some (some x):=by
  intro i x h hlx hm;have h1:=(aN (aT M Bh (some .dead)) id i _ x (fun e=>h e.symm)).1 hm
  by_cases e:i=Bh
  ·subst e;rw [aS] at h1;cases h1;cases hlx
  ·exact ⟨e,(aN M Bh i _ x (fun e'=>e e'.symm)).1 h1⟩
 have hnew:∀ (x:AO),(aT (aT M Bh (some .dead)) id (some (.row ty n cs)))[id]? = some (some x)→x = .row ty n cs:=fun x h=>by rw [aS] at h;cases h;rfl
 have hι:∀ i,i≠id→(C.grow id b k).ι i=C.ι i:=fun i h=>by simp [Cx.grow,h]
 have hκ:∀ i,i≠id→(C.grow id b k).κ i=C.κ i:=fun i h=>by simp [Cx.grow,h]
 have hιs:(C.grow id b k).ι id=some b:=by simp [Cx.grow]
 have hκs:(C.grow id b k).κ id=k:=by simp [Cx.grow]
 have hne:∀ (i:Nat) (x:AO) (j:Nat),i≠Bh→M[i]? = some (some x)→x.live=true→C.ι i=some j→j≠b:=fun i x j h hm hl1 hj e=>h (hM.inj i Bh x o b hm hl1 ho hl (e ▸ hj) hb)
 refine ⟨fun i Cb n' A9 hm => ?_,fun i Cb A9 hm => ?_,fun i es cl hm => ?_,fun i i' o1 o2 j hm hl1 B8 Cy hj Bp => ?_,fun i x j hm hl1 hj => ?_,fun j hj => ?_,fun i x j hm hl1 hj => ?_⟩
 ·by_cases e:i=id
  ·subst e
   cases hnew _ hm;obtain ⟨arr,inf,q0,q1,q2,q3,q4,q5,q6,q7⟩:=hrow;exact .inr ⟨b,arr,inf,hιs,q0,q1,by rw [hκs];exact q2,q3,by rw [hκs];exact q4,by rw [hκs];exact q5,fun j hj=>(q6 j hj).mono hL.F hL.fz,q7⟩
  ·obtain ⟨h1,Cm⟩:=hfwd i _ e rfl hm
   rw [hι i e,hκ i e]
   rcases hM.row _ _ _ _ Cm with h4 | ⟨j,arr,inf,q0,q1,q2,q3,q4,q5,q6,q7,q8⟩
   ·exact .inl h4
   ·exact .inr ⟨j,arr,inf,q0,(hw.heap j (hne i _ j h1 Cm rfl q0)).trans q1,q2,q3,q4,q5,q6,fun j hj=>(q7 j hj).mono hL.F hL.fz,q8⟩
 ·by_cases e:i=id
  ·subst e;cases hnew _ hm
  ·obtain ⟨h1,Cm⟩:=hfwd i _ e rfl hm
   rw [hι i e];obtain ⟨j,arr,q0,q1,q2,q3,q4⟩:=hM.box _ _ _ Cm;exact ⟨j,arr,q0,(hw.heap j (hne i _ j h1 Cm rfl q0)).trans q1,q2,fun j hj=>(q3 j hj).mono hL,q4⟩
 ·by_cases e:i=id
  ·subst e;cases hnew _ hm
  ·obtain ⟨h1,Cm⟩:=hfwd i _ e rfl hm
   rw [hι i e];obtain ⟨j,arr,q0,q1,q2,q3⟩:=hM.mp _ _ _ Cm;refine ⟨j,arr,q0,(hw.heap j (hne i _ j h1 Cm rfl q0)).trans q1,q2,fun j hj => ?_⟩
   obtain ⟨en,r1,r2,r3,r4⟩:=q3 j hj;exact ⟨en,r1,r2,r3,r4.mono hL.F hL.fz⟩
 ·by_cases e:i=id
  ·by_cases e':i'=id
   ·rw [e,e']
   ·subst e
    rw [hιs] at hj;cases hj
    obtain ⟨h1,Cm⟩:=hfwd i' _ e' Cy B8;rw [hι i' e'] at Bp
    exact absurd rfl (hne i' _ b h1 Cm Cy Bp)
  ·obtain ⟨h1,Cm⟩:=hfwd i _ e hl1 hm
   rw [hι i e] at hj
   by_cases e':i'=id
   ·subst e'
    rw [hιs] at Bp;cases Bp
    exact absurd rfl (hne i _ b h1 Cm hl1 hj)
   ·obtain ⟨h3,S2⟩:=hfwd i' _ e' Cy B8
    rw [hι i' e'] at Bp
    exact hM.inj _ _ _ _ _ Cm hl1 S2 Cy hj Bp
 ·by_cases e:i=id
  ·subst e;rw [hιs] at hj;cases hj;exact hM.nF _ _ _ ho hl hb
  ·rw [hι i e] at hj;exact hM.nF _ _ _ (hfwd i _ e hl1 hm).2 hl1 hj
 ·rw [hw.size];exact hM.Fs j hj
 ·rw [hw.size]
  by_cases e:i=id
  ·subst e;rw [hιs] at hj;cases hj;exact hM.lt _ _ _ ho hl hb
  ·rw [hι i e] at hj;exact hM.lt _ _ _ (hfwd i _ e hl1 hm).2 hl1 hj
end
section
variable {P:Program} {T:TT} {C:Cx} {M:Mem} {w:World}

def vals(n:Nat)(us:Nat→Value):List Value:=(List.range n).map us
theorem cM(n:Nat)(us:Nat→Value):(vals n us).length=n:=by simp [vals]
theorem aSu{n i:Nat}{us:Nat→Value}(h:i<n):(vals n us)[i]? = some (us i):=by simp [vals,h]
theorem aAp{n i:Nat}{us:Nat→Value}{v:Value}(h:(vals n us)[i]? = some v):i<n∧v=us i:=by
 have hi:i<n:=by
  have:=(A2.1 h).1;simpa [cM] using this
 rw [aSu hi] at h;cases h;exact ⟨hi,rfl⟩
theorem bDx{n:Nat}{us:Nat→Value}{v:Value}(h:v∈vals n us):∃ i,i<n∧v=us i:=by
 simp only [vals,dH,vA] at h
 obtain ⟨i,hi,rfl⟩:=h;exact ⟨i,hi,rfl⟩

theorem oU(t ty e:TypeId)(i:TypeInfo)(ht:P.underlying t=some (.slice e))(hi:P.info? e=some i)(base:Option Addr)(sLen sCap c:Nat)(hr:sLen≤sCap)(p:Option Addr) :
  (Builtin.append_ #[t,t] ty #[.slice base sLen sCap,.slice p 0 c]).run P w = .ok (.slice base sLen sCap) w:=by
 have hf:(Builtin.firstCells i.size 0 (.slice p 0 c)).run P w = .ok #[] w:=by
  cases p with
  | none=>simp [Builtin.firstCells]
  | some a=>exact run_firstCells_some (P:=P) w i.size 0 a 0 c [] (by simp) (by simp)
 cases base with
 | none=>simp [Builtin.append_,run_underlying ht,sizeOf,typeInfo,hi,Builtin.lenOf,hr,hf]
 | some a=>simp [Builtin.append_,run_underlying ht,sizeOf,typeInfo,hi,Builtin.lenOf,hr,hf,storeCells]

def Cx.nil(C:Cx)(id:Nat):Cx:={ ι:=fun i=>if i=id then none else C.ι i,κ:=C.κ,F:=C.F }

theorem uP{id ty:Nat}(hf:yM M id):Fr C M w (C.nil id) (aT M id (some (.row ty 0 []))) w:=by
 have hne:∀ (i:Nat) (x:AO),M[i]? = some (some x)→i≠id:=fun i x h e=>hf x (e ▸ h)
 refine ⟨rfl,rfl,rfl,cP _,fun _ _ _=>rfl,fun i x h => ?_,fun i x h ty n cs hm => ?_,fun i x h x2 hm hl => ?_,fun i x b hm hl hb => ?_,fun b h=>h,fun b h => .inl h⟩
 ·have:=hne i x h
  exact ⟨⟨x,(aN M id i _ x (fun e=>this e.symm)).2 h⟩,by simp [Cx.nil,this],rfl⟩
 ·exact ⟨cs,(aN M id i _ _ (fun e=>hne i x h e.symm)).1 hm⟩
 ·have h4:=(aN M id i _ _ (fun e=>hne i x h e.symm)).1 hm
  rw [h] at h4;cases h4;exact hl
 ·by_cases e:i=id
  ·subst e;simp [Cx.nil] at hb
  ·simp only [Cx.nil,e,if_false] at hb
   exact .inr ⟨i,x,(aN M id i _ _ (fun e'=>e e'.symm)).1 hm,hl,hb⟩

theorem uQ(hM:aO P C M w){id ty:Nat}(hf:yM M id):aO P (C.nil id) (aT M id (some (.row ty 0 []))) w:=by
 have hFr:=uP (C:=C) (w:=w) hf (ty:=ty);have hL:=hM.le hFr;have hold:∀ (i:Nat) (x:AO),i≠id→(aT M id (some (.row ty 0 [])))[i]? = some (some x)→M[i]? = some (some x):=fun i x h=>(aN M id i _ x (fun e=>h e.symm)).1
 have hnew:∀ (x:AO),(aT M id (some (.row ty 0 [])))[id]? = some (some x)→x = .row ty 0 []:=fun x h=>by rw [aS] at h;cases h;rfl
 have hι:∀ i,i≠id→(C.nil id).ι i=C.ι i:=fun i h=>by simp [Cx.nil,h]
 have hιs:(C.nil id).ι id=none:=by simp [Cx.nil]
 have hκ:∀ i,(C.nil id).κ i=C.κ i:=fun _=>rfl
 refine ⟨fun i Cb n cs hm => ?_,fun i Cb cs hm => ?_,fun i es cl hm => ?_,fun i i' o1 o2 b hm hl B8 Cy hb Aj => ?_,fun i x b hm hl hb => ?_,fun b hb=>hM.Fs b hb,fun i x b hm hl hb => ?_⟩
 ·by_cases e:i=id
  ·subst e
   cases hnew _ hm;exact .inl ⟨hιs,rfl,rfl⟩
  ·rw [hι i e,hκ i]
   rcases hM.row _ _ _ _ (hold i _ e hm) with h4 | ⟨b,arr,inf,q0,q1,q2,q3,q4,q5,q6,q7,q8⟩
   ·exact .inl h4
   ·exact .inr ⟨b,arr,inf,q0,q1,q2,q3,q4,q5,q6,fun j hj=>(q7 j hj).mono hL.F hL.fz,q8⟩
 ·by_cases e:i=id
  ·subst e;cases hnew _ hm
  ·rw [hι i e]
   obtain ⟨b,arr,q0,q1,q2,q3,q4⟩:=hM.box _ _ _ (hold i _ e hm);exact ⟨b,arr,q0,q1,q2,fun j hj=>(q3 j hj).mono hL,q4⟩
 ·by_cases e:i=id
  ·subst e;cases hnew _ hm
  ·rw [hι i e]
   obtain ⟨b,arr,q0,q1,q2,q3⟩:=hM.mp _ _ _ (hold i _ e hm);refine ⟨b,arr,q0,q1,q2,fun j hj => ?_⟩
   obtain ⟨en,r1,r2,r3,r4⟩:=q3 j hj;exact ⟨en,r1,r2,r3,r4.mono hL.F hL.fz⟩
 ·have e:i≠id:=fun e=>by subst e;rw [hιs] at hb;cases hb
  have e':i'≠id:=fun e=>by subst e;rw [hιs] at Aj;cases Aj
  rw [hι i e] at hb;rw [hι i' e'] at Aj
  exact hM.inj _ _ _ _ _ (hold i _ e hm) hl (hold i' _ e' B8) Cy hb Aj
 ·have e:i≠id:=fun e=>by subst e;rw [hιs] at hb;cases hb
  rw [hι i e] at hb
  exact hM.nF _ _ _ (hold i _ e hm) hl hb
 ·have e:i≠id:=fun e=>by subst e;rw [hιs] at hb;cases hb
  rw [hι i e] at hb
  exact hM.lt _ _ _ (hold i _ e hm) hl hb

theorem yX(hM:aO P C M w){id e k n:Nat}{inf:TypeInfo}(hf:yM M id)(hinf:P.info? e=some inf){cs:List PV}{arr:Array Value}(hs:arr.size=k*inf.size)(hl:cs.length=n*inf.size)(hnk:n≤k)(hk:k≤maxLen)
  (hr:∀ j (h:j<cs.length),bW C.F w cs[j] (arr.getD j undef)) (h1:∀ j,j<cs.length→(arr.getD j undef).oneCell'=true) {w1:World} (hw:w1.heap=w.heap) (ho:w1.os=w.os) (ht:w1.tape=w.tape) (hu:w1.output=w.output) :
  ∃ C' u,u = .slice (some ⟨w.heap.size,0,none⟩) n k∧Fr C M w C' (aT M id (some (.row e n cs))) (w1.alloc (.cells arr e))∧aO P C' (aT M id (some (.row e n cs))) (w1.alloc (.cells arr e))∧Rep C' (aT M id (some (.row e n cs))) (w1.alloc (.cells arr e)) (.own id) u:=by
 have hsz:w1.heap.size=w.heap.size:=by rw [hw]
 have hcell:∀ b o,w1.cell? ⟨b,o,none⟩=w.cell? ⟨b,o,none⟩:=fun b o=>dR (by rw [hw]) o
 have Bd:aO P C M w1:=by
  have hL:Le C C M M w w1:=⟨fun _ o h=>⟨o,h⟩,fun _ _ _ _ _ cs h=>⟨cs,h⟩,fun _ o h o' h' hl=>by rw [h] at h';cases h';exact ⟨hl,rfl,rfl⟩,fun _ h=>h,fun _ _=>by rw [hw]⟩
  refine ⟨fun i Cb n cs hm => ?_,fun i Cb cs hm => ?_,fun i es cl hm => ?_,hM.inj,hM.nF,fun b hb=>by rw [hsz];exact hM.Fs b hb,fun i x b hm hl hb=>by rw [hsz];exact hM.lt i x b hm hl hb⟩
  ·rcases hM.row _ _ _ _ hm with h4 | ⟨b,arr,inf,q0,q1,q2,q3,q4,q5,q6,q7,q8⟩
   ·exact .inl h4
   ·exact .inr ⟨b,arr,inf,q0,by rw [hw];exact q1,q2,q3,q4,q5,q6,fun j hj=>(q7 j hj).mono hL.F hL.fz,q8⟩
  ·obtain ⟨b,arr,q0,q1,q2,q3,q4⟩:=hM.box _ _ _ hm
   exact ⟨b,arr,q0,by rw [hw];exact q1,q2,fun j hj=>(q3 j hj).mono hL,q4⟩
  ·obtain ⟨b,arr,q0,q1,q2,q3⟩:=hM.mp _ _ _ hm
   refine ⟨b,arr,q0,by rw [hw];exact q1,q2,fun j hj => ?_⟩
   obtain ⟨en,r1,r2,r3,r4⟩:=q3 j hj;exact ⟨en,r1,r2,r3,r4.mono hL.F hL.fz⟩
 have O4:Fr C M w C M w1:=⟨ho,ht,hu,by omega,fun b _ _=>by rw [hw],fun i x h=>⟨⟨x,h⟩,rfl,rfl⟩,fun _ _ _ _ _ cs h=>⟨cs,h⟩,fun _ o h o' h' hl=>by rw [h] at h';cases h';exact hl,fun i x b h hl hb => .inr ⟨i,x,h,hl,hb⟩,fun _ h=>h,fun _ h => .inl h⟩
 refine ⟨C.grow id w1.heap.size k,_,rfl,O4.trans (wC hf _ _),rS Bd hf _ _ (fun ty n' A9 h => ?_) (fun _ _ h=>by cases h) (fun _ _ h=>by cases h),?_⟩
 ·cases h
  exact ⟨arr,inf,rfl,hinf,hs,hl,hnk,hk,fun j hj=>(hr j hj).mono (fun _ h=>h) (fun _ _=>by rw [hw]),h1⟩
 ·rw [← hsz]
  exact .own id _ rfl ⟨_,aS ..⟩ (fun ty n' A9 h=>by rw [aS] at h;cases h;exact .inr ⟨w1.heap.size,by simp [Cx.grow],by simp [Cx.grow]⟩)

def sappend(T:TT)(m:Mem)(id t t2:Nat)(x y:AV):Ask (AV × Upd):=do
 let i ← lift (T t)
 let e ← lift (match i.k with | .slice e=>some e | _=>none)
 let j ← lift (T e)
 lift (if t=t2∧eG m id=true∧0<j.size∧j.bytes≤100000∧j.zero.length=j.size then some () else none)
 let sy ← lift (sO m j.size y)
 match x with
 | .own Bh=>do
  let r ← lift (eM m Bh)
  lift (if r.1=e then some () else none)
  fC (sy.2.length=sy.1*j.size∧r.2.1+sy.1≤1000000)
  pure (.own id,[(Bh,.dead),(id,.row e (r.2.1+sy.1) (r.2.2++sy.2))])
 | .p (.v v)=>do
  lift (if aGr v then some () else none)
  fC (sy.2.length=sy.1*j.size∧sy.1≤1000000)
  pure (.own id,[(id,.row e sy.1 sy.2)])
 | _=>fail

theorem G7{n bytes:Nat}(h:n≤1000000)(hb:bytes≤100000):n*bytes≤100000000000:=fL (Nat.mul_le_mul h hb) (by omega)

theorem eY(a b:Array Value){j:Nat}(h:j<a.size):(a++b).getD j undef=a.getD j undef:=by
 simp only [A4,Array.getElem?_append_left h]
theorem sN(a b:Array Value){j:Nat}(h:a.size≤j):(a++b).getD j undef=b.getD (j-a.size) undef:=by
 simp only [A4,Array.getElem?_append_right h]
theorem iF{n j:Nat}{us:Nat→Value}(h:j<n):(vals n us).toArray.getD j undef=us j:=by
 simp only [A4,List.getElem?_toArray,aSu h,Option.getD_some]

theorem nG(hM:aO P C M w){id t ty e:Nat}{j:TI}(hd:P.underlying t=some (.slice e))(hj:bU P e=some j)(hf:yM M id)(hp:0<j.size)(hb:j.bytes≤100000)(hz:j.zero.length=j.size)
  {n:Nat} {cs:List PV} {v:Value} {p:Option Addr} {cap:Nat} {us:Nat→Value} (hs:Src C w n cs v p cap us) (hl:cs.length=n*j.size) (hn:n≤1000000) :
  Out P C M w (.own id) (aT M id (some (.row e n cs))) ((Builtin.append_ #[t,t] ty #[.slice none 0 0,v]).run P w):=by
 obtain ⟨inf,d,z,hinf,_,hzz,_,hsz,hby,hzl,_⟩:=eH hj;obtain rfl:=hs.eq
 rcases Nat.eq_zero_or_pos n with rfl | Rc
 ·have hcs:cs=[]:=aDh (by omega)
  subst hcs;exact ⟨C.nil id,w,_,oU t ty e inf hd hinf none 0 0 cap (cP _) p,uP hf,uQ hM hf,.own id _ rfl ⟨_,aS ..⟩ (fun ty n cs h=>by rw [aS] at h;cases h;exact .inl ⟨rfl,by simp [Cx.nil],rfl⟩)⟩
 ·have hcl:0<cs.length:=by rw [hl];exact Nat.mul_pos Rc hp
  obtain ⟨b,o,rfl,_⟩:=hs.at_ 0 hcl;have hat:∀ i,i<cs.length→w.cell? ⟨b,o+i,none⟩=some (us i):=fun i hi=>by
   obtain ⟨b',o',h1,h2⟩:=hs.at_ i hi;cases h1;exact h2
  have hzs:z.cells.size=inf.size:=by rw [← Array.length_toList,← hzl,hz,hsz]
  have hg:=grownCap_ge w n 0 e;have Gx:=grownCap_le_maxLen w n 0 e (by simp [maxLen];omega)
  have hrun:=run_append_nil (P:=P) (w:=w) t ty e inf z hd hinf hzz ⟨b,o,none⟩ n cap (vals cs.length us) (by rw [cM,hl,hsz]) (fun i v hv=>by
   obtain ⟨hi,rfl⟩:=aAp hv;rw [Addr.add_lit];exact hat i hi) Rc (by omega) (by rw [← hby];exact fL (G7 hn hb) (by omega))
  obtain ⟨C',u,rfl,q1,q2,q3⟩:=yX (id:=id) (e:=e) (k:=grownCap w n 0 e) (n:=n) (cs:=cs) (arr:=(vals cs.length us).toArray++Builtin.zeroCells z.cells (grownCap w n 0 e-n)) hM hf hinf (by
    rw [Array.size_append,size_zeroCells,hzs,List.size_toArray,cM,hl,hsz,← Nat.add_mul,Nat.add_sub_cancel' hg]) (by rw [hl,hsz]) hg Gx
    (fun i hi=>by rw [eY _ _ (by simp [cM];omega),iF hi];exact hs.rep i hi)
    (fun i hi=>by rw [eY _ _ (by simp [cM];omega),iF hi];exact hs.one i hi) (w1:=w.drew) rfl rfl rfl rfl
  exact ⟨C',_,_,hrun,q1,q2,q3⟩

theorem aDf(hT:∀ t i,T t=some i→bU P t=some i)(hM:aO P C M w){id t t2 ty:Nat}{x y a:AV}{u v:Value}{L:Upd}{s s':AS}(hx:Rep C M w x u)(hy:Rep C M w y v)(h:sappend T M id t t2 x y s=some ((a,L),s'))(g:aW s') :
  aW s∧Out P C M w a (upds M L) ((Builtin.append_ #[t,t2] ty #[u,v]).run P w):=by
 unfold sappend at h
 obtain ⟨i,s1,h1,k1⟩:=aD h;obtain ⟨e1,rfl⟩:=aE h1;obtain ⟨e,s2,h2,k2⟩:=aD k1;obtain ⟨e2,rfl⟩:=aE h2;obtain ⟨j,s3,h3,k3⟩:=aD k2;obtain ⟨e3,rfl⟩:=aE h3;obtain ⟨_,s4,h4,k4⟩:=aD k3;obtain ⟨e4,rfl⟩:=aE h4;obtain ⟨sy,s5,h5,k5⟩:=aD k4;obtain ⟨e5,rfl⟩:=aE h5;obtain ⟨⟨rfl,hf,hp,hb,hz⟩,_⟩:=bD e4;clear h k1 k2 k3 k4 h1 h2 h3 h4 h5 e4;have hf:=cA hf;obtain ⟨d,hd,hk⟩:=eO (hT _ _ e1);have hj:=hT _ _ e3;have hd:P.underlying t=some (.slice e):=by
  split at e2
  ·rename_i e' he
   cases e2;rw [he] at hk;rw [nH hk.symm] at hd;exact hd
  ·cases e2
 split at k5
 ·rename_i Bh
  obtain ⟨r,s6,h6,k6⟩:=aD k5;obtain ⟨e6,rfl⟩:=aE h6;obtain ⟨_,s7,h7,k7⟩:=aD k6;obtain ⟨e7,rfl⟩:=aE h7;obtain ⟨hre,_⟩:=bD e7;obtain ⟨_,s8,h8,k8⟩:=aD k7;obtain ⟨he,rfl⟩:=aH k8;cases he;obtain ⟨⟨hl,hn⟩,g⟩:=dF h8 g;refine ⟨g,?_⟩;obtain ⟨p,cap,us,hs⟩:=pR hM (n:=sy.1) (cs:=sy.2) hy e5 hl;have ho:=cN e6;obtain ⟨rt,rn,rcs⟩:=r;simp only at hre hn ho ⊢
  subst hre;cases hx with
  | own Bh u h0 ha hr =>
  have Bd:=lC hM (id:=Bh) false ho rfl;have Re:=cE (C:=C) (w:=w) (id:=Bh) false ho rfl;have Rf:yM (aT M Bh (some .dead)) id:=fun x hx=>by
   by_cases e:Bh=id
   ·subst e;exact hf _ ho
   ·exact hf x ((aN M Bh id _ x e).1 hx)
  rcases hr _ _ _ ho with ⟨rfl,Gc,D9⟩ | ⟨b,rfl,Ce⟩
  ·subst D9
   have hcs:rcs=[]:=by
    rcases hM.row _ _ _ _ ho with ⟨_,_,hcs⟩ | ⟨b',_,_,Aj,_⟩
    ·exact hcs
    ·rw [Gc] at Aj;cases Aj
   subst hcs;rw [fE,List.nil_append];have Gd:Src (C.close Bh false) w sy.1 sy.2 v p cap us:=⟨hs.eq,hs.at_,fun i hi=>(hs.rep i hi).mono (fun _ h => .inl h) (fun _ _=>rfl),hs.one⟩
   obtain ⟨C',w',u',q0,q1,q2,q3⟩:=nG (id:=id) (ty:=ty) Bd hd hj Rf hp hb hz Gd hl (by omega)
   exact ⟨C',w',u',q0,Re.trans q1,q2,q3⟩
  ·obtain ⟨inf,_,z,hinf,_,hzz,_,hsz,hby,hzl,_⟩:=eH hj
   rcases hM.row _ _ _ _ ho with ⟨Gc,_⟩ | ⟨b',arr,Lf,Aj,q1,q2,q3,q4,q5,q6,q7,q8⟩
   ·rw [Ce] at Gc;cases Gc
   rw [Ce] at Aj;cases Aj
   rw [hinf] at q2;cases q2
   rw [← hsz] at q3 q4
   have hle:rcs.length≤arr.size:=by rw [q3,q4];exact Nat.mul_le_mul_right _ q5
   obtain rfl:=hs.eq
   rcases Nat.eq_zero_or_pos sy.1 with H6 | H6
   ·have O5:sy.2=[]:=aDh (by rw [hl,H6];simp)
    rw [H6,O5,Nat.add_zero,List.append_nil];have hbut:But w w b:=⟨rfl,rfl,rfl,rfl,fun _ _=>rfl⟩
    refine ⟨C.grow id b (C.κ Bh),w,_,oU t ty _ inf hd hinf (some ⟨b,0,none⟩) rn (C.κ Bh) cap q5 p,aGs ho rfl Ce hf hbut,aKm hM ho rfl Ce hf hbut ⟨arr,inf,q1,hinf,by rw [q3,hsz],by rw [q4,hsz],q5,q6,q7,q8⟩,?_⟩
    exact .own id _ rfl ⟨_,aS ..⟩ (fun Cb n' A9 h=>by simp only [upds] at h;rw [aS] at h;cases h;exact .inr ⟨b,by simp [Cx.grow],by simp [Cx.grow]⟩)
   ·have hcl:0<sy.2.length:=by rw [hl];exact Nat.mul_pos H6 hp
    obtain ⟨b2,o2,rfl,_⟩:=hs.at_ 0 hcl;have hat:∀ i,i<sy.2.length→w.cell? ⟨b2,o2+i,none⟩=some (us i):=fun i hi=>by
     obtain ⟨b',o',h1,h2⟩:=hs.at_ i hi;cases h1;exact h2
    have hnews:∀ i v,(vals sy.2.length us)[i]? = some v→w.cell? ((⟨b2,o2,none⟩:Addr).add i)=some v:=fun i v hv=>by
     obtain ⟨hi,rfl⟩:=aAp hv;rw [Addr.add_lit];exact hat i hi
    have hlen:(rcs++sy.2).length=(rn+sy.1)*j.size:=by rw [fK,q4,hl,Nat.add_mul]
    by_cases hroom:rn+sy.1≤C.κ Bh
    ·have hfit:rn*j.size+sy.2.length≤arr.size:=by rw [hl,← Nat.add_mul,q3];exact Nat.mul_le_mul_right _ hroom
     have hrun:=run_append_room (P:=P) w t ty _ inf hd hinf b rn (C.κ Bh) arr q1 ⟨b2,o2,none⟩ sy.1 cap (vals sy.2.length us) (by rw [cM,hl,hsz]) hnews (fun v hv=>by
      obtain ⟨i,hi,rfl⟩:=bDx hv;exact hs.one i hi) hroom (by rw [cM,← hsz];exact hfit)
     rw [← hsz] at hrun
     have hva:(vals sy.2.length us).toArray.size=sy.2.length:=by simp [cM]
     obtain ⟨p1,p2⟩:=spliced arr (vals sy.2.length us).toArray (rn*j.size) (by rw [hva];exact hfit)
     simp only at p1 p2
     refine ⟨C.grow id b (C.κ Bh),_,_,hrun,aGs ho rfl Ce hf (jH _ _ _),aKm hM ho rfl Ce hf (jH _ _ _) ⟨_,inf,setRow_heap w b arr _ _ _ q1,hinf,by rw [p1,q3,hsz],by rw [hlen,hsz],hroom,q6,fun i hi => ?_,fun i hi => ?_⟩,?_⟩
     ·rw [p2 i (by rw [hlen,Nat.add_mul,← hl] at hi;omega),hva]
      by_cases c:i<rcs.length
      ·rw [if_pos (by omega),yN c];exact q7 i c
      ·rw [if_neg (by omega),if_pos (by simp at hi;omega),aKs (by omega)]
       have E8:i-rcs.length<sy.2.length:=by simp at hi;omega
       rw [← q4,iF E8];exact hs.rep _ E8
     ·rw [p2 i (by rw [hlen,Nat.add_mul,← hl] at hi;omega),hva]
      by_cases c:i<rcs.length
      ·rw [if_pos (by omega)];exact q8 i c
      ·rw [if_neg (by omega),if_pos (by simp at hi;omega)]
       have E8:i-rcs.length<sy.2.length:=by simp at hi;omega
       rw [← q4,iF E8];exact hs.one _ E8
     ·exact .own id _ rfl ⟨_,aS ..⟩ (fun Cb n' A9 h=>by simp only [upds] at h;rw [aS] at h;cases h;exact .inr ⟨b,by simp [Cx.grow],by simp [Cx.grow]⟩)
    ·have hzs:z.cells.size=inf.size:=by rw [← Array.length_toList,← hzl,hz,hsz]
     have hg:=grownCap_ge w (rn+sy.1) (C.κ Bh) rt;have Gx:=grownCap_le_maxLen w (rn+sy.1) (C.κ Bh) rt (by simp [maxLen];omega)
     have holds:∀ i v,(vals rcs.length fun i=>arr.getD i undef)[i]? = some v→w.cell? ((⟨b,0,none⟩:Addr).add i)=some v:=fun i v hv=>by
      obtain ⟨hi,rfl⟩:=aAp hv;rw [Addr.add_lit,fE];exact bH q1 (by omega)
     have hrun:=run_append_grow (P:=P) (w:=w) t ty rt inf z hd hinf hzz ⟨b,0,none⟩ rn (C.κ Bh) (vals rcs.length fun i=>arr.getD i undef) (by rw [cM,q4,hsz]) holds ⟨b2,o2,none⟩ sy.1 cap (vals sy.2.length us) (by rw [cM,hl,hsz]) hnews (by omega) (by omega)
      (growslice_fits (by omega) (by rw [← hby];exact fL (G7 hn hb) (by omega)))
     obtain ⟨C',u',rfl,r1,r2,r3⟩:=yX (id:=id) (e:=rt) (k:=grownCap w (rn+sy.1) (C.κ Bh) rt) (n:=rn+sy.1) (cs:=rcs++sy.2)
      (arr:=(vals rcs.length fun i=>arr.getD i undef).toArray++(vals sy.2.length us).toArray++Builtin.zeroCells z.cells (grownCap w (rn+sy.1) (C.κ Bh) rt-(rn+sy.1))) Bd Rf hinf (by
       rw [Array.size_append,Array.size_append,size_zeroCells,hzs,List.size_toArray,List.size_toArray,cM,cM,q4,hl,hsz,← Nat.add_mul,← Nat.add_mul,Nat.add_sub_cancel' hg]) (by rw [hlen,hsz]) hg Gx
       (fun i hi=>by
        rw [eY _ _ (by simp [cM] at hi ⊢;omega)]
        by_cases c:i<rcs.length
        ·rw [eY _ _ (by simp [cM];omega),iF c,yN c]
         exact (q7 i c).mono (fun _ h => .inl h) (fun _ _=>rfl)
        ·have E8:i-rcs.length<sy.2.length:=by simp at hi;omega
         rw [sN _ _ (by simp [cM];omega),List.size_toArray,cM,iF E8,aKs (by omega)]
         exact (hs.rep _ E8).mono (fun _ h => .inl h) (fun _ _=>rfl))
       (fun i hi=>by
        rw [eY _ _ (by simp [cM] at hi ⊢;omega)]
        by_cases c:i<rcs.length
        ·rw [eY _ _ (by simp [cM];omega),iF c]
         exact q8 i c
        ·have E8:i-rcs.length<sy.2.length:=by simp at hi;omega
         rw [sN _ _ (by simp [cM];omega),List.size_toArray,cM,iF E8]
         exact hs.one _ E8) (w1:=w.drew) rfl rfl rfl rfl
     exact ⟨C',_,_,hrun,Re.trans r1,r2,r3⟩
 ·rename_i v0
  obtain ⟨_,s7,h7,k7⟩:=aD k5;obtain ⟨e7,rfl⟩:=aE h7;obtain ⟨hnil,_⟩:=bD e7;obtain ⟨_,s8,h8,k8⟩:=aD k7;obtain ⟨he,rfl⟩:=aH k8;cases he;obtain ⟨⟨hl,hn⟩,g⟩:=dF h8 g;refine ⟨g,?_⟩;obtain ⟨p,cap,us,hs⟩:=pR hM (n:=sy.1) (cs:=sy.2) hy e5 hl;cases hx with
  | p _ _ hx=>cases hx;obtain rfl:=aAq hnil;exact nG hM hd hj hf hp hb hz hs hl hn
 ·exact (aQ k5).elim
end
section
variable {P:Program} {T:TT} {C:Cx} {M:Mem} {w:World}

def mC(T:TT)(t:Nat):Option (Nat × TI):=match T t with
 | some i=>match i.k with
  | .slice e=>(T e).map fun j=>(e,j)
  | _=>none
 | none=>none
theorem lB(hT:∀ t i,T t=some i→bU P t=some i){t:Nat}{ej:Nat × TI}(h:mC T t=some ej):P.underlying t=some (.slice ej.1)∧bU P ej.1=some ej.2:=by
 unfold mC at h
 split at h
 ·rename_i i hi
  split at h
  ·rename_i e he
   rw [jV] at h
   obtain ⟨j,hj,rfl⟩:=h;obtain ⟨d,hd,hk⟩:=eO (hT _ _ hi);rw [he] at hk;rw [nH hk.symm] at hd
   exact ⟨hd,hT _ _ hj⟩
  ·cases h
 ·cases h

def oC(zs:List Value)(n:Nat):List PV:=match zs with
 | [z]=>List.replicate n (.v z)
 | zs=>(List.replicate n (zs.map PV.v)).flatten

theorem aAm(zs:List Value):∀ n,oC zs n=(List.replicate n (zs.map PV.v)).flatten:=by
 intro n;unfold oC
 split
 ·rename_i z
  induction n with
  | zero=>rfl
  | succ n ih=>rw [List.replicate_succ,List.replicate_succ,uZ,ih];rfl
 ·rfl
theorem aNu{zs:List Value}:∀ {n j:Nat},j<n*zs.length→∃ h:j<(oC zs n).length,(oC zs n)[j] = .v (zs.getD (j % zs.length) undef):=by
 intro n;rw [aAm]
 induction n with
 | zero=>intro j hj;simp at hj
 | succ n ih =>
  intro j hj;rw [List.replicate_succ,uZ]
  by_cases hlt:j<zs.length
  ·refine ⟨by simp;omega,?_⟩
   rw [yN (by simpa using hlt),kD,Nat.mod_eq_of_lt hlt]
   simp [Bj,Ap hlt]
  ·rw [aDl] at hj
   obtain ⟨h,e⟩:=ih (j:=j-zs.length) (by omega)
   refine ⟨by rw [fK,A8];omega,?_⟩
   rw [aKs (by simp;omega)]
   simp only [A8];rw [e]
   congr 2
   conv=>rhs;rw [show j=(j-zs.length)+zs.length by omega,Nat.add_mod_right]
theorem lT(zs:List Value)(n:Nat):(oC zs n).length=n*zs.length:=by
 rw [aAm];simp [List.length_flatten,List.map_replicate,List.sum_replicate_nat]

def smake(T:TT)(m:Mem)(id t:Nat)(l c:AV):Ask (AV × Upd):=do
 let ej ← lift (mC T t)
 let l ← lift (toI l)
 let c ← lift (toI c)
 lift (if eG m id=true∧ej.2.zero.length=ej.2.size∧ej.2.zero.all (·.oneCell')=true∧0<ej.2.size∧ej.2.bytes≤100000 then some () else none)
 fC (0≤l.2∧l.2≤c.2∧c.2≤1000000)
 pure (.own id,[(id,.row ej.1 l.2.toNat (oC ej.2.zero l.2.toNat))])

theorem aKl(hT:∀ t i,T t=some i→bU P t=some i)(hM:aO P C M w){id t:Nat}{l c a:AV}{u v:Value}{L:Upd}{s s':AS}(hl:Rep C M w l u)(hc:Rep C M w c v)(h:smake T M id t l c s=some ((a,L),s'))(g:aW s') :
  aW s∧Out P C M w a (upds M L) ((Instr.makeSlice t u v).run P w):=by
 unfold smake at h
 obtain ⟨ej,s1,h1,k1⟩:=aD h;obtain ⟨e1,rfl⟩:=aE h1;obtain ⟨li,s2,h2,k2⟩:=aD k1;obtain ⟨e2,rfl⟩:=aE h2;obtain ⟨ci,s3,h3,k3⟩:=aD k2;obtain ⟨e3,rfl⟩:=aE h3;obtain ⟨_,s5,h5,k5⟩:=aD k3;obtain ⟨e5,rfl⟩:=aE h5;obtain ⟨_,s6,h6,k6⟩:=aD k5;obtain ⟨he,rfl⟩:=aH k6;cases he;obtain ⟨⟨c1,c2,c3⟩,g⟩:=dF h6 g;obtain ⟨⟨hf,hs,D9,hp,hb⟩,_⟩:=bD e5;obtain ⟨hd,hj⟩:=lB hT e1;obtain ⟨inf,_,z',hinf,_,hzz,_,hsz,hby,hzl,_⟩:=eH hj;obtain rfl:=oG (k:=li.1) (n:=li.2) hl e2;obtain rfl:=oG (k:=ci.1) (n:=ci.2) hc e3;rw [fD] at D9
 have hzcs:z'.cells.size=inf.size:=by rw [← Array.length_toList,← hzl,hs,hsz]
 have hcn:(ci.2.toNat:Int)=ci.2:=by omega
 have hrun:=run_make (P:=P) w t ej.1 inf z' hd hinf hzz li.1 ci.1 li.2 ci.2 c1 c2 (by
  rw [← hby,← hcn,← Int.natCast_mul];have:=G7 (n:=ci.2.toNat) (bytes:=ej.2.bytes) (by omega) hb
  rw [Nat.mul_comm] at this
  omega) (by omega)
 have hln:li.2.toNat≤ci.2.toNat:=by omega
 have hmd:∀ j,j<li.2.toNat*ej.2.zero.length→(madeCells z'.cells (ci.2.toNat*inf.size)).getD j undef=ej.2.zero.getD (j % ej.2.zero.length) undef∧(ej.2.zero.getD (j % ej.2.zero.length) undef).oneCell'=true:=fun j hj=>by
  have Cm:j % ej.2.zero.length<ej.2.zero.length:=aWp _ (by omega)
  have hm:j % z'.cells.size<z'.cells.size:=aWp _ (by omega)
  have he:ej.2.zero.getD (j % ej.2.zero.length) undef=ej.2.zero[j % ej.2.zero.length]:=by simp [Bj,Ap Cm]
  refine ⟨?_,by rw [he];exact D9 _ (eT Cm)⟩
  rw [he];have Bp:j<ci.2.toNat*inf.size:=by
   rw [hs,hsz] at hj
   exact B5 hj (Nat.mul_le_mul_right _ hln)
  simp only [madeCells,A4,Array.getElem?_map,Array.getElem?_range,Bp,if_true,Option.map_some,Option.getD_some];rw [getElem!_pos z'.cells (j % z'.cells.size) hm];simp only [hzl,Array.length_toList,Array.getElem_toList]
 obtain ⟨C',u',rfl,q1,q2,q3⟩:=yX (id:=id) (e:=ej.1) (k:=ci.2.toNat) (n:=li.2.toNat) (cs:=oC ej.2.zero li.2.toNat) (arr:=madeCells z'.cells (ci.2.toNat*inf.size)) hM (cA hf) hinf (size_madeCells _ _)
  (by rw [lT,hs,hsz]) (by omega) (by simp [maxLen];omega)
  (fun i hi=>by
   obtain ⟨_,e⟩:=aNu (zs:=ej.2.zero) (n:=li.2.toNat) (j:=i) (by rwa [lT] at hi)
   rw [e,(hmd i (by rwa [lT] at hi)).1];exact .v _)
  (fun i hi=>by
   obtain ⟨h1,h2⟩:=hmd i (by rwa [lT] at hi)
   rw [h1];exact h2) (w1:=w) rfl rfl rfl rfl
 exact ⟨g,C',_,_,hrun,q1,q2,q3⟩

def aAn(z:List Value)(i:Nat):AV := .p (.v (z.getD (i % z.length) undef))

def sbuild(T:TT)(m:Mem)(id t len:Nat)(parts:List (Nat × AV)):Ask (AV × Upd):=do
 let ej ← lift (mC T t)
 lift (if eG m id=true∧ej.2.zero.length=ej.2.size∧ej.2.zero.all (·.oneCell')=true∧len*ej.2.size≤100000∧0<ej.2.size then some () else none)
 match len,parts with
 | 1,[(0,.p (.agg xs))]=>do
  fC (xs.length=ej.2.size)
  pure (.own id,[(id,.row ej.1 1 xs)])
 | len,parts=>do
  let cs ← lift (aAs (fun i=>some (i*ej.2.size,ej.2.size)) ((List.range (len*ej.2.size)).map (aAn ej.2.zero)) parts)
  let xs ← lift (pvs cs)
  pure (.own id,[(id,.row ej.1 len xs)])

theorem bN(l:List Value)(j:Nat):l.toArray.getD j undef=l.getD j undef:=by
 simp [A4,Bj]

theorem aAo(t e:TypeId)(ie:TypeInfo)(len:Nat)(parts:Array (Nat × Value))(cells:Array Value)(z:Value)(hu:P.underlying t=some (.slice e))(hie:P.info? e=some ie)(hz:ie.zero=some z)(hsmall:¬ len*ie.size > 2 ^ 24)
  (h:Instr.fill (fun i=>some (i*ie.size,ie.size)) ((Array.range (len*ie.size)).map (z.cells[· % z.cells.size]!)) parts.toList=some cells) :
  (Instr.buildSlice t len parts).run P w = .ok (.slice (some ⟨w.heap.size,0,none⟩) len len) (w.alloc (.cells cells e)):=by
 by_cases hpos:len*ie.size=0
 ·rw [hpos] at h
  simp [Array.range_zero'] at h
  simp [Instr.buildSlice,run_underlying hu,sizeOf,typeInfo,hie,hpos,h,newRow,Array.range_zero']
 ·exact run_buildSlice w t e len parts cells ie z hu hie hz hsmall hpos h

theorem aEs{pl:Nat→Option (Nat × Nat)}:∀ {l:List (Nat × AV)} {cs A9:List AV},aAs pl cs l=some A9→A9.length=cs.length
 | [],cs,A9,h=>by cases h;rfl
 | (i,v)::l,cs,A9,h=>by
  unfold aAs at h
  split at h
  ·split at h
   ·split at h
    ·rename_i hc
     rw [aEs h];simp;omega
    ·cases h
   ·cases h
  ·cases h

theorem aGq(hT:∀ t i,T t=some i→bU P t=some i)(hM:aO P C M w){id t len:Nat}{l:List (Nat × AV)}{k:Array (Nat × Value)}{a:AV}{L:Upd}{s s':AS}(hr:dZ C M w l k.toList)(h:sbuild T M id t len l s=some ((a,L),s'))(g:aW s') :
  aW s∧Out P C M w a (upds M L) ((Instr.buildSlice t len k).run P w):=by
 unfold sbuild at h
 obtain ⟨ej,s1,h1,k1⟩:=aD h;obtain ⟨e1,rfl⟩:=aE h1;obtain ⟨_,s5,h5,k5⟩:=aD k1;obtain ⟨e5,rfl⟩:=aE h5;obtain ⟨⟨hf,hzs,D9,hlen,hp⟩,_⟩:=bD e5;obtain ⟨hd,hj⟩:=lB hT e1;obtain ⟨inf,_,z,hinf,_,hzz,_,hsz,hby,hzl,_⟩:=eH hj;clear h h1 k1 h5 e5;have hzcs:z.cells.size=inf.size:=by rw [← Array.length_toList,← hzl,hzs,hsz]
 rw [fD] at D9
 have hcell:∀ i,i<len*ej.2.size→((Array.range (len*inf.size)).map (z.cells[· % z.cells.size]!)).getD i undef=ej.2.zero.getD (i % ej.2.zero.length) undef∧(ej.2.zero.getD (i % ej.2.zero.length) undef).oneCell'=true:=fun i hi=>by
  have hm:i % z.cells.size<z.cells.size:=aWp _ (by omega)
  have Cm:i % ej.2.zero.length<ej.2.zero.length:=aWp _ (by omega)
  have he:ej.2.zero.getD (i % ej.2.zero.length) undef=ej.2.zero[i % ej.2.zero.length]:=by simp [Bj,Ap Cm]
  refine ⟨?_,by rw [he];exact D9 _ (eT Cm)⟩
  rw [he];have B2:i<len*inf.size:=by rw [← hsz];exact hi
  have h1:((Array.range (len*inf.size)).map (z.cells[· % z.cells.size]!)).getD i undef=z.cells[i % z.cells.size]! := by
   simp only [A4,Array.getElem?_map,Array.getElem?_range,B2,if_true,Option.map_some,Option.getD_some]
  rw [h1,getElem!_pos z.cells (i % z.cells.size) hm];simp only [hzl,Array.length_toList,Array.getElem_toList]
 have finish:∀ (cells:Array Value) (xs:List PV),Instr.fill (fun i=>some (i*inf.size,inf.size)) ((Array.range (len*inf.size)).map (z.cells[· % z.cells.size]!)) k.toList=some cells→cells.size=len*inf.size→xs.length=len*inf.size →
   (∀ j (h:j<xs.length),bW C.F w xs[j] (cells.getD j undef))→(∀ j,j<xs.length→(cells.getD j undef).oneCell'=true)→Out P C M w (.own id) (aT M id (some (.row ej.1 len xs))) ((Instr.buildSlice t len k).run P w):=by
  intro cells xs hfill hc hx q1 q2;have hb:=aAo (P:=P) (w:=w) t ej.1 inf len k cells z hd hinf hzz (by rw [← hsz];omega) hfill
  have:len≤len*ej.2.size:=Nat.le_mul_of_pos_right _ hp;obtain ⟨C',u',rfl,r1,r2,r3⟩:=yX (id:=id) (e:=ej.1) (k:=len) (n:=len) (cs:=xs) (arr:=cells) hM (cA hf) hinf hc hx (cP _) (by simp [maxLen];omega) q1 q2 (w1:=w) rfl rfl rfl rfl
  exact ⟨C',_,_,hb,r1,r2,r3⟩
 split at k5
 ·rename_i xs
  obtain ⟨_,s6,h6,k6⟩:=aD k5;obtain ⟨he,rfl⟩:=aH k6;cases he;obtain ⟨hl,g⟩:=dF h6 g;refine ⟨g,?_⟩;generalize hkl:k.toList=kl at hr
  cases hr with
  | cons _ _ u _ kk hv D8 =>
   cases D8;cases hv with
   | p _ _ hv =>
    cases hv with
    | agg _ vs h0 h1 h2 =>
     have hz:((Array.range (1*inf.size)).map (z.cells[· % z.cells.size]!)).size=inf.size:=by simp
     obtain ⟨q1,q2⟩:=aAt 0 vs.toList 0 ((Array.range (1*inf.size)).map (z.cells[· % z.cells.size]!)) (by rw [hz];simp;omega)
     rw [← uU] at q1 q2
     have q3:∀ j,j<xs.length→((vs.zipIdx.foldl (fun cs (x:Value × Nat)=>cs.setIfInBounds (0+x.2) x.1) ((Array.range (1*inf.size)).map (z.cells[· % z.cells.size]!))).getD j undef)=vs.getD j undef:=fun j hj=>by
      rw [A4,q2,if_pos ⟨by omega,by simp;omega⟩,A4];simp
     refine finish _ xs ?_ (q1.trans hz |>.trans (Nat.one_mul _).symm) (by omega) (fun j hj=>by rw [q3 j hj];exact h2 j hj) (fun j hj=>by rw [q3 j hj];exact h0 j hj)
     rw [hkl];unfold Instr.fill;simp only [Nat.zero_mul];rw [if_neg]
     ·rfl
     ·rw [hz]
      simp only [Value.cells];simp;refine ⟨decide_eq_false (by omega),by omega⟩
 ·obtain ⟨cs,s6,h6,k6⟩:=aD k5
  obtain ⟨e6,rfl⟩:=aE h6;obtain ⟨xs,s7,h7,k7⟩:=aD k6;obtain ⟨e7,rfl⟩:=aE h7;obtain ⟨he,rfl⟩:=aH k7;cases he;refine ⟨g,?_⟩;have hlz:((List.range (len*ej.2.size)).map (aAn ej.2.zero)).length=len*ej.2.size:=by simp
  obtain ⟨us,q0,q1,q2,q3⟩:=tJ (us:=(Array.range (len*inf.size)).map (z.cells[· % z.cells.size]!)) hr (by rw [hlz,hsz];simp) (fun i hi=>by
   rw [hlz] at hi
   rw [(hcell i hi).1];simp only [kD,List.getElem_range,aAn];exact .p _ _ (.v _)) (fun i hi=>by
   rw [hlz] at hi
   rw [(hcell i hi).1];exact (hcell i hi).2) e6
  rw [hsz] at q0
  obtain ⟨q4,q5⟩:=uX (C:=C) (M:=M) (w:=w) cs xs e7;have hcl:=aEs e6;rw [hlz,hsz] at hcl
  exact finish us xs q0 (by omega) (by omega) (fun j hj=>q5 j (by omega) hj _ (q2 j (by omega))) (fun j hj=>q3 j (by omega))
end
section
variable {P:Program} {T:TT} {C:Cx} {M:Mem} {w:World}

def aKh(m:Mem)(k:TK)(a b:AV):Option Bool :=
 match k,b with
 | .slice _,.p (.v (.slice none 0 0))=>match a with
  | .p (.v (.slice none 0 0))=>some true
  | .p (.sl _ (_::_))=>some false
  | .own id=>match eM m id with
   | some (_,_+1,_)=>some false
   | _=>none
  | _=>none
 | .ptr _,.p (.v (.pointer none))=>match a with
  | .p (.v (.pointer none))=>some true
  | .ptr id _=>if dP m id then some false else none
  | .rp _ _=>some false
  | _=>none
 | .func,.p (.v .nilFunc)=>match a with
  | .p (.v .nilFunc)=>some true
  | .fn _ _ _=>some false
  | .yld _=>some false
  | _=>none
 | _,_=>none

def pQ(T:TT)(m:Mem)(op:BinOp)(t:Nat)(a b:AV):Ask AV:=do
 let i ← lift (T t)
 let q ← lift (aKh m i.k a b)
 match op with
 | .eql=>pure (.kb q)
 | .neq=>pure (.kb (!q))
 | _=>fail

theorem oA{t e:Nat}(hu:P.underlying t=some (.slice e))(p:Option Addr)(n c:Nat):(Op.equal t (.slice p n c) (.slice none 0 0)).run P w = .ok p.isNone w:=by
 have h:∀ d,(Op.equalIn (d+1) t (.slice p n c) (.slice none 0 0)).run P w = .ok p.isNone w:=fun d=>by
  unfold Op.equalIn;cases p <;> simp [run_underlying hu]
 exact h 9999
theorem mA{t e:Nat}(hu:P.underlying t=some (.pointer e))(p:Option Addr):(Op.equal t (.pointer p) (.pointer none)).run P w = .ok p.isNone w:=by
 have h:∀ d,(Op.equalIn (d+1) t (.pointer p) (.pointer none)).run P w = .ok p.isNone w:=fun d=>by
  unfold Op.equalIn;cases p <;> simp [run_underlying hu]
 exact h 9999
theorem oB{t:Nat}{a b c}(hu:P.underlying t=some (.func a b c))(f:Fn)(x y:Array Value):(Op.equal t (.func f x y) .nilFunc).run P w = .ok false w∧(Op.equal t .nilFunc .nilFunc).run P w = .ok true w:=by
 have h:∀ d,(Op.equalIn (d+1) t (.func f x y) .nilFunc).run P w = .ok false w∧(Op.equalIn (d+1) t .nilFunc .nilFunc).run P w = .ok true w:=fun d=>by
  unfold Op.equalIn;simp [run_underlying hu]
 exact h 9999

theorem aNt(hT:∀ t i,T t=some i→bU P t=some i){t:Nat}{i:TI}{a b:AV}{u v:Value}{q:Bool}(hi:T t=some i)(ha:Rep C M w a u)(hb:Rep C M w b v)(h:aKh M i.k a b=some q) :
  (Op.equal t u v).run P w = .ok q w∧(∀ cs,u ≠ .agg cs)∧u ≠ .nilIface∧∀ op,Go.binOp op t u v=(match op with | .eql=>(do pure (.bool (← Op.equal t u v))) | .neq=>(do pure (.bool (!(← Op.equal t u v)))) | op=>Go.binOp op t u v):=by
 obtain ⟨d,hd,hk⟩:=eO (hT _ _ hi);unfold aKh at h
 split at h
 ·rename_i e he
  rw [he] at hk
  have hd:=nH hk.symm ▸ hd;cases hb with | p _ _ hb=>cases hb with | v _ =>
  split at h
  ·cases h
   cases ha with | p _ _ ha=>cases ha with | v _ =>
   exact ⟨oA hd _ _ _,nofun,nofun,fun op=>by cases op <;> rfl⟩
  ·cases h
   cases ha with | p _ _ ha=>cases ha with | sl n cs p cap us h1 h2 h3 h4 h5 =>
   obtain ⟨b,o,rfl,_⟩:=h3 0 (by simp)
   exact ⟨oA hd _ _ _,nofun,nofun,fun op=>by cases op <;> rfl⟩
  ·split at h
   ·cases h
    rename_i id _ _ hr;cases ha with | own _ u h0 ha hrow =>
    rcases hrow _ _ _ (cN hr) with ⟨_,_,hz⟩ | ⟨b,rfl,_⟩
    ·cases hz
    ·exact ⟨oA hd _ _ _,nofun,nofun,fun op=>by cases op <;> rfl⟩
   ·cases h
  ·cases h
 ·rename_i e he
  rw [he] at hk
  have hd:=bPg hk.symm ▸ hd;cases hb with | p _ _ hb=>cases hb with | v _ =>
  split at h
  ·cases h
   cases ha with | p _ _ ha=>cases ha with | v _ =>
   exact ⟨mA hd _,nofun,nofun,fun op=>by cases op <;> rfl⟩
  ·obtain ⟨hl,rfl⟩:=bD h
   obtain ⟨b,rfl,_⟩:=fJ ha hl;exact ⟨mA hd _,nofun,nofun,fun op=>by cases op <;> rfl⟩
  ·cases h
   cases ha with | rp cs off b o us h1 h2 h3 =>
   exact ⟨mA hd _,nofun,nofun,fun op=>by cases op <;> rfl⟩
  ·cases h
 ·rename_i he
  rw [he] at hk
  obtain ⟨x,y,z,rfl⟩:∃ x y z,d = .func x y z:=by cases d <;> simp [kO] at hk;exact ⟨_,_,_,rfl⟩
  cases hb with | p _ _ hb=>cases hb with | v _ =>
  split at h
  ·cases h
   cases ha with | p _ _ ha=>cases ha with | v _ =>
   exact ⟨(oB hd (.yield 0) #[] #[]).2,nofun,nofun,fun op=>by cases op <;> rfl⟩
  ·cases h
   cases ha with | fn f cs ds us vs h1 h2 h3 h4 =>
   exact ⟨(oB hd _ _ _).1,nofun,nofun,fun op=>by cases op <;> rfl⟩
  ·cases h
   cases ha with | yld l =>
   exact ⟨(oB hd _ _ _).1,nofun,nofun,fun op=>by cases op <;> rfl⟩
  ·cases h
 ·cases h

theorem aGp(hT:∀ t i,T t=some i→bU P t=some i){op:BinOp}{t:Nat}{a b x:AV}{u v:Value}{s s':AS}(ha:Rep C M w a u)(hb:Rep C M w b v)(h:pQ T M op t a b s=some (x,s'))(g:aW s') :
  aW s∧∃ r,(Go.binOp op t u v).run P w = .ok r w∧Rep C M w x r∧(∀ cs,u ≠ .agg cs)∧u ≠ .nilIface:=by
 unfold pQ at h
 obtain ⟨i,s1,h1,k1⟩:=aD h;obtain ⟨e1,rfl⟩:=aE h1;obtain ⟨q,s2,h2,k2⟩:=aD k1;obtain ⟨e2,rfl⟩:=aE h2;obtain ⟨h3,h4,h5,h6⟩:=aNt hT e1 ha hb e2;rw [h6 op]
 split at k2
 ·obtain ⟨rfl,rfl⟩:=aH k2
  exact ⟨g,_,by rw [Sem.run_bind,h3,Result.andThen_ok,Sem.run_pure],.kb _,h4,h5⟩
 ·obtain ⟨rfl,rfl⟩:=aH k2
  exact ⟨g,_,by rw [Sem.run_bind,h3,Result.andThen_ok,Sem.run_pure],.kb _,h4,h5⟩
 ·exact (aQ k2).elim

def aDe(xs:List PV)(i:Nat):Option Int:=match xs[i]? with
 | some (.v (.int .i64 n))=>some n
 | _=>none
def mB(xs ys:List PV):List (Nat × Nat × Bool)→Bool
 | []=>true
 | f::r=>aDe xs f.1 == aDe ys f.1 && mB xs ys r
def dL(xs:List PV)(fs:List (Nat × Nat × Bool)):Bool:=fs.all fun f=>(aDe xs f.1).isSome
def aKi(T:TT)(t:Nat):Bool:=match T t with
 | some i=>match i.k with
  | .int .i64=>true
  | _=>false
 | none=>false

def veq(T:TT)(op:BinOp)(t:Nat)(a b:AV):Ask AV:=do
 let i ← lift (T t)
 let fs ← lift (match i.k with | .struct fs=>some fs | _=>none)
 lift (if i.plain=true∧(fs.all fun f=>f.2.2 && aKi T f.2.1)=true then some () else none)
 match a,b with
 | .p (.agg xs),.p (.agg ys)=>do
  fC (dL xs fs=true∧dL ys fs=true)
  match op with
  | .eql=>pure (.p (.v (.bool (mB xs ys fs))))
  | .neq=>pure (.p (.v (.bool (!(mB xs ys fs)))))
  | _=>fail
 | _,_=>fail

theorem bXe{F:Nat→Prop}{x u:Value}(h:bW F w (.v x) u):u=x:=by cases h;rfl

theorem aSt{F:Nat→Prop}{xs:List PV}{vs:Array Value}{i:Nat}(hs:vs.size=xs.length)(hr:∀ i (h:i<xs.length),bW F w xs[i] (vs.getD i undef)){n:Int}(h:aDe xs i=some n):vs[i]? = some (.int .i64 n):=by
 unfold aDe at h
 split at h
 ·rename_i he
  cases h;obtain ⟨hi,hx⟩:=A2.1 he;have:=hr i hi;rw [hx] at this
  have hv:vs.getD i undef = .int .i64 n:=bXe this;rw [A4,pA (by omega)] at hv
  rw [pA (by omega)]
  exact congrArg some hv
 ·cases h

theorem aEr(hT:∀ t i,T t=some i→bU P t=some i){t:Nat}(h:aKi T t=true):P.underlying t=some (.int .i64)∧∀ w,(isAgg t).run P w = .ok false w:=by
 unfold aKi at h
 split at h
 ·rename_i i hi
  split at h
  ·rename_i hk
   obtain ⟨d,hd,E7⟩:=eO (hT _ _ hi);rw [hk] at E7
   rw [aOb E7.symm] at hd
   refine ⟨hd,fun w => ?_⟩
   rw [pV (hT _ _ hi)];unfold TI.agg;rw [hk]
  ·cases h
 ·cases h

theorem aKj(hT:∀ t i,T t=some i→bU P t=some i){e off:Nat}{vs:Array Value}{n:Int}(h:aKi T e=true)(hv:vs[off]? = some (.int .i64 n)):(part e vs off).run P w = .ok (.int .i64 n) w:=by
 unfold part;rw [Sem.run_bind,(aEr hT h).2,Result.andThen_ok];simp [hv]

theorem aKk(hT:∀ t i,T t=some i→bU P t=some i)(d:Nat){F:Nat→Prop}{xs ys:List PV}{us vs:Array Value}(hs:us.size=xs.length)(hr:∀ i (h:i<xs.length),bW F w xs[i] (us.getD i undef))(Iw:vs.size=ys.length)(D8:∀ i (h:i<ys.length),bW F w ys[i] (vs.getD i undef)) :
  ∀ (fl : List Field), ((fl.map fun f => (f.offset, f.type, f.name != "_")).all fun f => f.2.2 && aKi T f.2.1) = true → dL xs (fl.map fun f => (f.offset, f.type, f.name != "_")) = true → dL ys (fl.map fun f => (f.offset, f.type, f.name != "_")) = true →
   (Op.eqFields (d + 1) us vs fl).run P w = .ok (mB xs ys (fl.map fun f => (f.offset, f.type, f.name != "_"))) w
 | [],_,_,_=>by simp [Op.eqFields,mB]
 | f::fl,h,h1,h2=>by
  simp only [gT,List.all_cons,Bg,dL] at h h1 h2
  obtain ⟨⟨hn,hi⟩,h⟩:=h;obtain ⟨Sz,h1⟩:=h1;obtain ⟨S0,h2⟩:=h2;obtain ⟨n,Gc⟩:=Option.isSome_iff_exists.1 Sz;obtain ⟨k,Rb⟩:=Option.isSome_iff_exists.1 S0;have ih:=aKk hT d hs hr Iw D8 fl h (by unfold dL;exact h1) (by unfold dL;exact h2)
  have D5 : f.name ≠ "_" := by simpa using hn
  have e1:=aKj (w:=w) hT hi (aSt hs hr Gc);have e2:=aKj (w:=w) hT hi (aSt Iw D8 Rb);have e3:(Op.equalIn (d+1) f.type (.int .i64 n) (.int .i64 k)).run P w = .ok (n == k) w:=by
   unfold Op.equalIn;simp [run_underlying (aEr hT hi).1]
  simp only [Op.eqFields,if_pos D5,Sem.run_bind,e1,e2,e3,Result.andThen_ok,gT,mB,Gc,Rb]
  by_cases hnk:n=k
  ·subst hnk
   simp only [beq_self_eq_true,Bool.not_true,Bool.false_eq_true,if_false,gU];exact ih
  ·have hb:(n == k)=false:=by simpa using hnk
   have D4:((some n:Option Int) == some k)=false:=by simpa using hnk
   rw [hb,D4];simp

theorem aWh(hT:∀ t i,T t=some i→bU P t=some i){op:BinOp}{t:Nat}{a b x:AV}{u v:Value}{o1 o2:Operand}{s s':AS}(ha:Rep C M w a u)(hb:Rep C M w b v)(h:veq T op t a b s=some (x,s'))(g:aW s') :
  aW s∧(eqGuard op t o1 o2 u v).run P w = .ok () w∧∃ r,(Go.binOp op t u v).run P w = .ok r w∧Rep C M w x r:=by
 unfold veq at h
 obtain ⟨i,s1,h1,k1⟩:=aD h;obtain ⟨e1,rfl⟩:=aE h1;obtain ⟨fs,s2,h2,k2⟩:=aD k1;obtain ⟨e2,rfl⟩:=aE h2;obtain ⟨_,s3,h3,k3⟩:=aD k2;obtain ⟨e3,rfl⟩:=aE h3;obtain ⟨⟨hp,hfs⟩,_⟩:=bD e3;have hi:=hT _ _ e1;have hk:=tK e2;obtain ⟨inf,d,z,_,hd,_,E7,_,_,_,hpl⟩:=eH hi;rw [hk] at E7
 obtain ⟨as,rfl,rfl⟩:=rV E7.symm;rw [hpl] at hp
 simp only [Bg,Bool.not_eq_true'] at hp
 split at k3
 ·rename_i xs ys
  obtain ⟨_,s4,h4,k4⟩:=aD k3;cases ha with | p _ _ ha=>cases ha with | agg _ us q0 q1 q2 =>
  cases hb with | p _ _ hb=>cases hb with | agg _ vs r0 r1 r2 =>
  have hgu:(eqGuard op t o1 o2 (.agg us) (.agg vs)).run P w = .ok () w:=run_eqGuard_agg w op t o1 o2 us vs hp.1;have hfo:P.underlying t=some (.struct (P.fieldsOf t)):=by rw [hd];unfold Program.fieldsOf;rw [hd]
  have hfe:P.fieldsOf t=as:=by unfold Program.fieldsOf;rw [hd]
  have key : dL xs (as.toList.map fun f => (f.offset, f.type, f.name != "_")) = true → dL ys (as.toList.map fun f => (f.offset, f.type, f.name != "_")) = true →
    (Op.equalIn 10000 t (.agg us) (.agg vs)).run P w = .ok (mB xs ys (as.toList.map fun f => (f.offset, f.type, f.name != "_"))) w := fun h1 h2 => by
   have:=run_equalIn_agg (P:=P) w 9999 t us vs hfo hp.2;rw [hfe] at this
   exact this.trans (aKk hT 9998 q1 q2 r1 r2 as.toList hfs h1 h2)
  split at k4
  ·obtain ⟨rfl,rfl⟩:=aH k4
   obtain ⟨⟨h5,h6⟩,g⟩:=dF h4 g;exact ⟨g,hgu,_,by rw [run_eql_struct,key h5 h6];rfl,.p _ _ (.v _)⟩
  ·obtain ⟨rfl,rfl⟩:=aH k4
   obtain ⟨⟨h5,h6⟩,g⟩:=dF h4 g;exact ⟨g,hgu,_,by rw [run_neq_struct,key h5 h6];rfl,.p _ _ (.v _)⟩
  ·exact (aQ k4).elim
 ·exact (aQ k3).elim
end
section
variable {P:Program} {T:TT} {C:Cx} {M:Mem} {w:World}

def tF(m:Mem):AV→Option (PV × Upd)
 | .p x=>some (x,[])
 | .kb b=>some (.v (.bool b),[])
 | .own id=>match eM m id with
  | some r=>some (.sl r.2.1 r.2.2,[(id,.dead)])
  | none=>none
 | _=>none
def tG(m:Mem):List AV→Option (List PV × Upd)
 | []=>some ([],[])
 | x::r=>match tF m x with
  | some (y,L)=>match tG (upds m L) r with
   | some (ys,L')=>some (y::ys,L++L')
   | none=>none
  | none=>none
def nX(m:Mem):AV→Option (PV × Upd)
 | .agg cs=>match tG m cs with
  | some (ys,L)=>some (.agg ys,L)
  | none=>none
 | x=>tF m x

theorem pP:∀ (L L':Upd) (m:Mem),upds m (L++L')=upds (upds m L) L'
 | [],_,_=>rfl
 | (_,_)::L,L',_=>pP L L' _

theorem uL(hM:aO P C M w){x:AV}{u:Value}{y:PV}{L:Upd}(h:Rep C M w x u)(hc:tF M x=some (y,L)):∃ C',Fr C M w C' (upds M L) w∧aO P C' (upds M L) w∧bW C'.F w y u:=by
 unfold tF at hc
 split at hc
 ·cases hc
  cases h with | p _ _ h=>exact ⟨C,Fr.refl ..,hM,h⟩
 ·cases hc
  cases h;exact ⟨C,Fr.refl ..,hM,.v _⟩
 ·split at hc
  ·rename_i id _ r hr
   cases hc;have ho:=cN hr;exact ⟨C.close id true,cE true ho rfl,lC hM true ho rfl,tI hM ho h⟩
  ·cases hc
 ·cases hc

theorem uM:∀ {l:List AV} {us:Nat→Value} {C:Cx} {M:Mem} {ys:List PV} {L:Upd},aO P C M w→(∀ i (h:i<l.length),Rep C M w l[i] (us i))→tG M l=some (ys,L) →
  ∃ C',Fr C M w C' (upds M L) w∧aO P C' (upds M L) w∧ys.length=l.length∧∀ i (h:i<ys.length),bW C'.F w ys[i] (us i)
 | [],us,C,M,ys,L,hM,h,hc=>by cases hc;exact ⟨C,Fr.refl ..,hM,rfl,fun i h=>by simp at h⟩
 | x::r,us,C,M,ys,L,hM,h,hc=>by
  unfold tG at hc
  split at hc
  ·rename_i y L1 h1
   split at hc
   ·rename_i Sx L2 h2
    cases hc;obtain ⟨C1,f1,m1,r1⟩:=uL hM (h 0 (by simp)) h1
    obtain ⟨C2,f2,m2,hl,r2⟩:=uM (us:=fun i=>us (i+1)) m1 (fun i hi=>(h (i+1) (by simpa using hi)).mono (hM.le f1)) h2
    rw [pP];refine ⟨C2,f1.trans f2,m2,by simp [hl],fun i hi => ?_⟩
    cases i with
    | zero=>exact r1.mono (m1.le f2).F (m1.le f2).fz
    | succ i=>exact r2 i (by simpa using hi)
   ·cases hc
  ·cases hc

theorem uN(hM:aO P C M w){x:AV}{u:Value}{y:PV}{L:Upd}(h:Rep C M w x u)(hc:nX M x=some (y,L)):∃ C',Fr C M w C' (upds M L) w∧aO P C' (upds M L) w∧bW C'.F w y u:=by
 unfold nX at hc
 split at hc
 ·rename_i cs
  split at hc
  ·rename_i ys L' h1
   cases hc;cases h with
   | agg _ vs h0 hs hr =>
    obtain ⟨C',f,m,hl,r⟩:=uM (us:=fun i=>vs.getD i undef) hM hr h1
    exact ⟨C',f,m,.agg _ _ (fun i hi=>h0 i (by omega)) (by omega) r⟩
  ·cases hc
 ·exact uL hM h hc

def tH(m:Mem):List (Nat × AV)→Option (List (Nat × AV) × Upd)
 | []=>some ([],[])
 | (i,x)::r=>match nX m x with
  | some (y,L)=>match tH (upds m L) r with
   | some (ys,L')=>some ((i,.p y)::ys,L++L')
   | none=>none
  | none=>none

theorem dZ.le{C':Cx}{M':Mem}{w':World}(hL:Le C C' M M' w w'):∀ {l:List (Nat × AV)} {k:List (Nat × Value)},dZ C M w l k→dZ C' M' w' l k
 | _,_,.nil => .nil
 | _,_,.cons i v u l k h hr => .cons i v u l k (h.mono hL) (dZ.le hL hr)

theorem uO:∀ {l:List (Nat × AV)} {k:List (Nat × Value)} {C:Cx} {M:Mem} {ys:List (Nat × AV)} {L:Upd},aO P C M w→dZ C M w l k→tH M l=some (ys,L) →
  ∃ C',Fr C M w C' (upds M L) w∧aO P C' (upds M L) w∧dZ C' (upds M L) w ys k
 | _,_,C,M,ys,L,hM,.nil,hc=>by cases hc;exact ⟨C,Fr.refl ..,hM,.nil⟩
 | _,_,C,M,ys,L,hM,.cons i v u l k h hr,hc=>by
  unfold tH at hc
  split at hc
  ·rename_i y L1 h1
   split at hc
   ·rename_i Sx L2 h2
    cases hc;obtain ⟨C1,f1,m1,r1⟩:=uN hM h h1;obtain ⟨C2,f2,m2,r2⟩:=uO m1 (hr.le (hM.le f1)) h2;rw [pP];exact ⟨C2,f1.trans f2,m2,.cons _ _ _ _ _ (.p _ _ (r1.mono (m1.le f2).F (m1.le f2).fz)) r2⟩
   ·cases hc
  ·cases hc

theorem Out.of_fr{C1:Cx}{M1 M2:Mem}{x:AV}{r:Result Value}(f:Fr C M w C1 M1 w)(h:Out P C1 M1 w x M2 r):Out P C M w x M2 r:=by
 obtain ⟨C',w',u,h1,h2,h3,h4⟩:=h;exact ⟨C',w',u,h1,f.trans h2,h3,h4⟩

def nY(T:TT)(m:Mem)(id t len:Nat)(parts:List (Nat × AV)):Ask (AV × Upd):=do
 let q ← lift (tH m parts)
 let r ← sbuild T (upds m q.2) id t len q.1
 pure (r.1,q.2++r.2)

theorem aDa(hT:∀ t i,T t=some i→bU P t=some i)(hM:aO P C M w){id t len:Nat}{l:List (Nat × AV)}{k:Array (Nat × Value)}{a:AV}{L:Upd}{s s':AS}(hr:dZ C M w l k.toList)(h:nY T M id t len l s=some ((a,L),s'))(g:aW s') :
  aW s∧Out P C M w a (upds M L) ((Instr.buildSlice t len k).run P w):=by
 unfold nY at h
 obtain ⟨q,s1,h1,k1⟩:=aD h;obtain ⟨e1,rfl⟩:=aE h1;obtain ⟨r,s2,h2,k2⟩:=aD k1;obtain ⟨he,rfl⟩:=aH k2;cases he;obtain ⟨C1,f1,m1,r1⟩:=uO hM hr (ys:=q.1) (L:=q.2) e1;obtain ⟨g,ho⟩:=aGq hT m1 r1 (a:=r.1) (L:=r.2) h2 g;rw [pP];exact ⟨g,ho.of_fr f1⟩

def lR(T:TT)(m:Mem)(t:Nat)(a x:AV):Ask Upd:=do
 match a with
 | .ptr id _=>do
  let o ← lift (bG m id)
  match o with
  | .row _ _ _=>do
   let q ← lift (nX m x)
   let L ← sstore T (upds m q.2) t a (.p q.1)
   pure (q.2++L)
  | _=>sstore T m t a x
 | _=>fail

theorem aDb(hT:∀ t i,T t=some i→bU P t=some i)(hM:aO P C M w){t:Nat}{a x:AV}{u v:Value}{L:Upd}{s s':AS}(ha:Rep C M w a u)(hx:Rep C M w x v)(h:lR T M t a x s=some (L,s'))(g:aW s') :
  aW s∧∃ C' w',(Instr.storeAt t u v).run P w = .ok () w'∧Fr C M w C' (upds M L) w'∧aO P C' (upds M L) w':=by
 unfold lR at h
 split at h
 ·rename_i id off
  obtain ⟨o,s1,h1,k1⟩:=aD h;obtain ⟨e1,rfl⟩:=aE h1
  split at k1
  ·obtain ⟨q,s2,h2,k2⟩:=aD k1
   obtain ⟨e2,rfl⟩:=aE h2;obtain ⟨L',s3,h3,k3⟩:=aD k2;obtain ⟨he,rfl⟩:=aH k3;cases he;obtain ⟨C1,f1,m1,r1⟩:=uN hM hx (y:=q.1) (L:=q.2) e2;obtain ⟨g,w',q1,q2,q3⟩:=uS hT m1 (ha.mono (hM.le f1)) (.p _ _ r1) h3 g;rw [pP];exact ⟨g,C1,w',q1,f1.trans q2,q3⟩
  ·obtain ⟨g,w',q1,q2,q3⟩:=uS hT hM ha hx k1 g
   exact ⟨g,C,w',q1,q2,q3⟩
 ·exact (aQ h).elim

theorem nZ:∀ (M:Mem) (i:Nat) (x:Option AO),M[i]? = some x→aT M i x=M
 | [],i,x,h=>by simp at h
 | y::l,0,x,h=>by simp at h;subst h;rfl
 | y::l,i+1,x,h=>by
  simp only [aT];rw [nZ l i x (by simpa using h)]

def Bv(T:TT)(m:Mem)(t:Nat)(x:AV):Ask (AV × Upd):=do
 let ej ← lift (mC T t)
 let z ← lift (match ej.2.zero with | [z]=>some z | _=>none)
 lift (if z.oneCell' then some () else none)
 match x with
 | .arr id off n=>do
  lift (if dP m id then some () else none)
  let r ← lift (eM m id)
  fC (off+n≤r.2.2.length)
  pure (.any,[(id,.row r.1 r.2.1 (r.2.2.take off++List.replicate n (.v z)++r.2.2.drop (off+(List.replicate n (PV.v z)).length)))])
 | _=>fail

theorem aDc(hT:∀ t i,T t=some i→bU P t=some i)(hM:aO P C M w){t ty:Nat}{x a:AV}{u:Value}{L:Upd}{s s':AS}(hx:Rep C M w x u)(h:Bv T M t x s=some ((a,L),s'))(g:aW s') :
  aW s∧Out P C M w a (upds M L) ((Builtin.clear_ #[t] ty #[u]).run P w):=by
 unfold Bv at h
 obtain ⟨ej,s1,h1,k1⟩:=aD h;obtain ⟨e1,rfl⟩:=aE h1;obtain ⟨z,s2,h2,k2⟩:=aD k1;obtain ⟨e2,rfl⟩:=aE h2;obtain ⟨_,s3,h3,k3⟩:=aD k2;obtain ⟨e3,rfl⟩:=aE h3;obtain ⟨D9,_⟩:=bD e3;obtain ⟨hd,hj⟩:=lB hT e1
 split at k3
 ·rename_i id off n
  obtain ⟨_,s4,h4,k4⟩:=aD k3;obtain ⟨e4,rfl⟩:=aE h4;obtain ⟨hl,_⟩:=bD e4;obtain ⟨o,ho,hol⟩:=cT hl;cases hx with
  | arr _ _ _ u h0 ha hr =>
  obtain ⟨r,s5,h5,k5⟩:=aD k4;obtain ⟨e5,rfl⟩:=aE h5;obtain ⟨_,s6,h6,k6⟩:=aD k5;obtain ⟨he,rfl⟩:=aH k6;cases he;obtain ⟨hle,g⟩:=dF h6 g;have hro:=cN e5;cases n with
  | zero =>
   have hself:upds M [(id,.row r.1 r.2.1 (r.2.2.take off++List.replicate 0 (PV.v z)++r.2.2.drop (off+(List.replicate 0 (PV.v z)).length)))]=M:=by
    simp only [upds,List.replicate_zero,List.append_nil,List.length_nil,Nat.add_zero,aWn];exact nZ M id _ hro
   rw [hself];have hu:∃ p cap,u = .slice p 0 cap:=by
    rcases hr o ho hol with ⟨_,p,cap,hu,_⟩ | ⟨b,cap,hu,_⟩
    ·exact ⟨p,cap,hu⟩
    ·exact ⟨_,cap,hu⟩
   obtain ⟨p,cap,rfl⟩:=hu;have hrun:(Builtin.clear_ #[t] ty #[.slice p 0 cap]).run P w = .ok (.tuple #[]) w:=by
    cases p <;> simp [Builtin.clear_,run_underlying hd]
   exact ⟨g,C,w,_,hrun,Fr.refl ..,hM,.any _⟩
  | succ n =>
   rcases hr _ hro rfl with ⟨hz,_⟩ | ⟨b,cap,rfl,_,_,hb⟩
   ·cases hz
   rcases hM.row _ _ _ _ hro with ⟨hn,_⟩ | ⟨b',cur,inf,Aj,q1,_,q3,q4,q5,_,_⟩
   ·rw [hb] at hn;cases hn
   rw [hb] at Aj;cases Aj
   obtain ⟨Lf,_,z',hinf,_,hzz,_,hsz,_,hzl,_⟩:=eH hj;have hz:ej.2.zero=[z]:=by
    split at e2
    ·cases e2;assumption
    ·cases e2
   have hzc:z'.cells = #[z]:=by
    apply Array.toList_inj.1;rw [← hzl,hz]
   have hlc:r.2.2.length≤cur.size:=by rw [q3,q4];exact Nat.mul_le_mul_right _ q5
   obtain ⟨m1,m2⟩:=uR (off:=off) (xs:=List.replicate (n+1) (.v z)) (vs:=(List.replicate (n+1) z).toArray) hM hro hb q1 (by simp) (by simpa using hle) (fun j hj=>by
     simp at hj
     rw [List.getElem_replicate,bN];simp [Bj,hj];exact .v _) (fun j hj=>by
     simp at hj
     rw [bN];simp [Bj,hj];exact D9)
   have hst:=run_storeCells_at P b off r.1 (List.replicate (n+1) z) 0 cur w q1 (by simp;omega) (fun v hv=>by rw [List.eq_of_mem_replicate hv];exact D9)
   have hzcs:(Builtin.zeroCells z'.cells (n+1)).toList=List.replicate (n+1) z:=by
    rw [hzc];simp [Builtin.zeroCells];apply List.ext_getElem
    ·simp
    ·intro i h1 h2
     simp [Nat.mod_one]
   have hzv:(zeroValue ej.1).run P w = .ok z' w:=by simp [zeroValue,typeInfo,hinf,hzz,program,Sem.run]
   have hrun:(Builtin.clear_ #[t] ty #[.slice (some ⟨b,off,none⟩) (n+1) cap]).run P w = .ok (.tuple #[]) (w.setRow b (cur.toList.take off++(List.replicate (n+1) z).toArray.toList++cur.toList.drop (off+(List.replicate (n+1) z).toArray.toList.length)).toArray):=by
    simp only [Nat.add_zero] at hst
    simp [Builtin.clear_,run_underlying hd,hzv,hzcs,hst]
   exact ⟨g,C,_,_,hrun,m2,m1,.any _⟩
 ·exact (aQ k3).elim
theorem aAj{α:Type}(f:Nat→α)(k:Nat):∀ N:Nat,(List.range (N*k)).map (fun i=>f (i % k))=(List.replicate N ((List.range k).map f)).flatten
 | 0=>by simp
 | N+1=>by
  rw [aDl,Nat.add_comm,List.range_add,eE,sE,List.replicate_succ,uZ,← aAj f k N]
  congr 1
  ·refine yO fun i hi => ?_
   rw [Nat.mod_eq_of_lt (vA.1 hi)]
  ·refine yO fun i _ => ?_
   show f ((k+i) % k)=f (i % k);rw [Nat.add_mod_left]
theorem aAk(a:Array Value)(n:Nat):(Builtin.zeroCells a n).toList=(List.replicate n a.toList).flatten:=by
 have h:=aAj (fun i=>a[i]!) a.size n
 have e:(List.range a.size).map (fun i=>a[i]!)=a.toList:=by
  apply List.ext_getElem
  ·simp
  ·intro i h1 h2
   have h3:i<a.size:=by simpa using h1
   simp [h3]
 rw [e] at h
 unfold Builtin.zeroCells;rw [Array.toList_map,Array.toList_range];exact h
def lS(T:TT)(m:Mem)(t:Nat)(x:AV):Ask (AV × Upd):=do
 let ej ← lift (mC T t)
 lift (if (ej.2.zero.all fun z=>z.oneCell')=true then some () else none)
 match x with
 | .arr id off n=>do
  lift (if dP m id then some () else none)
  let r ← lift (eM m id)
  fC (off+n*ej.2.zero.length≤r.2.2.length)
  pure (.any,[(id,.row r.1 r.2.1 (r.2.2.take off++(List.replicate n (ej.2.zero.map PV.v)).flatten++r.2.2.drop (off+n*ej.2.zero.length)))])
 | _=>fail
theorem sM(hT:∀ t i,T t=some i→bU P t=some i)(hM:aO P C M w){t ty:Nat}{x a:AV}{u:Value}{L:Upd}{s s':AS}(hx:Rep C M w x u)(h:lS T M t x s=some ((a,L),s'))(g:aW s') :
  aW s∧Out P C M w a (upds M L) ((Builtin.clear_ #[t] ty #[u]).run P w):=by
 unfold lS at h
 obtain ⟨ej,s1,h1,k1⟩:=aD h;obtain ⟨e1,rfl⟩:=aE h1;obtain ⟨_,s3,h3,k3⟩:=aD k1;obtain ⟨e3,rfl⟩:=aE h3;obtain ⟨D9,_⟩:=bD e3;obtain ⟨hd,hj⟩:=lB hT e1
 split at k3
 ·rename_i id off n
  obtain ⟨_,s4,h4,k4⟩:=aD k3;obtain ⟨e4,rfl⟩:=aE h4;obtain ⟨hl,_⟩:=bD e4;obtain ⟨o,ho,hol⟩:=cT hl;cases hx with
  | arr _ _ _ u h0 ha hr =>
  obtain ⟨r,s5,h5,k5⟩:=aD k4;obtain ⟨e5,rfl⟩:=aE h5;obtain ⟨_,s6,h6,k6⟩:=aD k5;obtain ⟨he,rfl⟩:=aH k6;cases he;obtain ⟨hle,g⟩:=dF h6 g;have hro:=cN e5;cases n with
  | zero =>
   have hself:upds M [(id,.row r.1 r.2.1 (r.2.2.take off++(List.replicate 0 (ej.2.zero.map PV.v)).flatten++r.2.2.drop (off+0*ej.2.zero.length)))]=M:=by
    simp only [upds,List.replicate_zero,List.flatten_nil,List.append_nil,Nat.zero_mul,Nat.add_zero,aWn];exact nZ M id _ hro
   rw [hself];have hu:∃ p cap,u = .slice p 0 cap:=by
    rcases hr o ho hol with ⟨_,p,cap,hu,_⟩ | ⟨b,cap,hu,_⟩
    ·exact ⟨p,cap,hu⟩
    ·exact ⟨_,cap,hu⟩
   obtain ⟨p,cap,rfl⟩:=hu;have hrun:(Builtin.clear_ #[t] ty #[.slice p 0 cap]).run P w = .ok (.tuple #[]) w:=by
    cases p <;> simp [Builtin.clear_,run_underlying hd]
   exact ⟨g,C,w,_,hrun,Fr.refl ..,hM,.any _⟩
  | succ n =>
   rcases hr _ hro rfl with ⟨hz,_⟩ | ⟨b,cap,rfl,_,_,hb⟩
   ·cases hz
   rcases hM.row _ _ _ _ hro with ⟨hn,_⟩ | ⟨b',cur,inf,Aj,q1,_,q3,q4,q5,_,_⟩
   ·rw [hb] at hn;cases hn
   rw [hb] at Aj;cases Aj
   obtain ⟨Lf,_,z',hinf,_,hzz,_,hsz,_,hzl,_⟩:=eH hj;have hlc:r.2.2.length≤cur.size:=by rw [q3,q4];exact Nat.mul_le_mul_right _ q5
   have hVl:((List.replicate (n+1) ej.2.zero).flatten).length=(n+1)*ej.2.zero.length:=by
    rw [List.length_flatten];simp
   have hX:(List.replicate (n+1) (ej.2.zero.map PV.v)).flatten=((List.replicate (n+1) ej.2.zero).flatten).map PV.v:=by
    rw [List.map_flatten,List.map_replicate]
   have hone:∀ v∈(List.replicate (n+1) ej.2.zero).flatten,v.oneCell'=true:=fun v hv=>by
    obtain ⟨l,hl1,Bu⟩:=List.mem_flatten.1 hv;rw [List.eq_of_mem_replicate hl1] at Bu
    exact fD.1 D9 v Bu
   obtain ⟨m1,m2⟩:=uR (off:=off) (xs:=(List.replicate (n+1) (ej.2.zero.map PV.v)).flatten) (vs:=(List.replicate (n+1) ej.2.zero).flatten.toArray) hM hro hb q1 (by rw [hX];simp) (by rw [hX,A8,hVl];exact hle) (fun j hj=>by
     have Bp:j<((List.replicate (n+1) ej.2.zero).flatten).length:=by rw [hX,A8] at hj;exact hj
     have e1:((List.replicate (n+1) (ej.2.zero.map PV.v)).flatten)[j]=PV.v ((List.replicate (n+1) ej.2.zero).flatten)[j]:=by
      simp only [hX,kD]
     rw [e1,bN,Bj,Ap Bp];exact .v _) (fun j hj=>by
     have Bp:j<((List.replicate (n+1) ej.2.zero).flatten).length:=by rw [hX,A8] at hj;exact hj
     rw [bN,Bj,Ap Bp];exact hone _ (eT Bp))
   have hst:=run_storeCells_at P b off r.1 ((List.replicate (n+1) ej.2.zero).flatten) 0 cur w q1 (by rw [hVl];omega) hone
   have hzcs:(Builtin.zeroCells z'.cells (n+1)).toList=(List.replicate (n+1) ej.2.zero).flatten:=by rw [aAk,hzl]
   have hzv:(zeroValue ej.1).run P w = .ok z' w:=by simp [zeroValue,typeInfo,hinf,hzz,program,Sem.run]
   have hrun:(Builtin.clear_ #[t] ty #[.slice (some ⟨b,off,none⟩) (n+1) cap]).run P w = .ok (.tuple #[]) (w.setRow b (cur.toList.take off++(List.replicate (n+1) ej.2.zero).flatten.toArray.toList++cur.toList.drop (off+(List.replicate (n+1) ej.2.zero).flatten.toArray.toList.length)).toArray):=by
    simp only [Nat.add_zero] at hst
    simp [Builtin.clear_,run_underlying hd,hzv,hzcs,hst]
   have hxl:(List.replicate (n+1) (ej.2.zero.map PV.v)).flatten.length=(n+1)*ej.2.zero.length:=by rw [hX,A8,hVl]
   rw [hxl] at m1 m2
   exact ⟨g,C,_,_,hrun,m2,m1,.any _⟩
 ·exact (aQ k3).elim
def sclear(T:TT)(m:Mem)(t:Nat)(x:AV):Ask (AV × Upd):=match mC T t with
 | some ej=>match ej.2.zero with
  | [_]=>Bv T m t x
  | _=>lS T m t x
 | none=>fail
theorem aGo(hT:∀ t i,T t=some i→bU P t=some i)(hM:aO P C M w){t ty:Nat}{x a:AV}{u:Value}{L:Upd}{s s':AS}(hx:Rep C M w x u)(h:sclear T M t x s=some ((a,L),s'))(g:aW s') :
  aW s∧Out P C M w a (upds M L) ((Builtin.clear_ #[t] ty #[u]).run P w):=by
 unfold sclear at h
 cases he:mC T t with
 | none=>rw [he] at h;exact (aQ h).elim
 | some ej =>
  rw [he] at h
  dsimp only at h
  cases hz:ej.2.zero with
  | nil=>rw [hz] at h;exact sM hT hM hx h g
  | cons z l =>
   cases l with
   | nil=>rw [hz] at h;exact aDc hT hM hx h g
   | cons z2 l=>rw [hz] at h;exact sM hT hM hx h g
def scopy(T:TT)(m:Mem)(t:Nat)(x y:AV):Ask (AV × Upd):=do
 let ej ← lift (mC T t)
 lift (if 0<ej.2.size then some () else none)
 let sy ← lift (sO m ej.2.size y)
 match x with
 | .own id=>do
  let r ← lift (eM m id)
  lift (if r.1=ej.1 then some () else none)
  fC (sy.2.length=(match Nat.beq ej.2.size 1 with | true=>sy.1 | false=>sy.1*ej.2.size)∧sy.1=r.2.1)
  pure (.p (.v (.int .i64 (sy.1:Int))),[(id,.row r.1 r.2.1 sy.2)])
 | _=>fail

theorem aDd(w:World)(dT sT ty elem:TypeId)(g o dLen dCap:Nat)(a:Addr)(sLen sCap k:Nat)(cur:Array Value)(t:TypeId)(cs:List Value)
  (hu:P.underlying dT=some (.slice elem)) (hs:(P.info? elem).map (·.size)=some k)
  (hg:w.heap[g]? = some (.cells cur t (0,0))) (hn:cs.length=Nat.min sLen dLen*k)
  (hsrc:∀ j v,cs[j]? = some v→w.cell? (a.add j)=some v) (hfit:o+cs.length≤cur.size) (h1:∀ v∈cs,v.oneCell'=true) :
  (Builtin.copy_ #[dT,sT] ty #[.slice (some ⟨g,o,none⟩) dLen dCap,.slice (some a) sLen sCap]).run P w =
   .ok (goInt (Nat.min sLen dLen)) (w.setRow g (cur.toList.take o++cs++cur.toList.drop (o+cs.length)).toArray):=by
 have hl:=run_loadCells_list (P:=P) w a cs hsrc;have hst:=run_storeCells_at P g o t cs 0 cur w hg (by simpa using hfit) h1
 cases hq:P.info? elem with
 | none=>simp [hq] at hs
 | some i =>
  have hi:i.size=k:=by simpa [hq] using hs
  simp [Builtin.copy_,run_underlying hu,Builtin.lenOf,Builtin.firstCells,sizeOf,typeInfo,hq,hi,← hn,hl,hst]
theorem aAl(w:World)(dT sT ty elem:TypeId)(d a:Option Addr)(dLen dCap sLen sCap k:Nat)(hu:P.underlying dT=some (.slice elem))(hs:(P.info? elem).map (·.size)=some k)(hn:Nat.min sLen dLen=0) :
  (Builtin.copy_ #[dT,sT] ty #[.slice d dLen dCap,.slice a sLen sCap]).run P w = .ok (goInt 0) w:=by
 cases hq:P.info? elem with
 | none=>simp [hq] at hs
 | some i =>
  have hl:∀ (x:Addr),(loadCells x 0).run P w = .ok #[] w:=fun x=>by simpa using run_loadCells_list (P:=P) w x [] (by simp)
  cases d <;> cases a <;> simp [Builtin.copy_,run_underlying hu,Builtin.lenOf,Builtin.firstCells,sizeOf,typeInfo,hq,hn,storeCells,hl]


theorem aKg(hT:∀ t i,T t=some i→bU P t=some i)(hM:aO P C M w){t t2 ty:Nat}{x y a:AV}{u v:Value}{L:Upd}{s s':AS}(hx:Rep C M w x u)(hy:Rep C M w y v)(h:scopy T M t x y s=some ((a,L),s'))(g:aW s') :
  aW s∧Out P C M w a (upds M L) ((Builtin.copy_ #[t,t2] ty #[u,v]).run P w):=by
 unfold scopy at h
 obtain ⟨ej,s1,h1,k1⟩:=aD h;obtain ⟨e1,rfl⟩:=aE h1;obtain ⟨_,s2,h2,k2⟩:=aD k1;obtain ⟨e2,rfl⟩:=aE h2;obtain ⟨hz,_⟩:=bD e2;obtain ⟨sy,s3,h3,k3⟩:=aD k2;obtain ⟨e3,rfl⟩:=aE h3;obtain ⟨hd,hj⟩:=lB hT e1;have hsz:(P.info? ej.1).map (·.size)=some ej.2.size:=by
  obtain ⟨inf,d,z,q1,_,_,_,q2,_⟩:=eH hj;rw [q1];simp [← q2]
 generalize hk:ej.2.size=k at *
 split at k3
 ·rename_i id
  obtain ⟨r,s4,h4,k4⟩:=aD k3;obtain ⟨e4,rfl⟩:=aE h4;obtain ⟨_,s5,h5,k5⟩:=aD k4;obtain ⟨e5,rfl⟩:=aE h5;obtain ⟨hre,_⟩:=bD e5;obtain ⟨_,s6,h6,k6⟩:=aD k5;obtain ⟨he,rfl⟩:=aH k6;cases he;obtain ⟨hq,g⟩:=dF h6 g;have hg:sy.2.length=sy.1*k∧sy.1=r.2.1:=by
   obtain ⟨O3,Sy⟩:=hq;refine ⟨?_,Sy⟩
   split at O3
   ·rename_i hb
    rw [O3,Nat.eq_of_beq_eq_true hb,Nat.mul_one]
   ·exact O3
  obtain ⟨hl1,Bu⟩:=hg;refine ⟨g,?_⟩;have ho:=cN e4;obtain ⟨p,cap,us,hsrc⟩:=pR hM (k:=k) (n:=sy.1) (cs:=sy.2) hy e3 hl1;obtain ⟨n1,Dv⟩:=sy;obtain ⟨ty1,n,cs⟩:=r;dsimp only at hl1 Bu hre ho hsrc ⊢
  subst Bu;subst hre;obtain rfl:=hsrc.eq;have nothing:∀ (q:Option Addr) (c:Nat),n1=0→u = .slice q n1 c→cs=[]→Out P C M w (.p (.v (.int .i64 (n1:Int)))) (upds M [(id,.row ej.1 n1 Dv)]) ((Builtin.copy_ #[t,t2] ty #[u,.slice p n1 cap]).run P w):=fun q c h0 hu hc=>by
   have Ra:Dv=[]:=aDh (by rw [hl1,h0,Nat.zero_mul])
   subst Ra;subst hc;have hself:upds M [(id,.row ej.1 n1 [])]=M:=by simp only [upds];exact nZ M id _ ho
   rw [hself,hu];refine ⟨C,w,_,aAl w t t2 ty ej.1 q p n1 c n1 cap k hd hsz (by rw [h0];rfl),Fr.refl ..,hM,?_⟩
   rw [h0];exact .p _ _ (.v _)
  cases hx with
  | own _ u h0 ha hr =>
   rcases hr _ _ _ ho with ⟨hu,hι,hn⟩ | ⟨b,hu,hb⟩
   ·rcases hM.row _ _ _ _ ho with ⟨_,_,hc⟩ | ⟨b',arr,inf,Aj,_⟩
    ·exact nothing none 0 hn (by rw [hu,hn]) hc
    ·rw [hι] at Aj;cases Aj
   ·rcases hM.row _ _ _ _ ho with ⟨D5,_⟩ | ⟨b',arr,inf,Aj,q1,q2,q3,q4,q5,q6,q7,q8⟩
    ·rw [hb] at D5;cases D5
    ·rw [hb] at Aj;cases Aj
     have his:inf.size=k:=by rw [q2] at hsz;simpa using hsz
     have hcl:cs.length=n1*k:=by rw [q4,his]
     by_cases Lg:n1=0
     ·exact nothing _ _ Lg hu (aDh (by rw [hcl,Lg,Nat.zero_mul]))
     ·have hpos:0<Dv.length:=by rw [hl1];exact Nat.mul_pos (by omega) hz
      have hsize:Dv.length≤arr.size:=by rw [hl1,q3,his];exact Nat.mul_le_mul_right _ q5
      obtain ⟨b2,o2,rfl,_⟩:=hsrc.at_ 0 hpos;have hcell:∀ j,j<Dv.length→w.cell? ⟨b2,o2+j,none⟩=some (us j):=fun j Bp=>by
       obtain ⟨b3,o3,he,hc⟩:=hsrc.at_ j Bp;cases he;exact hc
      have hvl:(vals Dv.length us).length=Dv.length:=by simp [vals]
      have hva:∀ j,j<Dv.length→(vals Dv.length us).toArray.getD j undef=us j:=fun j Bp=>by simp [vals,A4,Bp]
      obtain ⟨m1,f1⟩:=uR (xs:=Dv) (off:=0) (vs:=(vals Dv.length us).toArray) hM ho hb q1 (by simp [hvl]) (by omega) (fun j Bp=>by rw [hva j Bp];exact hsrc.rep j Bp) (fun j Bp=>by rw [hva j Bp];exact hsrc.one j Bp)
      have hrun:=aDd (P:=P) w t t2 ty ej.1 b 0 n1 (C.κ id) ⟨b2,o2,none⟩ n1 cap k arr ej.1 (vals Dv.length us) hd hsz q1 (by rw [hvl,hl1];rw [show Nat.min n1 n1=n1 from Nat.min_self n1]) (fun j v hv=>by
       obtain ⟨Bp,rfl⟩:=A2.1 hv;have Dm:j<Dv.length:=by omega
       have:(vals Dv.length us)[j]=us j:=by simp [vals]
       rw [this]
       rcases Nat.eq_zero_or_pos j with h0 | hp
       ·subst h0;simpa [Addr.add] using hcell 0 Dm
       ·simpa [Addr.add,Nat.ne_of_gt hp] using hcell j Dm) (by rw [hvl];omega) (fun v hv=>by
       obtain ⟨j,Bp,rfl⟩:=List.mem_iff_getElem.1 hv;have Dm:j<Dv.length:=by omega
       have:(vals Dv.length us)[j]=us j:=by simp [vals]
       rw [this];exact hsrc.one j Dm)
      have hcs:cs.take 0++Dv++cs.drop (0+Dv.length)=Dv:=by
       rw [List.take_zero,List.nil_append,List.drop_eq_nil_of_le (by omega),List.append_nil]
      rw [hcs] at m1 f1
      rw [hu];refine ⟨C,_,_,hrun,?_,?_,?_⟩
      ·simpa [upds] using f1
      ·simpa [upds] using m1
      ·rw [show Nat.min n1 n1=n1 from Nat.min_self n1];exact .p _ _ (.v _)
 ·exact (aQ k3).elim
end
section
open Go.Maps
open Go.ChangeMaps (setBlock)
variable {P:Program} {T:TT} {C:Cx} {M:Mem} {w:World}

def gS:Value→Int
 | .int _ k=>k
 | _=>0
def aKc(q:IntKind):Value→Bool
 | .int q' k=>decide (q'=q) && (Lit.int q k).wf
 | _=>false
def bV(q:IntKind)(es:List (Value × PV))(kv:Value):Prop:=(∀ e∈es,aKc q e.1=true)∧aKc q kv=true∧(es.map fun e=>gS e.1).Nodup
instance (q:IntKind) (es:List (Value × PV)) (kv:Value):Decidable (bV q es kv):=by unfold bV;infer_instance
def cV(es:List (Value × PV))(kv:Value):Bool:=es.any fun e=>decide (gS e.1=gS kv)
def bPf:AV→Option PV
 | .p y=>some y
 | .kb b=>some (.v (.bool b))
 | _=>none
def eL(es:List (Value × PV))(kv:Value):Option PV:=match es.find? fun e=>decide (gS e.1=gS kv) with
 | some e=>some e.2
 | none=>none
def nW:List (Value × PV)→Value→PV→List (Value × PV)
 | [],_,_=>[]
 | e::r,kv,x=>if gS e.1=gS kv then (kv,x)::r else e::nW r kv x

def smap(m:Mem)(id:Nat):Ask (AV × Upd):=do
 lift (if eG m id then some () else none)
 pure (.mp id,[(id,.mp [] 0)])
def bIs:TK→Option (Nat × Nat)
 | .map k e=>some (k,e)
 | _=>none
def bIt:TK→Option IntKind
 | .int q=>some q
 | _=>none
def aAi(m:Mem):AV→Option (Nat × List (Value × PV) × Nat)
 | .mp id=>match bG m id with
  | some (.mp es cl)=>some (id,es,cl)
  | _=>none
 | _=>none
def aEo(m:Mem)(a:AV):Option (List (Value × PV)):=match a with
 | .p (.mp es)=>some es
 | _=>match aAi m a with
  | some x=>some x.2.1
  | none=>none
def aSs:AV→Option Value
 | .p (.v kv)=>some kv
 | _=>none
def slook(P:Program)(T:TT)(m:Mem)(t:Nat)(a k:AV)(ok:Bool):Ask AV:=do
 let i ← lift (T t)
 let ke ← lift (bIs i.k)
 let es ← lift (aEo m a)
 let kv ← lift (aSs k)
 let ik ← lift (T ke.1)
 let q ← lift (bIt ik.k)
 fC (bV q es kv)
 let d ← aOc (cV es kv)
 match d with
 | true=>do
  let x ← aOd (eL es kv)
  pure (if ok then .tup [.p x,.kb true] else .p x)
 | false=>do
  let inf ← lift (P.info? ke.2)
  let z ← lift inf.zero
  pure (if ok then .tup [.p (cv z),.kb false] else .p (cv z))
def sput(T:TT)(m:Mem)(t:Nat)(a k x:AV):Ask Upd:=do
 let i ← lift (T t)
 let ke ← lift (bIs i.k)
 let mm ← lift (aAi m a)
 let kv ← lift (aSs k)
 let ik ← lift (T ke.1)
 let q ← lift (bIt ik.k)
 fC (bV q mm.2.1 kv)
 let y ← lift (bPf x)
 let d ← aOc (cV mm.2.1 kv)
 match d with
 | true=>pure [(mm.1,.mp (nW mm.2.1 kv y) mm.2.2)]
 | false=>pure [(mm.1,.mp (mm.2.1++[(kv,y)]) (mm.2.2+1))]

theorem aKd{d:TypeDesc}{x:Nat × Nat}(h:bIs (kO d)=some x):d = .map x.1 x.2:=by
 cases hd:kO d <;> rw [hd] at h <;> simp [bIs] at h
 subst h;exact bEb hd
theorem aKe{d:TypeDesc}{q:IntKind}(h:bIt (kO d)=some q):d = .int q:=by
 cases hd:kO d <;> rw [hd] at h <;> simp [bIt] at h
 subst h;exact aOb hd
theorem aEp{m:Mem}{a:AV}{x:Nat × List (Value × PV) × Nat}(h:aAi m a=some x):a = .mp x.1∧bG m x.1=some (.mp x.2.1 x.2.2):=by
 unfold aAi at h
 split at h
 ·split at h
  ·rename_i h2
   cases h;exact ⟨rfl,h2⟩
  ·cases h
 ·cases h
theorem aEq{k:AV}{kv:Value}(h:aSs k=some kv):k = .p (.v kv):=by
 unfold aSs at h
 split at h
 ·cases h;rfl
 ·cases h
theorem lA{q:IntKind}{v:Value}(h:aKc q v=true):∃ k,v = .int q k∧(Lit.int q k).wf=true:=by
 cases v <;> simp [aKc] at h
 rename_i q' k;obtain ⟨rfl,h⟩:=h;exact ⟨k,rfl,h⟩
theorem bDw{x:AV}{y:PV}{u:Value}(h:Rep C M w x u)(e:bPf x=some y):bW C.F w y u:=by
 cases x <;> simp [bPf] at e
 ·subst e;cases h;assumption
 ·subst e
  cases h;exact .v _
theorem aGn{id:Nat}{u:Value}{es:List (Value × PV)}{cl:Nat}(hM:aO P C M w)(h:Rep C M w (.mp id) u)(ho:bG M id=some (.mp es cl)) :
  ∃ b arr,u = .map (some b)∧C.ι id=some b∧w.heap[b]? = some (.map arr cl)∧arr.size=es.length∧∀ j (h:j<es.length),∃ e,arr[j]? = some e∧e.key=es[j].1∧e.born<cl∧bW C.F w es[j].2 e.val:=by
 replace ho:=dJ ho
 cases h with
 | mp id u h0 ha h =>
  obtain ⟨b,rfl,hb⟩:=h _ ho rfl;obtain ⟨b',arr,Aj,h1,h2,h3⟩:=hM.mp _ _ _ ho;rw [hb] at Aj;cases Aj
  exact ⟨b,arr,rfl,hb,h1,h2,h3⟩

theorem bIu{a:AV}{u:Value}{es:List (Value × PV)}(hM:aO P C M w)(h:Rep C M w a u)(e:aEo M a=some es) :
  ∃ b arr cl,u = .map (some b)∧w.heap[b]? = some (.map arr cl)∧arr.size=es.length∧∀ j (h:j<es.length),∃ e,arr[j]? = some e∧e.key=es[j].1∧e.born<cl∧bW C.F w es[j].2 e.val:=by
 unfold aEo at e
 split at e
 ·cases e
  cases h with
  | p _ _ h =>
   cases h with
   | mp _ b cl arr us hb h0 h1 h2 h3 =>
    refine ⟨b,arr,cl,rfl,h0,h1,fun j hj => ?_⟩
    obtain ⟨en,q1,q2,q3,q4⟩:=h2 j hj;exact ⟨en,q1,q2,q3,q4 ▸ h3 j hj⟩
 ·split at e
  ·rename_i x hx
   cases e;obtain ⟨rfl,ho⟩:=aEp hx;obtain ⟨b,arr,rfl,_,q1,q2,q3⟩:=aGn hM h ho;exact ⟨b,arr,_,rfl,q1,q2,q3⟩
  ·cases e

theorem aNr(hM:aO P C M w){id t:Nat}{x:AV}{L:Upd}{s s':AS}(h:smap M id s=some ((x,L),s'))(g:aW s') :
  aW s∧Out P C M w x (upds M L) ((Instr.makeMap t none).run P w):=by
 unfold smap at h
 obtain ⟨_,s1,h1,k1⟩:=aD h;obtain ⟨e1,rfl⟩:=aE h1;obtain ⟨hf,_⟩:=bD e1;obtain ⟨hx,rfl⟩:=aH k1;cases hx;have hf:=cA hf;refine ⟨g,C.grow id w.heap.size 0,w.alloc (.map #[] 0),.map (some w.heap.size),rfl,wC hf _ _,rS hM hf _ _ (fun _ _ _ h=>by cases h) (fun _ _ h=>by cases h) (fun es cl h=>by cases h;exact ⟨rfl,rfl⟩),?_⟩
 refine .mp id _ rfl ⟨_,aS ..⟩ fun o _ _=>⟨_,rfl,by simp [Cx.grow]⟩

theorem yW{q:IntKind}{kt:Nat}(hkt:P.underlying kt=some (.int q)){es:List (Value × PV)}{kv:Value}{arr:Array MapEntry}{cl:Nat}(hK:bV q es kv)(hsz:arr.size=es.length)
  (hA:∀ j (h:j<es.length),∃ e,arr[j]? = some e∧e.key=es[j].1∧e.born<cl∧bW C.F w es[j].2 e.val) :
  (cV es kv=false∧(Instr.findKey kt kv arr.toList).run P w = .ok none w) ∨
  (cV es kv=true∧∃ j e,∃ h:j<es.length,(Instr.findKey kt kv arr.toList).run P w = .ok (some (j,e.val)) w∧arr[j]? = some e∧e.key=kv∧es[j].1=kv∧bW C.F w es[j].2 e.val∧e.born<cl ∧
   (es.find? fun e=>decide (gS e.1=gS kv))=some es[j]∧∀ x,nW es kv x=es.set j (kv,x)):=by
 obtain ⟨k1,k2,k3⟩:=hK;have K:=int_keyed hkt;obtain ⟨k,rfl,hk⟩:=lA k2;have hkey:keyOf P kt (.int q k)=some (.int q k):=keyOf_int_mk hkt hk;have hmem:∀ e∈arr.toList,∃ j,∃ h:j<es.length,arr[j]? = some e∧e.key=es[j].1:=fun e he=>by
  obtain ⟨j,hj,rfl⟩:=List.getElem_of_mem he;have Bp:j<es.length:=by simpa [hsz] using hj
  obtain ⟨e',h1,h2,_⟩:=hA j Bp;have:arr[j]? = some arr.toList[j]:=by simp at hj;simp [hj]
  rw [this] at h1
  cases h1;exact ⟨j,Bp,this,h2⟩
 have hes:∀ e∈arr.toList,∃ l,keyOf P kt e.key=some l:=fun e he=>by
  obtain ⟨j,hj,_,h2⟩:=hmem e he;obtain ⟨n,h3,h4⟩:=lA (k1 es[j] (eT hj));rw [h2,h3];exact ⟨_,keyOf_int_mk hkt h4⟩
 rcases K.find w hkey arr.toList hes with ⟨h1,h2⟩ | ⟨j,e0,h1,h2,h3⟩
 ·refine .inl ⟨?_,h1⟩
  unfold cV;rw [List.any_eq_false];intro e he;obtain ⟨j,hj,rfl⟩:=List.getElem_of_mem he;obtain ⟨e',q1,q2,_⟩:=hA j hj;have hin:e'∈arr.toList:=by
   have:=Bf (l:=arr.toList) (i:=j) (a:=e') (by simpa using q1)
   exact this
  have hne:=h2 e' hin;rw [q2] at hne
  obtain ⟨n,h3,_⟩:=lA (k1 es[j] (eT hj));rw [h3] at hne ⊢
  simp only [gS];exact fun e=>hne (by rw [of_decide_eq_true e])
 ·have Eo:arr[j]? = some e0:=by simpa using h2
  have hj:j<es.length:=by
   obtain ⟨h,_⟩:=kP.1 Eo;omega
  obtain ⟨e',q1,q2,q3,q4⟩:=hA j hj;rw [Eo] at q1
  cases q1;have hkj:es[j].1 = .int q k:=by rw [← q2,h3]
  have hu:∀ i (hi:i<es.length),gS es[i].1=k→i=j:=fun i hi he=>by
   have hp:=List.pairwise_iff_getElem.1 k3;have K7:gS es[j].1=k:=by rw [hkj];rfl
   rcases Nat.lt_trichotomy i j with hl | hl | hl
   ·exact absurd (by rw [kD,kD,he,K7]) (hp i j (by simpa using hi) (by simpa using hj) hl)
   ·exact hl
   ·exact absurd (by rw [kD,kD,he,K7]) (hp j i (by simpa using hj) (by simpa using hi) hl)
  refine .inr ⟨List.any_eq_true.2 ⟨es[j],eT hj,by simp [hkj]⟩,j,e0,hj,h1,Eo,h3,hkj,q4,q3,?_,?_⟩
  ·rw [List.find?_eq_some_iff_getElem]
   refine ⟨by simp [hkj],j,hj,rfl,fun i hi => ?_⟩
   have B2:i<es.length:=by omega
   have:¬ gS es[i].1=k:=fun he=>by have:=hu i B2 he;omega
   simpa using (show ¬ gS es[i].1=gS (.int q k) from this)
  ·intro x
   clear hA hmem hes h1 h2 Eo hsz q2 q3 q4 k1
   induction es generalizing j with
   | nil=>simp at hj
   | cons e r ih =>
    unfold nW;cases j with
    | zero =>
     have:e.1 = .int q k:=hkj;rw [if_pos (by rw [this])];rfl
    | succ j =>
     have hne:¬ gS e.1=gS (.int q k):=fun he=>by have:=hu 0 (by simp) he;omega
     rw [if_neg hne,List.set_cons_succ];rw [ih (List.nodup_cons.1 k3).2 j (by simpa using hj) (by simpa using hkj) (fun i hi he=>by have:=hu (i+1) (by simpa using hi) (by simpa using he);omega)]

theorem aKf(hT:∀ t i,T t=some i→bU P t=some i)(hM:aO P C M w){t:Nat}{a k x:AV}{ok:Bool}{u v:Value}{s s':AS}(ha:Rep C M w a u)(hk:Rep C M w k v)
  (h:slook P T M t a k ok s=some (x,s')) (g:aW s'):aW s∧∃ r,(Instr.lookup t u v ok).run P w = .ok r w∧Rep C M w x r:=by
 unfold slook at h
 obtain ⟨i,s1,h1,k1⟩:=aD h;obtain ⟨e1,rfl⟩:=aE h1;clear h h1;have hi:=hT _ _ e1;obtain ⟨⟨kt,et⟩,Ss,Cg,K8⟩:=aD k1;obtain ⟨hik,rfl⟩:=aE Cg;obtain ⟨es,Su,Cc,K9⟩:=aD K8;obtain ⟨hma,rfl⟩:=aE Cc;obtain ⟨kv,Sv,Dp,La⟩:=aD K9;obtain ⟨hkk,rfl⟩:=aE Dp;obtain ⟨ik,s2,h2,Lb⟩:=aD La;obtain ⟨e2,rfl⟩:=aE h2;obtain ⟨q,Sw,D6,k2⟩:=aD Lb;obtain ⟨Ld,rfl⟩:=aE D6;obtain rfl:=aEq hkk;dsimp only at k2 e2
 clear k1 Cg K8 Cc K9 Dp La h2 Lb D6 hkk;obtain ⟨_,s3,h3,k3⟩:=aD k2;obtain ⟨d,s4,h4,k4⟩:=aD k3;obtain ⟨dm,hu,hum⟩:=eO hi;obtain ⟨dk,hku,hkm⟩:=eO (hT _ _ e2);rw [hum] at hik
 rw [hkm] at Ld
 have hum:=aKd hik;have hkm:=aKe Ld;dsimp only at hum
 subst hum hkm;obtain ⟨b,arr,cl,rfl,hh,hsz,hA⟩:=bIu hM ha hma;have hv:v=kv:=by cases hk with | p _ _ h=>cases h;rfl
 subst hv;have K:=int_keyed hku;cases d with
 | true =>
  obtain ⟨y,s5,h5,k5⟩:=aD k4;obtain ⟨rfl,rfl⟩:=aH k5;obtain ⟨c5,g⟩:=bEe h5 g;obtain ⟨c4,g⟩:=aKq h4 g;obtain ⟨c3,g⟩:=dF h3 g;obtain ⟨kk,hkv,hkw⟩:=lA c3.2.1;have hkey:keyOf P kt v=some (.int q kk):=by rw [hkv];exact keyOf_int_mk hku hkw
  rcases yW hku c3 hsz hA with ⟨f1,_⟩ | ⟨_,j,e,hj,f1,f2,f3,f4,f5,_,f6,_⟩
  ·rw [c4] at f1;cases f1
  unfold eL at c5
  rw [f6] at c5
  obtain rfl:=Option.some.inj c5;have hr:Rep C M w (.p es[j].2) e.val := .p _ _ f5;refine ⟨g,if ok then .tuple #[e.val,.bool true] else e.val,?_,?_⟩
  ·simp [Instr.lookup,run_underlying hu,MapKept.run_getObj_map hh,K.check w _ hkey,f1,Result.andThen]
  ·cases ok with
   | false=>exact hr
   | true =>
    exact .tup _ _ rfl fun i hi=>by
     match i,hi with
     | 0,_=>exact hr
     | 1,_=>exact .kb true
 | false =>
  obtain ⟨inf,s5,h5,k5⟩:=aD k4;obtain ⟨e5,rfl⟩:=aE h5;obtain ⟨z,s6,h6,k6⟩:=aD k5;obtain ⟨e6,rfl⟩:=aE h6;obtain ⟨rfl,rfl⟩:=aH k6;obtain ⟨c4,g⟩:=aKq h4 g;obtain ⟨c3,g⟩:=dF h3 g;obtain ⟨kk,hkv,hkw⟩:=lA c3.2.1;have hkey:keyOf P kt v=some (.int q kk):=by rw [hkv];exact keyOf_int_mk hku hkw
  have hz:(zeroValue et).run P w = .ok z w:=by simp [zeroValue,typeInfo,e5,e6,program,Sem.run]
  rcases yW hku c3 hsz hA with ⟨_,f1⟩ | ⟨f1,_⟩
  rotate_left
  ·rw [c4] at f1;cases f1
  have hr:Rep C M w (.p (cv z)) z := .p _ _ (bEc _ _ _);refine ⟨g,if ok then .tuple #[z,.bool false] else z,?_,?_⟩
  ·simp [Instr.lookup,run_underlying hu,MapKept.run_getObj_map hh,K.check w _ hkey,f1,hz,Result.andThen]
  ·cases ok with
   | false=>exact hr
   | true =>
    exact .tup _ _ rfl fun i hi=>by
     match i,hi with
     | 0,_=>exact hr
     | 1,_=>exact .kb false

theorem kM(w:World)(b:Nat)(o:Obj):But w (setBlock w b o) b:=⟨rfl,rfl,rfl,by simp [setBlock],fun k hk=>by simp [setBlock,Array.getElem?_setIfInBounds_ne (Ne.symm hk)]⟩
theorem xV{w:World}{b:Nat}{o o':Obj}(h:w.heap[b]? = some o'):(setBlock w b o).heap[b]? = some o:=by
 obtain ⟨hb,_⟩:=kP.1 h;simp [setBlock,hb]

theorem aNs(hT:∀ t i,T t=some i→bU P t=some i)(hM:aO P C M w){t:Nat}{a k x:AV}{u v y:Value}{L:Upd}{s s':AS}(ha:Rep C M w a u)(hk:Rep C M w k v)(hx:Rep C M w x y)
  (h:sput T M t a k x s=some (L,s')) (g:aW s'):aW s∧∃ w',(Instr.mapUpdate t u v y).run P w = .ok () w'∧Fr C M w C (upds M L) w'∧aO P C (upds M L) w':=by
 unfold sput at h
 obtain ⟨i,s1,h1,k1⟩:=aD h;obtain ⟨e1,rfl⟩:=aE h1;clear h h1;have hi:=hT _ _ e1;obtain ⟨⟨kt,et⟩,Ss,Cg,K8⟩:=aD k1;obtain ⟨hik,rfl⟩:=aE Cg;obtain ⟨⟨id,es,cl⟩,Su,Cc,K9⟩:=aD K8;obtain ⟨hma,rfl⟩:=aE Cc;obtain ⟨kv,Sv,Dp,La⟩:=aD K9;obtain ⟨hkk,rfl⟩:=aE Dp;obtain ⟨ik,s2,h2,Lb⟩:=aD La;obtain ⟨e2,rfl⟩:=aE h2;obtain ⟨q,Sw,D6,k2⟩:=aD Lb;obtain ⟨Ld,rfl⟩:=aE D6;obtain ⟨rfl,ho⟩:=aEp hma;obtain rfl:=aEq hkk;dsimp only at ho k2 e2
 clear k1 Cg K8 Cc K9 Dp La h2 Lb D6 hma hkk;obtain ⟨_,s3,h3,k3⟩:=aD k2;obtain ⟨z,s4,h4,k4⟩:=aD k3;obtain ⟨e4,rfl⟩:=aE h4;obtain ⟨d,s5,h5,k5⟩:=aD k4;obtain ⟨dm,hu,hum⟩:=eO hi;obtain ⟨dk,hku,hkm⟩:=eO (hT _ _ e2);rw [hum] at hik
 rw [hkm] at Ld
 have hum:=aKd hik;have hkm:=aKe Ld;dsimp only at hum
 subst hum hkm;obtain ⟨b,arr,rfl,hb,hh,hsz,hA⟩:=aGn hM ha ho;have Co:=dJ ho;have hv:v=kv:=by cases hk with | p _ _ h=>cases h;rfl
 subst hv;have K:=int_keyed hku;have hz:=bDw hx e4;have hnr:∀ (Bq:List (Value × PV)) (Cp:Nat),∀ ty n cs,AO.mp Bq Cp = .row ty n cs→∃ A9,AO.mp es cl = .row ty n A9:=fun _ _ _ _ _ h=>by cases h
 cases d with
 | true =>
  obtain ⟨rfl,rfl⟩:=aH k5;obtain ⟨c5,g⟩:=aKq h5 g;obtain ⟨c3,g⟩:=dF h3 g;obtain ⟨kk,hkv,hkw⟩:=lA c3.2.1;have hkey:keyOf P kt v=some (.int q kk):=by rw [hkv];exact keyOf_int_mk hku hkw
  rcases yW hku c3 hsz hA with ⟨f1,_⟩ | ⟨_,j,e,hj,f1,f2,f3,f4,f5,f7,f6,f8⟩
  ·rw [c5] at f1;cases f1
  have hja:j<arr.size:=by omega
  have hmod:∀ i,(arr.modify j fun e=>{ e with key:=v,val:=y })[i]? = if i=j then some { e with key:=v,val:=y } else arr[i]? := fun i=>by
   rw [Array.getElem?_modify]
   by_cases hij:j=i
   ·subst hij;simp [f2]
   ·simp [hij,Ne.symm hij]
  refine ⟨g,setBlock w b (.map (arr.modify j fun e=>{ e with key:=v,val:=y }) cl),?_,aAr Co rfl hb (kM _ _ _) (hnr _ _),yY hM Co rfl hb (kM _ _ _) (hnr _ _) (fun _ _ _ h=>by cases h) (fun _ _ h=>by cases h) fun Q8 Q9 h => ?_⟩
  ·have hst:=K.stays w hkey
   simp [Instr.mapUpdate,run_underlying hu,MapKept.run_getObj_map hh,K.check w false hkey,f1,f2,f3,hst,MapKept.run_setObj_map _ hh,Result.andThen,setBlock]
  ·cases h
   rw [f8];refine ⟨_,xV hh,by simp [hsz],fun i hi => ?_⟩
   rw [nJ] at hi
   obtain ⟨e2,p1,p2,p3,p4⟩:=hA i hi
   by_cases hij:i=j
   ·subst hij
    exact ⟨{ e with key:=v,val:=y },by rw [hmod,if_pos rfl],by simp,f7,by simpa using hz⟩
   ·refine ⟨e2,by rw [hmod,if_neg hij];exact p1,?_,p3,?_⟩
    ·rw [List.getElem_set_ne (Ne.symm hij)];exact p2
    ·rw [List.getElem_set_ne (Ne.symm hij)];exact p4
 | false =>
  obtain ⟨rfl,rfl⟩:=aH k5;obtain ⟨c5,g⟩:=aKq h5 g;obtain ⟨c3,g⟩:=dF h3 g;obtain ⟨kk,hkv,hkw⟩:=lA c3.2.1;have hkey:keyOf P kt v=some (.int q kk):=by rw [hkv];exact keyOf_int_mk hku hkw
  rcases yW hku c3 hsz hA with ⟨_,f1⟩ | ⟨f1,_⟩
  rotate_left
  ·rw [c5] at f1;cases f1
  refine ⟨g,setBlock w b (.map (arr.push ⟨v,y,cl⟩) (cl+1)),?_,aAr Co rfl hb (kM _ _ _) (hnr _ _),yY hM Co rfl hb (kM _ _ _) (hnr _ _) (fun _ _ _ h=>by cases h) (fun _ _ h=>by cases h) fun Q8 Q9 h => ?_⟩
  ·simp [Instr.mapUpdate,run_underlying hu,MapKept.run_getObj_map hh,K.check w false hkey,f1,MapKept.run_setObj_map _ hh,Result.andThen,setBlock]
  ·cases h
   refine ⟨_,xV hh,by simp [hsz],fun i hi => ?_⟩
   by_cases hij:i<es.length
   ·obtain ⟨e2,p1,p2,p3,p4⟩:=hA i hij
    refine ⟨e2,?_,?_,by omega,?_⟩
    ·rw [Array.getElem?_push_lt (by omega)]
     obtain ⟨hlt,he⟩:=kP.1 p1;rw [he]
    ·rw [yN hij];exact p2
    ·rw [yN hij];exact p4
   ·have:i=es.length:=by simp at hi;omega
    subst this;refine ⟨⟨v,y,cl⟩,?_,by simp,by simp,by simpa using hz⟩
    rw [← hsz];simp
end
section

inductive cG (C:Cx) (M:Mem) (w:World):List AV→List Value→Prop
 | nil:cG C M w [] []
 | cons (x:AV) (u:Value) (l:List AV) (k:List Value) (h:Rep C M w x u) (hr:cG C M w l k):cG C M w (x::l) (u::k)

theorem cG.app{C:Cx}{M:Mem}{w:World}:∀ {l l':List AV} {k k':List Value},cG C M w l k→cG C M w l' k'→cG C M w (l++l') (k++k')
 | _,_,_,_,.nil,h=>h
 | _,_,_,_,.cons _ _ _ _ hx hr,h => .cons _ _ _ _ hx (hr.app h)
theorem cG.len{C:Cx}{M:Mem}{w:World}:∀ {l:List AV} {k:List Value},cG C M w l k→k.length=l.length
 | _,_,.nil=>rfl
 | _,_,.cons _ _ _ _ _ hr=>by simp [hr.len]
theorem cG.at{C:Cx}{M:Mem}{w:World}:∀ {l:List AV} {k:List Value},cG C M w l k→∀ i (h:i<l.length),Rep C M w l[i] (k.getD i undef)
 | _,_,.nil,i,h=>by simp at h
 | _,_,.cons _ _ _ _ hx hr,i,h=>by
  cases i with
  | zero=>exact hx
  | succ i=>exact hr.at i (by simpa using h)
theorem cG.of{C:Cx}{M:Mem}{w:World}:∀ {l:List AV} {us:Nat→Value},(∀ i (h:i<l.length),Rep C M w l[i] (us i))→cG C M w l ((List.range l.length).map us)
 | [],_,_ => .nil
 | x::l,us,h=>by
  rw [pY,List.range_succ_eq_map,gT,sE];exact .cons _ _ _ _ (h 0 (by simp)) (cG.of (us:=us ∘ Nat.succ) fun i hi=>h (i+1) (by simpa using hi))
theorem cG.ofArr{C:Cx}{M:Mem}{w:World}{l:List AV}{us:Array Value}(hs:us.size=l.length)(h:∀ i (h:i<l.length),Rep C M w l[i] (us.getD i undef)):cG C M w l us.toList:=by
 have:=cG.of h;have e:(List.range l.length).map (fun i=>us.getD i undef)=us.toList:=by
  apply List.ext_getElem
  ·simp [hs]
  ·intro i h1 h2
   simp at h1
   simp [A4,hs,h1]
 rwa [e] at this

def FM(P:Program)(f:Nat)(args:List AV)(M:Mem)(r:AV)(L:Upd):Prop :=
 ∀ (C:Cx) (w:World) (us:List Value),cG C M w args us→aO P C M w→∀ n,CallsIn Fence.wide n P f us.toArray w (fun e w'=>∃ u,e = .returned u∧∃ C',Fr C M w C' (upds M L) w'∧aO P C' (upds M L) w'∧Rep C' (upds M L) w' r u)

structure Env where
 ev:Nat→List AV→Mem→Nat→Option (AV × Upd)
 ok:Nat→Bool

mutual
def rfs:AV→List Nat
 | .own id=>[id]
 | .arr id _ _=>[id]
 | .ptr id _=>[id]
 | .mp id=>[id]
 | .pa id _=>[id]
 | .agg l=>tE l
 | .tup l=>tE l
 | .fn _ a b=>tE a++tE b
 | _=>[]
def tE:List AV→List Nat
 | []=>[]
 | x::r=>rfs x++tE r
end
def blocks(m:Mem):List Nat→List (Nat × AO)
 | []=>[]
 | i::r=>match bG m i with
  | some o=>(i,o)::blocks m r
  | none=>blocks m r
theorem vZ{m:Mem}:∀ (l:List Nat),∀ p∈blocks m l,bG m p.1=some p.2
 | [],p,h=>by simp [blocks] at h
 | i::r,p,h=>by
  unfold blocks at h
  split at h
  ·rename_i o ho
   rcases gG.1 h with rfl | h
   ·exact ho
   ·exact vZ r p h
  ·exact vZ r p h

def inN(a:Nat):List Nat→Bool
 | []=>false
 | b::r=>match Nat.beq a b with
  | true=>true
  | false=>inN a r
def ddN:List Nat→List Nat→List Nat
 | acc,[]=>acc
 | acc,a::r=>match inN a acc with
  | true=>ddN acc r
  | false=>ddN (acc++[a]) r
def aEn(m:Mem)(l:List Nat):List Nat:=l.flatMap fun i=>match bG m i with
 | some (.box _ cs)=>tE cs
 | _=>[]
def aAh(m:Mem):Nat→List Nat→List Nat
 | 0,l=>l
 | n+1,l=>aAh m n (ddN l (aEn m l))
def clos(m:Mem)(l:List Nat):List Nat:=aAh m 4 (ddN [] l)
def uJ(m:Mem)(id:Nat):Nat→Bool
 | 0=>true
 | n+1=>match eG m (id+n) with
  | true=>uJ m id n
  | false=>false
theorem wA{m:Mem}{id:Nat}:∀ {n:Nat},uJ m id n=true→∀ j,j<n→eG m (id+j)=true
 | 0,_,j,hj=>absurd hj (aOi _)
 | n+1,h,j,hj=>by
  unfold uJ at h
  split at h
  ·rename_i h1
   rcases Nat.lt_or_ge j n with h2 | h2
   ·exact wA h j h2
   ·obtain rfl:j=n:=by omega
    exact h1
  ·cases h

def FC(P:Program)(f:Nat)(args:List AV)(bs:List (Nat × AO))(base:Nat)(r:AV)(L:Upd):Prop:=∀ M:Mem,(∀ p∈bs,bG M p.1=some p.2)→eG M base=true→(∀ j,j<8→eG M (base+j)=true)→FM P f args M r L

def aKa(P:Program)(E:Env)(f:Nat)(args:List AV)(m:Mem)(id:Nat):Ask (AV × Upd):=fun s=>match s.auto with
 | true=>match E.ev f args m id with
  | some x=>some (x,s)
  | none=>none
 | false=>match s.o with
  | .c r L::o=>match uJ m id 8 with
   | true=>some ((r,L),{ s with o:=o,obs:=FC P f args (blocks m (clos m (tE args))) id r L::s.obs })
   | false=>none
  | _=>none

structure kI (P:Program) (E:Env):Prop where
 ev:∀ f args M id r L,E.ev f args M id=some (r,L)→FM P f args M r L
 ok:∀ f,E.ok f=true→∀ args w,(callFunc f args).run P w = .ok (.enter f args) w

theorem bXd{P:Program}{E:Env}(hE:kI P E){f:Nat}{args:List AV}{m:Mem}{id:Nat}{x:AV × Upd}{s s':AS}(h:aKa P E f args m id s=some (x,s'))(g:aW s'):FM P f args m x.1 x.2∧aW s:=by
 unfold aKa at h
 cases ha:s.auto with
 | true =>
  rw [ha] at h
  dsimp only at h
  split at h
  ·rename_i y hy
   cases h;exact ⟨hE.ev _ _ _ _ _ _ hy,g⟩
  ·cases h
 | false =>
  rw [ha] at h
  dsimp only at h
  split at h
  ·split at h
   ·rename_i hb
    cases h;obtain ⟨h1,h2⟩:=g.tail;exact ⟨h1 m (vZ _) (wA hb 0 (by omega)) (wA hb),h2⟩
   ·cases h
  ·cases h

abbrev Res:=Ask (AV × Upd)
def val(a:Ask AV):Res:=do let x ← a;pure (x,[])
def Kr(vs:List AV)(f:Res):Res:=match vs with | []=>f | _=>fail
def En(vs:List AV)(f:AV→Res):Res:=match vs with | [x]=>f x | _=>fail
def E6(vs:List AV)(f:AV→AV→Res):Res:=match vs with | [x,y]=>f x y | _=>fail
def Hy(vs:List AV)(f:AV→AV→AV→Res):Res:=match vs with | [x,y,z]=>f x y z | _=>fail

def aKb(T:TT)(m:Mem)(op:BinOp)(t:Nat)(a b:AV):Ask AV :=
 match bOs b with
 | true=>pQ T m op t a b
 | false=>match a,b with
  | .p (.agg _),.p (.agg _)=>veq T op t a b
  | _,_=>bIw T op t a b
def cUn(op:UnOp)(x:AV):Ask AV:=match op,x with
 | .not,.kb b=>pure (.kb (!b))
 | _,_=>vun op x
def nE(T:TT)(m:Mem)(id:Nat)(b:Go.Builtin)(ts:Array TypeId)(vs:List AV):Res:=match b with
 | .len=>En vs fun x=>do let t ← lift ts[0]?;val (vlen T m t x)
 | .append=>E6 vs fun x y=>match ts.toList with
  | [t,t2]=>sappend T m id t t2 x y
  | _=>fail
 | .copy=>E6 vs fun x y=>match ts.toList with
  | [t,_]=>scopy T m t x y
  | _=>fail
 | .clear=>En vs fun x=>match ts.toList with
  | [t]=>sclear T m t x
  | _=>fail
 | .max=>val (vminmax true vs)
 | .min=>val (vminmax false vs)
 | _=>fail
def fnH:List AV→List AV
 | .p (.fn f a b)::r => .fn f (a.map .p) (b.map .p)::r
 | l=>l
theorem bIr{C:Cx}{M:Mem}{w:World}{vs:List AV}{us:List Value}(h:cG C M w vs us):cG C M w (fnH vs) us:=by
 unfold fnH
 split
 ·cases h with
  | cons _ _ _ _ h2 hr =>
   cases h2 with
   | p _ _ h3 =>
    cases h3 with
    | fn _ _ _ us vs h1 h2 h4 h5 =>
     refine .cons _ _ _ _ (.fn _ _ _ us vs (by simpa using h1) (by simpa using h2) (fun i hi => ?_) (fun i hi => ?_)) hr
     ·simp only [kD];exact .p _ _ (h4 i (by simpa using hi))
     ·simp only [kD];exact .p _ _ (h5 i (by simpa using hi))
 ·exact h
def xU(P:Program)(E:Env)(m:Mem)(id:Nat)(vs:List AV):Res:=match fnH vs with
 | .fn f first caps::args=>do
  lift (if E.ok f then some () else none)
  aKa P E f (first++args++caps) m id
 | _=>fail

def uK:AV→AV
 | .p (.rp cs off) => .rp cs off
 | x=>x
theorem pO{C:Cx}{M:Mem}{w:World}{x:AV}{u:Value}(h:Rep C M w x u):Rep C M w (uK x) u:=by
 unfold uK
 split
 ·cases h with
  | p _ _ h =>
   cases h with
   | rp _ _ b o us h1 h2 h3=>exact .rp _ _ b o us h1 h2 h3
 ·exact h
def bDv(T:TT)(t:Nat)(x:AV):AV:=match T t with
 | some i=>match i.k with
  | .ptr _=>uK x
  | _=>x
 | none=>x
theorem aWg{T:TT}{t:Nat}{C:Cx}{M:Mem}{w:World}{x:AV}{u:Value}(h:Rep C M w x u):Rep C M w (bDv T t x) u:=by
 unfold bDv
 split
 ·split
  ·exact pO h
  ·exact h
 ·exact h
def core(P:Program)(T:TT)(E:Env)(o:Oper)(vs:List AV)(m:Mem)(id:Nat):Res:=match o.op with
 | .move _ | .assign _=>En vs fun x=>pure (x,[])
 | .pick _ _ _=>Hy vs fun c a b=>do let d ← aNy c;pure (if d then a else b,[])
 | .alloc t=>Kr vs (salloc T m id t)
 | .box t _=>En vs (sbox T m id t)
 | .build t ps=>val (vbuild T t ((ps.toList.map (·.1)).zip vs))
 | .buildSlice t len ps=>nY T m id t len ((ps.toList.map (·.1)).zip vs)
 | .load t _=>En vs fun a=>val (do let x ← vload T m t (uK a);pure (bDv T t x))
 | .store t _ _=>E6 vs fun a x=>do let L ← lR T m t a x;pure (.any,L)
 | .nilCheck _=>En vs fun x=>match uK x with
  | .ptr id off=>do lift (if dP m id then some () else none);pure (.ptr id off,[])
  | .rp cs off=>pure (.rp cs off,[])
  | _=>fail
 | .binOp op t _ _ _=>E6 vs fun a b=>val (aKb T m op t a b)
 | .unOp op _ _=>En vs fun x=>val (cUn op x)
 | .convert src dst _=>En vs fun x=>val (vconv T src dst x)
 | .makeFunc fn first _=>match fn with
  | .func f=>pure (.fn f (vs.take first.size) (vs.drop first.size),[])
  | _=>fail
 | .makeMap _ r=>match r with
  | none=>Kr vs (smap m id)
  | some _=>fail
 | .lookup t _ _ ok=>E6 vs fun x k=>val (slook P T m t x k ok)
 | .mapUpdate t _ _ _=>Hy vs fun a k x=>do let L ← sput T m t a k x;pure (.any,L)
 | .makeSlice t _ _=>E6 vs fun l c=>smake T m id t l c
 | .slice t _ lo hi mx=>match mx with
  | none=>match lo with
   | none=>match hi with
    | none=>En vs fun x=>val (vslice T m t x none none)
    | some _=>E6 vs fun x h=>val (vslice T m t x none (some h))
   | some _=>match hi with
    | none=>E6 vs fun x l=>val (vslice T m t x (some l) none)
    | some _=>Hy vs fun x l h=>val (vslice T m t x (some l) (some h))
  | _=>fail
 | .fieldAddr t _ f=>En vs fun x=>val (oE T m t (uK x) f)
 | .field t _ f=>En vs fun x=>val (vfield T t x f)
 | .indexAddr t _ _=>E6 vs fun x i=>val (eN T m t (uK x) i)
 | .index t _ _=>E6 vs fun x i=>val (vindex T t x i)
 | .extract _ ix=>En vs fun x=>val (vext x ix)
 | .call c=>match c.callee with
  | .builtin b=>nE T m id b c.argTypes vs
  | .value _=>xU P E m id vs
  | _=>fail
 | _=>fail
end
section
variable {P:Program} {T:TT} {E:Env} {C:Cx} {M:Mem} {w:World}

def bDu(P:Program)(C:Cx)(M:Mem)(w:World)(x:AV)(M':Mem):Result Next→Prop
 | .ok (.value u) w'=>∃ C',Fr C M w C' M' w'∧aO P C' M' w'∧Rep C' M' w' x u
 | .ok .skip w'=>x = .any∧∃ C',Fr C M w C' M' w'∧aO P C' M' w'
 | .ok (.enter f us) w'=>w'=w∧∀ n,CallsIn Fence.wide n P f us w (fun e Fp=>∃ u,e = .returned u∧∃ C',Fr C M w C' M' Fp∧aO P C' M' Fp∧Rep C' M' Fp x u)
 | _=>False

theorem cS(hM:aO P C M w){m:Sem Value}{x:AV}{r:Value}(h:m.run P w = .ok r w)(hr:Rep C M w x r):bDu P C M w x (upds M []) ((do pure (Next.value (← m)):Sem Next).run P w):=by
 rw [Sem.run_bind,h,Result.andThen_ok,Sem.run_pure];exact ⟨C,Fr.refl ..,hM,hr⟩
theorem pN{m:Sem Value}{x:AV}{M':Mem}(h:Out P C M w x M' (m.run P w)):bDu P C M w x M' ((do pure (Next.value (← m)):Sem Next).run P w):=by
 obtain ⟨C',w',u,h1,h2,h3,h4⟩:=h;rw [Sem.run_bind,h1,Result.andThen_ok,Sem.run_pure];exact ⟨C',h2,h3,h4⟩

theorem dW{a:Ask AV}{x:AV}{L:Upd}{s s':AS}(h:val a s=some ((x,L),s')):L=[]∧a s=some (x,s'):=by
 unfold val at h
 obtain ⟨y,s1,h1,k1⟩:=aD h;obtain ⟨he,rfl⟩:=aH k1;cases he;exact ⟨rfl,h1⟩
theorem fO{vs:List AV}{f:AV→Res}{r:AV × Upd}{s s':AS}(h:En vs f s=some (r,s')):∃ x,vs=[x]∧f x s=some (r,s'):=by
 unfold En at h;split at h
 ·exact ⟨_,rfl,h⟩
 ·exact (aQ h).elim
theorem jQ{vs:List AV}{f:AV→AV→Res}{r:AV × Upd}{s s':AS}(h:E6 vs f s=some (r,s')):∃ x y,vs=[x,y]∧f x y s=some (r,s'):=by
 unfold E6 at h;split at h
 ·exact ⟨_,_,rfl,h⟩
 ·exact (aQ h).elim
theorem aGm{vs:List AV}{f:AV→AV→AV→Res}{r:AV × Upd}{s s':AS}(h:Hy vs f s=some (r,s')):∃ x y z,vs=[x,y,z]∧f x y z s=some (r,s'):=by
 unfold Hy at h;split at h
 ·exact ⟨_,_,_,rfl,h⟩
 ·exact (aQ h).elim
theorem aSr{vs:List AV}{f:Res}{r:AV × Upd}{s s':AS}(h:Kr vs f s=some (r,s')):vs=[]∧f s=some (r,s'):=by
 unfold Kr at h;split at h
 ·exact ⟨rfl,h⟩
 ·exact (aQ h).elim

theorem cG.one{x:AV}{u:Value}(h:cG C M w [x] [u]):Rep C M w x u:=by cases h;assumption
theorem cG.two{x y:AV}{u v:Value}(h:cG C M w [x,y] [u,v]):Rep C M w x u∧Rep C M w y v:=by
 cases h with | cons _ _ _ _ h1 h2=>exact ⟨h1,h2.one⟩
theorem cG.three{x y z:AV}{u v t:Value}(h:cG C M w [x,y,z] [u,v,t]):Rep C M w x u∧Rep C M w y v∧Rep C M w z t:=by
 cases h with | cons _ _ _ _ h1 h2=>exact ⟨h1,h2.two⟩

theorem cG.split{l:List AV}:∀ {k k':List Value},cG C M w l (k++k')→cG C M w (l.take k.length) k∧cG C M w (l.drop k.length) k':=by
 intro k
 induction k generalizing l with
 | nil=>intro k' h;exact ⟨.nil,h⟩
 | cons u k ih =>
  intro k' h;cases h with
  | cons x _ l' _ hx hr =>
   obtain ⟨h1,h2⟩:=ih hr;exact ⟨.cons _ _ _ _ hx h1,h2⟩

theorem cG.parts:∀ {ps:List (Nat × Operand)} {l:List AV} {ρ:Operand→Value},cG C M w l (ps.map fun p=>ρ p.2)→dZ C M w ((ps.map (·.1)).zip l) (ps.map fun p=>(p.1,ρ p.2))
 | [],_,_,.nil => .nil
 | (i,x)::ps,_,ρ,.cons y _ l _ h hr => .cons i y _ _ _ h (cG.parts (ps:=ps) (ρ:=ρ) hr)

theorem aNq(hT:∀ t i,T t=some i→bU P t=some i){op:BinOp}{t:Nat}{a b x:AV}{u v:Value}{o1 o2:Operand}{s s':AS}(ha:Rep C M w a u)(hb:Rep C M w b v)(h:aKb T M op t a b s=some (x,s'))(g:aW s') :
  aW s∧∃ r,(do eqGuard op t o1 o2 u v;Go.binOp op t u v:Sem Value).run P w = .ok r w∧Rep C M w x r:=by
 unfold aKb at h
 generalize bOs b=q at h
 split at h
 ·obtain ⟨g,r,h1,h2,h3,h4⟩:=aGp hT ha hb h g
  exact ⟨g,r,by rw [Sem.run_bind,uW h3 h4,Result.andThen_ok,h1],h2⟩
 ·split at h
  ·obtain ⟨g,hg,r,h1,h2⟩:=aWh hT (o1:=o1) (o2:=o2) ha hb h g
   exact ⟨g,r,by rw [Sem.run_bind,hg,Result.andThen_ok,h1],h2⟩
  ·obtain ⟨g,r,h1,h2,h3,h4⟩:=aNz hT ha hb h g
   exact ⟨g,r,by rw [Sem.run_bind,uW h3 h4,Result.andThen_ok,h1],h2⟩

theorem aWf{op:UnOp}{a x:AV}{u:Value}{s s':AS}(ha:Rep C M w a u)(h:cUn op a s=some (x,s'))(g:aW s'):aW s∧∃ r,(Op.unary op u).run P w = .ok r w∧Rep C M w x r:=by
 unfold cUn at h
 split at h
 ·obtain ⟨rfl,rfl⟩:=aH h
  cases ha;exact ⟨g,_,rfl,.kb _⟩
 ·exact aWj ha h g

theorem aJz(hE:kI P E){id:Nat}{vs:List AV}{us:List Value}{u:Value}{x:AV}{L:Upd}{s s':AS}(hM:aO P C M w)(hv:cG C M w vs (u::us))(h:xU P E M id vs s=some ((x,L),s'))(g:aW s') :
  aW s∧bDu P C M w x (upds M L) ((do let d ← Deferred.ofValue u us.toArray;invoke d.target d.args:Sem Next).run P w):=by
 unfold xU at h
 replace hv:=bIr hv
 generalize fnH vs=vs' at h hv
 split at h
 ·rename_i f first caps args
  obtain ⟨_,s1,h1,k1⟩:=aD h;obtain ⟨e1,rfl⟩:=aE h1;obtain ⟨hok,_⟩:=bD e1;obtain ⟨hF,g⟩:=bXd hE k1 g;refine ⟨g,?_⟩;cases hv with
  | cons _ _ _ _ h2 hr =>
   cases h2 with
   | fn _ _ _ O0 O1 q1 q2 q3 q4 =>
    rw [Sem.run_bind];simp only [Deferred.ofValue,Sem.run_pure,Result.andThen_ok,invoke];rw [hE.ok f hok];refine ⟨rfl,fun n => ?_⟩
    have hl:cG C M w (first++args++caps) (O0.toList++us++O1.toList):=((cG.ofArr q1 q3).app hr).app (cG.ofArr q2 q4);have:=hF C w _ hl hM n;have e:(O0.toList++us++O1.toList).toArray=O0++us.toArray++O1:=by
     apply Array.toList_inj.1;simp
    rwa [e] at this
 ·exact (aQ h).elim

theorem aAf(hT:∀ t i,T t=some i→bU P t=some i)(hM:aO P C M w){b:Go.Builtin}{ts:Array TypeId}{ty:TypeId}{cs:Array Bool}{id:Nat}{vs:List AV}{us:List Value}{x:AV}{L:Upd}{s s':AS}(hv:cG C M w vs us)(h:nE T M id b ts vs s=some ((x,L),s'))(g:aW s') :
  aW s∧bDu P C M w x (upds M L) ((builtin b ts ty cs us.toArray).run P w):=by
 unfold nE at h
 split at h
 ·obtain ⟨y,rfl,k0⟩:=fO h
  obtain ⟨t,s1,h1,k1⟩:=aD k0;obtain ⟨e1,rfl⟩:=aE h1;obtain ⟨rfl,k3⟩:=dW k1;cases hv with
  | cons _ u _ _ hx hr =>
   cases hr;obtain ⟨g,r,h2,h3⟩:=aNx hT hM (ts:=ts) (ty:=ty) e1 hx k3 g;exact ⟨g,cS hM h2 h3⟩
 ·obtain ⟨y,z,rfl,k1⟩:=jQ h
  generalize ht:ts.toList=tl at k1
  split at k1
  ·rename_i t t2
   cases hv with
   | cons _ u _ _ hx hr =>
    cases hr with
    | cons _ v _ _ hy hr =>
     cases hr;obtain ⟨g,ho⟩:=aDf hT hM (ty:=ty) hx hy k1 g;have e:ts = #[t,t2]:=by apply Array.toList_inj.1;rw [ht]
     subst e;exact ⟨g,pN ho⟩
  ·exact (aQ k1).elim
 ·obtain ⟨y,z,rfl,k1⟩:=jQ h
  generalize ht:ts.toList=tl at k1
  split at k1
  ·rename_i t t2
   cases hv with
   | cons _ u _ _ hx hr =>
    cases hr with
    | cons _ v _ _ hy hr =>
     cases hr;have e:ts = #[t,t2]:=by apply Array.toList_inj.1;rw [ht]
     subst e;obtain ⟨g,ho⟩:=aKg hT hM (t2:=t2) (ty:=ty) hx hy k1 g;exact ⟨g,pN ho⟩
  ·exact (aQ k1).elim
 ·obtain ⟨y,rfl,k1⟩:=fO h
  generalize ht:ts.toList=tl at k1
  split at k1
  ·rename_i t
   have e:ts = #[t]:=by apply Array.toList_inj.1;rw [ht]
   subst e;cases hv with
   | cons _ u _ _ hx hr =>
    cases hr;obtain ⟨g,ho⟩:=aGo hT hM (ty:=ty) hx k1 g;exact ⟨g,pN ho⟩
  ·exact (aQ k1).elim
 ·obtain ⟨rfl,k3⟩:=dW h
  obtain ⟨g,r,h2,h3⟩:=sP (big:=true) (l:=vs) (us:=us.toArray) (ts:=ts) (ty:=ty) (by simp [hv.len]) (fun i hi=>by
   have:=hv.at i hi
   rwa [← bN] at this) k3 g
  exact ⟨g,cS hM (by simpa using h2) h3⟩
 ·obtain ⟨rfl,k3⟩:=dW h
  obtain ⟨g,r,h2,h3⟩:=sP (big:=false) (l:=vs) (us:=us.toArray) (ts:=ts) (ty:=ty) (by simp [hv.len]) (fun i hi=>by
   have:=hv.at i hi
   rwa [← bN] at this) k3 g
  exact ⟨g,cS hM (by simpa using h2) h3⟩
 ·exact (aQ h).elim

theorem aAg(hT:∀ t i,T t=some i→bU P t=some i)(hE:kI P E)(hM:aO P C M w){o:Oper}{ρ:Operand→Value}{id:Nat}{vs:List AV}{x:AV}{L:Upd}{s s':AS}(hv:cG C M w vs (o.op.operands.toList.map ρ))(h:core P T E o vs M id s=some ((x,L),s'))(g:aW s') :
  aW s∧bDu P C M w x (upds M L) ((execOp ρ o).run P w):=by
 unfold core at h
 unfold execOp;have mapA:∀ as:Array Operand,(as.toList.map ρ).toArray=as.map ρ:=fun as=>by apply Array.toList_inj.1;simp
 cases hop:o.op <;> simp only [hop] at h hv ⊢ <;> try exact (aQ h).elim
 case move y =>
  obtain ⟨a,rfl,k1⟩:=fO h;obtain ⟨he,rfl⟩:=aH k1;cases he;exact ⟨g,C,Fr.refl ..,hM,hv.one⟩
 case assign y =>
  obtain ⟨a,rfl,k1⟩:=fO h;obtain ⟨he,rfl⟩:=aH k1;cases he;exact ⟨g,C,Fr.refl ..,hM,hv.one⟩
 case pick c a b =>
  obtain ⟨x1,x2,x3,rfl,k1⟩:=aGm h;obtain ⟨d,s1,h1,k2⟩:=aD k1;obtain ⟨he,rfl⟩:=aH k2;cases he;obtain ⟨q1,q2,q3⟩:=hv.three;obtain ⟨e1,g⟩:=oF q1 h1 g;refine ⟨g,?_⟩;rw [Sem.run_bind,e1];refine ⟨C,Fr.refl ..,hM,?_⟩;cases d
  ·exact q3
  ·exact q2
 case alloc t =>
  obtain ⟨rfl,k1⟩:=aSr h;obtain ⟨g,ho⟩:=aGt hT hM k1 g;exact ⟨g,pN ho⟩
 case box t y =>
  obtain ⟨a,rfl,k1⟩:=fO h;obtain ⟨g,ho⟩:=aNw hT hM hv.one k1 g;exact ⟨g,pN ho⟩
 case build t ps =>
  obtain ⟨rfl,k1⟩:=dW h;have hp:=cG.parts (ps:=ps.toList) (ρ:=ρ) (by simpa [Op.operands,Function.comp_def] using hv)
  obtain ⟨g,r,h1,h2⟩:=aGu hT (ps:=ps.map fun p=>(p.1,ρ p.2)) (by simpa using hp) k1 g
  exact ⟨g,cS hM h1 h2⟩
 case buildSlice t len ps =>
  have hp:=cG.parts (ps:=ps.toList) (ρ:=ρ) (by simpa [Op.operands,Function.comp_def] using hv)
  obtain ⟨g,ho⟩:=aDa hT hM (k:=ps.map fun p=>(p.1,ρ p.2)) (by simpa using hp) h g
  exact ⟨g,pN ho⟩
 case load t y =>
  obtain ⟨a,rfl,k1⟩:=fO h;obtain ⟨rfl,k2⟩:=dW k1;obtain ⟨x0,s1,k3,k4⟩:=aD k2;obtain ⟨rfl,rfl⟩:=aH k4;obtain ⟨g,r,h1,h2⟩:=xX hT hM (pO hv.one) k3 g;exact ⟨g,cS hM h1 (aWg h2)⟩
 case store t y z =>
  obtain ⟨a,b,rfl,k1⟩:=jQ h;obtain ⟨L',s1,h1,k2⟩:=aD k1;obtain ⟨he,rfl⟩:=aH k2;cases he;obtain ⟨q1,q2⟩:=hv.two;obtain ⟨g,C',w',r1,r2,r3⟩:=aDb hT hM q1 q2 h1 g;refine ⟨g,?_⟩;rw [Sem.run_bind,r1,Result.andThen_ok,Sem.run_pure];exact ⟨rfl,C',r2,r3⟩
 case nilCheck y =>
  obtain ⟨a,rfl,k1⟩:=fO h;have hx:=pO hv.one;generalize uK a=a' at k1 hx
  split at k1
  ·obtain ⟨_,s1,h1,k2⟩:=aD k1
   obtain ⟨e1,rfl⟩:=aE h1;obtain ⟨hl,_⟩:=bD e1;obtain ⟨he,rfl⟩:=aH k2;cases he;obtain ⟨b,hu,hb⟩:=fJ hx hl;rw [hu] at hx ⊢
   exact ⟨g,C,Fr.refl ..,hM,hx⟩
  ·obtain ⟨he,rfl⟩:=aH k1
   cases he;have hp:∃ p,ρ y = .pointer (some p):=by
    generalize ρ y=u at hx
    cases hx;exact ⟨_,rfl⟩
   obtain ⟨p,hp⟩:=hp;rw [hp] at hx ⊢
   exact ⟨g,C,Fr.refl ..,hM,hx⟩
  ·exact (aQ k1).elim
 case binOp op t y z _ =>
  obtain ⟨a,b,rfl,k1⟩:=jQ h;obtain ⟨rfl,k2⟩:=dW k1;obtain ⟨q1,q2⟩:=hv.two;obtain ⟨g,r,h1,h2⟩:=aNq hT (o1:=y) (o2:=z) q1 q2 k2 g;exact ⟨g,cS hM h1 h2⟩
 case unOp op _ y =>
  obtain ⟨a,rfl,k1⟩:=fO h;obtain ⟨rfl,k2⟩:=dW k1;obtain ⟨g,r,h1,h2⟩:=aWf hv.one k2 g;exact ⟨g,cS hM h1 h2⟩
 case convert src dst y =>
  obtain ⟨a,rfl,k1⟩:=fO h;obtain ⟨rfl,k2⟩:=dW k1;obtain ⟨g,r,h1,h2⟩:=aKp hT hv.one k2 g;exact ⟨g,cS hM h1 h2⟩
 case makeFunc fn first caps =>
  split at h
  ·rename_i f
   obtain ⟨he,rfl⟩:=aH h;cases he;have hs:cG C M w vs ((first.map ρ).toList++(caps.map ρ).toList):=by simpa [Op.operands] using hv
   obtain ⟨q1,q2⟩:=hs.split;have hl:(first.map ρ).toList.length=first.size:=by simp
   rw [hl] at q1 q2
   refine ⟨g,cS hM (r := .func (.func f) (first.map ρ) (caps.map ρ)) rfl (.fn f _ _ _ _ ?_ ?_ (fun i hi => ?_) (fun i hi => ?_))⟩
   ·have:=q1.len;simpa using this
   ·have:=q2.len;simpa using this
   ·have:=q1.at i hi
    rwa [← bN] at this
   ·have:=q2.at i hi
    rwa [← bN] at this
  ·exact (aQ h).elim
 case makeMap t r =>
  cases r with
  | some _=>exact (aQ h).elim
  | none =>
   obtain ⟨rfl,k1⟩:=aSr h;obtain ⟨g,ho⟩:=aNr (t:=t) hM k1 g;exact ⟨g,pN ho⟩
 case lookup t y z ok =>
  obtain ⟨a,b,rfl,k1⟩:=jQ h;obtain ⟨rfl,k2⟩:=dW k1;obtain ⟨q1,q2⟩:=hv.two;obtain ⟨g,r,h1,h2⟩:=aKf hT hM q1 q2 k2 g;exact ⟨g,cS hM h1 h2⟩
 case mapUpdate t y z v =>
  obtain ⟨a,b,c,rfl,k1⟩:=aGm h;obtain ⟨L',s1,h1,k2⟩:=aD k1;obtain ⟨he,rfl⟩:=aH k2;cases he;obtain ⟨q1,q2,q3⟩:=hv.three;obtain ⟨g,w',r1,r2,r3⟩:=aNs hT hM q1 q2 q3 h1 g;refine ⟨g,?_⟩;rw [Sem.run_bind,r1,Result.andThen_ok,Sem.run_pure];exact ⟨rfl,C,r2,r3⟩
 case makeSlice t l c =>
  obtain ⟨a,b,rfl,k1⟩:=jQ h;obtain ⟨q1,q2⟩:=hv.two;obtain ⟨g,ho⟩:=aKl hT hM q1 q2 k1 g;exact ⟨g,pN ho⟩
 case slice t y lo hi mx =>
  cases mx with
  | some _=>exact (aQ h).elim
  | none =>
   cases lo with
   | none =>
    cases hi with
    | none =>
     obtain ⟨a,rfl,k1⟩:=fO h;obtain ⟨rfl,k2⟩:=dW k1;obtain ⟨g,r,h1,h2⟩:=kN hT hM (lo:=none) (hi:=none) (vl:=none) (vh:=none) hv.one trivial trivial k2 g;exact ⟨g,cS hM h1 h2⟩
    | some hh =>
     obtain ⟨a,b,rfl,k1⟩:=jQ h;obtain ⟨rfl,k2⟩:=dW k1;obtain ⟨q1,q2⟩:=hv.two;obtain ⟨g,r,h1,h2⟩:=kN hT hM (lo:=none) (hi:=some b) (vl:=none) (vh:=some (ρ hh)) q1 trivial q2 k2 g;exact ⟨g,cS hM h1 h2⟩
   | some ll =>
    cases hi with
    | none =>
     obtain ⟨a,b,rfl,k1⟩:=jQ h;obtain ⟨rfl,k2⟩:=dW k1;obtain ⟨q1,q2⟩:=hv.two;obtain ⟨g,r,h1,h2⟩:=kN hT hM (lo:=some b) (hi:=none) (vl:=some (ρ ll)) (vh:=none) q1 q2 trivial k2 g;exact ⟨g,cS hM h1 h2⟩
    | some hh =>
     obtain ⟨a,b,c,rfl,k1⟩:=aGm h;obtain ⟨rfl,k2⟩:=dW k1;obtain ⟨q1,q2,q3⟩:=hv.three;obtain ⟨g,r,h1,h2⟩:=kN hT hM (lo:=some b) (hi:=some c) (vl:=some (ρ ll)) (vh:=some (ρ hh)) q1 q2 q3 k2 g;exact ⟨g,cS hM h1 h2⟩
 case fieldAddr t y f =>
  obtain ⟨a,rfl,k1⟩:=fO h;obtain ⟨rfl,k2⟩:=dW k1;obtain ⟨g,r,h1,h2⟩:=wF hT (pO hv.one) k2 g;exact ⟨g,cS hM h1 h2⟩
 case field t y f =>
  obtain ⟨a,rfl,k1⟩:=fO h;obtain ⟨rfl,k2⟩:=dW k1;obtain ⟨g,r,h1,h2⟩:=aGw hT hv.one k2 g;exact ⟨g,cS hM h1 h2⟩
 case indexAddr t y z =>
  obtain ⟨a,b,rfl,k1⟩:=jQ h;obtain ⟨rfl,k2⟩:=dW k1;obtain ⟨q1,q2⟩:=hv.two;obtain ⟨g,r,h1,h2⟩:=wG hT (pO q1) q2 k2 g;exact ⟨g,cS hM h1 h2⟩
 case index t y z =>
  obtain ⟨a,b,rfl,k1⟩:=jQ h;obtain ⟨rfl,k2⟩:=dW k1;obtain ⟨q1,q2⟩:=hv.two;obtain ⟨g,r,h1,h2⟩:=aGx hT q1 q2 k2 g;exact ⟨g,cS hM h1 h2⟩
 case extract y ix =>
  obtain ⟨a,rfl,k1⟩:=fO h;obtain ⟨rfl,k2⟩:=dW k1;obtain ⟨g,r,h1,h2⟩:=aOa hv.one k2 g;exact ⟨g,cS hM h1 h2⟩
 case call c =>
  cases hc:c.callee with
  | builtin b =>
   simp only [hc] at h
   have O2:cG C M w vs (c.args.toList.map ρ):=by simpa [Op.operands,Call.operands,hc] using hv
   simp only [resolve,hc,Sem.run_bind,Sem.run_pure,Result.andThen_ok,invoke];rw [← mapA];exact aAf hT hM O2 h g
  | value f =>
   simp only [hc] at h
   have O2:cG C M w vs (ρ f::c.args.toList.map ρ):=by simpa [Op.operands,Call.operands,hc] using hv
   have:=aJz hE hM O2 h g;simp only [resolve,hc];rw [mapA] at this
   simpa using this
  | invoke r n=>simp only [hc] at h;exact (aQ h).elim
end
section

variable {P:Program} {C:Cx} {M:Mem} {w:World}
def aNo(k b:Nat):Prop:=(pkC k≠0∧b=pkB k)∨∃ j,j<pkN k∧b=rkB k j
structure aNp (C:Cx) (M:Mem) (w:World) (id to ti sz:Nat) (L:List (Nat × List PV)):Prop where
 io:C.ι id=none
 n:pkN (C.κ id)=L.length
 nc:pkN (C.κ id)≤pkC (C.κ id)
 cm:pkC (C.κ id)≤maxLen
 out:pkC (C.κ id)≠0→∃ arr,w.heap[pkB (C.κ id)]? = some (.cells arr to (0,0))∧arr.size=pkC (C.κ id)∧∀ j,j<pkN (C.κ id)→arr.getD j undef=pqV (C.κ id) (.row j)
 row:∀ j (h:j<L.length),rkN (C.κ id) j=L[j].1∧rkN (C.κ id) j≤rkC (C.κ id) j∧rkC (C.κ id) j≤maxLen∧∃ arr,w.heap[rkB (C.κ id) j]? = some (.cells arr ti (0,0))∧arr.size=rkC (C.κ id) j*sz∧L[j].2.length=rkN (C.κ id) j*sz ∧
  (∀ i (h':i<L[j].2.length),bW C.F w L[j].2[i] (arr.getD i undef))∧∀ i,i<L[j].2.length→(arr.getD i undef).oneCell'=true
 own:∀ b,aNo (C.κ id) b→¬ C.F b∧∀ (i:Nat) (o:AO),M[i]? = some (some o)→o.live=true→C.ι i≠some b
 d1:pkC (C.κ id)≠0→∀ j,j<pkN (C.κ id)→rkB (C.κ id) j≠pkB (C.κ id)
 d2:∀ j j',j<pkN (C.κ id)→j'<pkN (C.κ id)→rkB (C.κ id) j=rkB (C.κ id) j'→j=j'
theorem aNp.lt{id to ti sz:Nat}{L:List (Nat × List PV)}(h:aNp C M w id to ti sz L){b:Nat}(hb:aNo (C.κ id) b):b<w.heap.size∧∃ arr ty,w.heap[b]? = some (.cells arr ty (0,0)):=by
 have:∃ arr ty,w.heap[b]? = some (.cells arr ty (0,0)):=by
  rcases hb with ⟨h1,rfl⟩ | ⟨j,h1,rfl⟩
  ·obtain ⟨arr,q,_⟩:=h.out h1
   exact ⟨arr,to,q⟩
  ·obtain ⟨_,_,_,arr,q,_⟩:=h.row j (by rw [← h.n];exact h1)
   exact ⟨arr,ti,q⟩
 refine ⟨?_,this⟩;obtain ⟨arr,ty,q⟩:=this;exact (kP.1 q).1
theorem aNp.move{C':Cx}{M':Mem}{w':World}{id Ep to ti sz:Nat}{L:List (Nat × List PV)}(h:aNp C M w id to ti sz L)(hι:C'.ι Ep=none)(hκ:C'.κ Ep=C.κ id)(hF:∀ b,C.F b→C'.F b)(hz:∀ b,C.F b→w'.heap[b]? = w.heap[b]?)
  (hb:∀ b,aNo (C.κ id) b→w'.heap[b]? = w.heap[b]? ∧ ¬ C'.F b∧∀ (i:Nat) (o:AO),M'[i]? = some (some o)→o.live=true→C'.ι i≠some b):aNp C' M' w' Ep to ti sz L:=by
 refine ⟨hι,by rw [hκ];exact h.n,by rw [hκ];exact h.nc,by rw [hκ];exact h.cm,fun h0 => ?_,fun j hj => ?_,fun b q => ?_,by rw [hκ];exact h.d1,by rw [hκ];exact h.d2⟩
 ·rw [hκ] at h0 ⊢
  obtain ⟨arr,q1,q2,q3⟩:=h.out h0;exact ⟨arr,by rw [(hb _ (.inl ⟨h0,rfl⟩)).1];exact q1,q2,q3⟩
 ·rw [hκ]
  obtain ⟨q1,q2,q3,arr,q4,q5,q6,q7,q8⟩:=h.row j hj;exact ⟨q1,q2,q3,arr,by rw [(hb _ (.inr ⟨j,by rw [h.n];exact hj,rfl⟩)).1];exact q4,q5,q6,fun i hi=>(q7 i hi).mono hF hz,q8⟩
 ·rw [hκ] at q
  exact (hb b q).2
def aJy(L:Upd):Bool:=L.all fun p => !p.2.isPk
def sL(P:Program)(T:TT)(E:Env)(o:Oper)(vs:List AV)(m:Mem)(id:Nat):Res:=fail
def N7:List AV→Bool
 | .pa _ _::_=>true
 | _=>false
def bIp(o:Oper)(vs:List AV):Bool:=match o.op with
 | .load _ _=>N7 vs
 | .store _ _ _=>N7 vs
 | .indexAddr _ _ _=>N7 vs
 | .buildSlice _ _ _=>match vs with
  | [.own _]=>true
  | _=>false
 | .call c=>match c.callee with
  | .builtin _=>N7 vs
  | .value _=>true
  | _=>false
 | _=>false
def lP(P:Program)(T:TT)(E:Env)(o:Oper)(vs:List AV)(m:Mem)(id:Nat):Res:=fun s=>match s.auto,s.o,bIp o vs with
 | false,.q::r,true=>sL P T E o vs m id { s with o:=r }
 | _,_,_=>(do
  let r ← core P T E o vs m id
  lift (if aJy r.2=true then some () else none)
  pure r:Res) s

def Du(m:Mem):AV→Option PV
 | .p x=>some x
 | .kb b=>some (.v (.bool b))
 | .own id=>match eM m id with
  | some r=>some (.sl r.2.1 r.2.2)
  | none=>none
 | _=>none
def aAe(m:Mem):List AV→Option (List PV)
 | []=>some []
 | x::r=>match Du m x with
  | some y=>match aAe m r with
   | some l=>some (y::l)
   | none=>none
  | none=>none
mutual
def view(m:Mem):AV→Option AV
 | .p x=>some (.p x)
 | .kb b=>some (.kb b)
 | .own id=>match eM m id with
  | some r=>some (.p (.sl r.2.1 r.2.2))
  | none=>none
 | .arr id off n=>match eM m id with
  | some r=>some (.p (.sl n ((r.2.2.drop off).take (n*(r.2.2.length / r.2.1)))))
  | none=>none
 | .agg cs=>match lQ m cs with
  | some xs=>some (iT xs)
  | none=>none
 | .fn f a b=>match lQ m a with
  | some a'=>match lQ m b with
   | some b'=>some (.fn f a' b')
   | none=>none
  | none=>none
 | .rp cs o=>some (.rp cs o)
 | .ptr id off=>match bG m id with
  | some (.row _ _ cs)=>some (.rp cs off)
  | some (.box _ cs)=>match aAe m cs with
   | some xs=>some (.rp xs off)
   | none=>none
  | _=>none
 | .yld l=>some (.yld l)
 | .any=>some .any
 | _=>none
def lQ(m:Mem):List AV→Option (List AV)
 | []=>some []
 | x::r=>match view m x with
  | some y=>match lQ m r with
   | some l=>some (y::l)
   | none=>none
  | none=>none
end

def bIq(c:AV)(want:Bool):Ask Bool:=match c with
 | .tup []=>pure false
 | c=>do
  let b ← aNy c
  pure (match b,want with | true,true=>true | false,false=>true | _,_=>false)
def gW(ops:List Oper)(o:Oper)(st:St):Ask Bool:=match o.guard with
 | none=>pure true
 | some (j,want)=>do
  let oj ← lift ops[j]?
  let d ← lift oj.dst
  let c ← lift st.t[d]?
  bIq c want

def nV(P:Program)(T:TT)(E:Env)(ops:List Oper)(o:Oper)(id:Nat)(st:St):Ask St:=do
 let go ← gW ops o st
 match go with
 | true=>do
  let vs ← lift (evs st o.op.operands.toList)
  let r ← lP P T E o vs st.m id
  pure ⟨put st.t o.dst r.1,upds st.m r.2⟩
 | false=>pure ⟨put st.t o.dst (.tup []),st.m⟩

def aWe(P:Program)(T:TT)(E:Env)(ops:List Oper):List Oper→St→Ask St
 | [],st=>pure st
 | o::r,st=>do
  let Ag ← nV P T E ops o st.m.length st
  aWe P T E ops r Ag

end
section

def bP{α:Type}(m:Ask α):Prop:=∀ s r s',m s=some (r,s')→∀ p∈s.obs,p∈s'.obs
theorem bP.good{α:Type}{m:Ask α}(h:bP m){s s':AS}{r:α}(e:m s=some (r,s'))(g:aW s'):aW s:=fun p hp=>g p (h s r s' e p hp)

theorem aY{α β:Type}{m:Ask α}{f:α→Ask β}(h:bP m)(k:∀ a,bP (f a)):bP (m >>= f):=fun s r s' e p hp=>by
 obtain ⟨a,s1,h1,h2⟩:=aD e;exact k a _ _ _ h2 p (h _ _ _ h1 p hp)
theorem aJ{α:Type}(a:α):bP (pure a:Ask α):=fun s r s' e p hp=>by obtain ⟨_,rfl⟩:=aH e;exact hp
theorem kV{α:Type}(o:Option α):bP (lift o):=fun s r s' e p hp=>by obtain ⟨_,rfl⟩:=aE e;exact hp
theorem aP{α:Type}:bP (fail:Ask α):=fun _ _ _ e=>(aQ e).elim
theorem tD{p:Prop}[d:Decidable p]:bP (fC p):=fun s r s' h q hq=>by
 unfold fC at h
 cases ha:s.auto with
 | true =>
  rw [ha] at h
  cases d with
  | isTrue hp=>cases h;exact hq
  | isFalse hp=>cases h
 | false=>rw [ha] at h;cases h;exact B7 _ hq
theorem aNf{b:Bool}:bP (aOc b):=fun s r s' h q hq=>by
 unfold aOc at h
 cases ha:s.auto with
 | true=>rw [ha] at h;cases h;exact hq
 | false =>
  rw [ha] at h
  dsimp only at h
  split at h
  ·cases h;exact B7 _ hq
  ·cases h
theorem aNg{x:Option PV}:bP (aOd x):=fun s r s' h q hq=>by
 unfold aOd at h
 cases ha:s.auto with
 | true =>
  rw [ha] at h
  cases x with
  | none=>cases h
  | some y=>cases h;exact hq
 | false =>
  rw [ha] at h
  dsimp only at h
  split at h
  ·cases h;exact B7 _ hq
  ·cases h
theorem uG{k:IntKind}{z:Int}:bP (wr k z):=fun s r s' h q hq=>by
 unfold wr at h
 cases ha:s.auto with
 | true=>rw [ha] at h;cases h;exact hq
 | false =>
  rw [ha] at h
  dsimp only at h
  split at h
  ·cases h;exact B7 _ hq
  ·cases h;exact hq
theorem bPe{P:Program}{E:Env}{f:Nat}{args:List AV}{m:Mem}{id:Nat}:bP (aKa P E f args m id):=fun s r s' h q hq=>by
 unfold aKa at h
 cases ha:s.auto with
 | true =>
  rw [ha] at h
  dsimp only at h
  split at h
  ·cases h;exact hq
  ·cases h
 | false =>
  rw [ha] at h
  dsimp only at h
  split at h
  ·split at h
   ·cases h;exact B7 _ hq
   ·cases h
  ·cases h

variable {P:Program} {T:TT} {E:Env}

theorem aNh{c:AV}:bP (aNy c):=by
 unfold aNy;split
 ·exact aJ _
 ·exact aNf
 ·exact aP
theorem aVt{op:BinOp}{k:IntKind}{x y:Int}:bP (bEf op k x y):=by
 cases op <;> unfold bEf <;> first | exact uG | exact aJ _ | exact aP | exact aY tD fun _=>uG | exact aY tD fun _=>aJ _
theorem aVu{op:BinOp}{a b:Value}{t:Bool}:bP (aWk op a b t):=by
 unfold aWk;split
 ·split
  ·exact aY tD fun _=>aJ _
  ·exact aY tD fun _=>uG
  ·split
   ·exact aVt
   ·exact aP
 ·split
  ·split <;> first | exact aJ _ | exact aP
  ·exact aP
 ·exact aP
theorem cY{a:Ask AV}(h:bP a):bP (val a):=aY h fun _=>aJ _
theorem aJq{vs:List AV}{f:Res}(h:bP f):bP (Kr vs f):=by unfold Kr;split;exact h;exact aP
theorem eF{vs:List AV}{f:AV→Res}(h:∀ x,bP (f x)):bP (En vs f):=by unfold En;split;exact h _;exact aP
theorem gQ{vs:List AV}{f:AV→AV→Res}(h:∀ x y,bP (f x y)):bP (E6 vs f):=by unfold E6;split;exact h _ _;exact aP
theorem aAa{vs:List AV}{f:AV→AV→AV→Res}(h:∀ x y z,bP (f x y z)):bP (Hy vs f):=by unfold Hy;split;exact h _ _ _;exact aP
theorem aI{α β:Type}{o:Option α}{f:α→Ask β}(k:∀ a,bP (f a)):bP (lift o >>= f):=aY (kV o) k
theorem cK{β:Type}{p:Prop}[Decidable p]{f:Unit→Ask β}(k:∀ a,bP (f a)):bP (fC p >>= f):=aY tD k

theorem aVv{op:BinOp}{t:Nat}{a b:AV}:bP (bIw T op t a b):=aI fun _=>aI fun _=>aY aVu fun _=>aJ _
theorem bDr{op:UnOp}{x:AV}:bP (vun op x):=by
 unfold vun;split
 ·split <;> first | exact aJ _ | exact aP
 ·split <;> first | exact aY uG fun _=>aJ _ | exact aP
 ·exact aP
theorem aNi{a b:Nat}{x:AV}:bP (vconv T a b x):=by
 unfold vconv;refine aI fun _=>aI fun _ => ?_
 split
 ·exact aY uG fun _=>aJ _
 ·exact aP
theorem aVw{x:AV}{i:Nat}:bP (vext x i):=by unfold vext;split;exact kV _;exact aP
theorem yK{m:Mem}{t f:Nat}{x:AV}:bP (oE T m t x f):=aI fun _=>aI fun _=>aI fun _=>aI fun _=>kV _
theorem yL{m:Mem}{t:Nat}{x i:AV}:bP (eN T m t x i):=by
 unfold eN;refine aI fun _=>aI fun _ => ?_
 split
 ·refine aI fun _ => ?_
  split
  ·exact aI fun _=>cK fun _=>aJ _
  ·exact aI fun _=>cK fun _=>aJ _
  ·exact cK fun _=>aJ _
  ·exact aP
 ·refine aI fun _ => ?_
  split
  ·exact cK fun _=>aJ _
  ·exact cK fun _=>aJ _
  ·exact aP
 ·exact aP
theorem xR{i:TI}{cs:List PV}{off:Nat}:bP (wD i cs off):=by
 unfold wD;split
 ·exact cK fun _=>aY aNg fun _=>aJ _
 ·exact aY aNg fun _=>aJ _
theorem xS{i:TI}{cs:List AV}{off:Nat}:bP (wE i cs off):=by unfold wE;split <;> exact kV _
theorem aAb{m:Mem}{t:Nat}{x:AV}:bP (vload T m t x):=by
 unfold vload;refine aI fun _ => ?_
 split
 ·refine aI fun _ => ?_
  split
  ·exact xS
  ·exact xR
  ·exact aP
 ·exact xR
 ·exact aP
theorem aAc{t:Nat}{x:AV}{off:Nat}:bP (vpart T t x off):=by
 unfold vpart;refine aI fun _ => ?_
 split
 ·split
  ·exact cK fun _=>aJ _
  ·exact aI fun _=>aJ _
 ·exact xS
 ·exact aP
theorem aJr{t f:Nat}{x:AV}:bP (vfield T t x f):=aI fun _=>aI fun _=>aI fun _=>aAc
theorem aJs{t:Nat}{x i:AV}:bP (vindex T t x i):=by
 unfold vindex;refine aI fun _=>aI fun _ => ?_
 split
 ·exact aI fun _=>cK fun _=>aAc
 ·split
  ·exact aI fun _=>cK fun _=>aJ _
  ·exact aP
 ·exact aP
theorem lO{m:Mem}{t:Nat}{x:AV}{lo hi:Option AV}:bP (vslice T m t x lo hi):=by
 unfold vslice;refine aI fun _ => ?_
 split
 ·refine aI fun _=>aI fun _ => ?_
  split
  ·exact aI fun _=>aI fun _=>cK fun _=>aJ _
  ·exact aI fun _=>aI fun _=>cK fun _=>aJ _
  ·exact aI fun _=>cK fun _=>aJ _
  ·exact aI fun _=>cK fun _=>aJ _
  ·exact aP
 ·refine aI fun _=>aI fun _ => ?_
  split
  ·exact aI fun _=>aI fun _=>cK fun _=>aJ _
  ·exact aP
 ·exact aP
theorem aVx{m:Mem}{t:Nat}{x:AV}:bP (vlen T m t x):=aI fun _=>aI fun _=>aJ _
theorem uH{b:Bool}{l:List AV}:bP (vminmax b l):=by
 unfold vminmax;split
 ·exact aP
 ·exact aI fun _=>kV _
theorem aJt{t:Nat}{l:List (Nat × AV)}:bP (vbuild T t l):=aI fun _=>aI fun _=>aI fun _=>aJ _
theorem aJu{m:Mem}{id t:Nat}:bP (salloc T m id t):=aI fun _=>aI fun _=>aJ _
theorem aVy{m:Mem}{id t:Nat}{x:AV}:bP (sbox T m id t x):=by
 unfold sbox;refine aI fun _=>aI fun _ => ?_
 split
 ·exact aI fun _=>aJ _
 ·split
  ·exact cK fun _=>aJ _
  ·exact aP
theorem xT{m:Mem}{t:Nat}{a x:AV}:bP (sstore T m t a x):=by
 unfold sstore;refine aI fun _ => ?_
 split
 ·refine aI fun _ => ?_
  split
  ·exact aI fun _=>aI fun _=>aJ _
  ·split
   ·exact aI fun _=>cK fun _=>aJ _
   ·split
    ·exact cK fun _=>aJ _
    ·exact aP
  ·exact aP
 ·exact aP
theorem aGi{m:Mem}{id t t2:Nat}{x y:AV}:bP (sappend T m id t t2 x y):=by
 unfold sappend;refine aI fun _=>aI fun _=>aI fun _=>aI fun _=>aI fun _ => ?_
 split
 ·exact aI fun _=>aI fun _=>cK fun _=>aJ _
 ·exact aI fun _=>cK fun _=>aJ _
 ·exact aP
theorem aNj{m:Mem}{id t:Nat}{l c:AV}:bP (smake T m id t l c):=aI fun _=>aI fun _=>aI fun _=>aI fun _=>cK fun _=>aJ _
theorem aJv{m:Mem}{id t len:Nat}{l:List (Nat × AV)}:bP (sbuild T m id t len l):=by
 unfold sbuild;refine aI fun _=>aI fun _ => ?_
 split
 ·exact cK fun _=>aJ _
 ·exact aI fun _=>aI fun _=>aJ _
theorem aGj{m:Mem}{id t len:Nat}{l:List (Nat × AV)}:bP (nY T m id t len l):=aI fun _=>aY aJv fun _=>aJ _
theorem aGk{m:Mem}{t:Nat}{a x:AV}:bP (lR T m t a x):=by
 unfold lR;split
 ·refine aI fun _ => ?_
  split
  ·exact aI fun _=>aY xT fun _=>aJ _
  ·exact xT
 ·exact aP
theorem aJw{m:Mem}{op:BinOp}{t:Nat}{a b:AV}:bP (pQ T m op t a b):=by
 unfold pQ;refine aI fun _=>aI fun _ => ?_
 split <;> first | exact aJ _ | exact aP
theorem bDs{op:BinOp}{t:Nat}{a b:AV}:bP (veq T op t a b):=by
 unfold veq;refine aI fun _=>aI fun _=>aI fun _ => ?_
 split
 ·refine cK fun _ => ?_
  split <;> first | exact aJ _ | exact aP
 ·exact aP
theorem aVz{m:Mem}{op:BinOp}{t:Nat}{a b:AV}:bP (aKb T m op t a b):=by
 unfold aKb;split
 ·exact aJw
 ·split
  ·exact bDs
  ·exact aVv
theorem bDt{op:UnOp}{x:AV}:bP (cUn op x):=by
 unfold cUn;split
 ·exact aJ _
 ·exact bDr
theorem aGl{m:Mem}{t:Nat}{x:AV}:bP (Bv T m t x):=by
 unfold Bv;refine aI fun _=>aI fun _=>aI fun _ => ?_
 split
 ·exact aI fun _=>aI fun _=>cK fun _=>aJ _
 ·exact aP
theorem uI{m:Mem}{t:Nat}{x:AV}:bP (lS T m t x):=by
 unfold lS;refine aI fun _=>aI fun _ => ?_
 split
 ·exact aI fun _=>aI fun _=>cK fun _=>aJ _
 ·exact aP
theorem aJx{m:Mem}{t:Nat}{x:AV}:bP (sclear T m t x):=by
 unfold sclear;cases mC T t with
 | none=>exact aP
 | some ej =>
  dsimp only;cases ej.2.zero with
  | nil=>exact uI
  | cons z l =>
   cases l with
   | nil=>exact aGl
   | cons z2 l=>exact uI
theorem aNk{m:Mem}{t:Nat}{x y:AV}:bP (scopy T m t x y):=by
 unfold scopy;refine aI fun _=>aI fun _=>aI fun _ => ?_
 split
 ·exact aI fun _=>aI fun _=>cK fun _=>aJ _
 ·exact aP
theorem aCz{m:Mem}{id:Nat}{b:Go.Builtin}{ts:Array TypeId}{vs:List AV}:bP (nE T m id b ts vs):=by
 unfold nE;split
 ·exact eF fun _=>aI fun _=>cY aVx
 ·refine gQ fun _ _ => ?_
  split
  ·exact aGi
  ·exact aP
 ·refine gQ fun _ _ => ?_
  split
  ·exact aNk
  ·exact aP
 ·refine eF fun _ => ?_
  split
  ·exact aJx
  ·exact aP
 ·exact cY uH
 ·exact cY uH
 ·exact aP
theorem aNl{m:Mem}{id:Nat}{vs:List AV}:bP (xU P E m id vs):=by
 unfold xU;split
 ·exact aI fun _=>bPe
 ·exact aP

theorem aWa{m:Mem}{id:Nat}:bP (smap m id):=aI fun _=>aJ _
theorem aNm{m:Mem}{t:Nat}{a k:AV}{ok:Bool}:bP (slook P T m t a k ok):=aI fun _=>aI fun _=>aI fun _=>aI fun _=>aI fun _=>aI fun _=>aY tD fun _=>aY aNf fun d=>by
 cases d
 ·exact aI fun _=>aI fun _=>aJ _
 ·exact aY aNg fun _=>aJ _
theorem aWb{m:Mem}{t:Nat}{a k x:AV}:bP (sput T m t a k x):=aI fun _=>aI fun _=>aI fun _=>aI fun _=>aI fun _=>aI fun _=>aY tD fun _=>aI fun _=>aY aNf fun d=>by
 cases d <;> exact aJ _
theorem aWc{o:Oper}{vs:List AV}{m:Mem}{id:Nat}:bP (core P T E o vs m id):=by
 unfold core;cases o.op <;> dsimp only <;> try exact aP
 case move=>exact eF fun _=>aJ _
 case assign=>exact eF fun _=>aJ _
 case pick=>exact aAa fun _ _ _=>aY aNh fun _=>aJ _
 case alloc=>exact aJq aJu
 case box=>exact eF fun _=>aVy
 case build=>exact cY aJt
 case buildSlice=>exact aGj
 case load=>exact eF fun _=>cY (aY aAb fun _=>aJ _)
 case store=>exact gQ fun _ _=>aY aGk fun _=>aJ _
 case nilCheck =>
  refine eF fun _ => ?_
  split
  ·exact aI fun _=>aJ _
  ·exact aJ _
  ·exact aP
 case binOp=>exact gQ fun _ _=>cY aVz
 case unOp=>exact eF fun _=>cY bDt
 case convert=>exact eF fun _=>cY aNi
 case makeFunc=>split <;> first | exact aJ _ | exact aP
 case makeMap=>split <;> first | exact aJq aWa | exact aP
 case lookup=>exact gQ fun _ _=>cY aNm
 case mapUpdate=>exact aAa fun _ _ _=>aY aWb fun _=>aJ _
 case makeSlice=>exact gQ fun _ _=>aNj
 case slice =>
  split
  ·split
   ·split
    ·exact eF fun _=>cY lO
    ·exact gQ fun _ _=>cY lO
   ·split
    ·exact gQ fun _ _=>cY lO
    ·exact aAa fun _ _ _=>cY lO
  ·exact aP
 case fieldAddr=>exact eF fun _=>cY yK
 case field=>exact eF fun _=>cY aJr
 case indexAddr=>exact gQ fun _ _=>cY yL
 case index=>exact gQ fun _ _=>cY aJs
 case extract=>exact eF fun _=>cY aVw
 case call c =>
  split
  ·exact aCz
  ·exact aNl
  ·exact aP

theorem aNn{o:Oper}{vs:List AV}{m:Mem}{id:Nat}:bP (sL P T E o vs m id):=by
 unfold sL;exact aP
theorem rQ{o:Oper}{vs:List AV}{m:Mem}{id:Nat}{r:AV × Upd}{s s':AS}(h:lP P T E o vs m id s=some (r,s')) :
  (∃ q,s.auto=false∧s.o = .q::q∧sL P T E o vs m id { s with o:=q }=some (r,s'))∨(core P T E o vs m id s=some (r,s')∧aJy r.2=true):=by
 unfold lP at h
 split at h
 ·rename_i q h1 h2 _
  exact .inl ⟨q,h1,h2,h⟩
 ·obtain ⟨r1,s1,h1,k1⟩:=aD h
  obtain ⟨_,s2,h2,k2⟩:=aD k1;obtain ⟨e2,rfl⟩:=aE h2;obtain ⟨rfl,rfl⟩:=aH k2;exact .inr ⟨h1,(bD e2).1⟩
theorem nU{o:Oper}{vs:List AV}{m:Mem}{id:Nat}:bP (lP P T E o vs m id):=fun s r s' h p hp=>by
 rcases rQ h with ⟨q,_,_,h1⟩ | ⟨h1,_⟩
 ·exact aNn _ _ _ h1 p hp
 ·exact aWc _ _ _ h1 p hp
theorem bIo{c:AV}{want:Bool}:bP (bIq c want):=by
 unfold bIq;split
 ·exact aJ _
 ·exact aY aNh fun _=>aJ _
theorem aAd{ops:List Oper}{o:Oper}{st:St}:bP (gW ops o st):=by
 unfold gW;split
 ·exact aJ _
 ·exact aI fun _=>aI fun _=>aI fun _=>bIo
theorem aWd{ops:List Oper}{o:Oper}{id:Nat}{st:St}:bP (nV P T E ops o id st):=by
 unfold nV;refine aY aAd fun _ => ?_
 split
 ·exact aI fun _=>aY nU fun _=>aJ _
 ·exact aJ _
theorem rR{ops:List Oper}:∀ {l:List Oper} {st:St},bP (aWe P T E ops l st)
 | [],_=>aJ _
 | _::_,_=>aY aWd fun _=>rR
end
section
variable {P:Program} {T:TT} {E:Env} {C C0:Cx} {M M0:Mem} {w w0:World}

def mark(D:Nat):Deferred:={ target := .collected D,args := #[] }
def aGh(C:Cx)(w0 w:World)(ds:List Deferred):Prop:=∃ l:List Nat,ds=l.map mark∧l.Nodup∧∀ D∈l,w.heap[D]? = some (.deferred (some []))∧w0.heap.size≤D∧¬ C.F D
def aSq(C0:Cx)(M:Mem)(C:Cx)(w0 w:World):Prop:=∀ p∈C0.R,w.heap[p.1]? = some p.2∧w0.heap.size≤p.1∧p.2 ≠ .deferred (some [])∧¬ C.F p.1∧∀ (id:Nat) (o:AO),M[id]? = some (some o)→o.live=true→C.ι id≠some p.1
def bPd(C0:Cx)(M0:Mem)(w0:World)(b:Nat):Prop:=w0.heap.size≤b∨∃ (id:Nat) (o:AO),M0[id]? = some (some o)∧o.live=true∧C0.ι id=some b
def kZ(C0:Cx)(M0 M:Mem)(C:Cx)(w0 w:World):Prop :=
 (∀ (id to ti sz:Nat) (L:List (Nat × List PV)),M[id]? = some (some (.pk to ti sz L))→aNp C M w id to ti sz L∧(∀ o,M0[id]? ≠ some (some o))∧∀ b,aNo (C.κ id) b→bPd C0 M0 w0 b∧∀ p∈C0.R,p.1≠b) ∧
 ∀ (id Ep to ti sz Oq Ot Ou:Nat) (L L':List (Nat × List PV)),M[id]? = some (some (.pk to ti sz L))→M[Ep]? = some (some (.pk Oq Ot Ou L'))→id≠Ep→∀ b,aNo (C.κ id) b→¬ aNo (C.κ Ep) b
def aNd(M:Mem):Prop:=∀ (id:Nat) (o:AO),M[id]? = some (some o)→o.isPk=false
theorem kZ.no(h:aNd M):kZ C0 M0 M C w0 w:=⟨fun _ _ _ _ _ hm=>absurd (h _ _ hm) (by simp [AO.isPk]),fun _ _ _ _ _ _ _ _ _ _ hm=>absurd (h _ _ hm) (by simp [AO.isPk])⟩
def jG(M M':Mem):Prop:=∀ (id to ti sz:Nat) (L:List (Nat × List PV)),M'[id]? = some (some (.pk to ti sz L))→M[id]? = some (some (.pk to ti sz L))
theorem jG.refl:jG M M:=fun _ _ _ _ _ h=>h
theorem jG.trans{M1 M2:Mem}(h:jG M M1)(k:jG M1 M2):jG M M2:=fun _ _ _ _ _ q=>h _ _ _ _ _ (k _ _ _ _ _ q)
theorem fH{id:Nat}{o:AO}(h:o.isPk=false):jG M (aT M id (some o)):=fun i to ti sz L q=>by
 by_cases e:id=i
 ·subst e
  rw [aS] at q;cases q;cases h
 ·exact (aN M id i _ _ e).1 q
theorem pL:∀ {L:Upd} {M:Mem},aJy L=true→jG M (upds M L)
 | [],_,_ => .refl
 | (i,o)::L,M,h=>by
  simp only [aJy,List.all_cons,Bg,Bool.not_eq_true'] at h
  exact (fH h.1).trans (pL (L:=L) h.2)
theorem kZ.fr{C':Cx}{M':Mem}{w':World}(h:kZ C0 M0 M C w0 w)(hM:aO P C M w)(hk:jG M M')(f:Fr C M w C' M' w'):kZ C0 M0 M' C' w0 w':=by
 have hz:=(hM.le f).fz;refine ⟨fun id to ti sz L hm => ?_,fun id Ep to ti sz Oq Ot Ou L L' hm B8 hne b hb Aj => ?_⟩
 ·obtain ⟨q,q0,q1⟩:=h.1 _ _ _ _ _ (hk _ _ _ _ _ hm)
  obtain ⟨_,e1,e2⟩:=f.ids _ _ (hk _ _ _ _ _ hm);refine ⟨q.move (e1.trans q.io) e2 f.F1 hz fun b hb=>⟨f.keep b (q.lt hb).1 (q.own b hb).2,fun hf => ?_,fun i o ho hl he => ?_⟩,q0,by rw [e2];exact q1⟩
  ·rcases f.F2 b hf with r | r | ⟨i,o,r1,r2,r3⟩
   ·exact (q.own b hb).1 r
   ·have:=(q.lt hb).1;omega
   ·exact (q.own b hb).2 i o r1 r2 r3
  ·rcases f.new i o b ho hl he with r | ⟨i',o',r1,r2,r3⟩
   ·have:=(q.lt hb).1;omega
   ·exact (q.own b hb).2 i' o' r1 r2 r3
 ·rw [(f.ids _ _ (hk _ _ _ _ _ hm)).2.2] at hb
  rw [(f.ids _ _ (hk _ _ _ _ _ B8)).2.2] at Aj
  exact h.2 _ _ _ _ _ _ _ _ _ _ (hk _ _ _ _ _ hm) (hk _ _ _ _ _ B8) hne b hb Aj
def lL(C0:Cx)(M0 M:Mem)(C:Cx)(w0 w:World)(ds:List Deferred):Prop:=aGh C w0 w ds∧aSq C0 M C w0 w∧kZ C0 M0 M C w0 w
theorem lL.nil(h:C0.R=[])(hp:aNd M):lL C0 M0 M C w0 w []:=⟨⟨[],rfl,.nil,fun D h=>by simp at h⟩,fun p hq=>(by rw [h] at hq;cases hq),.no hp⟩
theorem aJp(hM:aO P C M w)(hP:kZ C0 M0 M C w0 w){id b:Nat}{o:AO}(h:M[id]? = some (some o))(hl:o.live=true)(hb:C.ι id=some b):w.heap[b]? ≠ some (.deferred (some [])):=by
 cases o with
 | row ty n cs =>
  rcases hM.row _ _ _ _ h with ⟨h1,_⟩ | ⟨b',arr,i,h1,h2,_⟩
  ·rw [hb] at h1;cases h1
  ·rw [hb] at h1;cases h1;rw [h2];intro e;cases e
 | box ty cs =>
  obtain ⟨b',arr,h1,h2,_⟩:=hM.box _ _ _ h;rw [hb] at h1;cases h1;rw [h2];intro e;cases e
 | mp es cl =>
  obtain ⟨b',arr,h1,h2,_⟩:=hM.mp _ _ _ h;rw [hb] at h1;cases h1;rw [h2];intro e;cases e
 | pk to ti sz L=>rw [(hP.1 _ _ _ _ _ h).1.io] at hb;cases hb
 | dead=>cases hl
theorem aSq.fr{C':Cx}{M':Mem}{w':World}(h:aSq C0 M C w0 w)(f:Fr C M w C' M' w'):aSq C0 M' C' w0 w':=fun p hp=>by
 obtain ⟨q1,q2,q3,q4,q5⟩:=h p hp;have hlt:p.1<w.heap.size:=by
  rcases Nat.lt_or_ge p.1 w.heap.size with h | h
  ·exact h
  ·rw [Array.getElem?_eq_none h] at q1;cases q1
 refine ⟨(f.keep _ hlt q5).trans q1,q2,q3,fun hf => ?_,fun id o ho hl hb => ?_⟩
 ·rcases f.F2 _ hf with h | h | ⟨id,o,h4,h5,h6⟩
  ·exact q4 h
  ·omega
  ·exact q5 id o h4 h5 h6
 ·rcases f.new id o _ ho hl hb with h | ⟨Fq,o0,h4,h5,h6⟩
  ·omega
  ·exact q5 Fq o0 h4 h5 h6
theorem aGh.fr{C':Cx}{M':Mem}{w':World}{ds:List Deferred}(h:aGh C w0 w ds)(hM:aO P C M w)(hP:kZ C0 M0 M C w0 w)(f:Fr C M w C' M' w'):aGh C' w0 w' ds:=by
 obtain ⟨l,h1,h2,h3⟩:=h;refine ⟨l,h1,h2,fun D hD => ?_⟩
 obtain ⟨q1,q2,q3⟩:=h3 D hD;have hlt:D<w.heap.size:=by
  rcases Nat.lt_or_ge D w.heap.size with h | h
  ·exact h
  ·rw [Array.getElem?_eq_none h] at q1;cases q1
 have hno:∀ (id:Nat) (o:AO),M[id]? = some (some o)→o.live=true→C.ι id≠some D:=fun id o ho hl he=>aJp hM hP ho hl he q1
 refine ⟨(f.keep D hlt hno).trans q1,q2,fun hf => ?_⟩
 rcases f.F2 D hf with h | h | ⟨id,o,h4,h5,h6⟩
 ·exact q3 h
 ·omega
 ·exact hno id o h4 h5 h6

theorem lL.fr{C':Cx}{M':Mem}{w':World}{ds:List Deferred}(h:lL C0 M0 M C w0 w ds)(hM:aO P C M w)(hk:jG M M')(f:Fr C M w C' M' w'):lL C0 M0 M' C' w0 w' ds:=⟨h.1.fr hM h.2.2 f,h.2.1.fr f,h.2.2.fr hM hk f⟩

def Sim(P:Program)(C0:Cx)(M0:Mem)(w0:World)(st:St)(a:Act)(w:World):Prop :=
 ∃ C,dO C st.m w st.t a.tmps∧aO P C st.m w∧Fr C0 M0 w0 C st.m w∧lL C0 M0 st.m C w0 w a.defers


def Fen(ro:Option Nat):Fence:={ Fence.wide with round:=ro }
theorem rP{ro:Option Nat}{n f:Nat}{us:Array Value}{R:Ending→World→Prop}(h:CallsIn Fence.wide n P f us w R):CallsIn (Fen ro) n P f us w R:=h

theorem pM{st:St}{a:Act}(hS:dO C st.m w st.t a.tmps):∀ (xs:List Operand) (l:List AV),evs st xs=some l→cG C st.m w l (xs.map a.eval)
 | [],l,h=>by cases h;exact .nil
 | x::r,l,h=>by
  unfold evs at h
  split at h
  ·rename_i y l' h1 h2
   cases h;exact .cons _ _ _ _ (hS.ev h1) (pM hS r l' h2)
  ·cases h

theorem aNe{o:Oper}{vs:List AV}{id:Nat}{r:AV × Upd}{s s':AS}(h:core P T E o vs M id s=some (r,s')):∀ c,o.op ≠ .defer c:=fun c hc=>by
 unfold core at h;rw [hc] at h;exact (aQ h).elim

theorem lM{ops:List Oper}{o:Oper}{st:St}{a:Act}{b:Bool}{s s':AS}(hS:dO C st.m w st.t a.tmps)(h:gW ops o st s=some (b,s'))(g:aW s'):Region.wanted o (yielded ops.toArray a.tmps)=b:=by
 unfold gW at h
 generalize hg:o.guard=gg at h
 cases gg with
 | none =>
  obtain ⟨rfl,rfl⟩:=aH h;unfold Region.wanted;rw [hg]
 | some jw =>
  obtain ⟨j,want⟩:=jw;obtain ⟨oj,s1,h1,k1⟩:=aD h;obtain ⟨e1,rfl⟩:=aE h1;obtain ⟨d,s2,h2,k2⟩:=aD k1;obtain ⟨e2,rfl⟩:=aE h2;obtain ⟨c,s3,h3,k3⟩:=aD k2;obtain ⟨e3,rfl⟩:=aE h3;obtain ⟨hi,_⟩:=A2.1 e3;unfold bIq at k3
  split at k3
  ·obtain ⟨rfl,rfl⟩:=aH k3
   have hr:=hS.at e3
   have hd:a.tmps[d]? = some (.tuple #[]):=by
    cases E5:a.tmps[d]? with
    | none =>
     have:d<a.tmps.size:=by rw [hS.size];exact hi
     rw [pA this] at E5;cases E5
    | some u =>
     rw [A4,E5] at hr
     change Rep C st.m w (.tup []) u at hr
     cases hr with
     | tup _ vs h1 h2=>rw [Array.eq_empty_of_size_eq_zero h1]
   unfold Region.wanted;rw [hg];have hy:yielded ops.toArray a.tmps j=none:=by
    unfold yielded;simp only [List.getElem?_toArray,e1,Option.bind_some,e2,hd]
   simp only [hy];cases want <;> rfl
  obtain ⟨q,s4,h4,k4⟩:=aD k3;obtain ⟨rfl,rfl⟩:=aH k4;obtain ⟨e4,g⟩:=oF (hS.at e3) h4 g
  have hd:a.tmps[d]? = some (.bool q):=by
   rw [← e4,A4];have:d<a.tmps.size:=by rw [hS.size];exact hi
   rw [pA this];rfl
  unfold Region.wanted;rw [hg];have hy:yielded ops.toArray a.tmps j=some q:=by
   unfold yielded;simp only [List.getElem?_toArray,e1,Option.bind_some,e2,hd]
  simp only [hy];cases q <;> cases want <;> rfl

theorem lN{C':Cx}{st:St}{a:Act}{o:Oper}{x:AV}{u:Value}{M':Mem}{w':World}(hS:dO C st.m w st.t a.tmps)(hM:aO P C st.m w)(hF:Fr C0 M0 w0 C st.m w)(hD:lL C0 M0 st.m C w0 w a.defers)
  (f:Fr C st.m w C' M' w') (hk:jG st.m M') (m:aO P C' M' w') (r:Rep C' M' w' x u):Sim P C0 M0 w0 ⟨put st.t o.dst x,M'⟩ (a.put o.dst u) w':=by
 refine ⟨C',(hS.le (hM.le f)).put r,m,hF.trans f,?_⟩;have:(a.put o.dst u).defers=a.defers:=by unfold Act.put;split <;> rfl
 rw [this];exact hD.fr hM hk f

end
section
variable {P:Program} {T:TT} {E:Env} {C C0:Cx} {M M0:Mem} {w w0:World}

def UpS(P:Program)(w:World)(S:Value→World→Prop):Result Next→Prop
 | .ok (.value u) w'=>S u w'
 | .ok .skip w'=>∀ u,S u w'
 | .ok (.enter f us) w'=>w'=w∧∀ n,CallsIn Fence.wide n P f us w (fun e Fp=>∃ u,e = .returned u∧S u Fp)
 | _=>False
section
variable {st:St} {a:Act}
section
variable {bo n cap:Nat} {rows:List (Nat × Nat × Nat)}
end

section
variable {bo cap ka kb na nb:Nat}
end
end
theorem xQ(hT:∀ t i,T t=some i→bU P t=some i)(hE:kI P E){o:Oper}{st:St}{a:Act}{id:Nat}{vs:List AV}{x:AV}{L:Upd}{s s':AS}(hS:dO C st.m w st.t a.tmps)(hM:aO P C st.m w)(hF:Fr C0 M0 w0 C st.m w)(hD:lL C0 M0 st.m C w0 w a.defers)
  (hv:cG C st.m w vs (o.op.operands.toList.map a.eval)) (h:sL P T E o vs st.m id s=some ((x,L),s')) (g:aW s') :
  aW s∧UpS P w (fun u w'=>Sim P C0 M0 w0 ⟨put st.t o.dst x,upds st.m L⟩ (a.put o.dst u) w') ((execOp a.eval o).run P w):=by
 unfold sL at h
 exact (aQ h).elim
end
section
variable {P:Program} {T:TT} {E:Env} {C C0:Cx} {M M0:Mem} {w w0:World}

def bXc(P:Program)(ops:Array Oper)(o:Oper)(st Ag:St):Prop:=∀ (C0:Cx) (M0:Mem) (w0:World) (a:Act) (w:World),Sim P C0 M0 w0 st a w→∀ (ro:Option Nat) (n:Nat) (K:Act→World→Prop) (Q:Exit→Act→World→Prop),
 (∀ a' w',Sim P C0 M0 w0 Ag a' w'→K a' w')→if Region.wanted o (yielded ops a.tmps) then o.wpIn (Fen ro) n P a w K Q else (∀ f,o.about P w a.eval=some f→(Fen ro).fn f)∧K (a.put o.dst undef) w

theorem xP{o:Oper}{vs:List AV}{id:Nat}{r:AV × Upd}{s s':AS}(h:lP P T E o vs M id s=some (r,s')):∀ c,o.op ≠ .defer c:=by
 rcases rQ h with ⟨q,_,_,h1⟩ | ⟨h1,_⟩
 ·intro c hc
  unfold sL at h1
  exact (aQ h1).elim
 ·exact aNe h1
theorem sZ(hT:∀ t i,T t=some i→bU P t=some i)(hE:kI P E){ops:List Oper}{o:Oper}{id:Nat}{st Ag:St}{s s':AS}(h:nV P T E ops o id st s=some (Ag,s'))(g:aW s'):bXc P ops.toArray o st Ag:=by
 intro C0 M0 w0 a w hsim ro n K Q hK;obtain ⟨C,hS,hM,hF,hD⟩:=hsim;unfold nV at h
 obtain ⟨go,s1,h1,k1⟩:=aD h;cases go with
 | true =>
  obtain ⟨vs,s2,h2,k2⟩:=aD k1;obtain ⟨e2,rfl⟩:=aE h2;obtain ⟨⟨x,L⟩,s3,h3,k3⟩:=aD k2;obtain ⟨rfl,rfl⟩:=aH k3;have gd:=nU.good h3 g;rw [lM hS h1 gd,if_pos rfl];refine ⟨fun f _=>trivial,?_⟩
  rw [Oper.semAt_eq _ _ _ (xP h3)]
  rcases rQ h3 with ⟨q,_,_,h4⟩ | ⟨h4,hno⟩
  ·obtain ⟨_,hup⟩:=xQ hT hE hS hM hF hD (pM hS _ _ e2) h4 g
   revert hup;generalize (execOp a.eval o).run P w=r;intro hup;cases r with
   | halt x w'=>exact hup.elim
   | ok nx w' =>
    cases nx with
    | value u=>exact hK _ _ hup
    | skip=>exact hK _ _ (hup _)
    | enter f us =>
     obtain ⟨rfl,hc⟩:=hup;refine ⟨fun h=>by simp [Fen,Fence.wide] at h,(rP (hc (n-1))).mono ?_⟩
     rintro e Fp ⟨u,rfl,hs⟩;exact hK _ _ hs
    | _=>exact hup.elim
  ·obtain ⟨_,hup⟩:=aAg hT hE hM (pM hS _ _ e2) h4 g
   have hk:jG st.m (upds st.m L):=pL hno;revert hup;generalize (execOp a.eval o).run P w=r;intro hup;cases r with
   | halt x w'=>exact hup.elim
   | ok nx w' =>
    cases nx with
    | value u =>
     obtain ⟨C',f,m,r⟩:=hup;exact hK _ _ (lN hS hM hF hD f hk m r)
    | skip =>
     obtain ⟨rfl,C',f,m⟩:=hup;exact hK _ _ (lN hS hM hF hD f hk m (.any _))
    | enter f us =>
     obtain ⟨rfl,hc⟩:=hup;refine ⟨fun h=>by simp [Fen,Fence.wide] at h,(rP (hc (n-1))).mono ?_⟩
     rintro e Fp ⟨u,rfl,C',f,m,r⟩;exact hK _ _ (lN hS hM hF hD f hk m r)
    | _=>exact hup.elim
 | false =>
  obtain ⟨rfl,rfl⟩:=aH k1;rw [lM hS h1 g];simp only [Bool.false_eq_true,if_false];exact ⟨fun f _=>trivial,hK _ _ (lN hS hM hF hD (Fr.refl ..) .refl hM (.tup [] #[] rfl (fun i h=>by simp at h)))⟩

theorem tC(hT:∀ t i,T t=some i→bU P t=some i)(hE:kI P E){ops:List Oper}:∀ (l:List Oper) (k:Nat) {st Ag:St} {s s':AS},(∀ j,l[j]? = ops[k+j]?)→aWe P T E ops l st s=some (Ag,s')→aW s' →
  ∀ (C0:Cx) (M0:Mem) (w0:World) (a:Act) (w:World),Sim P C0 M0 w0 st a w→∀ (ro:Option Nat) (n:Nat) (Q:Exit→Act→World→Prop),(∀ a' w',Sim P C0 M0 w0 Ag a' w'→Q .normal a' w')→wpOpsIn (Fen ro) n P ops.toArray Q ((List.range l.length).map (k + ·)) a w
 | [],k,st,Ag,s,s',_,h,g,C0,M0,w0,a,w,hs,ro,n,Q,hQ=>by
  obtain ⟨rfl,rfl⟩:=aH h;exact hQ _ _ hs
 | o::l,k,st,Ag,s,s',hl,h,g,C0,M0,w0,a,w,hs,ro,n,Q,hQ=>by
  obtain ⟨st1,s1,h1,k1⟩:=aD h;have h0:ops[k]? = some o:=by simpa using (hl 0).symm
  have ih:=tC hT hE l (k+1) (fun j=>by have:=hl (j+1);simpa [Nat.add_assoc,Nat.add_comm 1 j] using this) k1 g C0 M0 w0
  have hst:=sZ hT hE h1 (rR.good k1 g) C0 M0 w0 a w hs ro n (wpOpsIn (Fen ro) n P ops.toArray Q ((List.range l.length).map (k+1 + ·))) Q (fun a' w' Bt=>ih a' w' Bt ro n Q hQ)
  rw [pY,List.range_succ_eq_map,gT,sE];have hm:(List.range l.length).map ((k + ·) ∘ Nat.succ)=(List.range l.length).map (k+1 + ·):=by
   apply yO;intro x _;simp only [Function.comp];omega
  rw [hm,Nat.add_zero,wpOpsIn_cons];unfold wpOpIn;simp only [List.getElem?_toArray,h0];exact hst
end
section
variable {P:Program} {T:TT} {E:Env}

theorem cD(m:Mem)(i j:Nat)(o:AO):bG (aT m i (some o)) j=if i=j then some o else bG m j:=by
 by_cases h:i=j
 ·subst h
  rw [if_pos rfl,aZ.2 (aS m i _)]
 ·rw [if_neg h]
  cases hj:bG m j with
  | some o'=>exact aZ.2 ((aN m i j _ o' h).2 (dJ hj))
  | none =>
   cases Dm:bG (aT m i (some o)) j with
   | none=>rfl
   | some o' =>
    rw [aZ.2 ((aN m i j _ o' h).1 (dJ Dm))] at hj
    cases hj

theorem zT{m m':Mem}{j:Nat}:∀ (L:Upd),bG m j=bG m' j→bG (upds m L) j=bG (upds m' L) j
 | [],h=>h
 | (i,o)::L,h=>by
  simp only [upds];refine zT L ?_;rw [cD,cD,h]
theorem pJ{m:Mem}{j:Nat}:∀ (L:Upd),(∀ p∈L,p.1≠j)→bG (upds m L) j=bG m j
 | [],_=>rfl
 | (i,o)::L,h=>by
  simp only [upds];rw [pJ L (fun p hp=>h p (B7 _ hp)),cD,if_neg (h (i,o) (jI ..))]

theorem sY:∀ (m:Mem) (i j:Nat) (x y:Option AO),i≠j→aT (aT m i x) j y=aT (aT m j y) i x
 | [],0,0,_,_,h=>absurd rfl h
 | [],0,j+1,_,_,_=>rfl
 | [],i+1,0,_,_,_=>rfl
 | [],i+1,j+1,x,y,h=>by simp only [aT];rw [sY [] i j x y (by omega)]
 | _::l,0,0,_,_,h=>absurd rfl h
 | _::l,0,j+1,_,_,_=>rfl
 | _::l,i+1,0,_,_,_=>rfl
 | a::l,i+1,j+1,x,y,h=>by simp only [aT];rw [sY l i j x y (by omega)]
theorem zU{i:Nat}{x:Option AO}:∀ (L:Upd) (m:Mem),(∀ p∈L,p.1≠i)→upds (aT m i x) L=aT (upds m L) i x
 | [],_,_=>rfl
 | (j,o)::L,m,h=>by
  simp only [upds];rw [sY m i j _ _ (fun e=>h (j,o) (jI ..) e.symm)]
  exact zU L _ (fun p hp=>h p (B7 _ hp))
theorem aEj:∀ (L L':Upd) (m:Mem),(∀ p∈L,∀ q∈L',p.1≠q.1)→upds (upds m L) L'=upds (upds m L') L
 | [],_,_,_=>rfl
 | (i,o)::L,L',m,h=>by
  simp only [upds];rw [aEj L L' _ (fun p hp=>h p (B7 _ hp)),zU L' m (fun q hq e=>h (i,o) (jI ..) q hq e.symm)]

def Agr(m m':Mem)(ids:List Nat):Prop:=∀ id∈ids,bG m id=bG m' id
theorem Agr.left{m m':Mem}{a b:List Nat}(h:Agr m m' (a++b)):Agr m m' a:=fun i hi=>h i (mD _ hi)
theorem Agr.right{m m':Mem}{a b:List Nat}(h:Agr m m' (a++b)):Agr m m' b:=fun i hi=>h i (aAz _ hi)
theorem Agr.upds{m m':Mem}{a:List Nat}(h:Agr m m' a)(L:Upd):Agr (upds m L) (KV.upds m' L) a:=fun i hi=>zT L (h i hi)

def F4:AV→List Nat
 | .own id=>[id]
 | .arr id _ _=>[id]
 | .ptr id _=>[id]
 | .mp id=>[id]
 | .pa id _=>[id]
 | _=>[]
def refs:AV→List Nat
 | .agg cs=>cs.flatMap F4
 | x=>F4 x

theorem kU(x:AV):refs (uK x)=refs x:=by
 unfold uK
 split
 ·rfl
 ·rfl
section
variable {m m':Mem} {id:Nat}
theorem bR(h:Agr m m' [id]):bG m id=bG m' id:=h id (jI ..)
theorem iO(h:bG m id=bG m' id):eM m id=eM m' id:=by unfold eM;rw [h]
theorem iP(h:bG m id=bG m' id):dP m id=dP m' id:=by unfold dP;rw [h]
theorem iQ(h:bG m id=bG m' id):eG m id=eG m' id:=by unfold eG;rw [h]
end

variable {m m':Mem}
theorem uF{k:Nat}{x:AV}(h:Agr m m' (refs x)):sO m k x=sO m' k x:=by
 cases x with
 | own id=>simp only [sO,iO (bR h)]
 | arr id off n=>simp only [sO,iO (bR h)]
 | p y=>cases y <;> rfl
 | _=>rfl
theorem aEk{t:Nat}{x:AV}(h:Agr m m' (refs x)):vload T m t x=vload T m' t x:=by
 cases x with
 | ptr id off=>simp only [vload,bR h]
 | _=>rfl
theorem pK{t:Nat}{x i:AV}(h:Agr m m' (refs x)):eN T m t x i=eN T m' t x i:=by
 cases x with
 | own id=>simp only [eN,iO (bR h)]
 | arr id off n=>simp only [eN,iP (bR h)]
 | ptr id off=>rfl
 | p y=>cases y <;> rfl
 | _=>rfl
theorem fG{t:Nat}{x:AV}{lo hi:Option AV}(h:Agr m m' (refs x)):vslice T m t x lo hi=vslice T m' t x lo hi:=by
 cases x with
 | own id=>simp only [vslice,iO (bR h)]
 | arr id off n=>simp only [vslice,iP (bR h)]
 | ptr id off=>simp only [vslice,iP (bR h)]
 | p y=>cases y with
  | v z=>cases z with
   | slice q n c=>cases q <;> cases n <;> cases c <;> rfl
   | _=>rfl
  | _=>rfl
 | _=>rfl
theorem bDo{t:Nat}{x:AV}(h:Agr m m' (refs x)):vlen T m t x=vlen T m' t x:=by
 cases x with
 | own id=>simp only [vlen,iO (bR h)]
 | arr id off n=>simp only [vlen,iP (bR h)]
 | mp id=>simp only [vlen,bR h]
 | p y=>cases y with
  | v z=>cases z <;> rfl
  | _=>rfl
 | _=>rfl
theorem aMz{op:BinOp}{t:Nat}{a b:AV}(h:Agr m m' (refs a)):pQ T m op t a b=pQ T m' op t a b:=by
 have:∀ k,aKh m k a b=aKh m' k a b:=fun k=>by
  cases a with
  | own id=>simp only [aKh,iO (bR h)]
  | ptr id off=>simp only [aKh,iP (bR h)]
  | p y =>
   unfold aKh
   split
   ·cases y with
    | v z=>cases z with
     | slice q n c=>cases q <;> cases n <;> cases c <;> rfl
     | _=>rfl
    | sl n cs=>cases cs <;> rfl
    | _=>rfl
   ·cases y with
    | v z=>cases z with
     | pointer q=>cases q <;> rfl
     | _=>rfl
    | _=>rfl
   ·cases y with
    | v z=>cases z <;> rfl
    | _=>rfl
   ·rfl
  | _=>rfl
 unfold pQ;simp only [this]
theorem aJj{op:BinOp}{t:Nat}{a b:AV}(h:Agr m m' (refs a)):aKb T m op t a b=aKb T m' op t a b:=by
 unfold aKb;rw [aMz h]
theorem aNa{id t:Nat}(h:Agr m m' [id]):salloc T m id t=salloc T m' id t:=by
 unfold salloc;simp only [iQ (bR h)]
theorem bDp{id t:Nat}{x:AV}(h:Agr m m' [id]):sbox T m id t x=sbox T m' id t x:=by
 unfold sbox;simp only [iQ (bR h)]
theorem aVq{id t:Nat}{l c:AV}(h:Agr m m' [id]):smake T m id t l c=smake T m' id t l c:=by
 unfold smake;simp only [iQ (bR h)]
theorem aJk{id t t2:Nat}{x y:AV}(h:Agr m m' [id])(hx:Agr m m' (refs x))(hy:Agr m m' (refs y)):sappend T m id t t2 x y=sappend T m' id t t2 x y:=by
 cases x with
 | own Bh=>simp only [sappend,iQ (bR h),uF hy,iO (bR hx)]
 | p y=>simp only [sappend,iQ (bR h),uF hy];cases y <;> rfl
 | _=>simp only [sappend,iQ (bR h),uF hy]
theorem aVr{t:Nat}{x y:AV}(hx:Agr m m' (refs x))(hy:Agr m m' (refs y)):scopy T m t x y=scopy T m' t x y:=by
 cases x with
 | own Bh=>simp only [scopy,uF hy,iO (bR hx)]
 | _=>simp only [scopy,uF hy]
theorem zV{x:AV}(h:Agr m m' (F4 x)):tF m x=tF m' x:=by
 cases x with
 | own id=>simp only [tF,iO (bR h)]
 | _=>rfl
theorem zW:∀ {l:List AV} {m m':Mem},Agr m m' (l.flatMap F4)→tG m l=tG m' l
 | [],_,_,_=>rfl
 | x::l,m,m',h=>by
  rw [List.flatMap_cons] at h
  unfold tG;rw [zV h.left]
  split
  ·rw [zW (h.right.upds _)]
  ·rfl
theorem zX{x:AV}(h:Agr m m' (refs x)):nX m x=nX m' x:=by
 cases x with
 | agg cs=>simp only [nX,zW h]
 | own id=>exact zV (x := .own id) h
 | _=>rfl
theorem zY:∀ {l:List (Nat × AV)} {m m':Mem},Agr m m' (l.flatMap fun p=>refs p.2)→tH m l=tH m' l
 | [],_,_,_=>rfl
 | (i,x)::l,m,m',h=>by
  rw [List.flatMap_cons] at h
  have h1:nX m x=nX m' x:=zX h.left;simp only [tH,h1]
  split
  ·rw [zY (h.right.upds _)]
  ·rfl
theorem aNb{id t len:Nat}{l:List (Nat × AV)}(h:Agr m m' [id]):sbuild T m id t len l=sbuild T m' id t len l:=by
 unfold sbuild;simp only [iQ (bR h)]
theorem aJl{id t len:Nat}{l:List (Nat × AV)}(h:Agr m m' [id])(hl:Agr m m' (l.flatMap fun p=>refs p.2)):nY T m id t len l=nY T m' id t len l:=by
 unfold nY;rw [zY hl];simp only [aNb (h.upds _)]
theorem aJm{t:Nat}{x:AV}(h:Agr m m' (refs x)):Bv T m t x=Bv T m' t x:=by
 cases x with
 | arr id off n=>simp only [Bv,iP (bR h),iO (bR h)]
 | _=>rfl
theorem aJn{t:Nat}{x:AV}(h:Agr m m' (refs x)):lS T m t x=lS T m' t x:=by
 cases x with
 | arr id off n=>simp only [lS,iP (bR h),iO (bR h)]
 | _=>rfl
theorem aNc{t:Nat}{x:AV}(h:Agr m m' (refs x)):sclear T m t x=sclear T m' t x:=by
 unfold sclear;rw [aJm h,aJn h]
theorem aEl{a:AV}(h:Agr m m' (refs a)):aAi m a=aAi m' a:=by
 cases a with
 | mp id=>simp only [aAi,bR h]
 | _=>rfl
theorem aVs{a:AV}(h:Agr m m' (refs a)):aEo m a=aEo m' a:=by
 unfold aEo;simp only [aEl h]
theorem aEm{t:Nat}{a k:AV}{ok:Bool}(h:Agr m m' (refs a)):slook P T m t a k ok=slook P T m' t a k ok:=by
 unfold slook;simp only [aVs h]
theorem aJo{t:Nat}{a k x:AV}(h:Agr m m' (refs a)):sput T m t a k x=sput T m' t a k x:=by
 unfold sput;simp only [aEl h]
theorem bDq{id:Nat}(h:Agr m m' [id]):smap m id=smap m' id:=by
 unfold smap;simp only [iQ (bR h)]
theorem zZ{t:Nat}{a x:AV}(h:Agr m m' (refs a)):sstore T m t a x=sstore T m' t a x:=by
 cases a with
 | ptr id off=>simp only [sstore,bR h]
 | _=>rfl
theorem xO{t:Nat}{a x:AV}(h:Agr m m' (refs a))(hx:Agr m m' (refs x)):lR T m t a x=lR T m' t a x:=by
 cases a with
 | ptr id off=>simp only [lR,bR h,zX hx,zZ (h.upds _),zZ h]
 | _=>rfl
end
section
variable {P:Program} {T:TT} {E:Env} {C C0:Cx} {M M0:Mem} {w w0:World}

structure Ft where
 fp:Option (List Nat)
 ws:List Nat

def aMw:Op→Bool
 | .move _ | .assign _ | .pick _ _ _ | .makeFunc _ _ _ | .extract _ _ | .field _ _ _ | .convert _ _ _ | .unOp _ _ _ | .build _ _ | .index _ _ _ | .fieldAddr _ _ _=>true
 | _=>false
def bDj:Op→Bool
 | .load _ _ | .store _ _ _ | .nilCheck _ | .binOp _ _ _ _ _ | .slice _ _ _ _ _ | .indexAddr _ _ _ | .lookup _ _ _ _ | .mapUpdate _ _ _ _=>true
 | _=>false
def zR(o:Oper)(vs:List AV):Bool:=match o.op with
 | .indexAddr _ _ _=>match vs with
  | [.ptr _ _,_]=>true
  | _=>false
 | _=>false
theorem aMx{o:Oper}{vs:List AV}(h:zR o vs=true):(∃ t a b,o.op = .indexAddr t a b)∧∃ i off y,vs=[.ptr i off,y]:=by
 unfold zR at h
 split at h
 ·rename_i hop
  split at h
  ·exact ⟨⟨_,_,_,hop⟩,_,_,_,rfl⟩
  ·cases h
 ·cases h
def fpo(o:Oper)(vs:List AV)(id:Nat):Option (List Nat):=match aMw o.op || zR o vs with
 | true=>some []
 | false=>match bDj o.op with
  | true=>some (vs.flatMap refs)
  | false=>match o.op with
   | .call c=>match c.callee with
    | .builtin _=>some (vs.flatMap refs++[id])
    | _=>none
   | _=>some (vs.flatMap refs++[id])

theorem Agr.zip{m m':Mem}:∀ {ps:List Nat} {vs:List AV},Agr m m' (vs.flatMap refs)→Agr m m' ((ps.zip vs).flatMap fun p=>refs p.2)
 | [],_,_=>fun i hi=>by simp at hi
 | _::_,[],_=>fun i hi=>by simp at hi
 | p::ps,v::vs,h=>by
  rw [List.flatMap_cons] at h
  rw [List.zip_cons_cons,List.flatMap_cons];intro i hi
  rcases eU.1 hi with hi | hi
  ·exact h.left i hi
  ·exact Agr.zip h.right i hi

theorem Agr.hd{m m':Mem}{x:AV}{vs:List AV}(h:Agr m m' ((x::vs).flatMap refs)):Agr m m' (refs x):=by rw [List.flatMap_cons] at h;exact h.left
theorem Agr.tl{m m':Mem}{x:AV}{vs:List AV}(h:Agr m m' ((x::vs).flatMap refs)):Agr m m' (vs.flatMap refs):=by rw [List.flatMap_cons] at h;exact h.right

theorem eX{vs:List AV}{f g:AV→Res}(h:∀ x,vs=[x]→f x=g x):En vs f=En vs g:=by
 unfold En;split
 ·exact h _ rfl
 ·rfl
theorem dA{vs:List AV}{f g:AV→AV→Res}(h:∀ x y,vs=[x,y]→f x y=g x y):E6 vs f=E6 vs g:=by
 unfold E6;split
 ·exact h _ _ rfl
 ·rfl
theorem rM{vs:List AV}{f g:AV→AV→AV→Res}(h:∀ x y z,vs=[x,y,z]→f x y z=g x y z):Hy vs f=Hy vs g:=by
 unfold Hy;split
 ·exact h _ _ _ rfl
 ·rfl

theorem bDk{o:Oper}{vs:List AV}{m m':Mem}{id:Nat}{l:List Nat}(hl:fpo o vs id=some l)(h:Agr m m' l):core P T E o vs m id=core P T E o vs m' id:=by
 cases hfr:aMw o.op with
 | true =>
  unfold core;cases hop:o.op <;> rw [hop] at hfr <;> first | rfl | cases hfr | exact eX fun x _=>by rw [vfield_free]
 | false =>
 cases hel:zR o vs with
 | true =>
  obtain ⟨⟨t,a,b,hop⟩,i,off,y,rfl⟩:=aMx hel;unfold core;rw [hop];rfl
 | false =>
 replace hfr:(aMw o.op || zR o vs)=false:=by rw [hfr,hel];rfl
 cases hrd:bDj o.op with
 | true =>
  have hA:l=vs.flatMap refs:=by
   unfold fpo at hl
   rw [hfr,hrd] at hl
   cases hl;rfl
  subst hA;have h1:=h;unfold core;cases hop:o.op <;> rw [hop] at hrd <;> (try cases hrd) <;> dsimp only
  ·exact eX fun x e=>by subst e;rw [aEk (by rw [kU];exact h1.hd)]
  ·exact dA fun x y e=>by subst e;rw [xO h1.hd h1.tl.hd]
  ·
   refine eX fun x e => ?_
   subst e;have h3:Agr m m' (refs (uK x)):=by rw [kU];exact h1.hd
   generalize uK x=x' at h3 ⊢
   cases x' with
   | ptr i off=>simp only [iP (bR h3)]
   | _=>rfl
  ·exact dA fun x y e=>by subst e;rw [aJj h1.hd]
  ·
   split
   ·split
    ·split
     ·exact eX fun x e=>by subst e;rw [fG h1.hd]
     ·exact dA fun x y e=>by subst e;rw [fG h1.hd]
    ·split
     ·exact dA fun x y e=>by subst e;rw [fG h1.hd]
     ·exact rM fun x y z e=>by subst e;rw [fG h1.hd]
   ·rfl
  ·exact dA fun x y e=>by subst e;rw [pK (by rw [kU];exact h1.hd)]
  ·exact dA fun x y e=>by subst e;rw [aEm h1.hd]
  ·exact rM fun x y z e=>by subst e;rw [aJo h1.hd]
 | false =>
 have hA:(∀ c f,o.op = .call c→c.callee ≠ .value f)∧l=vs.flatMap refs++[id]:=by
  unfold fpo at hl
  rw [hfr,hrd] at hl
  dsimp only at hl
  split at hl
  ·rename_i c hc
   split at hl
   ·rename_i b hb
    cases hl;refine ⟨fun c' f Fh hf => ?_,rfl⟩
    rw [hc] at Fh;cases Fh;rw [hb] at hf;cases hf
   ·cases hl
  ·rename_i hn
   cases hl;exact ⟨fun c f hc _=>hn c hc,rfl⟩
 obtain ⟨hc,rfl⟩:=hA;have h1:=h.left;have h2:=h.right;unfold core;cases hop:o.op <;> dsimp only
 case alloc=>rw [aNa h2]
 case box=>exact eX fun x _=>bDp h2
 case buildSlice=>exact aJl h2 (Agr.zip h1)
 case load=>exact eX fun x e=>by subst e;rw [aEk (by rw [kU];exact h1.hd)]
 case store=>exact dA fun x y e=>by subst e;rw [xO h1.hd h1.tl.hd]
 case nilCheck =>
  refine eX fun x e => ?_
  subst e;have h3:Agr m m' (refs (uK x)):=by rw [kU];exact h1.hd
  generalize uK x=x' at h3 ⊢
  cases x' with
  | ptr i off=>simp only [iP (bR h3)]
  | _=>rfl
 case binOp=>exact dA fun x y e=>by subst e;rw [aJj h1.hd]
 case makeSlice=>exact dA fun x y _=>aVq h2
 case makeMap =>
  split
  ·rw [bDq h2]
  ·rfl
 case lookup=>exact dA fun x y e=>by subst e;rw [aEm h1.hd]
 case mapUpdate=>exact rM fun x y z e=>by subst e;rw [aJo h1.hd]
 case slice =>
  split
  ·split
   ·split
    ·exact eX fun x e=>by subst e;rw [fG h1.hd]
    ·exact dA fun x y e=>by subst e;rw [fG h1.hd]
   ·split
    ·exact dA fun x y e=>by subst e;rw [fG h1.hd]
    ·exact rM fun x y z e=>by subst e;rw [fG h1.hd]
  ·rfl
 case indexAddr=>exact dA fun x y e=>by subst e;rw [pK (by rw [kU];exact h1.hd)]
 case call c =>
  split
  ·unfold nE
   split
   ·exact eX fun x e=>by subst e;simp only [bDo h1.hd]
   ·refine dA fun x y e => ?_
    subst e
    split
    ·exact aJk h2 h1.hd h1.tl.hd
    ·rfl
   ·refine dA fun x y e => ?_
    subst e
    split
    ·exact aVr h1.hd h1.tl.hd
    ·rfl
   ·refine eX fun x e => ?_
    subst e
    split
    ·exact aNc h1.hd
    ·rfl
   ·rfl
   ·rfl
   ·rfl
  ·rename_i f hf
   exact absurd hf (hc c f hop)
  ·rfl
 all_goals rfl

def aJf(id:Nat):Nat→List Nat
 | 0=>[]
 | n+1=>(id+n)::aJf id n
theorem aEf{id:Nat}:∀ {n j:Nat},j<n→id+j∈aJf id n
 | 0,j,h=>absurd h (aOi _)
 | n+1,j,h=>by
  unfold aJf
  rcases Nat.lt_or_ge j n with h2 | h2
  ·exact B7 _ (aEf h2)
  ·obtain rfl:j=n:=by omega
   exact jI ..
def fpc(o:Oper)(vs:List AV)(m:Mem)(id:Nat):Option (List Nat):=match o.op with
 | .call c=>match c.callee with
  | .value _=>match fnH vs with
   | .fn _ first caps::args=>some (clos m (tE (first++args++caps))++aJf id 8)
   | _=>none
  | _=>none
 | _=>none
def fpm(o:Oper)(vs:List AV)(m:Mem)(id:Nat)(au:Bool):Option (List Nat):=match fpo o vs id with
 | some l=>some l
 | none=>if au then none else fpc o vs m id
theorem aGf:∀ {l acc:List Nat} {i:Nat},i∈acc→i∈ddN acc l
 | [],acc,i,h=>h
 | a::r,acc,i,h=>by
  unfold ddN
  split
  ·exact aGf h
  ·exact aGf (mD _ h)
theorem aEg{m:Mem}:∀ {n:Nat} {l:List Nat} {i:Nat},i∈l→i∈aAh m n l
 | 0,_,_,h=>h
 | n+1,_,_,h=>aEg (n:=n) (aGf h)
theorem bDl{m m':Mem}:∀ {l:List Nat},Agr m m' l→aEn m l=aEn m' l:=by
 intro l;unfold aEn
 induction l with
 | nil=>intro _;rfl
 | cons a r ih =>
  intro h2;rw [List.flatMap_cons,List.flatMap_cons,ih fun i hi=>h2 i (B7 _ hi),h2 a (jI ..)]
theorem aEh{m m':Mem}:∀ {n:Nat} {l:List Nat},Agr m m' (aAh m n l)→aAh m n l=aAh m' n l
 | 0,_,_=>rfl
 | n+1,l,h=>by
  have e:aEn m l=aEn m' l:=bDl fun i hi=>h i (aEg (n:=n+1) hi)
  unfold aAh at h ⊢
  rw [← e];exact aEh h
theorem aJg{m m':Mem}{l:List Nat}(h:Agr m m' (clos m l)):clos m l=clos m' l:=aEh h
theorem zS{m m':Mem}:∀ {l:List Nat},Agr m m' l→blocks m l=blocks m' l
 | [],_=>rfl
 | i::r,h=>by
  unfold blocks;rw [h i (jI ..),zS fun j hj=>h j (B7 _ hj)]
theorem bDm{args first caps vs:List AV}{f:Nat}{m m':Mem}{id:Nat}{s:AS}(hv:fnH vs = .fn f first caps::args)(ha:s.auto=false)(h:Agr m m' (clos m (tE (first++args++caps))++aJf id 8)):xU P E m id vs s=xU P E m' id vs s:=by
 have e1:clos m (tE (first++args++caps))=clos m' (tE (first++args++caps)):=aJg fun i hi=>h i (mD _ hi)
 have e2:blocks m (clos m (tE (first++args++caps)))=blocks m' (clos m (tE (first++args++caps))):=zS fun i hi=>h i (mD _ hi)
 have e3:uJ m id 8=uJ m' id 8:=by
  have:∀ n,n≤8→uJ m id n=uJ m' id n:=by
   intro n
   induction n with
   | zero=>intro _;rfl
   | succ n ih =>
    intro hn;unfold uJ;rw [iQ (h (id+n) (aAz _ (aEf (by omega)))),ih (by omega)]
  exact this 8 (cP _)
 have e4:aKa P E f (first++args++caps) m id s=aKa P E f (first++args++caps) m' id s:=by
  unfold aKa;rw [ha,e3,← e1,e2]
 unfold xU;rw [hv];dsimp only;cases hk:E.ok f with
 | true=>exact e4
 | false=>rfl
theorem bIn{o:Oper}{vs:List AV}{m m':Mem}{id:Nat}{l:List Nat}{s:AS}(ha:s.auto=false)(hl:fpc o vs m id=some l)(h:Agr m m' l):core P T E o vs m id s=core P T E o vs m' id s∧fpc o vs m' id=some l:=by
 unfold fpc at hl
 split at hl
 ·rename_i c hop
  split at hl
  ·rename_i v hc
   split at hl
   ·rename_i f first caps args e0
    have hl:=Option.some.inj hl;subst hl;refine ⟨?_,?_⟩
    ·unfold core
     rw [hop];dsimp only;rw [hc];exact bDm e0 ha h
    ·unfold fpc
     rw [hop];dsimp only;rw [hc];dsimp only;rw [e0];dsimp only;rw [aJg (fun i hi=>h i (mD _ hi):Agr m m' (clos m (tE (first++args++caps))))]
   ·cases hl
  ·cases hl
 ·cases hl
theorem aVo{o:Oper}{vs:List AV}{m m':Mem}{id:Nat}{l:List Nat}{s:AS}(hl:fpm o vs m id s.auto=some l)(h:Agr m m' l):core P T E o vs m id s=core P T E o vs m' id s∧fpm o vs m' id s.auto=some l:=by
 unfold fpm at hl ⊢
 cases hf:fpo o vs id with
 | some l2 =>
  rw [hf] at hl
  have hl:=Option.some.inj hl;subst hl;exact ⟨by rw [bDk hf h],rfl⟩
 | none =>
  rw [hf] at hl
  dsimp only at hl ⊢
  cases ha:s.auto with
  | true=>rw [ha,if_pos rfl] at hl;exact absurd hl (by simp)
  | false =>
   rw [ha,if_neg (by simp)] at hl
   rw [if_neg (by simp)]
   exact bIn ha hl h

theorem aVp{o:Oper}{vs:List AV}{m m':Mem}{id:Nat}(h:Agr m m' (vs.flatMap refs++[id])):sL P T E o vs m id=sL P T E o vs m' id:=by
 unfold sL;rfl
def fpQ(o:Oper)(vs:List AV)(m:Mem)(id:Nat)(s:AS):Option (List Nat):=match s.auto,s.o,bIp o vs with
 | false,.q::_,true=>some (vs.flatMap refs++[id])
 | _,_,_=>fpm o vs m id s.auto
theorem aEi{o:Oper}{vs:List AV}{m m':Mem}{id:Nat}{l:List Nat}{s:AS}(hl:fpQ o vs m id s=some l)(h:Agr m m' l):lP P T E o vs m id s=lP P T E o vs m' id s∧fpQ o vs m' id s=some l:=by
 obtain ⟨au,oo,ob⟩:=s;have ord:fpm o vs m id au=some l→(∀ q,¬ (au=false∧oo = .q::q∧bIp o vs=true))→lP P T E o vs m id ⟨au,oo,ob⟩=lP P T E o vs m' id ⟨au,oo,ob⟩∧fpQ o vs m' id ⟨au,oo,ob⟩=some l:=fun hl hn=>by
  obtain ⟨e1,e2⟩:=aVo (P:=P) (T:=T) (E:=E) (s:=⟨au,oo,ob⟩) hl h;have g:∀ k,lP P T E o vs k id ⟨au,oo,ob⟩=(Ask.bind (core P T E o vs k id) fun r=>Ask.bind (lift (if aJy r.2=true then some () else none)) fun _=>pure r) ⟨au,oo,ob⟩:=fun k=>by
   unfold lP
   split
   ·rename_i q h2 h3 h4
    exact absurd ⟨h2,h3,h4⟩ (hn q)
   ·rfl
  refine ⟨?_,?_⟩
  ·rw [g m,g m']
   unfold Ask.bind;rw [e1]
  ·unfold fpQ
   split
   ·rename_i q h2 h3 h4
    exact absurd ⟨h2,h3,h4⟩ (hn q)
   ·exact e2
 cases au with
 | true=>exact ord hl fun q h=>by cases h.1
 | false =>
  cases oo with
  | nil=>exact ord hl fun q h=>by cases h.2.1
  | cons x r =>
   cases x with
   | q =>
    cases hk:bIp o vs with
    | true =>
     have hl:some (vs.flatMap refs++[id])=some l:=by rw [← hl];unfold fpQ;simp only [hk]
     cases hl;refine ⟨?_,by unfold fpQ;simp only [hk]⟩
     unfold lP;simp only [hk];rw [aVp h]
    | false=>exact ord (by rw [← hl];unfold fpQ;simp only [hk]) fun q h=>by rw [hk] at h;cases h.2.2
   | _=>exact ord hl fun q h=>by cases h.2.1
def pH(P:Program)(T:TT)(E:Env)(ops:List Oper)(o:Oper)(id:Nat)(st:St)(x:AV)(L:Upd)(F:Option (List Nat)):Prop :=
 ∃ s s1,(gW ops o st s=some (false,s1)∧aW s1∧x = .tup []∧L=[]∧F=some []) ∨
  (gW ops o st s=some (true,s1)∧∃ vs s2,evs st o.op.operands.toList=some vs∧lP P T E o vs st.m id s1=some ((x,L),s2)∧aW s2∧F=fpQ o vs st.m id s1)

theorem pH.op(hT:∀ t i,T t=some i→bU P t=some i)(hE:kI P E){ops:List Oper}{o:Oper}{id:Nat}{st:St}{x:AV}{L:Upd}{F:Option (List Nat)}(h:pH P T E ops o id st x L F):bXc P ops.toArray o st ⟨put st.t o.dst x,upds st.m L⟩:=by
 obtain ⟨s,s1,⟨h1,g,rfl,rfl,_⟩ | ⟨h1,vs,s2,h2,h3,g,_⟩⟩:=h
 ·refine sZ (T:=T) (E:=E) (id:=id) (s:=s) (s':=s1) hT hE ?_ g
  unfold nV;show Ask.bind _ _ s=_;unfold Ask.bind;rw [h1];rfl
 ·refine sZ (T:=T) (E:=E) (id:=id) (s:=s) (s':=s2) hT hE ?_ g
  unfold nV;show Ask.bind _ _ s=_;unfold Ask.bind;rw [h1];show Ask.bind _ _ s1=_;unfold Ask.bind lift;rw [h2];show Ask.bind _ _ s1=_;unfold Ask.bind;rw [h3];rfl

theorem aSp{ts:List AV}{d:Option Tmp}{x:AV}{t:Nat}(h:∀ e,d=some e→e≠t):(put ts d x)[t]? = ts[t]? := by
 cases d with
 | none=>rfl
 | some e=>exact bIz (h e rfl)
theorem bPc{st:St}{m:Mem}{d:Option Tmp}{x:AV}{y:Operand}(h:∀ e,d=some e→y ≠ .tmp e):ev ⟨put st.t d x,m⟩ y=ev st y:=by
 cases y with
 | tmp t=>exact aSp fun e he e2=>h e he (e2 ▸ rfl)
 | const c=>cases c <;> rfl
 | _=>rfl
theorem aGg{st:St}{m:Mem}{d:Option Tmp}{x:AV}:∀ {l:List Operand},(∀ e,d=some e → .tmp e∉l)→evs ⟨put st.t d x,m⟩ l=evs st l
 | [],_=>rfl
 | y::l,h=>by
  unfold evs;rw [bPc (fun e he e2=>h e he (e2 ▸ jI ..)),aGg (fun e he h2=>h e he (B7 _ h2))]
theorem bDn{ts:List AV}{d e:Option Tmp}{x y:AV}(h:∀ i,d=some i→e≠some i):put (put ts d x) e y=put (put ts e y) d x:=by
 cases d with
 | none=>rfl
 | some i=>cases e with
  | none=>rfl
  | some j=>exact List.set_comm _ _ fun e2=>h i rfl (e2 ▸ rfl)

theorem aJh{ops:Array Oper}{o:Oper}{e:Tmp}(h:e∉o.looksAt ops) : .tmp e∉o.op.operands.toList:=fun h2=>h (by
 unfold Oper.looksAt;exact mD _ (List.mem_filterMap.2 ⟨.tmp e,h2,rfl⟩))

theorem rN{α β:Type}(a:α)(f:α→Ask β):(lift (some a) >>= f)=f a:=rfl

theorem rO{ops:List Oper}{o:Oper}{st:St}{m:Mem}{d:Option Tmp}{x:AV}(h:∀ e,d=some e→e∉o.looksAt ops.toArray):gW ops o ⟨put st.t d x,m⟩=gW ops o st:=by
 unfold gW
 split
 ·rfl
 ·rename_i j want hg
  cases hj:ops[j]? with
  | none=>rfl
  | some oj =>
   rw [rN,rN];cases hd:oj.dst with
   | none=>rfl
   | some t =>
    rw [rN,rN];have:(put st.t d x)[t]? = st.t[t]? := aSp fun e he e2=>h e he (by
     subst e2;unfold Oper.looksAt;refine aAz _ ?_;simp [hg,hj,hd])
    simp only [this]

def aMy(a b:Ft):Bool:=(a.ws.isEmpty || (match b.fp with | some f=>a.ws.all (fun x => !f.contains x) | none=>false)) && (b.ws.isEmpty || (match a.fp with | some f=>b.ws.all (fun x => !f.contains x) | none=>false)) && a.ws.all (fun x => !b.ws.contains x)

theorem aJi{m:Mem}{L:Upd}{l:List Nat}(h:(L.map (·.1)).all (fun x => !l.contains x)=true):Agr m (upds m L) l:=fun i hi=>by
 refine (pJ L fun p hp e => ?_).symm
 rw [fD] at h
 have:=h p.1 (bEi hp);simp only [Bool.not_eq_true',List.contains_eq_mem,decide_eq_false_iff_not] at this
 exact this (e ▸ hi)

theorem pH.move{ops:List Oper}{oi oj:Oper}{idi idj:Nat}{st:St}{xi xj:AV}{Li Lj:Upd}{Fi Fj:Option (List Nat)}(hap:oi.apart ops.toArray oj=true)(hok:aMy ⟨Fi,Li.map (·.1)⟩ ⟨Fj,Lj.map (·.1)⟩=true)
  (hi:pH P T E ops oi idi st xi Li Fi) (hj:pH P T E ops oj idj ⟨put st.t oi.dst xi,upds st.m Li⟩ xj Lj Fj) :
  pH P T E ops oj idj st xj Lj Fj∧pH P T E ops oi idi ⟨put st.t oj.dst xj,upds st.m Lj⟩ xi Li Fi ∧
   put (put st.t oi.dst xi) oj.dst xj=put (put st.t oj.dst xj) oi.dst xi∧upds (upds st.m Li) Lj=upds (upds st.m Lj) Li:=by
 obtain ⟨a1,a2,a3⟩:=Oper.apart_spec hap;unfold aMy at hok
 simp only [Bg] at hok
 obtain ⟨⟨k1,k2⟩,k3⟩:=hok;have hL:∀ p∈Li,∀ q∈Lj,p.1≠q.1:=fun p hp q hq e=>by
  rw [fD] at k3
  have:=k3 p.1 (bEi hp);simp only [Bool.not_eq_true',List.contains_eq_mem,decide_eq_false_iff_not] at this
  exact this (e ▸ bEi hq)
 refine ⟨?_,?_,bDn a2,aEj Li Lj st.m hL⟩
 ·obtain ⟨s,s1,⟨h1,g,rfl,rfl,h5⟩ | ⟨h1,vs,s2,h2,h3,g,h5⟩⟩:=hj
  ·rw [rO a1] at h1
   exact ⟨s,s1,.inl ⟨h1,g,rfl,rfl,h5⟩⟩
  ·rw [rO a1] at h1
   rw [aGg (fun e he=>aJh (a1 e he))] at h2
   rw [aKt] at k1
   rcases k1 with k1 | k1
   ·have:Li=[]:=by simpa using k1
    subst this;exact ⟨s,s1,.inr ⟨h1,vs,s2,h2,h3,g,h5⟩⟩
   ·rw [h5] at k1
    cases hf:fpQ oj vs (upds st.m Li) idj s1 with
    | none =>
     rw [hf] at k1;cases k1
    | some l =>
     rw [hf] at k1
     have hA:Agr (upds st.m Li) st.m l:=fun i hi=>(aJi (m:=st.m) (L:=Li) k1 i hi).symm
     obtain ⟨q1,q2⟩:=aEi (P:=P) (T:=T) (E:=E) hf hA;exact ⟨s,s1,.inr ⟨h1,vs,s2,h2,by rw [← q1];exact h3,g,by rw [q2,← hf];exact h5⟩⟩
 ·obtain ⟨s,s1,⟨h1,g,rfl,rfl,h5⟩ | ⟨h1,vs,s2,h2,h3,g,h5⟩⟩:=hi
  ·exact ⟨s,s1,.inl ⟨by rw [rO a3];exact h1,g,rfl,rfl,h5⟩⟩
  ·have G4:gW ops oi ⟨put st.t oj.dst xj,upds st.m Lj⟩ s=some (true,s1):=by rw [rO a3];exact h1
   have Eo:evs ⟨put st.t oj.dst xj,upds st.m Lj⟩ oi.op.operands.toList=some vs:=by rw [aGg (fun e he=>aJh (a3 e he))];exact h2
   rw [aKt] at k2
   rcases k2 with k2 | k2
   ·have:Lj=[]:=by simpa using k2
    subst this;exact ⟨s,s1,.inr ⟨G4,vs,s2,Eo,h3,g,h5⟩⟩
   ·rw [h5] at k2
    cases hf:fpQ oi vs st.m idi s1 with
    | none=>rw [hf] at k2;cases k2
    | some l =>
     rw [hf] at k2
     obtain ⟨q1,q2⟩:=aEi (P:=P) (T:=T) (E:=E) hf (aJi (m:=st.m) (L:=Lj) k2);exact ⟨s,s1,.inr ⟨G4,vs,s2,Eo,by rw [← q1];exact h3,g,by rw [q2,← hf];exact h5⟩⟩
end
end KV
end Go.Proofs
