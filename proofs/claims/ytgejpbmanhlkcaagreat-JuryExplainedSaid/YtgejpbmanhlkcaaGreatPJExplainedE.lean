/- Parts of the proof of JExplained: laws of walks, contracts of functions, plain models. No condition. -/
import Derived.Shelf.Small.Bits
import Derived.Shelf.Small.Wraps
import Derived.Shelf.Strconv.Itoa0
import Derived.Shelf.Sort.Plain
import Derived.Shelf.Slices.Turned
import Derived.Ground.Names2Prog
import Derived.Shelf.Slices.Clone
import Derived.Shelf.Slices.CompactI
import Derived.Shelf.Slices.SearchI
import Derived.Shelf.Slices.Cells
import Derived.Shelf.Slices.In.SortNone
import Derived.Ground.SlgnProg
import Derived.Shelf.SlicesE.Clone
import Derived.Test.YtgejpbmanhlkcaaGreatProg
import Derived.Sort.OwnSortedInts
import Derived.Lib.OwnBridge
import Derived.OneCell
import Derived.Test.YtgejpbmanhlkcaaGreatPJExplainedD
set_option linter.unusedVariables false
set_option linter.unusedSimpArgs false
set_option maxRecDepth 100000
section
namespace Go.Proofs
open Go.Shelf
def Tryz.lays189_ren:Go.Shelf.Ren:=⟨fun | 189=>57 | 125=>131 | 257=>130 | 128=>180 | 129=>181 | 294=>171 | 295=>172 | 296=>173 | 297=>174 | 298=>175 | 299=>176 | 216=>177 | 300=>178 | 301=>179 | 328=>207 | 329=>208 | 330=>209 | 331=>210 | 332=>211 | 215=>168 | 343=>224 | n=>n,fun | 28=>33 | 3=>3 | 46=>172 | 0=>0 | 51=>127 | 53=>225 | 4=>4 | 183=>218 | 182=>217 | 131=>106 | 5=>5 | 9=>9 | 218=>245 | 222=>249 | 228=>257 | 229=>198 | n=>n,fun | n=>n⟩
theorem Tryz.lays189:Go.Proofs.Lays.n189 Tryz.prog Tryz.lays189_ren:={
 mixed:=by kernel_rfl
 f125:=Tryz.func131.trans (congrArg some (by kernel_rfl))
 f128:=Tryz.func180.trans (congrArg some (by kernel_rfl))
 f129:=Tryz.func181.trans (congrArg some (by kernel_rfl))
 f189:=Tryz.func57.trans (congrArg some (by kernel_rfl))
 f215:=Tryz.func168.trans (congrArg some (by kernel_rfl))
 f216:=Tryz.func177.trans (congrArg some (by kernel_rfl))
 f257:=Tryz.func130.trans (congrArg some (by kernel_rfl))
 f294:=Tryz.func171.trans (congrArg some (by kernel_rfl))
 f295:=Tryz.func172.trans (congrArg some (by kernel_rfl))
 f296:=Tryz.func173.trans (congrArg some (by kernel_rfl))
 f297:=Tryz.func174.trans (congrArg some (by kernel_rfl))
 f298:=Tryz.func175.trans (congrArg some (by kernel_rfl))
 f299:=Tryz.func176.trans (congrArg some (by kernel_rfl))
 f300:=Tryz.func178.trans (congrArg some (by kernel_rfl))
 f301:=Tryz.func179.trans (congrArg some (by kernel_rfl))
 f328:=Tryz.func207.trans (congrArg some (by kernel_rfl))
 f329:=Tryz.func208.trans (congrArg some (by kernel_rfl))
 f330:=Tryz.func209.trans (congrArg some (by kernel_rfl))
 f331:=Tryz.func210.trans (congrArg some (by kernel_rfl))
 f332:=Tryz.func211.trans (congrArg some (by kernel_rfl))
 f343:=Tryz.func224.trans (congrArg some (by kernel_rfl))
 t0:=Tryz.underlying0
 a0:=Tryz.isAgg0
 z0:=Tryz.sizeOf0
 v0:=Tryz.zeroValue0
 t3:=Tryz.underlying3
 a3:=Tryz.isAgg3
 z3:=Tryz.sizeOf3
 v3:=Tryz.zeroValue3
 t4:=Tryz.underlying4
 a4:=Tryz.isAgg4
 z4:=Tryz.sizeOf4
 v4:=Tryz.zeroValue4
 t5:=Tryz.underlying5
 a5:=Tryz.isAgg5
 z5:=Tryz.sizeOf5
 v5:=Tryz.zeroValue5
 t9:=Tryz.underlying9
 a9:=Tryz.isAgg9
 z9:=Tryz.sizeOf9
 v9:=Tryz.zeroValue9
 t28:=Tryz.underlying33
 a28:=Tryz.isAgg33
 z28:=Tryz.sizeOf33
 v28:=Tryz.zeroValue33
 t46:=Tryz.underlying172
 a46:=Tryz.isAgg172
 z46:=Tryz.sizeOf172
 v46:=Tryz.zeroValue172
 t51:=Tryz.underlying127
 a51:=Tryz.isAgg127
 z51:=Tryz.sizeOf127
 v51:=Tryz.zeroValue127
 t53:=Tryz.underlying225
 a53:=Tryz.isAgg225
 z53:=Tryz.sizeOf225
 v53:=Tryz.zeroValue225
 t131:=Tryz.underlying106
 a131:=Tryz.isAgg106
 z131:=Tryz.sizeOf106
 v131:=Tryz.zeroValue106
 t182:=Tryz.underlying217
 a182:=Tryz.isAgg217
 z182:=Tryz.sizeOf217
 v182:=Tryz.zeroValue217
 t183:=Tryz.underlying218
 a183:=Tryz.isAgg218
 z183:=Tryz.sizeOf218
 v183:=Tryz.zeroValue218
 t218:=Tryz.underlying245
 a218:=Tryz.isAgg245
 z218:=Tryz.sizeOf245
 v218:=Tryz.zeroValue245
 t222:=Tryz.underlying249
 a222:=Tryz.isAgg249
 z222:=Tryz.sizeOf249
 v222:=Tryz.zeroValue249
 t228:=Tryz.underlying257
 a228:=Tryz.isAgg257
 z228:=Tryz.sizeOf257
 v228:=Tryz.zeroValue257
 t229:=Tryz.underlying198
 a229:=Tryz.isAgg198
 z229:=Tryz.sizeOf198
 v229:=Tryz.zeroValue198 }
open Go.Sort Go.RowKit in
theorem Tryz.slices_Sort_int(blk off cap:Nat)(zs:List Int)(w:World)(hH:Holds (Value.int .i64) w blk off zs.toArray)(hblk:blk<w.heap.size)(hsz:zs.length<4611686018427387904) :
  Calls Tryz.prog 57 #[.slice (some ⟨blk,off,none⟩) zs.length cap] w fun e w' =>
   e = .returned (.tuple #[])∧∃ n os,w'=grow (putRow (Value.int .i64) (Sort.ahead w n) blk off (zs.mergeSort fun x y=>decide (x≤y)).toArray) os:=Any.slices_Sort_int Tryz.lays189 blk off cap zs w hH hblk hsz
def Tryz.laysNm220_ren:Go.Shelf.Ren:=⟨fun | 20=>186 | n=>n,fun | 22=>33 | 3=>3 | 4=>4 | 0=>0 | n=>n,fun | n=>n⟩
theorem Tryz.laysNm220:Go.Proofs.Lays2.n20 Tryz.prog Tryz.laysNm220_ren:={
 mixed:=by kernel_rfl
 f20:=Tryz.func186.trans (congrArg some (by kernel_rfl))
 t0:=Tryz.underlying0
 a0:=Tryz.isAgg0
 z0:=Tryz.sizeOf0
 v0:=Tryz.zeroValue0
 t3:=Tryz.underlying3
 a3:=Tryz.isAgg3
 z3:=Tryz.sizeOf3
 v3:=Tryz.zeroValue3
 t4:=Tryz.underlying4
 a4:=Tryz.isAgg4
 z4:=Tryz.sizeOf4
 v4:=Tryz.zeroValue4
 t22:=Tryz.underlying33
 a22:=Tryz.isAgg33
 z22:=Tryz.sizeOf33
 v22:=Tryz.zeroValue33
 i3:=by kernel_rfl }
open Go.RowKit Go.Lib Go.Sort in
theorem Tryz.slices_Compact_int(blk off cap:Nat)(zs:List Int)(w:World)(hH:Holds (Value.int .i64) w blk off zs.toArray)(hsz:zs.length≤9223372036854775807)(hcap:zs.length≤cap) :
  Calls Tryz.prog 186 #[.slice (some ⟨blk,off,none⟩) zs.length cap] w fun e w'=>e = .returned (.slice (some ⟨blk,off,none⟩) (Lib.compact zs).length cap)∧∃ q,w'=putRow (Value.int .i64) (Sort.ahead w q) blk off (Lib.compact zs++List.replicate (zs.length-(Lib.compact zs).length) 0).toArray:=Any.slices_Compact_int Tryz.laysNm220 blk off cap zs w hH hsz hcap
open Go.RowKit Go.Lib Go.Sort in
theorem Tryz.slices_Compact_int_empty(a:Option Addr)(cap:Nat)(w:World) :
  Calls Tryz.prog 186 #[.slice a 0 cap] w fun e w'=>e = .returned (.slice a 0 cap)∧w'=w:=Any.slices_Compact_int_empty Tryz.laysNm220 a cap w
theorem Tryz.slices_Sort_int_none(p:Option Addr)(cap:Nat)(w:World) :
  Calls Tryz.prog 57 #[.slice p 0 cap] w fun e w'=>e = .returned (.tuple #[])∧w'=w:=Any.slices_Sort_int_none Tryz.lays189 p cap w
end Go.Proofs
end
section
namespace Go.Proofs
open Go.RowKit Go.Lib Go.Sort
namespace KL
def OwnI(w:World)(base:Nat)(v:Value)(l:List Int):Prop:=w.ownsRow base 3 1 v l.length (l.map (Value.int .i64))

def leB:Int→Int→Bool:=fun x y=>decide (x≤y)

theorem bHr(base:Nat)(v:Value)(l:List Int)(w:World)(hv:OwnI w base v l)(hlen:l.length≤1000000) :
  Calls Tryz.prog 57 #[v] w fun e w'=>e = .returned (.tuple #[])∧OwnI w' base v (l.mergeSort leB)∧w.grownBy w' v.ownBlock:=by
 have hown:=hv
 rcases hv.2 with ⟨rfl,h0⟩ | ⟨g,cap,cur,rfl,hb,hg,hn,hm,hs,ht⟩
 ·have:l=[]:=List.eq_nil_of_length_eq_zero h0
  subst this;refine (Tryz.slices_Sort_int_none none 0 w).mono ?_;rintro e w' ⟨rfl,rfl⟩;exact ⟨rfl,by simpa using hown,World.grownBy.refl _ _⟩
 ·have hlt:=lt_of_block hg
  refine (Tryz.slices_Sort_int g 0 cap l w (holds_of_blockI hg (by simpa using ht)) hlt (by omega)).mono ?_
  rintro e w' ⟨rfl,n,os,rfl⟩;refine ⟨rfl,?_,grownBy_sortedI _⟩;have hl:(l.mergeSort leB).length=l.length:=List.length_mergeSort l;unfold OwnI;rw [hl];exact ownsRow_sortedI hl hb hg hn hm hs

end KL
open KL
namespace KV
open Go.Shelf
variable {P:Program} {C:Cx} {M:Mem} {w w':World}
abbrev qA(l:List Int):AO := .row 3 l.length (l.map aB)
theorem bHs{F:Nat→Prop}{cur:Array Value}{l:List Int}(hle:l.length≤cur.size)(h:∀ j (hj:j<(l.map aB).length),cQ F w (l.map aB)[j] (cur.getD j undef)):cur.toList.take l.length=l.map (Value.int .i64):=by
 apply List.ext_getElem
 ·simp;omega
 ·intro i h1 h2
  have hi:i<l.length:=by simpa using h2
  have:=h i (by simpa using hi)
  rw [List.getElem_map] at this
  rw [List.getElem_map,List.getElem_take];cases hx:cur.getD i undef with
  | int k z =>
   rw [hx] at this
   cases this;rw [Array.getD_eq_getD_getElem?,Array.getElem?_eq_getElem (by omega)] at hx
   simpa using hx
  | _=>rw [hx] at this;cases this
theorem aMy(F:Nat→Prop){cur:Array Value}{l:List Int}(h:cur.toList.take l.length=l.map (Value.int .i64)):(∀ j (hj:j<(l.map aB).length),cQ F w (l.map aB)[j] (cur.getD j undef))∧∀ j,j<(l.map aB).length→(cur.getD j undef).oneCell'=true:=by
 have key:∀ j (hj:j<l.length),cur.getD j undef = .int .i64 l[j]:=fun j hj=>by
  have h1:=congrArg (fun x=>x[j]?) h
  simp only [List.getElem?_take,hj,if_true,List.getElem?_map,List.getElem?_eq_getElem hj,Option.map_some,Array.getElem?_toList] at h1
  rw [Array.getD_eq_getD_getElem?,h1];rfl
 refine ⟨fun j hj => ?_,fun j hj => ?_⟩
 ·have hj':j<l.length:=by simpa using hj
  rw [List.getElem_map,key j hj'];exact .v _
 ·rw [key j (by simpa using hj)];rfl

theorem size3:∃ i,Tryz.prog.info? 3=some i∧i.size=1:=oK (show (Tryz.prog.info? 3).map (fun i=>i.size)=some 1 by kernel_rfl)
theorem bHt{id:Nat}{l:List Int}{u:Value}(hM:aQ Tryz.prog C M w)(ho:M[id]? = some (some (qA l)))(h:Rep C M w (.own id) u):OwnI w 0 u l:=by
 refine ⟨by simp,?_⟩
 cases h with
 | own _ _ h0 ha hr =>
  rcases hr _ _ _ ho with ⟨rfl,_,hn⟩ | ⟨b,rfl,hb⟩
  ·exact .inl ⟨rfl,hn⟩
  ·rcases hM.row _ _ _ _ ho with ⟨hn',_⟩ | ⟨b',arr,inf,hb',q1,q2,q3,q4,q5,q6,q7,q8⟩
   ·rw [hb] at hn';cases hn'
   ·rw [hb] at hb';cases hb'
    obtain ⟨i,hi,hs⟩:=size3;rw [hi] at q2;cases q2
    exact .inr ⟨b,_,arr,rfl,Nat.zero_le _,q1,q5,q6,by rw [q3,hs],by rw [Nat.mul_one];exact bHs (by rw [q3,hs];omega) q7⟩

theorem aGt{l l':List Int}{u u':Value}{d:Bool}(hM:aQ Tryz.prog C [some (qA l)] w)(h:Rep C [some (qA l)] w (.own 0) u)(hown:OwnI w' 0 u' l')(hg:w.grownBy w' u.ownBlock)
  (hb:u'.ownBlock=u.ownBlock) (hd:d=false→u'=u∧l'.length=l.length) :
  ∃ C',Fr C [some (qA l)] w C' (if d then [some .dead,some (qA l')] else [some (qA l')]) w'∧aQ Tryz.prog C' (if d then [some .dead,some (qA l')] else [some (qA l')]) w'∧Rep C' (if d then [some .dead,some (qA l')] else [some (qA l')]) w' (.own (if d then 1 else 0)) u':=by
 have at0:∀ (id:Nat) (o:AO),([some (qA l)]:Mem)[id]? = some (some o)→id=0∧o=qA l:=fun id o h=>by
  cases id with
  | zero=>simp at h;exact ⟨rfl,h.symm⟩
  | succ i=>simp at h
 have hblk:∀ b,C.ι 0=some b→u.ownBlock=some b∧∃ cap,u = .slice (some ⟨b,0,none⟩) l.length cap∧cap=C.κ 0:=fun b hb0=>by
  cases h with
  | own _ _ h0 ha hr =>
   rcases hr _ _ _ rfl with ⟨_,hn,_⟩ | ⟨b',rfl,hb'⟩
   ·rw [hb0] at hn;cases hn
   ·rw [hb0] at hb';cases hb';exact ⟨rfl,_,rfl,rfl⟩
 have hnb:C.ι 0=none→u = .slice none 0 0:=fun hn=>by
  cases h with
  | own _ _ h0 ha hr =>
   rcases hr _ _ _ rfl with ⟨hu,_,_⟩ | ⟨b',rfl,hb'⟩
   ·exact hu
   ·rw [hn] at hb';cases hb'
 have hkeep:∀ b,b<w.heap.size→(∀ (id:Nat) (o:AO),([some (qA l)]:Mem)[id]? = some (some o)→o.live=true→C.ι id≠some b)→w'.heap[b]? = w.heap[b]? := fun b hb1 hn=>by
  refine hg.block b hb1 fun he => ?_
  cases hι:C.ι 0 with
  | none=>rw [hnb hι] at he;cases he
  | some b' =>
   rw [(hblk b' hι).1] at he;cases he
   exact hn 0 _ rfl rfl hι
 have hFz:∀ b,C.F b→w'.heap[b]? = w.heap[b]? := fun b hf=>hkeep b (hM.Fs b hf) fun id o hm hl he=>hM.nF id o b hm hl he hf
 cases d with
 | false =>
  obtain ⟨rfl,hlen⟩:=hd rfl;simp only [Bool.false_eq_true,if_false];have at1:∀ (id:Nat) (o:AO),([some (qA l')]:Mem)[id]? = some (some o)→id=0∧o=qA l':=fun id o h=>by
   cases id with
   | zero=>simp at h;exact ⟨rfl,h.symm⟩
   | succ i=>simp at h
  have hblk':∀ b,C.ι 0=some b→∃ cur,w'.heap[b]? = some (.cells cur 3 (0,0))∧l'.length≤C.κ 0∧C.κ 0≤maxLen∧cur.size=C.κ 0∧cur.toList.take l'.length=l'.map (Value.int .i64):=fun b hι=>by
   obtain ⟨_,cap,hu,hc⟩:=hblk b hι
   rcases hown.2 with ⟨he,_⟩ | ⟨g,cap',cur,hv,_,hh,r1,r2,r3,r4⟩
   ·rw [hu] at he;cases he
   ·rw [hu] at hv
    obtain ⟨e1,_,e3⟩:=Value.slice.inj hv;cases e1;subst e3;subst hc;exact ⟨cur,hh,r1,r2,by omega,by simpa using r4⟩
  refine ⟨C,⟨hg.os,hg.tape,hg.output,hg.size,hkeep,fun id o hm => ?_,fun id o hm ty n cs hx => ?_,fun id o hm o' hx hl => ?_,fun id o b hm hl hb => ?_,fun _ h=>h,fun _ h => .inl h⟩,
   ⟨fun id ty n cs hm => ?_,fun id ty cs hm => ?_,fun id es cl hm => ?_,fun id id' o o' b h1 _ h2 _ _ _ => ?_,fun id o b hm hl hb => ?_,fun b hb=>Nat.lt_of_lt_of_le (hM.Fs b hb) hg.size,fun id o b hm hl hb => ?_⟩,?_⟩
  ·obtain ⟨rfl,rfl⟩:=at0 id o hm
   exact ⟨⟨_,rfl⟩,rfl,rfl⟩
  ·obtain ⟨rfl,rfl⟩:=at0 id o hm
   obtain ⟨_,he⟩:=at1 _ _ hx;cases he;exact ⟨l.map aB,by rw [hlen];rfl⟩
  ·obtain ⟨rfl,rfl⟩:=at0 id o hm
   rfl
  ·obtain ⟨rfl,rfl⟩:=at1 id o hm
   exact .inr ⟨0,_,rfl,rfl,hb⟩
  ·obtain ⟨rfl,he⟩:=at1 id _ hm
   cases he;cases hι:C.ι 0 with
   | none =>
    have:=hnb hι
    rcases hown.2 with ⟨_,h0⟩ | ⟨g,cap',cur,hv,_⟩
    ·have:l'=[]:=List.eq_nil_of_length_eq_zero h0
     subst this;exact .inl ⟨rfl,rfl,rfl⟩
    ·rw [this] at hv;cases hv
   | some b =>
    obtain ⟨cur,q1,q2,q3,q4,q5⟩:=hblk' b hι;obtain ⟨i,hi,hs⟩:=size3;obtain ⟨r1,r2⟩:=aMy (w:=w') C.F q5;exact .inr ⟨b,cur,i,rfl,q1,hi,by rw [hs,q4,Nat.mul_one],by simp [hs],q2,q3,r1,r2⟩
  ·obtain ⟨_,he⟩:=at1 id _ hm;cases he
  ·obtain ⟨_,he⟩:=at1 id _ hm;cases he
  ·obtain ⟨rfl,_⟩:=at1 id _ h1
   obtain ⟨rfl,_⟩:=at1 id' _ h2;rfl
  ·obtain ⟨rfl,_⟩:=at1 id _ hm
   exact hM.nF 0 _ b rfl rfl hb
  ·obtain ⟨rfl,_⟩:=at1 id _ hm
   exact Nat.lt_of_lt_of_le (hM.lt 0 _ b rfl rfl hb) hg.size
  ·cases h with
   | own _ _ h0 ha hr =>
    refine .own 0 _ h0 ⟨_,rfl⟩ fun ty n cs hx => ?_
    obtain ⟨_,he⟩:=at1 0 _ hx;cases he
    rcases hr _ _ _ rfl with ⟨q1,q2,q3⟩ | ⟨b,q1,q2⟩
    ·exact .inl ⟨q1,q2,by omega⟩
    ·exact .inr ⟨b,by rw [q1,hlen],q2⟩
 | true =>
  simp only [if_true]
  let cap':Nat:=match u' with | .slice _ _ c=>c | _=>0
  have at1:∀ (id:Nat) (o:AO),([some .dead,some (qA l')]:Mem)[id]? = some (some o)→(id=0∧o = .dead)∨(id=1∧o=qA l'):=fun id o h=>by
   match id,h with
   | 0,h=>simp at h;exact .inl ⟨rfl,h.symm⟩
   | 1,h=>simp at h;exact .inr ⟨rfl,h.symm⟩
   | i+2,h=>simp at h
  refine ⟨{ ι:=fun i=>if i=1 then u'.ownBlock else C.ι i,κ:=fun i=>if i=1 then cap' else C.κ i,F:=C.F },⟨hg.os,hg.tape,hg.output,hg.size,hkeep,fun id o hm => ?_,fun id o hm ty n cs hx => ?_,fun id o hm o' hx hl => ?_,fun id o b hm hl hbb => ?_,fun _ h=>h,fun _ h => .inl h⟩,
   ⟨fun id ty n cs hm => ?_,fun id ty cs hm => ?_,fun id es cl hm => ?_,fun id id' o o' b h1 l1 h2 l2 _ _ => ?_,fun id o b hm hl hbb => ?_,fun b hb=>Nat.lt_of_lt_of_le (hM.Fs b hb) hg.size,fun id o b hm hl hbb => ?_⟩,?_⟩
  ·obtain ⟨rfl,rfl⟩:=at0 id o hm
   exact ⟨⟨_,rfl⟩,rfl,rfl⟩
  ·obtain ⟨rfl,rfl⟩:=at0 id o hm
   rcases at1 _ _ hx with ⟨_,he⟩ | ⟨he,_⟩
   ·cases he
   ·cases he
  ·obtain ⟨rfl,rfl⟩:=at0 id o hm
   rfl
  ·rcases at1 id o hm with ⟨rfl,rfl⟩ | ⟨rfl,rfl⟩
   ·cases hl
   ·simp only [if_true] at hbb
    rw [hb] at hbb
    cases hι:C.ι 0 with
    | none=>rw [hnb hι] at hbb;cases hbb
    | some b' =>
     rw [(hblk b' hι).1] at hbb;cases hbb
     exact .inr ⟨0,_,rfl,rfl,hι⟩
  ·rcases at1 id _ hm with ⟨_,he⟩ | ⟨rfl,he⟩
   ·cases he
   ·cases he
    simp only [if_true]
    rcases hown.2 with ⟨rfl,h0⟩ | ⟨g,cp,cur,rfl,_,hh,r1,r2,r3,r4⟩
    ·have:l'=[]:=List.eq_nil_of_length_eq_zero h0
     subst this;exact .inl ⟨rfl,rfl,rfl⟩
    ·obtain ⟨i,hi,hs⟩:=size3
     obtain ⟨q1,q2⟩:=aMy (w:=w') C.F (by simpa using r4)
     exact .inr ⟨g,cur,i,rfl,hh,hi,by rw [hs];exact r3,by simp [hs],r1,r2,q1,q2⟩
  ·rcases at1 id _ hm with ⟨_,he⟩ | ⟨_,he⟩ <;> cases he
  ·rcases at1 id _ hm with ⟨_,he⟩ | ⟨_,he⟩ <;> cases he
  ·rcases at1 id _ h1 with ⟨_,rfl⟩ | ⟨rfl,_⟩
   ·cases l1
   ·rcases at1 id' _ h2 with ⟨_,rfl⟩ | ⟨rfl,_⟩
    ·cases l2
    ·rfl
  ·rcases at1 id _ hm with ⟨_,rfl⟩ | ⟨rfl,_⟩
   ·cases hl
   ·simp only [if_true] at hbb
    rw [hb] at hbb
    cases hι:C.ι 0 with
    | none=>rw [hnb hι] at hbb;cases hbb
    | some b' =>
     rw [(hblk b' hι).1] at hbb;cases hbb
     exact hM.nF 0 _ _ rfl rfl hι
  ·rcases at1 id _ hm with ⟨_,rfl⟩ | ⟨rfl,_⟩
   ·cases hl
   ·simp only [if_true] at hbb
    rw [hb] at hbb
    cases hι:C.ι 0 with
    | none=>rw [hnb hι] at hbb;cases hbb
    | some b' =>
     rw [(hblk b' hι).1] at hbb;cases hbb
     exact Nat.lt_of_lt_of_le (hM.lt 0 _ _ rfl rfl hι) hg.size
  ·have h0:u'.oneCell'=true:=by
    rcases hown.2 with ⟨rfl,_⟩ | ⟨g,cp,cur,rfl,_⟩ <;> rfl
   refine .own 1 _ h0 ⟨_,rfl⟩ fun ty n cs hx => ?_
   rcases at1 _ _ hx with ⟨he,_⟩ | ⟨_,he⟩
   ·cases he
   ·cases he
    simp only [if_true]
    rcases hown.2 with ⟨rfl,h9⟩ | ⟨g,cp,cur,rfl,_⟩
    ·exact .inl ⟨rfl,rfl,h9⟩
    ·exact .inr ⟨g,rfl,rfl⟩

theorem aMz(l:List Int)(hl:l.length≤1000000):FMM Tryz.prog 57 [.own 0] [some (qA l)] (.tup []) [some (qA (l.mergeSort leB))]:=fun C w us hus hM n=>by
 obtain ⟨u,rfl,hu⟩:=vW hus;refine (callsIn_wide.2 (bHr 0 u l w (bHt hM rfl hu) hl)).mono ?_;rintro e w' ⟨rfl,h1,h2⟩;obtain ⟨C',f,m,_⟩:=aGt (d:=false) hM hu h1 h2 rfl (fun _=>⟨rfl,List.length_mergeSort l⟩)
 exact ⟨_,rfl,C',f,m,.tup [] #[] rfl (fun i h=>by simp at h)⟩
theorem aDc(l:List Int):(Lib.compact l).length≤l.length:=by
 unfold Lib.compact Lib.compactUpTo;rw [List.length_map];exact Nat.le_trans (List.length_filter_le _ _) (by simp)
theorem aNa(base:Nat)(v:Value)(l:List Int)(w:World)(hv:KL.OwnI w base v l)(hlen:l.length≤1000000) :
  Calls Tryz.prog 186 #[v] w fun e w'=>∃ p' n' cap',e = .returned (.slice p' n' cap')∧n'=(Lib.compact l).length∧KL.OwnI w' base (.slice p' n' cap') (Lib.compact l)∧w.grownBy w' v.ownBlock∧((Value.slice p' n' cap').ownBlock=v.ownBlock):=by
 have hown:=hv
 rcases hv.2 with ⟨rfl,h0⟩ | ⟨b,cap,cur,rfl,hb,hg,hn,hm,hs,ht⟩
 ·have:l=[]:=List.eq_nil_of_length_eq_zero h0
  subst this;refine (Tryz.slices_Compact_int_empty none 0 w).mono ?_;rintro e w' ⟨rfl,rfl⟩;exact ⟨_,_,_,rfl,rfl,hown,World.grownBy.refl _ _,rfl⟩
 ·refine (Tryz.slices_Compact_int b 0 cap l w (holds_of_blockI hg (by simpa using ht)) (by omega) (by simpa using hn)).mono ?_
  rintro e w' ⟨rfl,q,rfl⟩;have hfl:=aDc l;refine ⟨_,_,_,rfl,rfl,?_,?_,rfl⟩
  ·have:=ownsRow_putRow (enc:=Value.int .i64) (q:=q) (k:=(Lib.compact l).length) (ys:=Lib.compact l++List.replicate (l.length-(Lib.compact l).length) 0) hown (by simp;omega) hfl
   unfold KL.OwnI;simpa using this
  ·exact grownBy_sortedI (os := #[]) (n:=q) (g:=b) (w:=w) ((Lib.compact l++List.replicate (l.length-(Lib.compact l).length) 0).toArray)
theorem aNb(l:List Int)(hl:l.length≤1000000):FMM Tryz.prog 186 [.own 0] [some (.row 3 l.length (l.map aB))] (.own 1) [some .dead,some (.row 3 (Lib.compact l).length ((Lib.compact l).map aB))]:=fun C w us hus hM n=>by
 obtain ⟨u,rfl,hu⟩:=vW hus;refine (callsIn_wide.2 (aNa 0 u l w (bHt hM rfl hu) hl)).mono ?_;rintro e w' ⟨p',n',cap',rfl,h0,h1,h2,h3⟩;obtain ⟨C',f,m,r⟩:=aGt (d:=true) hM hu h1 h2 h3 (fun h=>by cases h)
 exact ⟨_,rfl,C',f,m,r⟩
end KV
end Go.Proofs
end
namespace Go.Proofs
namespace KV
section

noncomputable abbrev rW:Code:=sub (cd Tryz.f142) [1,1,0,1,0,0]
noncomputable abbrev xQ:Code:=sub (cd Tryz.f141) [1,0,1,0,0]
noncomputable abbrev xR:Code:=sub (cd Tryz.f141) [1,0,1,0,0,1,1,0,0,1,1,1,1,1,0,0]
theorem aIv:0≤(0:Int)∧(0:Int)<2:=by first | decide | simp
theorem aIw:0≤(1:Int)∧(1:Int)<2:=by first | decide | simp
def gZ(al:List fK)(s:Nat)(t:Int)(few:Nat)(many:Nat)(i:Nat):St:=⟨fr 39 [(1,(pI (s:Int))),(2,(pI t)),(6,(pI 0)),(7,(pI 0)),(8,(pI (few:Int))),(9,(pI (many:Int))),(12,(.p (.sl al.length ((al.map hpE).flatten)))),(13,(pI (al.length:Int))),(14,(pI (i:Int)))],[]⟩
theorem bUg{al:List fK}{s:Nat}{t:Int}{few'0 many'1 i'2:Nat}(hl0:aI Tp 0 rW (gZ al s t 0 0 0) (.exit 0) (gZ al s t few'0 many'1 i'2)){base:Nat}:FV Tp 142 [(.p (.sl al.length ((al.map hpE).flatten))),(pI (s:Int)),(pI t)] base (.tup [(pI (few'0:Int)),(pI (many'1:Int))]) []:=by
 exact FV.fin Tryz.func142 rfl (o:=[.k 8 ⟨(rng [(0,1),(3,3),(10,2),(15,22)]),[],[],[]⟩ (.exit 0) (gZ al s t few'0 many'1 i'2)]) (l:=[_]) (by kernel_rfl) (gc hl0.code gn)
theorem bAs{al:List fK}{s:Nat}{t:Int}{few many i:Nat}{c100:List cN}{mn101 mx102:Int}{i':Nat}(h0:(i:Int)<(al.length:Int))(h1:al[i]? = some (c100,mn101,mx102))(h2:(i:Int)=(s:Int))(h3:inR (((i+1):Nat):Int))(ei':i'=(i+1)):aC Tp 0 rW (gZ al s t few many i) .normal (gZ al s t few many i'):=by
 subst ei';exact aC.fin (g:=⟨(rng [(0,1),(3,3),(10,2),(15,22)]),[],[],[]⟩) (o:=[bT,.x (.agg [(.sl c100.length ((c100.map chE).flatten)),(aB mn101),(aB mx102)]),bT]) (l:=[_,_,some (.agg ((((al.map hpE).flatten).drop (i*3)).take 3):PV)=some (.agg [(.sl c100.length ((c100.map chE).flatten)),(aB mn101),(aB mx102)]),(i*3)+3≤((al.map hpE).flatten).length,0≤(i:Int)∧(i:Int)<(al.length:Int)∧(i*3)<((al.map hpE).flatten).length,_]) (by kernel_rfl) (gc h3 (gc (dR h2) (gc (mO (E:=hpE) (i:=i) (k:=3) (fun _=>rfl) h1 rfl) (gc (uP (E:=hpE) (i:=i) (k:=3) (fun _=>rfl) h1) (gc (rY (E:=hpE) (k:=3) (i:=(i:Int)) (fun _=>rfl) (by decide) (kQ2 _) h1) (gc (bA h0) gn))))))
theorem bAt{al:List fK}{s:Nat}{t:Int}{few many i:Nat}{c100:List cN}{mn101 mx102:Int}{few' many' i':Nat}(h0:(i:Int)<(al.length:Int))(h1:al[i]? = some (c100,mn101,mx102))(h2:(i:Int)≠(s:Int))(h3:mx102<t)(h4:inR (((few+1):Nat):Int))(h5:mn101<t)(h6:inR (((many+1):Nat):Int))(h7:inR (((i+1):Nat):Int))(efew':few'=(few+1))(emany':many'=(many+1))(ei':i'=(i+1)):aC Tp 0 rW (gZ al s t few many i) .normal (gZ al s t few' many' i'):=by
 subst efew' emany' ei';exact aC.fin (g:=⟨(rng [(0,1),(3,3),(10,2),(15,22)]),[],[],[]⟩) (o:=[bT,.x (.agg [(.sl c100.length ((c100.map chE).flatten)),(aB mn101),(aB mx102)]),bF,bT,bT]) (l:=[_,_,_,_,_,_,_,_,some (.agg ((((al.map hpE).flatten).drop (i*3)).take 3):PV)=some (.agg [(.sl c100.length ((c100.map chE).flatten)),(aB mn101),(aB mx102)]),(i*3)+3≤((al.map hpE).flatten).length,0≤(i:Int)∧(i:Int)<(al.length:Int)∧(i*3)<((al.map hpE).flatten).length,_]) (by kernel_rfl) (gc h7 (gc h6 (gc (bA h5) (gc aIv (gc h4 (gc (bA h3) (gc aIw (gc (bJ h2) (gc (mO (E:=hpE) (i:=i) (k:=3) (fun _=>rfl) h1 rfl) (gc (uP (E:=hpE) (i:=i) (k:=3) (fun _=>rfl) h1) (gc (rY (E:=hpE) (k:=3) (i:=(i:Int)) (fun _=>rfl) (by decide) (kQ2 _) h1) (gc (bA h0) gn))))))))))))
theorem bAu{al:List fK}{s:Nat}{t:Int}{few many i:Nat}{c100:List cN}{mn101 mx102:Int}{few' i':Nat}(h0:(i:Int)<(al.length:Int))(h1:al[i]? = some (c100,mn101,mx102))(h2:(i:Int)≠(s:Int))(h3:mx102<t)(h4:inR (((few+1):Nat):Int))(h5:t≤mn101)(h6:inR (((i+1):Nat):Int))(efew':few'=(few+1))(ei':i'=(i+1)):aC Tp 0 rW (gZ al s t few many i) .normal (gZ al s t few' many i'):=by
 subst efew' ei';exact aC.fin (g:=⟨(rng [(0,1),(3,3),(10,2),(15,22)]),[],[],[]⟩) (o:=[bT,.x (.agg [(.sl c100.length ((c100.map chE).flatten)),(aB mn101),(aB mx102)]),bF,bT,bF]) (l:=[_,_,_,_,_,_,_,some (.agg ((((al.map hpE).flatten).drop (i*3)).take 3):PV)=some (.agg [(.sl c100.length ((c100.map chE).flatten)),(aB mn101),(aB mx102)]),(i*3)+3≤((al.map hpE).flatten).length,0≤(i:Int)∧(i:Int)<(al.length:Int)∧(i*3)<((al.map hpE).flatten).length,_]) (by kernel_rfl) (gc h6 (gc (bL h5) (gc aIv (gc h4 (gc (bA h3) (gc aIw (gc (bJ h2) (gc (mO (E:=hpE) (i:=i) (k:=3) (fun _=>rfl) h1 rfl) (gc (uP (E:=hpE) (i:=i) (k:=3) (fun _=>rfl) h1) (gc (rY (E:=hpE) (k:=3) (i:=(i:Int)) (fun _=>rfl) (by decide) (kQ2 _) h1) (gc (bA h0) gn)))))))))))
theorem bAv{al:List fK}{s:Nat}{t:Int}{few many i:Nat}{c100:List cN}{mn101 mx102:Int}{many' i':Nat}(h0:(i:Int)<(al.length:Int))(h1:al[i]? = some (c100,mn101,mx102))(h2:(i:Int)≠(s:Int))(h3:t≤mx102)(h4:mn101<t)(h5:inR (((many+1):Nat):Int))(h6:inR (((i+1):Nat):Int))(emany':many'=(many+1))(ei':i'=(i+1)):aC Tp 0 rW (gZ al s t few many i) .normal (gZ al s t few many' i'):=by
 subst emany' ei';exact aC.fin (g:=⟨(rng [(0,1),(3,3),(10,2),(15,22)]),[],[],[]⟩) (o:=[bT,.x (.agg [(.sl c100.length ((c100.map chE).flatten)),(aB mn101),(aB mx102)]),bF,bF,bT]) (l:=[_,_,_,_,_,_,_,some (.agg ((((al.map hpE).flatten).drop (i*3)).take 3):PV)=some (.agg [(.sl c100.length ((c100.map chE).flatten)),(aB mn101),(aB mx102)]),(i*3)+3≤((al.map hpE).flatten).length,0≤(i:Int)∧(i:Int)<(al.length:Int)∧(i*3)<((al.map hpE).flatten).length,_]) (by kernel_rfl) (gc h6 (gc h5 (gc (bA h4) (gc aIv (gc (bL h3) (gc aIw (gc (bJ h2) (gc (mO (E:=hpE) (i:=i) (k:=3) (fun _=>rfl) h1 rfl) (gc (uP (E:=hpE) (i:=i) (k:=3) (fun _=>rfl) h1) (gc (rY (E:=hpE) (k:=3) (i:=(i:Int)) (fun _=>rfl) (by decide) (kQ2 _) h1) (gc (bA h0) gn)))))))))))
theorem bAw{al:List fK}{s:Nat}{t:Int}{few many i:Nat}{c100:List cN}{mn101 mx102:Int}{i':Nat}(h0:(i:Int)<(al.length:Int))(h1:al[i]? = some (c100,mn101,mx102))(h2:(i:Int)≠(s:Int))(h3:t≤mx102)(h4:t≤mn101)(h5:inR (((i+1):Nat):Int))(ei':i'=(i+1)):aC Tp 0 rW (gZ al s t few many i) .normal (gZ al s t few many i'):=by
 subst ei';exact aC.fin (g:=⟨(rng [(0,1),(3,3),(10,2),(15,22)]),[],[],[]⟩) (o:=[bT,.x (.agg [(.sl c100.length ((c100.map chE).flatten)),(aB mn101),(aB mx102)]),bF,bF,bF]) (l:=[_,_,_,_,_,_,some (.agg ((((al.map hpE).flatten).drop (i*3)).take 3):PV)=some (.agg [(.sl c100.length ((c100.map chE).flatten)),(aB mn101),(aB mx102)]),(i*3)+3≤((al.map hpE).flatten).length,0≤(i:Int)∧(i:Int)<(al.length:Int)∧(i*3)<((al.map hpE).flatten).length,_]) (by kernel_rfl) (gc h5 (gc (bL h4) (gc aIv (gc (bL h3) (gc aIw (gc (bJ h2) (gc (mO (E:=hpE) (i:=i) (k:=3) (fun _=>rfl) h1 rfl) (gc (uP (E:=hpE) (i:=i) (k:=3) (fun _=>rfl) h1) (gc (rY (E:=hpE) (k:=3) (i:=(i:Int)) (fun _=>rfl) (by decide) (kQ2 _) h1) (gc (bA h0) gn))))))))))
theorem bAx{al:List fK}{s:Nat}{t:Int}{few many i:Nat}(h0:(al.length:Int)≤(i:Int)):aC Tp 0 rW (gZ al s t few many i) (.exit 0) (gZ al s t few many i):=by
 exact aC.fin (g:=⟨(rng [(0,1),(3,3),(10,2),(15,22)]),[],[],[]⟩) (o:=[bF]) (l:=[_]) (by kernel_rfl) (gc (bL h0) gn)
def iV(al:List fK)(s:Nat)(t:Int):Nat→Nat × Nat
 | 0=>(0,0)
 | i+1=>match al[i]? with
  | some h=>if i=s then iV al s t i else ((if h.2.2<t then (iV al s t i).1+1 else (iV al s t i).1),(if h.2.1<t then (iV al s t i).2+1 else (iV al s t i).2))
  | none=>iV al s t i
abbrev cZ(al:List fK)(s:Nat)(t:Int):Nat × Nat:=iV al s t al.length
theorem oP(al:List fK)(s:Nat)(t:Int):∀ i,(iV al s t i).1≤i∧(iV al s t i).2≤i
 | 0=>⟨dW _,dW _⟩
 | i+1=>by
  have:=oP al s t i;unfold iV
  split
  ·split
   ·omega
   ·dsimp only
    split <;> split <;> omega
  ·omega
theorem bUh(al:List fK)(s:Nat)(t:Int)(hl:al.length≤1000){base:Nat}:FV Tp 142 [.p (.sl al.length (al.map hpE).flatten),.p (aB s),.p (aB t)] base (.tup [.p (aB ((cZ al s t).1:Nat)),.p (aB ((cZ al s t).2:Nat))]) []:=by
 obtain ⟨a,hI,hL⟩:=aI.ex (P:=Tp) (k:=0) (b:=rW) (e := .exit 0) (fun i (a:Nat × Nat)=>gZ al s t a.1 a.2 i) (fun a=>gZ al s t a.1 a.2 al.length) (fun i a=>a=iV al s t i) (by simp) al.length
  (fun i a hi ha=>by
   obtain ⟨⟨c,mn,mx⟩,hx⟩:∃ x,al[i]? = some x:=⟨_,kQ0 hi⟩;have hle:=oP al s t i;refine ⟨_,rfl,?_⟩;subst ha;have e:iV al s t (i+1)=if i=s then iV al s t i else ((if mx<t then (iV al s t i).1+1 else (iV al s t i).1),(if mn<t then (iV al s t i).2+1 else (iV al s t i).2)):=by
    conv=>lhs;unfold iV
    rw [hx]
   rw [e]
   by_cases his:i=s
   ·rw [if_pos his];exact bAs (by omega) hx (by omega) (aO (by omega)) rfl
   ·rw [if_neg his]
    by_cases h1:mx<t <;> by_cases h2:mn<t
    ·rw [if_pos h1,if_pos h2];exact bAt (by omega) hx (by omega) h1 (aO (by omega)) h2 (aO (by omega)) (aO (by omega)) rfl rfl rfl
    ·rw [if_pos h1,if_neg h2];exact bAu (by omega) hx (by omega) h1 (aO (by omega)) (by omega) (aO (by omega)) rfl rfl
    ·rw [if_neg h1,if_pos h2];exact bAv (by omega) hx (by omega) (by omega) h2 (aO (by omega)) (aO (by omega)) rfl rfl
    ·rw [if_neg h1,if_neg h2];exact bAw (by omega) hx (by omega) (by omega) (by omega) (aO (by omega)) rfl)
  (fun a _=>bAx (by omega)) (acc:=(0,0)) rfl
 subst hI;exact bUg hL
def kN(al:List fK)(s:Nat)(c0:List cN)(on:Nat)(oc:List PV)(ou:Bool)(inn:Bool)(i:Nat):St:=⟨fr 51 [(0,(.p (.sl al.length ((al.map hpE).flatten)))),(1,(pI (s:Int))),(4,(.own 0)),(5,(pB ou)),(6,(pB inn)),(16,(.p (.sl c0.length ((c0.map chE).flatten)))),(17,(pI (c0.length:Int))),(18,(pI (i:Int)))],[some (.row 3 on oc)]⟩
theorem bUi{al:List fK}{s:Nat}{c0:List cN}{mn1 mx2:Int}{o'3:List Int}{ou'4 inn'5:Bool}{i'6:Nat}(h0:al[s]? = some (c0,mn1,mx2))(hl1:aI Tp 0 xQ (kN al s c0 0 [] false false 0) (.exit 0) (kN al s c0 o'3.length (o'3.map aB) ou'4 inn'5 i'6))(h2:o'3.length≤1000000)(h3:(o'3.mergeSort KL.leB).length≤1000000){base:Nat}:FV Tp 141 [(.p (.sl al.length ((al.map hpE).flatten))),(pI (s:Int))] base (.tup [(.p (aG (Lib.compact (o'3.mergeSort KL.leB)))),(pB ou'4),(pB inn'5)]) []:=by
 exact FV.frz (FMM.fin (k:=0) (g:=⟨[],[],[1],[]⟩) rfl Tryz.func141 rfl (o:=[.x (.sl c0.length ((c0.map chE).flatten)),.k 1 ⟨(rng [(2,2),(7,9),(19,26),(46,1)]),[0],[],[(4,3),(5,0),(6,0)]⟩ (.exit 0) (kN al s c0 o'3.length (o'3.map aB) ou'4 inn'5 i'6),.c (.tup []) [(0,(.row 3 ((o'3.mergeSort KL.leB).length) ((o'3.mergeSort KL.leB).map aB)))],.c (.own 1) [(0,.dead),(1,(.row 3 ((Lib.compact (o'3.mergeSort KL.leB)).length) ((Lib.compact (o'3.mergeSort KL.leB)).map aB)))]]) (l:=[FC Tp 186 [(.own 0)] [(0,(.row 3 ((o'3.mergeSort KL.leB).length) ((o'3.mergeSort KL.leB).map aB)))] 1 (.own 1) [(0,.dead),(1,(.row 3 ((Lib.compact (o'3.mergeSort KL.leB)).length) ((Lib.compact (o'3.mergeSort KL.leB)).map aB)))],FC Tp 57 [(.own 0)] [(0,(.row 3 o'3.length (o'3.map aB)))] 1 (.tup []) [(0,(.row 3 ((o'3.mergeSort KL.leB).length) ((o'3.mergeSort KL.leB).map aB)))],_,((al.map hpE).flatten)[(s*3)]? = some (.sl c0.length ((c0.map chE).flatten)),0≤(s:Int)∧(s:Int)<(al.length:Int)∧(s*3)<((al.map hpE).flatten).length]) (by kernel_rfl) (gc (FMM.fc (ids:=[0]) (aNb (o'3.mergeSort KL.leB) h3) (by kernel_rfl)) (gc (FMM.fc (ids:=[0]) (aMz o'3 h2) (by kernel_rfl)) (gc hl1.code (gc (bCj (E:=hpE) (i:=s) (f:=0) (k:=3) (fun _=>rfl) h0 rfl) (gc (rY (E:=hpE) (k:=3) (i:=(s:Int)) (fun _=>rfl) (by decide) (kQ2 _) h0) gn)))))) (by kernel_rfl)
def kO(al:List fK)(s:Nat)(c0:List cN)(ou:Bool)(i:Nat)(t100:Int)(b101:Bool)(q102:List Int)(on:Nat)(oc:List PV)(n:Nat):St:=⟨fr 51 [(0,(.p (.sl al.length ((al.map hpE).flatten)))),(1,(pI (s:Int))),(4,(.own 0)),(5,(pB ou)),(6,(.kb true)),(8,(.ptr 1 0)),(9,(pI (((cZ al s t100).1:Nat):Int))),(10,(pI (((cZ al s t100).2:Nat):Int))),(11,(pI (n:Int))),(16,(.p (.sl c0.length ((c0.map chE).flatten)))),(17,(pI (c0.length:Int))),(18,(pI (i:Int))),(19,(pB (decide ((i:Int)<(c0.length:Int))))),(20,(.rp ((c0.map chE).flatten) (i*3))),(21,(.p (.agg [(aB t100),(blP b101),(aG q102)]))),(22,(.ptr 1 1)),(23,(pB b101)),(24,(.tup [(pI (((cZ al s t100).1:Nat):Int)),(pI (((cZ al s t100).2:Nat):Int))])),(25,(.p (.sl al.length ((al.map hpE).flatten)))),(26,(pI (s:Int))),(27,(.ptr 1 0)),(28,(pI t100)),(29,(.tup [(pI (((cZ al s t100).1:Nat):Int)),(pI (((cZ al s t100).2:Nat):Int))])),(30,(pI (((cZ al s t100).1:Nat):Int))),(31,(pI (((cZ al s t100).2:Nat):Int))),(32,(pI (((cZ al s t100).1:Nat):Int))),(33,(pI ((((cZ al s t100).1+1):Nat):Int)))],[some (.row 3 on oc),some (.box 197 [(pI t100),(pB b101),(.p (aG q102))])]⟩
theorem bAy{al:List fK}{s:Nat}{c0:List cN}{o:List Int}{ou inn:Bool}{i:Nat}{t100:Int}{b101:Bool}{q102:List Int}{i':Nat}(h0:(i:Int)<(c0.length:Int))(h1:c0[i]? = some (t100,b101,q102))(h2:b101=true)(h3:inR (((i+1):Nat):Int))(ei':i'=(i+1)):aC Tp 0 xQ (kN al s c0 o.length (o.map aB) ou inn i) .normal (kN al s c0 o.length (o.map aB) true inn i'):=by
 subst ei';exact aC.fin (g:=⟨(rng [(2,2),(7,9),(19,26),(46,1)]),[0],[],[(5,0)]⟩) (o:=[bT,.x (.agg [(aB t100),(blP b101),(aG q102)]),bT]) (l:=[_,_,some (.agg ((((c0.map chE).flatten).drop (i*3)).take 3):PV)=some (.agg [(aB t100),(blP b101),(aG q102)]),(i*3)+3≤((c0.map chE).flatten).length,0≤(i:Int)∧(i:Int)<(c0.length:Int)∧(i*3)<((c0.map chE).flatten).length,_]) (by kernel_rfl) (gc h3 (gc h2 (gc (mO (E:=chE) (i:=i) (k:=3) (fun _=>rfl) h1 rfl) (gc (uP (E:=chE) (i:=i) (k:=3) (fun _=>rfl) h1) (gc (rY (E:=chE) (k:=3) (i:=(i:Int)) (fun _=>rfl) (by decide) (kQ2 _) h1) (gc (bA h0) gn))))))
theorem bAz{al:List fK}{s:Nat}{c0:List cN}{o:List Int}{ou inn:Bool}{i:Nat}{t100:Int}{b101:Bool}{q102 o'103:List Int}{n'104:Nat}{o':List Int}{i':Nat}(h0:(i:Int)<(c0.length:Int))(h1:c0[i]? = some (t100,b101,q102))(h2:b101=false)(h3:al.length≤1000)(h4:inR ((((cZ al s t100).1+1):Nat):Int))(hl5:aI Tp 0 xR (kO al s c0 ou i t100 b101 q102 o.length (o.map aB) ((cZ al s t100).1+1)) (.exit 2) (kO al s c0 ou i t100 b101 q102 o'103.length (o'103.map aB) n'104))(h6:inR (((i+1):Nat):Int))(eo'n:o'.length=o'103.length)(eo'c:o'.map aB=(o'103.map aB))(ei':i'=(i+1)):aC Tp 0 xQ (kN al s c0 o.length (o.map aB) ou inn i) .normal (kN al s c0 o'.length (o'.map aB) ou true i'):=by
 subst ei';have raw:aC Tp 0 xQ (kN al s c0 o.length (o.map aB) ou inn i) .normal (kN al s c0 o'103.length (o'103.map aB) ou true (i+1)):=aC.fin (g:=⟨(rng [(2,2),(7,9),(19,26),(46,1)]),[0],[],[(6,0)]⟩) (o:=[bT,.x (.agg [(aB t100),(blP b101),(aG q102)]),bF,.c (.tup [(pI (((cZ al s t100).1:Nat):Int)),(pI (((cZ al s t100).2:Nat):Int))]) [],.k 3 ⟨(rng [(2,2),(7,1),(12,4),(34,10),(46,1)]),[0,1],[],[]⟩ (.exit 2) (kO al s c0 ou i t100 b101 q102 o'103.length (o'103.map aB) n'104)]) (l:=[_,_,_,_,_,some (.agg ((((c0.map chE).flatten).drop (i*3)).take 3):PV)=some (.agg [(aB t100),(blP b101),(aG q102)]),(i*3)+3≤((c0.map chE).flatten).length,0≤(i:Int)∧(i:Int)<(c0.length:Int)∧(i*3)<((c0.map chE).flatten).length,_]) (by kernel_rfl) (gc h6 (gc hl5.code (gc h4 (gc (fk 2 (bUh al s t100 h3) rfl) (gc h2 (gc (mO (E:=chE) (i:=i) (k:=3) (fun _=>rfl) h1 rfl) (gc (uP (E:=chE) (i:=i) (k:=3) (fun _=>rfl) h1) (gc (rY (E:=chE) (k:=3) (i:=(i:Int)) (fun _=>rfl) (by decide) (kQ2 _) h1) (gc (bA h0) gn)))))))))
 exact raw.cast (by rw [eo'n,eo'c])
theorem bBa{al:List fK}{s:Nat}{c0:List cN}{o:List Int}{ou inn:Bool}{i:Nat}(h0:(c0.length:Int)≤(i:Int)):aC Tp 0 xQ (kN al s c0 o.length (o.map aB) ou inn i) (.exit 0) (kN al s c0 o.length (o.map aB) ou inn i):=by
 exact aC.fin (g:=⟨(rng [(2,2),(7,9),(19,26),(46,1)]),[0],[],[]⟩) (o:=[bF]) (l:=[_]) (by kernel_rfl) (gc (bL h0) gn)
theorem bBb{al:List fK}{s:Nat}{c0:List cN}{ou:Bool}{i:Nat}{t100:Int}{b101:Bool}{q102 o:List Int}{n:Nat}{o':List Int}{n':Nat}(h0:inR ((((cZ al s t100).2+1):Nat):Int))(h1:(n:Int)≤((((cZ al s t100).2+1):Nat):Int))(h2:[(aB (n:Int))].length=1*1∧o.length+1≤1000000)(h3:inR (((n+1):Nat):Int))(eo'n:o'.length=(o.length+1))(eo'c:o'.map aB=((o.map aB)++[(aB (n:Int))]))(en':n'=(n+1)):aC Tp 0 xR (kO al s c0 ou i t100 b101 q102 o.length (o.map aB) n) .normal (kO al s c0 ou i t100 b101 q102 o'.length (o'.map aB) n'):=by
 subst en';have raw:aC Tp 0 xR (kO al s c0 ou i t100 b101 q102 o.length (o.map aB) n) .normal (kO al s c0 ou i t100 b101 q102 (o.length+1) ((o.map aB)++[(aB (n:Int))]) (n+1)):=aC.fin (g:=⟨(rng [(2,2),(7,1),(12,4),(34,10),(46,1)]),[3,1],[],[]⟩) (o:=[bT]) (l:=[_,_,_,_]) (by kernel_rfl) (gc h3 (gc h2 (gc (aLk h1) (gc h0 gn))))
 exact raw.cast (by rw [eo'n,eo'c])
theorem bBc{al:List fK}{s:Nat}{c0:List cN}{ou:Bool}{i:Nat}{t100:Int}{b101:Bool}{q102 o:List Int}{n:Nat}(h0:inR ((((cZ al s t100).2+1):Nat):Int))(h1:((((cZ al s t100).2+1):Nat):Int)<(n:Int)):aC Tp 0 xR (kO al s c0 ou i t100 b101 q102 o.length (o.map aB) n) (.exit 2) (kO al s c0 ou i t100 b101 q102 o.length (o.map aB) n):=by
 exact aC.fin (g:=⟨(rng [(2,2),(7,1),(12,4),(34,10),(46,1)]),[0,1],[],[]⟩) (o:=[bF]) (l:=[_,_]) (by kernel_rfl) (gc (rJ h1) (gc h0 gn))
def aMo(few many:Nat):List Int:=(List.range (many+1-few)).map fun j=>((few+1+j:Nat):Int)
def chL(al:List fK)(s:Nat)(c:cN):List Int:=if c.2.1 then [] else aMo (cZ al s c.1).1 (cZ al s c.1).2
def lS(al:List fK)(s:Nat)(c:List cN):List Int:=Lib.compact ((c.flatMap (chL al s)).mergeSort KL.leB)
theorem bHc{a b:Nat}(h:b≤1000):(aMo a b).length≤1001:=by unfold aMo;simp;omega
theorem bMn(al:List fK)(hal:al.length≤1000)(s:Nat)(c:cN):(chL al s c).length≤1001:=by
 unfold chL
 split
 ·simp
 ·exact bHc (by have:(cZ al s c.1).2≤al.length:=(oP al s c.1 al.length).2;omega)
theorem aIx{al:List fK}(hal:al.length≤1000)(s:Nat):∀ c:List cN,(c.flatMap (chL al s)).length≤c.length*1001
 | []=>by simp
 | x::c=>by
  rw [List.flatMap_cons,lF,sW];have:=bMn al hal s x;have:=aIx hal s c;omega
theorem bUj{al:List fK}(hal:al.length≤1000)(s:Nat)(c0:List cN)(ou:Bool)(i:Nat)(t:Int)(b:Bool)(q o:List Int)(ho:o.length≤900000) :
  ∃ n',aI Tp 0 xR (kO al s c0 ou i t b q o.length (o.map aB) ((cZ al s t).1+1)) (.exit 2) (kO al s c0 ou i t b q (o++aMo (cZ al s t).1 (cZ al s t).2).length ((o++aMo (cZ al s t).1 (cZ al s t).2).map aB) n'):=by
 have h1:(cZ al s t).1≤al.length:=(oP al s t al.length).1;have h2:(cZ al s t).2≤al.length:=(oP al s t al.length).2;obtain ⟨x,hI,hL⟩:=aI.ex (P:=Tp) (k:=0) (b:=xR) (e := .exit 2) (fun j (x:List Int)=>kO al s c0 ou i t b q x.length (x.map aB) ((cZ al s t).1+1+j)) (fun x=>kO al s c0 ou i t b q x.length (x.map aB) ((cZ al s t).1+1+((cZ al s t).2+1-(cZ al s t).1)))
  (fun j x=>x=o++(List.range j).map fun j=>(((cZ al s t).1+1+j:Nat):Int)) (by simp) ((cZ al s t).2+1-(cZ al s t).1)
  (fun j x hj hx=>by
   have hlen:x.length=o.length+j:=by rw [hx];simp
   refine ⟨x++[(((cZ al s t).1+1+j:Nat):Int)],?_,bBb (aO (by omega)) (by omega) ⟨rfl,by omega⟩ (aO (by omega)) (by simp) (by simp) rfl⟩
   rw [hx,List.range_succ];simp)
  (fun x _=>bBc (aO (by omega)) (by omega)) (acc:=o) (by simp)
 rw [show o++aMo (cZ al s t).1 (cZ al s t).2=x from hI.symm]
 exact ⟨_,hL⟩
theorem aQt{al:List fK}(hal:al.length≤1000){s:Nat}{c:List cN}{mn mx:Int}(hx:al[s]? = some (c,mn,mx))(hc:c.length≤256){base:Nat} :
  FV Tp 141 [.p (.sl al.length (al.map hpE).flatten),.p (aB s)] base (.tup [.p (aG (lS al s c)),.p (blP (c.any fun x=>x.2.1)),.p (blP (c.any fun x => !x.2.1))]) []:=by
 obtain ⟨a,⟨hI,hJ,hK⟩,hL⟩:=aI.ex (P:=Tp) (k:=0) (b:=xQ) (e := .exit 0) (fun i (a:List Int × Bool × Bool)=>kN al s c a.1.length (a.1.map aB) a.2.1 a.2.2 i) (fun a=>kN al s c a.1.length (a.1.map aB) a.2.1 a.2.2 c.length)
  (fun i a=>a.1=(c.take i).flatMap (chL al s)∧a.2.1=((c.take i).any fun x=>x.2.1)∧a.2.2=((c.take i).any fun x => !x.2.1)) (by simp) c.length
  (fun i a hi ha=>by
   obtain ⟨ha1,ha2,ha3⟩:=ha;obtain ⟨⟨t,b,q⟩,hx⟩:∃ x,c[i]? = some x:=⟨_,kQ0 hi⟩;have hlen:a.1.length≤256*1001:=by
    rw [ha1];have:=aIx hal s (c.take i);rw [lQ] at this
    have:min i c.length≤256:=by omega
    omega
   have e1:c.take (i+1)=c.take i++[(t,b,q)]:=by rw [List.take_add_one,hx];rfl
   cases b with
   | true=>exact ⟨(a.1,true,a.2.2),⟨by rw [ha1,e1];simp [chL],by rw [e1];simp,by rw [ha3,e1];simp⟩,bAy (by omega) hx rfl (aO (by omega)) rfl⟩
   | false =>
    have h1:(cZ al s t).1≤al.length:=(oP al s t al.length).1;obtain ⟨n',hl⟩:=bUj hal s c a.2.1 i t false q a.1 (by omega)
    exact ⟨(a.1++aMo (cZ al s t).1 (cZ al s t).2,a.2.1,true),⟨by rw [ha1,e1];simp [chL],by rw [ha2,e1];simp,by rw [e1];simp⟩,bAz (by omega) hx rfl hal (aO (by omega)) hl (aO (by omega)) rfl rfl rfl⟩)
  (fun a _=>bBa (by omega)) (acc:=([],false,false)) (by simp)
 rw [List.take_length] at hI hJ hK
 have hb:=aIx hal s c;have:=bUi (s:=s) hx hL (by rw [hI];omega) (by rw [List.length_mergeSort,hI];omega) (base:=base)
 rw [hI,hJ,hK] at this
 exact this
end
section
variable {dl:Int}{sk dc:Lqq}

theorem bHb:((0:Int) != (0:Int))=false:=by first | decide | simp
def rV(l:Lqq)(x0:Int)(x1:Int)(i:Nat):St:=⟨fr 19 [(0,(.p (fS l))),(3,(.ptr 0 0)),(7,(pI (l.length:Int))),(8,(pI (i:Int)))],[some (.box 31 [(pI x0),(pI x1)])]⟩
theorem bUc{l:Lqq}{x0 x1:Int}{i'0:Nat}(hl0:aI Tp 0 (sub (cd Tryz.f185) [1,0,1,0,0]) (rV l x0 x1 0) .ret (cG (rV l x0 x1 i'0) [(4,(pI (i'0:Int)))])){base:Nat}:FV Tp 185 [(.p (fS l)),(.p (.agg [(aB x0),(aB x1)]))] base (pI (i'0:Int)) []:=by
 exact FV.fin Tryz.func185 rfl (o:=[.k 6 ⟨(rng [(1,2),(4,3),(9,10)]),[0],[],[]⟩ .ret (cG (rV l x0 x1 i'0) [(4,(pI (i'0:Int)))])]) (l:=[_]) (by kernel_rfl) (gc hl0.code gn)
theorem bAq{l:Lqq}{x0 x1:Int}{i:Nat}{y100 y101:Int}(h0:(i:Int)<(l.length:Int))(h1:l[i]? = some [y100,y101])(h2:uni 2 l)(h3:eC [(aB x0),(aB x1)] [(0,3,true),(1,3,true)]=true∧eC [(aB y100),(aB y101)] [(0,3,true),(1,3,true)]=true)(h4:(nK [(aB x0),(aB x1)] [(aB y100),(aB y101)] [(0,3,true),(1,3,true)])=true):aC Tp 0 (sub (cd Tryz.f185) [1,0,1,0,0]) (rV l x0 x1 i) .ret (cG (rV l x0 x1 i) [(4,(pI (i:Int)))]):=by
 exact aC.fin (g:=⟨(rng [(1,2),(5,2),(9,10)]),[0],[],[]⟩) (o:=[bT,.x (.agg [(aB y100),(aB y101)]),bT]) (l:=[_,_,_,_,0≤(i:Int)∧(i:Int)<(l.length:Int)∧(i*2)<(l.flatten.map aB).length,_]) (by kernel_rfl) (gc h4 (gc h3 (gc (aT (i:=i) h2 h1) (gc (bI (i:=i) h2 h1) (gc (bO (k:=2) (i:=(i:Int)) (by decide) h2 (kQ2 _) h1) (gc (bA h0) gn))))))
theorem bAr{l:Lqq}{x0 x1:Int}{i:Nat}{y100 y101:Int}{i':Nat}(h0:(i:Int)<(l.length:Int))(h1:l[i]? = some [y100,y101])(h2:uni 2 l)(h3:eC [(aB x0),(aB x1)] [(0,3,true),(1,3,true)]=true∧eC [(aB y100),(aB y101)] [(0,3,true),(1,3,true)]=true)(h4:(nK [(aB x0),(aB x1)] [(aB y100),(aB y101)] [(0,3,true),(1,3,true)])=false)(h5:inR (((i+1):Nat):Int))(ei':i'=(i+1)):aC Tp 0 (sub (cd Tryz.f185) [1,0,1,0,0]) (rV l x0 x1 i) .normal (rV l x0 x1 i'):=by
 subst ei';exact aC.fin (g:=⟨(rng [(1,2),(4,3),(9,10)]),[0],[],[]⟩) (o:=[bT,.x (.agg [(aB y100),(aB y101)]),bF]) (l:=[_,_,_,_,_,0≤(i:Int)∧(i:Int)<(l.length:Int)∧(i*2)<(l.flatten.map aB).length,_]) (by kernel_rfl) (gc h5 (gc h4 (gc h3 (gc (aT (i:=i) h2 h1) (gc (bI (i:=i) h2 h1) (gc (bO (k:=2) (i:=(i:Int)) (by decide) h2 (kQ2 _) h1) (gc (bA h0) gn)))))))
theorem bUd{l:Lqq}(hu:uni 2 l)(hn:(aK l 0).Nodup)(hl:l.length≤1000){i:Nat}{x0 x1:Int}(hi:l[i]? = some [x0,x1]){base:Nat}:FV Tp 185 [.p (fS l),.p (.agg [aB x0,aB x1])] base (pI (i:Int)) []:=by
 have hlt:=bB hi;refine bUc (i'0:=i) ?_;have hne:∀ j,j<i→∃ y0 y1,l[j]? = some [y0,y1]∧y0≠x0:=fun j hj=>by
  obtain ⟨y0,y1,hy⟩:=at2 hu (i:=j) (by omega)
  refine ⟨y0,y1,hy,fun e => ?_⟩
  have e1:(aK l 0)[j]? = some y0:=by unfold aK;rw [iL,hy];rfl
  have e2:(aK l 0)[i]? = some x0:=by unfold aK;rw [iL,hi];rfl
  obtain ⟨hj1,hj2⟩:=kQ3.1 e1;obtain ⟨hi1,hi2⟩:=kQ3.1 e2;have:=List.pairwise_iff_getElem.1 hn j i hj1 hi1 hj;rw [hj2,hi2] at this
  exact this e
 exact aI.until (P:=Tp) i (fun j=>rV l x0 x1 j) i (dW _)
  (fun j hj=>by
   obtain ⟨y0,y1,hy,hn⟩:=hne j hj;exact bAr (by omega) hy hu ⟨rfl,rfl⟩ (by simp [nK,aEc];exact fun h=>absurd h.symm hn) (aO (by omega)) rfl)
  (bAq (by omega) hi hu ⟨rfl,rfl⟩ (by simp [nK,aEc])) (by simp)
theorem pY(h:bK dl sk dc):uni 2 (aA sk)∧(aA sk).length≤30∧(∀ s∈aA sk,-1≤s.getD 1 0∧s.getD 1 0≤360000)∧(aK (aA sk) 0).Nodup:=by
 have hp:=dS sk;refine ⟨lZ h.us,by rw [eT];exact h.len.2,fun s hs=>(zV.1 (h.hsk s (hp.mem_iff.1 hs))).2,?_⟩
 unfold aK;exact (hp.map _).nodup_iff.2 h.ns
theorem aUf(h:bK dl sk dc)(ho:(aS dl (aA dc)).length≤8){base:Nat}:FV Tp 161 [oM dl (aA sk) (aA dc)] base (.tup [.own base,.p (aB 0)]) [(base,.row 195 (bP dl (aA sk) (aA dc)).length ((bP dl (aA sk) (aA dc)).map hpE).flatten)]:=by
 obtain ⟨h1,h2,h3,_⟩:=pY h;exact bUl (dL h) h1 (by omega) h3 ho
theorem bMm(h:bK dl sk dc){i:Nat}{x0 x1:Int}(hi:(aA sk)[i]? = some [x0,x1]){base:Nat}:FV Tp 185 [.p (fS (aA sk)),.p (.agg [aB x0,aB x1])] base (pI (i:Int)) []:=by
 obtain ⟨h1,h2,_,h4⟩:=pY h;exact bUd h1 h4 (by omega) hi
theorem bUe{bib:Int}{i0:Nat}{s1 s2:Int}(h0:bK dl sk dc)(h1:iH (aA sk) bib=(i0:Int))(h2:(aA sk)[i0]? = some [s1,s2])(h3:(aS dl (aA dc)).length≤8){base:Nat}:FV Tp 140 [(.p (.agg (bU dl sk dc))),(pI bib)] base (.tup [(.p (.sl ((bP dl (aA sk) (aA dc)).length) (((bP dl (aA sk) (aA dc)).map hpE).flatten))),(pI (i0:Int)),(pI 0)]) []:=by
 exact FV.frz (FMM.fin (k:=0) (g:=⟨[],[],[2],[]⟩) rfl Tryz.func140 rfl (o:=[.c (.tup [(.rp (aE dl (aA sk) (aA dc)) 0),(.p (.agg [(aB s1),(aB s2)])),(pI 0)]) [],bF,.c (.tup [(.own 2),(pI 0)]) [(2,(.row 195 ((bP dl (aA sk) (aA dc)).length) (((bP dl (aA sk) (aA dc)).map hpE).flatten)))],.x (.sl ((aA sk).length) ((aA sk).flatten.map aB)),.c (pI (i0:Int)) []]) (l:=[_,(aE dl (aA sk) (aA dc))[1]? = some (.sl ((aA sk).length) ((aA sk).flatten.map aB)),_,_,_]) (by kernel_rfl) (gc (fk 3 (bMm h0 h2) rfl) (gc rfl (gc (fk 2 (aUf h0 h3) rfl) (gc bHb (gc (fk 1 (aCw h0 h1 h2) rfl) gn)))))) (by kernel_rfl)
theorem bUf{bib:Int}{i0:Nat}{s1 s2:Int}{c3:List cN}{mn4 mx5:Int}{r0:Bool}(h0:bK dl sk dc)(h1:iH (aA sk) bib=(i0:Int))(h2:(aA sk)[i0]? = some [s1,s2])(h3:(aS dl (aA dc)).length≤8)(h4:(bP dl (aA sk) (aA dc))[i0]? = some (c3,mn4,mx5))(h5:(bP dl (aA sk) (aA dc)).length≤1000)(h6:c3.length≤256)(er0:r0=(c3.any fun x=>x.2.1)){base:Nat}:FV Tp 71 [(.p (.agg (bU dl sk dc))),(pI bib)] base (.tup [(.p (aG (lS (bP dl (aA sk) (aA dc)) i0 c3))),(pB r0),(pI 0)]) []:=by
 subst er0;exact FV.fin Tryz.func71 rfl (o:=[.c (.tup [(.p (.sl ((bP dl (aA sk) (aA dc)).length) (((bP dl (aA sk) (aA dc)).map hpE).flatten))),(pI (i0:Int)),(pI 0)]) [],bF,.c (.tup [(.p (aG (lS (bP dl (aA sk) (aA dc)) i0 c3))),(pB (c3.any fun x=>x.2.1)),(pB (c3.any fun x => !x.2.1))]) []]) (l:=[_,_,FC Tp 140 [(.p (.agg (bU dl sk dc))),(pI bib)] [] 1 (.tup [(.p (.sl ((bP dl (aA sk) (aA dc)).length) (((bP dl (aA sk) (aA dc)).map hpE).flatten))),(pI (i0:Int)),(pI 0)]) []]) (by kernel_rfl) (gc (fk 1 (aQt h5 h4 h6) rfl) (gc bHb (gc (FV.fc (bUe h0 h1 h2 h3) rfl) gn)))
end
section
variable {dl:Int}{sk dc:Lqq}

noncomputable abbrev aCu:Code:=sub (cd Tryz.f93) [1,1,1,1,1,1,1,0,1,0,0]
theorem bGz:((0:Int) != (0:Int))=false:=by first | decide | simp
theorem bTx{l:List Int}{a b:Bool}{f x0:Int}{r0:Bool}(h0:b=true)(h1:a=false)(h2:inR ((l.length:Int)-1))(h3:l[((l.length:Int)-1).toNat]? = some x0)(h4:0≤((l.length:Int)-1))(er0:r0=(decide (x0≤f))){base:Nat}:FV Tp 95 [(.p (aG l)),(pB a),(pB b),(.rp [(aB f)] 0)] base (pB r0) []:=by
 subst er0;exact FV.fin Tryz.func95 rfl (o:=[bT,bT,bT,bT,bT,bT,bT,bT,bT,.x (aB x0),bT,.x (aB f),bT,bT]) (l:=[_,_,[(aB f)][0]? = some (aB f),_,(l.map aB)[(((l.length:Int)-1).toNat*1)]? = some (aB x0),_,_,_,_,_,_,_,_,_,_,_]) (by kernel_rfl) (g2c (cP h1) (gc rfl (gc (cP h1) (gc (pM (i:=((l.length:Int)-1).toNat) h3) (gc (cP h1) (gc (pN (g:=aB) h4 h3) (gc (cP h1) (gc h2 (g4c (cP h1) (g3c h0 gn))))))))))
theorem bTy{l:List Int}{a b:Bool}{f:Int}(h0:b=true)(h1:a=true){base:Nat}:FV Tp 95 [(.p (aG l)),(pB a),(pB b),(.rp [(aB f)] 0)] base (pB false) []:=by
 exact FV.fin Tryz.func95 rfl (o:=[bT,bT,bT,bF,bF,bF,bF,bF,bF,bF,bF,bF]) (l:=[_,_,_,_,_,_,_,_,_,_,_,_]) (by kernel_rfl) (g8c (aR h1) (gc (aR h1) (g3c h0 gn)))
theorem bTz{l:List Int}{a b:Bool}{f:Int}(h0:b=false){base:Nat}:FV Tp 95 [(.p (aG l)),(pB a),(pB b),(.rp [(aB f)] 0)] base (pB false) []:=by
 exact FV.fin Tryz.func95 rfl (o:=[bF,bF,bF]) (l:=[_,_,_]) (by kernel_rfl) (g3c h0 gn)
def aIu(l:List Int)(a b:Bool)(f:Int):Bool:=b && (!a && decide (l.getD (l.length-1) 0≤f))
theorem bHa(l:List Int)(a b:Bool)(f:Int)(hl:l.length≤1000000)(hb:b=true→l≠[]){base:Nat}:FV Tp 95 [.p (aG l),.p (blP a),.p (blP b),.rp [aB f] 0] base (pB (aIu l a b f)) []:=by
 cases b with
 | false=>exact bTz rfl
 | true =>
  cases a with
  | true=>exact bTy rfl rfl
  | false =>
   have h0:=hb rfl;have h1:0<l.length:=List.length_pos_iff.2 h0;have h2:l[l.length-1]? = some (l.getD (l.length-1) 0):=by rw [kQ4,kQ0 (by omega)];rfl
   have e:((l.length:Int)-1).toNat=l.length-1:=by omega
   exact bTx (x0:=l.getD (l.length-1) 0) rfl rfl (by unfold inR;omega) (by rw [e];exact h2) (by omega) (by unfold aIu;simp)
def kM(dl:Int)(sk:Lqq)(dc:Lqq)(fi:Int)(on:Nat)(oc:List PV)(i:Nat):St:=⟨fr 58 [(2,(.fn 95 [] [(.rp [(aB fi)] 0)])),(6,(.p aW)),(7,(pI 0)),(10,(.p (.sl ((bP dl (aA sk) (aA dc)).length) (((bP dl (aA sk) (aA dc)).map hpE).flatten)))),(11,(.own 0)),(36,(.p (.sl ((aA sk).length) ((aA sk).flatten.map aB)))),(37,(pI (((aA sk).length:Nat):Int))),(38,(pI (i:Int)))],[some (.row 3 on oc)]⟩
theorem bUa{fi:Int}{o'0:List Int}{i'1:Nat}(h0:bK dl sk dc)(h1:(1:Int)≤fi)(h2:(aS dl (aA dc)).length≤8)(hl3:aI Tp 0 aCu (kM dl sk dc fi 0 [] 0) (.exit 0) (kM dl sk dc fi o'0.length (o'0.map aB) i'1)){base:Nat}:FV Tp 93 [(.p (.agg (bU dl sk dc))),(pI fi),(.fn 95 [] [(.rp [(aB fi)] 0)])] base (.tup [(.p (aG o'0)),(pI 0)]) []:=by
 exact FV.frz (FMM.fin (k:=0) (g:=⟨[],[],[0],[]⟩) rfl Tryz.func93 rfl (o:=[.c (.tup [(.rp (aE dl (aA sk) (aA dc)) 0),(pI 0)]) [],bF,bF,.c (.tup [(.own 1),(pI 0)]) [(1,(.row 195 ((bP dl (aA sk) (aA dc)).length) (((bP dl (aA sk) (aA dc)).map hpE).flatten)))],bF,.g 1 ⟨[],[0],[1],[]⟩,.x (.sl ((aA sk).length) ((aA sk).flatten.map aB)),.k 1 ⟨(rng [(0,2),(3,3),(8,2),(12,24),(39,18)]),[1],[],[(11,3)]⟩ (.exit 0) (kM dl sk dc fi o'0.length (o'0.map aB) i'1)]) (l:=[_,(aE dl (aA sk) (aA dc))[1]? = some (.sl ((aA sk).length) ((aA sk).flatten.map aB)),_,_,_,_,_]) (by kernel_rfl) (gc hl3.code (gc rfl (gc bGz (gc (fk 1 (aUf h0 h2) rfl) (gc (bL h1) (gc bGz (gc (fk 1 (fW dl sk dc h0) rfl) gn)))))))) (by kernel_rfl)
theorem bAn{fi:Int}{o:List Int}{i:Nat}{y100 y101:Int}{c102:List cN}{mn103 mx104:Int}{o':List Int}{i':Nat}(h0:(i:Int)<(((aA sk).length:Nat):Int))(h1:(aA sk)[i]? = some [y100,y101])(h2:uni 2 (aA sk))(h3:(bP dl (aA sk) (aA dc))[i]? = some (c102,mn103,mx104))(h4:(bP dl (aA sk) (aA dc)).length≤1000)(h5:c102.length≤256)(h6:(lS (bP dl (aA sk) (aA dc)) i c102).length≤1000000)(h7:(c102.any fun x => !x.2.1)=true→(lS (bP dl (aA sk) (aA dc)) i c102)≠[])(h8:(aIu (lS (bP dl (aA sk) (aA dc)) i c102) (c102.any fun x=>x.2.1) (c102.any fun x => !x.2.1) fi)=true)(h9:[(aB y100)].length=1*1∧o.length+1≤1000000)(h10:inR (((i+1):Nat):Int))(eo'n:o'.length=(o.length+1))(eo'c:o'.map aB=((o.map aB)++[(aB y100)]))(ei':i'=(i+1)):aC Tp 0 aCu (kM dl sk dc fi o.length (o.map aB) i) .normal (kM dl sk dc fi o'.length (o'.map aB) i'):=by
 subst ei';have raw:aC Tp 0 aCu (kM dl sk dc fi o.length (o.map aB) i) .normal (kM dl sk dc fi (o.length+1) ((o.map aB)++[(aB y100)]) (i+1)):=aC.fin (g:=⟨(rng [(0,2),(3,3),(8,2),(12,24),(39,18)]),[3],[],[]⟩) (o:=[bT,.x (.agg [(aB y100),(aB y101)]),.c (.tup [(.p (aG (lS (bP dl (aA sk) (aA dc)) i c102))),(pB (c102.any fun x=>x.2.1)),(pB (c102.any fun x => !x.2.1))]) [],.c (pB (aIu (lS (bP dl (aA sk) (aA dc)) i c102) (c102.any fun x=>x.2.1) (c102.any fun x => !x.2.1) fi)) [],bT]) (l:=[_,_,_,_,_,_,_,0≤(i:Int)∧(i:Int)<(((aA sk).length:Nat):Int)∧(i*2)<((aA sk).flatten.map aB).length,_]) (by kernel_rfl) (gc h10 (gc h9 (gc h8 (gc (fk 2 (bHa (lS (bP dl (aA sk) (aA dc)) i c102) (c102.any fun x=>x.2.1) (c102.any fun x => !x.2.1) fi h6 h7) rfl) (gc (fk 2 (aQt h4 h3 h5) rfl) (gc (aT (i:=i) h2 h1) (gc (bI (i:=i) h2 h1) (gc (bO (k:=2) (i:=(i:Int)) (by decide) h2 (kQ2 _) h1) (gc (bA h0) gn)))))))))
 exact raw.cast (by rw [eo'n,eo'c])
theorem bAo{fi:Int}{o:List Int}{i:Nat}{y100 y101:Int}{c102:List cN}{mn103 mx104:Int}{i':Nat}(h0:(i:Int)<(((aA sk).length:Nat):Int))(h1:(aA sk)[i]? = some [y100,y101])(h2:uni 2 (aA sk))(h3:(bP dl (aA sk) (aA dc))[i]? = some (c102,mn103,mx104))(h4:(bP dl (aA sk) (aA dc)).length≤1000)(h5:c102.length≤256)(h6:(lS (bP dl (aA sk) (aA dc)) i c102).length≤1000000)(h7:(c102.any fun x => !x.2.1)=true→(lS (bP dl (aA sk) (aA dc)) i c102)≠[])(h8:(aIu (lS (bP dl (aA sk) (aA dc)) i c102) (c102.any fun x=>x.2.1) (c102.any fun x => !x.2.1) fi)=false)(h9:inR (((i+1):Nat):Int))(ei':i'=(i+1)):aC Tp 0 aCu (kM dl sk dc fi o.length (o.map aB) i) .normal (kM dl sk dc fi o.length (o.map aB) i'):=by
 subst ei';exact aC.fin (g:=⟨(rng [(0,2),(3,3),(8,2),(12,24),(39,18)]),[0],[],[]⟩) (o:=[bT,.x (.agg [(aB y100),(aB y101)]),.c (.tup [(.p (aG (lS (bP dl (aA sk) (aA dc)) i c102))),(pB (c102.any fun x=>x.2.1)),(pB (c102.any fun x => !x.2.1))]) [],.c (pB (aIu (lS (bP dl (aA sk) (aA dc)) i c102) (c102.any fun x=>x.2.1) (c102.any fun x => !x.2.1) fi)) [],bF]) (l:=[_,_,_,_,_,_,0≤(i:Int)∧(i:Int)<(((aA sk).length:Nat):Int)∧(i*2)<((aA sk).flatten.map aB).length,_]) (by kernel_rfl) (gc h9 (gc h8 (gc (fk 2 (bHa (lS (bP dl (aA sk) (aA dc)) i c102) (c102.any fun x=>x.2.1) (c102.any fun x => !x.2.1) fi h6 h7) rfl) (gc (fk 2 (aQt h4 h3 h5) rfl) (gc (aT (i:=i) h2 h1) (gc (bI (i:=i) h2 h1) (gc (bO (k:=2) (i:=(i:Int)) (by decide) h2 (kQ2 _) h1) (gc (bA h0) gn))))))))
theorem bAp{fi:Int}{o:List Int}{i:Nat}(h0:(((aA sk).length:Nat):Int)≤(i:Int)):aC Tp 0 aCu (kM dl sk dc fi o.length (o.map aB) i) (.exit 0) (kM dl sk dc fi o.length (o.map aB) i):=by
 exact aC.fin (g:=⟨(rng [(0,2),(3,3),(8,2),(12,24),(39,18)]),[0],[],[]⟩) (o:=[bF]) (l:=[_]) (by kernel_rfl) (gc (bL h0) gn)
abbrev bXw(dl:Int)(sk dc:Lqq)(fi:Int)(o:List Int)(e:Int):Prop:=∀ base:Nat,FV Tp 93 [.p (.agg (bU dl sk dc)),.p (aB fi),.fn 95 [] [.rp [aB fi] 0]] base (.tup [.p (aG o),.p (aB e)]) []
theorem bUb{fi e0:Int}{o1:List Int}(h0:bXw dl sk dc fi o1 e0){base:Nat}:FV Tp 33 [(.p (.agg (bU dl sk dc))),(pI fi)] base (.tup [(.p (aG o1)),(pI e0)]) []:=by
 exact FV.fin Tryz.func33 rfl (o:=[.g 3 ⟨[],[0],[1],[]⟩,.x (aB fi),.c (.tup [(.p (aG o1)),(pI e0)]) []]) (l:=[FC Tp 93 [(.p (.agg (bU dl sk dc))),(pI fi),(.fn 95 [] [(.rp [(aB fi)] 0)])] [] 1 (.tup [(.p (aG o1)),(pI e0)]) [],[(aB fi)][0]? = some (aB fi)]) (by kernel_rfl) (gc (FV.fc (h0 _) rfl) (gc rfl gn))
end
end KV
end Go.Proofs
section
namespace Go.Proofs
open Go.RowKit Go.Lib
namespace KV
theorem bMj(o:List Int):jM o≠[]:=fun h=>by
 have:=wJ o;rw [h] at this
 have:=Nat.two_pow_pos o.length;simp at *
 omega
theorem bGw(l:List cN):∀ m,l.foldl (fun m x=>if x.1<m then x.1 else m) m≤m∧∀ x∈l,l.foldl (fun m x=>if x.1<m then x.1 else m) m≤x.1:=by
 induction l with
 | nil=>intro m;exact ⟨aWt _,fun x h=>by cases h⟩
 | cons a l ih =>
  intro m;rw [vV];obtain ⟨h1,h2⟩:=ih (if a.1<m then a.1 else m)
  have ha:(if a.1<m then a.1 else m)≤m∧(if a.1<m then a.1 else m)≤a.1:=by split <;> omega
  exact ⟨by omega,fun x hx=>by
   rcases gP.1 hx with rfl | hx
   ·omega
   ·exact h2 x hx⟩
theorem bGx(l:List cN):∀ m,m≤l.foldl (fun m x=>if x.1 > m then x.1 else m) m∧∀ x∈l,x.1≤l.foldl (fun m x=>if x.1 > m then x.1 else m) m:=by
 induction l with
 | nil=>intro m;exact ⟨aWt _,fun x h=>by cases h⟩
 | cons a l ih =>
  intro m;rw [vV];obtain ⟨h1,h2⟩:=ih (if a.1 > m then a.1 else m)
  have ha:m≤(if a.1 > m then a.1 else m)∧a.1≤(if a.1 > m then a.1 else m):=by split <;> omega
  exact ⟨by omega,fun x hx=>by
   rcases gP.1 hx with rfl | hx
   ·omega
   ·exact h2 x hx⟩
theorem bMk{l:List cN}(h:l≠[]):mnM l≤mxM l:=by
 obtain ⟨x,hx⟩:=List.exists_mem_of_ne_nil l h;exact Int.le_trans ((bGw l far).2 x hx) ((bGx l 0).2 x hx)
theorem bMl(dl:Int)(dc:Lqq)(s0 s1:Int)(o:List Int):(oQ dl dc s0 s1 o).2.1≤(oQ dl dc s0 s1 o).2.2:=bMk fun h=>bMj o (List.map_eq_nil_iff.1 h)
theorem aGi(dl:Int)(sk dc:Lqq):(bP dl sk dc).length=sk.length:=by unfold bP;simp
theorem aMl{dl:Int}{sk dc:Lqq}{i:Nat}{s:List Int}(h:sk[i]? = some s):(bP dl sk dc)[i]? = some (oQ dl dc (s.getD 0 0) (s.getD 1 0) (uN dl dc (s.getD 0 0))):=by
 unfold bP;rw [iL,h];rfl
theorem aMm{dl:Int}{dc:Lqq}{s0 s1:Int}(b:Int)(ho:(aS dl dc).length≤8):(oQ dl dc s0 s1 (uN dl dc b)).1.length≤256:=by
 show ((jM (uN dl dc b)).map _).length≤256;rw [eV,wJ];have:=bHd dl dc b;exact gC (Nat.pow_le_pow_right (by omega) (show (uN dl dc b).length≤8 by omega)) (by decide)
theorem aUd{al:List fK}(h:∀ x∈al,x.2.1≤x.2.2)(s:Nat)(t:Int):∀ i,(iV al s t i).1≤(iV al s t i).2
 | 0=>dW _
 | i+1=>by
  have ih:=aUd h s t i;unfold iV
  split
  ·rename_i x hx
   have:=h x (kQ5 hx)
   split
   ·exact ih
   ·dsimp only
    split <;> split <;> omega
  ·exact ih
theorem aQs{l:List Int}(h:l≠[]):Lib.compact l≠[]:=fun e=>by
 have:(Lib.compact l).length=0:=by rw [e];rfl
 unfold Lib.compact Lib.compactUpTo at this
 rw [eV] at this
 have h0:0∈(List.range l.length).filter (Lib.keeps l.toArray):=pK.2 ⟨xE.2 (List.length_pos_iff.2 h),Lib.keeps_lt_one _ 0 (by omega)⟩
 rw [aEf this] at h0
 cases h0
theorem bGy{al:List fK}(h:∀ x∈al,x.2.1≤x.2.2)(s:Nat){c:List cN}(hc:(c.any fun x => !x.2.1)=true):lS al s c≠[]:=by
 unfold lS;refine aQs fun e => ?_
 have e2:c.flatMap (chL al s)=[]:=by
  have:=List.length_mergeSort (le:=KL.leB) (c.flatMap (chL al s));rw [e] at this
  exact aEf this.symm
 obtain ⟨x,hx,hn⟩:=List.any_eq_true.1 hc;have h1:chL al s x=[]:=List.flatMap_eq_nil_iff.1 e2 x hx;have hf:x.2.1=false:=by simpa using hn
 unfold chL aMo at h1
 rw [hf] at h1
 have:=congrArg List.length h1;have hl:=aUd h s x.1 al.length;simp at this
 have h3:(cZ al s x.1).1≤(cZ al s x.1).2:=hl;omega
theorem aUe{al:List fK}(hal:al.length≤1000)(s:Nat){c:List cN}(hc:c.length≤256):(lS al s c).length≤1000000:=by
 unfold lS;refine gC (aDc _) ?_;rw [List.length_mergeSort];have:=aIx hal s c;omega
theorem aMn(dl:Int)(sk dc:Lqq):∀ x∈bP dl sk dc,x.2.1≤x.2.2:=fun x hx=>by
 obtain ⟨s,_,rfl⟩:=eW.1 hx;exact bMl ..
end KV
end Go.Proofs
end
namespace Go.Proofs
namespace KV
section
def zA(dl:Int)(sk dc:Lqq)(f:Int)(i:Nat):Bool:=match (bP dl sk dc)[i]? with
 | some h=>aIu (lS (bP dl sk dc) i h.1) (h.1.any fun x=>x.2.1) (h.1.any fun x => !x.2.1) f
 | none=>false
def aMk(dl:Int)(sk dc:Lqq)(f:Int):List Int:=((List.range sk.length).filter (zA dl sk dc f)).map fun i=>(sk.getD i []).getD 0 0
theorem bTu{dl:Int}{sk dc:Lqq}(h:bK dl sk dc){bib:Int}{i:Nat}{s0 s1:Int}(hp:iH (aA sk) bib=(i:Int))(hs:(aA sk)[i]? = some [s0,s1])(ho:(aS dl (aA dc)).length≤8){base:Nat} :
  FV Tp 71 [.p (.agg (bU dl sk dc)),.p (aB bib)] base (.tup [.p (aG (lS (bP dl (aA sk) (aA dc)) i (oQ dl (aA dc) s0 s1 (uN dl (aA dc) s0)).1)),.p (blP ((oQ dl (aA dc) s0 s1 (uN dl (aA dc) s0)).1.any fun x=>x.2.1)),.p (aB 0)]) []:=by
 obtain ⟨_,h2,_,_⟩:=pY h;exact bUf h hp hs ho (aMl hs) (by rw [aGi];omega) (aMm s0 ho) rfl
theorem bTv{dl:Int}{sk dc:Lqq}(h:bK dl sk dc){f:Int}(hf:1≤f)(ho:(aS dl (aA dc)).length≤8):bXw dl sk dc f (aMk dl (aA sk) (aA dc) f) 0:=fun base=>by
 obtain ⟨h1,h2,_,_⟩:=pY h;obtain ⟨o,hI,hL⟩:=aI.ex (P:=Tp) (k:=0) (b:=sub (cd Tryz.f93) [1,1,1,1,1,1,1,0,1,0,0]) (e := .exit 0) (fun i (o:List Int)=>kM dl sk dc f o.length (o.map aB) i) (fun o=>kM dl sk dc f o.length (o.map aB) (aA sk).length)
  (fun i o=>o=((List.range i).filter (zA dl (aA sk) (aA dc) f)).map fun i=>((aA sk).getD i []).getD 0 0) (by simp) (aA sk).length
  (fun i o hi hoE=>by
   obtain ⟨y0,y1,hy⟩:=at2 h1 hi;have hat:=aMl (dl:=dl) (dc:=aA dc) hy;have hlen:o.length≤i:=by
    rw [hoE,eV];have:=sV (zA dl (aA sk) (aA dc) f) (List.range i);simpa using this
   have hmb:zA dl (aA sk) (aA dc) f i=aIu (lS (bP dl (aA sk) (aA dc)) i (oQ dl (aA dc) y0 y1 (uN dl (aA dc) y0)).1) ((oQ dl (aA dc) y0 y1 (uN dl (aA dc) y0)).1.any fun x=>x.2.1) ((oQ dl (aA dc) y0 y1 (uN dl (aA dc) y0)).1.any fun x => !x.2.1) f:=by
    unfold zA;rw [hat];rfl
   have hal:(bP dl (aA sk) (aA dc)).length≤1000:=by rw [aGi];omega
   have hc:=aMm (s0:=y0) (s1:=y1) y0 ho;have hg:((aA sk).getD i []).getD 0 0=y0:=by simp [kQ4,hy]
   cases hb:zA dl (aA sk) (aA dc) f i with
   | true =>
    refine ⟨o++[y0],?_,bAn (by omega) hy h1 hat hal hc (aUe hal i hc) (fun hn=>bGy (aMn _ _ _) i hn) (by rw [← hb,hmb];rfl) ⟨rfl,by omega⟩ (aO (by omega)) (by simp) (by simp) rfl⟩
    rw [hoE,List.range_succ,rH,iZ];simp only [List.filter_cons,hb,if_true,List.filter_nil,jA,List.map_nil,hg]
   | false =>
    refine ⟨o,?_,bAo (by omega) hy h1 hat hal hc (aUe hal i hc) (fun hn=>bGy (aMn _ _ _) i hn) (by rw [← hb,hmb];rfl) (aO (by omega)) rfl⟩
    rw [hoE,List.range_succ,rH,iZ];simp [List.filter_cons,hb])
  (fun o _=>bAp (by omega)) (acc:=[]) (by simp)
 have e:o=aMk dl (aA sk) (aA dc) f:=hI;rw [← e];exact bUa h hf ho hL
theorem bTw{dl:Int}{sk dc:Lqq}(h:bK dl sk dc){f:Int}(hf:1≤f)(ho:(aS dl (aA dc)).length≤8){base:Nat}:FV Tp 33 [.p (.agg (bU dl sk dc)),.p (aB f)] base (.tup [.p (aG (aMk dl (aA sk) (aA dc) f)),.p (aB 0)]) []:=bUb (bTv h hf ho)
end
section

noncomputable abbrev xO:Code:=sub (cd Tryz.f51) [1,1,0,1,0,0]
noncomputable abbrev xP:Code:=sub (cd Tryz.f41) [1,1,0,1,0,0]
theorem bGu{dl:Int}{sk dc:Lqq}{bib:Int}{i0:Nat}{s1 s2 n3:Int}{b4:Bool}{T5:Lqb}(h0:bK dl sk dc)(h1:iH (aA sk) bib=(i0:Int))(h2:(aA sk)[i0]? = some [s1,s2])(h3:wC dl (aA sk) (aA dc) aW [s1,s2] n3 b4 ([]:Lqb) T5){base:Nat}:FV Tp 61 [(.p (.agg (bU dl sk dc))),(pI bib)] base (.tup [(pI n3),(pB b4),(pI 0)]) []:=by
 exact FV.fin Tryz.func61 rfl (o:=[.c (.tup [(.rp (aE dl (aA sk) (aA dc)) 0),(.p (.agg [(aB s1),(aB s2)])),(pI 0)]) [],bF,.c (.agg (kVL 6 7 2 4 8 3)) [(2,(vB0 dl (aA sk) (aA dc))),(3,(.box 33 [(.p aW)])),(4,(.box 139 (kVL 6 7 2 4 8 3))),(5,(.mp (aF ([]:Lqb)) 0)),(6,(.box 207 [(.mp 5)])),(7,(vB5 dl (aA sk) (aA dc))),(8,(.box 209 [(.fn 153 [] [(.ptr 2 0),(.ptr 4 0)])]))],.c (.tup [(pI n3),(pB b4)]) [(2,(vB0 dl (aA sk) (aA dc))),(3,(.box 33 [(.p aW)])),(4,(.box 139 (kVL 6 7 2 4 8 3))),(5,(.mp (aF T5) T5.length)),(6,(.box 207 [(.mp 5)])),(7,(vB5 dl (aA sk) (aA dc))),(8,(.box 209 [(.fn 153 [] [(.ptr 2 0),(.ptr 4 0)])]))]]) (l:=[FC Tp 134 [(.rp (aE dl (aA sk) (aA dc)) 0),(.p (.agg [(aB s1),(aB s2)])),(.agg (kVL 6 7 2 4 8 3))] [(6,(.box 207 [(.mp 5)])),(7,(vB5 dl (aA sk) (aA dc))),(2,(vB0 dl (aA sk) (aA dc))),(4,(.box 139 (kVL 6 7 2 4 8 3))),(8,(.box 209 [(.fn 153 [] [(.ptr 2 0),(.ptr 4 0)])])),(3,(.box 33 [(.p aW)])),(5,(.mp (aF ([]:Lqb)) 0))] 10 (.tup [(pI n3),(pB b4)]) [(2,(vB0 dl (aA sk) (aA dc))),(3,(.box 33 [(.p aW)])),(4,(.box 139 (kVL 6 7 2 4 8 3))),(5,(.mp (aF T5) T5.length)),(6,(.box 207 [(.mp 5)])),(7,(vB5 dl (aA sk) (aA dc))),(8,(.box 209 [(.fn 153 [] [(.ptr 2 0),(.ptr 4 0)])]))],FC Tp 87 [(.rp (aE dl (aA sk) (aA dc)) 0),(.p aW)] [] 2 (.agg (kVL 6 7 2 4 8 3)) [(2,(vB0 dl (aA sk) (aA dc))),(3,(.box 33 [(.p aW)])),(4,(.box 139 (kVL 6 7 2 4 8 3))),(5,(.mp (aF ([]:Lqb)) 0)),(6,(.box 207 [(.mp 5)])),(7,(vB5 dl (aA sk) (aA dc))),(8,(.box 209 [(.fn 153 [] [(.ptr 2 0),(.ptr 4 0)])]))],((0:Int) != (0:Int))=false,_]) (by kernel_rfl) (gc (FMM.fc (ids:=[2,3,4,5,6,7,8]) h3 (by kernel_rfl)) (gc (FMM.fcN (k:=7) rfl (ids:=[]) (kW (dl:=dl) (sk:=(aA sk)) (dc:=(aA dc))) (by kernel_rfl)) (gc (by first | decide | simp) (gc (fk 1 (aCw h0 h1 h2) rfl) gn))))
def jD(a:Lqq)(b:Lqq)(i:Nat):St:=⟨fr 26 [(0,(.p (fS a))),(1,(.p (fS b))),(12,(pI (a.length:Int))),(13,(pI (i:Int)))],[]⟩
theorem bTn{a b:Lqq}(h0:(a.length:Int)≠(b.length:Int)){base:Nat}:FV Tp 51 [(.p (fS a)),(.p (fS b))] base (pB false) []:=by
 exact FV.fin Tryz.func51 rfl (o:=[bT]) (l:=[_]) (by kernel_rfl) (gc (nG h0) gn)
theorem bTo{a b:Lqq}{i'0:Nat}(h0:(a.length:Int)=(b.length:Int))(hl1:aI Tp 0 xO (jD a b 0) (.exit 0) (jD a b i'0)){base:Nat}:FV Tp 51 [(.p (fS a)),(.p (fS b))] base (pB true) []:=by
 exact FV.fin Tryz.func51 rfl (o:=[bF,.k 4 ⟨(rng [(2,10),(14,12)]),[],[],[]⟩ (.exit 0) (jD a b i'0)]) (l:=[_,_]) (by kernel_rfl) (gc hl1.code (gc (fM h0) gn))
theorem bTp{a b:Lqq}{i'0:Nat}(h0:(a.length:Int)=(b.length:Int))(hl1:aI Tp 0 xO (jD a b 0) .ret (cG (jD a b i'0) [(4,(.kb false))])){base:Nat}:FV Tp 51 [(.p (fS a)),(.p (fS b))] base (pB false) []:=by
 exact FV.fin Tryz.func51 rfl (o:=[bF,.k 4 ⟨(rng [(2,10),(14,12)]),[],[],[]⟩ .ret (cG (jD a b i'0) [(4,(.kb false))])]) (l:=[_,_]) (by kernel_rfl) (gc hl1.code (gc (fM h0) gn))
theorem bAh{a b:Lqq}{i:Nat}{y100 y101 y102 y103 y104 y105:Int}(h0:(i:Int)<(a.length:Int))(h1:a[i]? = some [y100,y101,y102])(h2:uni 3 a)(h3:b[i]? = some [y103,y104,y105])(h4:uni 3 b)(h5:eC [(aB y100),(aB y101),(aB y102)] [(0,3,true),(1,3,true),(2,3,true)]=true∧eC [(aB y103),(aB y104),(aB y105)] [(0,3,true),(1,3,true),(2,3,true)]=true)(h6:(nK [(aB y100),(aB y101),(aB y102)] [(aB y103),(aB y104),(aB y105)] [(0,3,true),(1,3,true),(2,3,true)])=false):aC Tp 0 xO (jD a b i) .ret (cG (jD a b i) [(4,(.kb false))]):=by
 exact aC.fin (g:=⟨(rng [(2,2),(5,7),(14,12)]),[],[],[]⟩) (o:=[bT,.x (.agg [(aB y100),(aB y101),(aB y102)]),.x (.agg [(aB y103),(aB y104),(aB y105)]),bT]) (l:=[_,_,_,_,0≤(i:Int)∧(i:Int)<(b.length:Int)∧(i*3)<(b.flatten.map aB).length,_,_,0≤(i:Int)∧(i:Int)<(a.length:Int)∧(i*3)<(a.flatten.map aB).length,_]) (by kernel_rfl) (gc (cP h6) (gc h5 (gc (aT (i:=i) h4 h3) (gc (bI (i:=i) h4 h3) (gc (bO (k:=3) (i:=(i:Int)) (by decide) h4 (kQ2 _) h3) (gc (aT (i:=i) h2 h1) (gc (bI (i:=i) h2 h1) (gc (bO (k:=3) (i:=(i:Int)) (by decide) h2 (kQ2 _) h1) (gc (bA h0) gn)))))))))
theorem bAi{a b:Lqq}{i:Nat}{y100 y101 y102 y103 y104 y105:Int}{i':Nat}(h0:(i:Int)<(a.length:Int))(h1:a[i]? = some [y100,y101,y102])(h2:uni 3 a)(h3:b[i]? = some [y103,y104,y105])(h4:uni 3 b)(h5:eC [(aB y100),(aB y101),(aB y102)] [(0,3,true),(1,3,true),(2,3,true)]=true∧eC [(aB y103),(aB y104),(aB y105)] [(0,3,true),(1,3,true),(2,3,true)]=true)(h6:(nK [(aB y100),(aB y101),(aB y102)] [(aB y103),(aB y104),(aB y105)] [(0,3,true),(1,3,true),(2,3,true)])=true)(h7:inR (((i+1):Nat):Int))(ei':i'=(i+1)):aC Tp 0 xO (jD a b i) .normal (jD a b i'):=by
 subst ei';exact aC.fin (g:=⟨(rng [(2,10),(14,12)]),[],[],[]⟩) (o:=[bT,.x (.agg [(aB y100),(aB y101),(aB y102)]),.x (.agg [(aB y103),(aB y104),(aB y105)]),bF]) (l:=[_,_,_,_,_,0≤(i:Int)∧(i:Int)<(b.length:Int)∧(i*3)<(b.flatten.map aB).length,_,_,0≤(i:Int)∧(i:Int)<(a.length:Int)∧(i*3)<(a.flatten.map aB).length,_]) (by kernel_rfl) (gc h7 (gc (aR h6) (gc h5 (gc (aT (i:=i) h4 h3) (gc (bI (i:=i) h4 h3) (gc (bO (k:=3) (i:=(i:Int)) (by decide) h4 (kQ2 _) h3) (gc (aT (i:=i) h2 h1) (gc (bI (i:=i) h2 h1) (gc (bO (k:=3) (i:=(i:Int)) (by decide) h2 (kQ2 _) h1) (gc (bA h0) gn))))))))))
theorem bAj{a b:Lqq}{i:Nat}(h0:(a.length:Int)≤(i:Int)):aC Tp 0 xO (jD a b i) (.exit 0) (jD a b i):=by
 exact aC.fin (g:=⟨(rng [(2,10),(14,12)]),[],[],[]⟩) (o:=[bF]) (l:=[_]) (by kernel_rfl) (gc (bL h0) gn)
theorem bTq(a b:Lqq)(ha:uni 3 a)(hb:uni 3 b)(hl:a.length≤1000){base:Nat}:FV Tp 51 [.p (fS a),.p (fS b)] base (pB (decide (a=b))) []:=by
 by_cases hlen:a.length=b.length
 ·have eqx:∀ i,i<a.length→∃ x y,a[i]? = some x∧b[i]? = some y∧x.length=3∧y.length=3:=fun i hi =>
   ⟨a[i],b[i],kQ0 hi,kQ0 (by omega),ha _ (gO hi),hb _ (gO (by omega))⟩
  rcases aI.find (P:=Tp) (k:=0) (b:=xO) (fun i=>jD a b i) (fun i _=>cG (jD a b i) [(4,.kb false)]) (jD a b a.length) .ret (.exit 0) (by simp) (by simp) (fun j=>decide (a.getD j []≠b.getD j [])) (List.range a.length)
   (fun i x hx hp=>by
    have hi:i<a.length:=by have:=bB hx;simpa using this
    obtain ⟨y,z,hy,hz,ly,lz⟩:=eqx i hi;obtain ⟨a,b,c,rfl⟩:=len3 ly;obtain ⟨a',b',c',rfl⟩:=len3 lz;have hxi:x=i:=by rw [aOx hi] at hx;exact (Option.some.inj hx).symm
    subst hxi;have he:=of_decide_eq_false hp;simp only [kQ4,hy,hz,Option.getD_some,ne_eq,Classical.not_not] at he
    cases he;exact bAi (by omega) hy ha hz hb ⟨rfl,rfl⟩ (by simp [nK,aEc]) (aO (by omega)) rfl)
   (fun i x hx hp=>by
    have hi:i<a.length:=by have:=bB hx;simpa using this
    obtain ⟨y,z,hy,hz,ly,lz⟩:=eqx i hi;obtain ⟨a,b,c,rfl⟩:=len3 ly;obtain ⟨a',b',c',rfl⟩:=len3 lz;have hxi:x=i:=by rw [aOx hi] at hx;exact (Option.some.inj hx).symm
    subst hxi;have he:=of_decide_eq_true hp;simp only [kQ4,hy,hz,Option.getD_some] at he
    exact bAh (by omega) hy ha hz hb ⟨rfl,rfl⟩ (by
     rw [Bool.eq_false_iff];intro h;simp [nK,aEc] at h
     exact he (by simp [h])))
   (by rw [List.length_range];exact bAj (by omega)) with ⟨i,x,h1,h2,h3,h4⟩ | ⟨h1,h2,h3⟩
  ·have hi:i<a.length:=by have:=bB h1;simpa using this
   have hxi:x=i:=by rw [aOx hi] at h1;exact (Option.some.inj h1).symm
   have he:=of_decide_eq_true h3;rw [decide_eq_false (fun e=>he (by rw [e]))]
   exact bTp (by omega) h4
  ·have hall:∀ i,i<a.length→a.getD i []=b.getD i []:=fun i hi=>by
    have:=List.any_eq_false.1 h2 i (xE.2 hi);simpa using this
   have e:a=b:=by
    apply List.ext_getElem hlen;intro i h1 h2;have:=hall i h1;simpa [kQ4,kQ0 h1,kQ0 h2] using this
   rw [decide_eq_true e];exact bTo (by omega) h3
 ·rw [decide_eq_false (fun e=>hlen (by rw [e]))]
  exact bTn (by omega)
def jE(a:List Int)(b:List Int)(i:Nat):St:=⟨fr 26 [(0,(.p (aG a))),(1,(.p (aG b))),(12,(pI (a.length:Int))),(13,(pI (i:Int)))],[]⟩
theorem bTr{a b:List Int}(h0:(a.length:Int)≠(b.length:Int)){base:Nat}:FV Tp 41 [(.p (aG a)),(.p (aG b))] base (pB false) []:=by
 exact FV.fin Tryz.func41 rfl (o:=[bT]) (l:=[_]) (by kernel_rfl) (gc (nG h0) gn)
theorem bTs{a b:List Int}{i'0:Nat}(h0:(a.length:Int)=(b.length:Int))(hl1:aI Tp 0 xP (jE a b 0) (.exit 0) (jE a b i'0)){base:Nat}:FV Tp 41 [(.p (aG a)),(.p (aG b))] base (pB true) []:=by
 exact FV.fin Tryz.func41 rfl (o:=[bF,.k 4 ⟨(rng [(2,10),(14,12)]),[],[],[]⟩ (.exit 0) (jE a b i'0)]) (l:=[_,_]) (by kernel_rfl) (gc hl1.code (gc (fM h0) gn))
theorem bTt{a b:List Int}{i'0:Nat}(h0:(a.length:Int)=(b.length:Int))(hl1:aI Tp 0 xP (jE a b 0) .ret (cG (jE a b i'0) [(4,(.kb false))])){base:Nat}:FV Tp 41 [(.p (aG a)),(.p (aG b))] base (pB false) []:=by
 exact FV.fin Tryz.func41 rfl (o:=[bF,.k 4 ⟨(rng [(2,10),(14,12)]),[],[],[]⟩ .ret (cG (jE a b i'0) [(4,(.kb false))])]) (l:=[_,_]) (by kernel_rfl) (gc hl1.code (gc (fM h0) gn))
theorem bAk{a b:List Int}{i:Nat}{x100 x101:Int}(h0:(i:Int)<(a.length:Int))(h1:a[i]? = some x100)(h2:b[i]? = some x101)(h3:x100≠x101):aC Tp 0 xP (jE a b i) .ret (cG (jE a b i) [(4,(.kb false))]):=by
 exact aC.fin (g:=⟨(rng [(2,2),(5,7),(14,12)]),[],[],[]⟩) (o:=[bT,.x (aB x100),.x (aB x101),bT]) (l:=[_,_,_,_,_,_]) (by kernel_rfl) (gc (nG h3) (gc (atm aB h2) (gc (ixn aB h2) (gc (atm aB h1) (gc (ixn aB h1) (gc (bA h0) gn))))))
theorem bAl{a b:List Int}{i:Nat}{x100 x101:Int}{i':Nat}(h0:(i:Int)<(a.length:Int))(h1:a[i]? = some x100)(h2:b[i]? = some x101)(h3:x100=x101)(h4:inR (((i+1):Nat):Int))(ei':i'=(i+1)):aC Tp 0 xP (jE a b i) .normal (jE a b i'):=by
 subst ei';exact aC.fin (g:=⟨(rng [(2,10),(14,12)]),[],[],[]⟩) (o:=[bT,.x (aB x100),.x (aB x101),bF]) (l:=[_,_,_,_,_,_,_]) (by kernel_rfl) (gc h4 (gc (fM h3) (gc (atm aB h2) (gc (ixn aB h2) (gc (atm aB h1) (gc (ixn aB h1) (gc (bA h0) gn)))))))
theorem bAm{a b:List Int}{i:Nat}(h0:(a.length:Int)≤(i:Int)):aC Tp 0 xP (jE a b i) (.exit 0) (jE a b i):=by
 exact aC.fin (g:=⟨(rng [(2,10),(14,12)]),[],[],[]⟩) (o:=[bF]) (l:=[_]) (by kernel_rfl) (gc (bL h0) gn)
theorem bGv(a b:List Int)(hl:a.length≤1000){base:Nat}:FV Tp 41 [.p (aG a),.p (aG b)] base (pB (decide (a=b))) []:=by
 by_cases hlen:a.length=b.length
 ·rcases aI.find (P:=Tp) (k:=0) (b:=xP) (fun i=>jE a b i) (fun i _=>cG (jE a b i) [(4,.kb false)]) (jE a b a.length) .ret (.exit 0) (by simp) (by simp) (fun j=>decide (a.getD j 0≠b.getD j 0)) (List.range a.length)
   (fun i x hx hp=>by
    have hi:i<a.length:=by have:=bB hx;simpa using this
    have hxi:x=i:=by rw [aOx hi] at hx;exact (Option.some.inj hx).symm
    subst hxi;have h1:a[x]? = some (a.getD x 0):=by rw [kQ4,kQ0 hi];rfl
    have h2:b[x]? = some (b.getD x 0):=by rw [kQ4,kQ0 (by omega)];rfl
    have he:=of_decide_eq_false hp;exact bAl (by omega) h1 h2 (Classical.not_not.1 he) (aO (by omega)) rfl)
   (fun i x hx hp=>by
    have hi:i<a.length:=by have:=bB hx;simpa using this
    have hxi:x=i:=by rw [aOx hi] at hx;exact (Option.some.inj hx).symm
    subst hxi;have h1:a[x]? = some (a.getD x 0):=by rw [kQ4,kQ0 hi];rfl
    have h2:b[x]? = some (b.getD x 0):=by rw [kQ4,kQ0 (by omega)];rfl
    exact bAk (by omega) h1 h2 (of_decide_eq_true hp))
   (by rw [List.length_range];exact bAm (by omega)) with ⟨i,x,h1,h2,h3,h4⟩ | ⟨h1,h2,h3⟩
  ·have he:=of_decide_eq_true h3
   rw [decide_eq_false (fun e=>he (by rw [e]))]
   exact bTt (by omega) h4
  ·have hall:∀ i,i<a.length→a.getD i 0=b.getD i 0:=fun i hi=>by
    have:=List.any_eq_false.1 h2 i (xE.2 hi);simpa using this
   have e:a=b:=by
    apply List.ext_getElem hlen;intro i h1 h2;have:=hall i h1
    rwa [kQ4,kQ4,kQ0 h1,kQ0 h2] at this
   rw [decide_eq_true e];exact bTs (by omega) h3
 ·rw [decide_eq_false (fun e=>hlen (by rw [e]))]
  exact bTr (by omega)
theorem aIt{a b c:Int}{base:Nat}:FV Tp 23 [(pI a),(pI b),(pI c)] base (.p (dcE a 0 0 b c 0)) []:=by
 exact FV.fin Tryz.func23 rfl (o:=[]) (l:=[]) (by kernel_rfl) (gn)
theorem iP{a b c d e:Int}{base:Nat}:FV Tp 49 [(pI a),(pI b),(pI c),(pI d),(pI e)] base (.p (dcE a b d 0 e c)) []:=by
 exact FV.fin Tryz.func49 rfl (o:=[]) (l:=[]) (by kernel_rfl) (gn)
end
section
theorem ofO(l:List Int):FMM Tp 17 [.p (.sl l.length (l.map aN))] [] (.ptr 0 0) [some (jW l 0 17)]:=bXh
def bQd(ns nd:Int)(l:List Int)(nx st:Int)(r:Lqq × Lqq × Int × Int):Prop :=
 bK 30 r.1 r.2.1∧(r.1.length:Int)≤ns∧(r.2.1.length:Int)≤nd∧(0≤r.2.2.1∧r.2.2.1≤4000)∧(r.1.Pairwise fun a b=>a.getD 0 0<b.getD 0 0)∧(r.2.1.Pairwise fun a b=>a.getD 0 0<b.getD 0 0)∧(∀ x∈r.2.1,x.getD 0 0≤80)∧(∀ x∈r.1,x.getD 0 0≤88∧x.getD 1 0≤16000) ∧
  FMM Tp 16 [.ptr 0 0,.p (aB ns),.p (aB nd)] [some (jW l nx st)] (.p (.agg (bU 30 r.1 r.2.1))) [some (jW l r.2.2.1 r.2.2.2)]
open Classical in
noncomputable def aLm(ns nd:Int)(l:List Int)(nx st:Int):Lqq × Lqq × Int × Int:=if h:∃ r,bQd ns nd l nx st r then Classical.choose h else ([],[],0,0)
theorem aLn{ns nd:Int}{l:List Int}{nx st:Int}(hns:1≤ns∧ns≤30)(hnd:0≤nd∧nd≤40)(hnx:0≤nx∧nx≤900):bQd ns nd l nx st (aLm ns nd l nx st):=by
 obtain ⟨sk,dc,mx,tt,h⟩:=bQg (ns:=ns) (nd:=nd) (l:=l) (nx:=nx) (st:=st) hns hnd hnx;have hex:∃ r,bQd ns nd l nx st r:=⟨(sk,dc,mx,tt),h⟩;unfold aLm;rw [dif_pos hex];exact Classical.choose_spec hex
theorem aIb{sk dc:Lqq}{nx' st':Int}(ns nd:Int)(l:List Int)(nx st:Int)(h:0≤nx∧nx≤900)(hs:1≤ns∧ns≤30)(hd:0≤nd∧nd≤40)(e:aLm ns nd l nx st=(sk,dc,nx',st')):FMM Tp 16 [.ptr 0 0,.p (aB ns),.p (aB nd)] [some (jW l nx st)] (.p (.agg (bU 30 sk dc))) [some (jW l nx' st')]:=by
 have:=(aLn (l:=l) (st:=st) hs hd h).2.2.2.2.2.2.2.2;rw [e] at this
 exact this
theorem aIc{dl:Int}{sk dc:Lqq}{bib t:Int}{o:Bool}(h:bK dl sk dc){i:Nat}{s0 s1:Int}(hp:iH (aA sk) bib=(i:Int))(hs:(aA sk)[i]? = some [s0,s1])(e:eR dl [] (aA dc) s0 s1=(t,o)){base:Nat}:FV Tp 61 [.p (.agg (bU dl sk dc)),.p (aB bib)] base (.tup [.p (aB t),.p (blP o),.p (aB 0)]) []:=by
 obtain ⟨h1,_,h3,_⟩:=pY h;obtain ⟨T',_,hT⟩:=aLx (dl:=dl) (sk:=aA sk) (dc:=aA dc) (dL h) iY s0 s1 (h3 _ (kQ5 hs)) (T:=[]) bW.nil;rw [e] at hT
 exact bGu h hp hs hT
end
section
variable {P:Program}
theorem FC.close1{f base id ty n:Nat}{cs:List PV}{args args':List AV}{y:AV}{L:Upd}(h:FC P f args' [] base y L)(ha:fzL id n cs args=args'):FC P f args [(id,.row ty n cs)] base y ((id,.dead)::L):=fun M hb hf h8=>by
 have hoM:=hb _ (iK ..);subst ha;have fre:∀ j,fC M (base+j)=true→fC (aY M id (some .dead)) (base+j)=true:=fun j hj=>by
  have hne:id≠base+j:=fun e=>by
   have:=cS hj;rw [← e] at this
   exact this _ (bE.1 hoM)
  unfold fC at hj ⊢
  rw [dA,if_neg hne];exact hj
 exact FM.close1 hoM (h _ (fun p hp=>by cases hp) (by have:=fre 0 (by simpa using hf);simpa using this) (fun j hj=>fre j (h8 j hj)))
end
section
variable {dl:Int}{sk dc:Lqq}

noncomputable abbrev yA:Code:=sub (cd Tryz.f58) [1,1,1,1,1,1,1,1,1,0,1,0,1,0,0]
noncomputable abbrev aJh:Code:=sub (cd Tryz.f58) [1,1,1,1,1,1,1,1,1,0,1,0]
noncomputable abbrev aRw:Code:=sub (cd Tryz.f58) [1,1,1,1,1,1,1,1,1,0,1,0,1]
theorem aDh:((0:Int) != (0:Int))=false:=by first | decide | simp
def fH(dl:Int)(sk dc:Lqq)(r:Int)(x:List Int):Int × Bool:=eR dl x (aA dc) (((aA sk).getD (aZ (fun x=>decide (r=x)) (aK (aA sk) 0)).toNat []).getD 0 0) (((aA sk).getD (aZ (fun x=>decide (r=x)) (aK (aA sk) 0)).toNat []).getD 1 0)
def mP(dl:Int)(sk:Lqq)(dc:Lqq)(num:Int)(r6:Int)  : St:=⟨fr 102 [(3,(.rp [(aB num)] 0)),(4,(.ptr 0 0)),(5,(.ptr 1 0)),(6,(.rp [(PV.rp (aE dl (aA sk) (aA dc)) 0)] 0)),(9,(.rp [(aB r6)] 0)),(10,(.rp [(aB (aZ (fun x=>decide (r6=x)) (aK (aA sk) 0)))] 0)),(53,(.fn 182 [] [(.rp [(aG ((aS dl (aA dc)).filter fun n => !(n == num)))] 0)]))],[some (.box 4 [(pB false)]),some (.box 34 [(pI 0)])]⟩
def uQ(dl:Int)(sk:Lqq)(dc:Lqq)(num:Int)(r6:Int):St:=⟨fr 102 [(3,(.rp [(aB num)] 0)),(4,(.ptr 0 0)),(5,(.ptr 1 0)),(6,(.rp [(PV.rp (aE dl (aA sk) (aA dc)) 0)] 0)),(9,(.rp [(aB r6)] 0)),(10,(.rp [(aB (aZ (fun x=>decide (r6=x)) (aK (aA sk) 0)))] 0)),(53,(.fn 182 [] [(.rp [(aG ((aS dl (aA dc)).filter fun n => !(n == num)))] 0)]))],[some (.box 4 [(pB false)]),some (.box 34 [(pI 0)])]⟩
def aDi(dl:Int)(sk:Lqq)(dc:Lqq)(num:Int)(r6:Int):St:=⟨fr 102 [(3,(.rp [(aB num)] 0)),(4,(.ptr 0 0)),(5,(.ptr 1 0)),(6,(.rp [(PV.rp (aE dl (aA sk) (aA dc)) 0)] 0)),(9,(.rp [(aB r6)] 0)),(10,(.rp [(aB (aZ (fun x=>decide (r6=x)) (aK (aA sk) 0)))] 0)),(53,(.fn 182 [] [(.rp [(aG ((aS dl (aA dc)).filter fun n => !(n == num)))] 0)]))],[some (.box 4 [(.kb true)]),some (.box 34 [(pI 0)])]⟩
theorem bWe{num:Int}(h0:bK dl sk dc)(h1:bH (aA dc))(h2:(aS dl (aA dc)).length≤1000)(h3:((aS dl (aA dc)).contains num)=false){base:Nat}:FV Tp 58 [(.p (.agg (bU dl sk dc))),(pI num)] base (.tup [(pB false),(pI 1)]) []:=by
 exact FV.fin Tryz.func58 rfl (o:=[.c (.tup [(.rp (aE dl (aA sk) (aA dc)) 0),(pI 0)]) [],bF,.g 1 ⟨[],[0,2,3],[4,1],[]⟩,.x (PV.rp (aE dl (aA sk) (aA dc)) 0),.c (.own 3) [(3,(.row 3 ((aS dl (aA dc)).length) ((aS dl (aA dc)).map aB)))],.x (aB num),.c (pB ((aS dl (aA dc)).contains num)) [],bT]) (l:=[_,FC Tp 52 [(.own 3),(pI num)] [(3,(.row 3 ((aS dl (aA dc)).length) ((aS dl (aA dc)).map aB)))] 4 (pB ((aS dl (aA dc)).contains num)) [],[(aB num)][0]? = some (aB num),_,[(PV.rp (aE dl (aA sk) (aA dc)) 0)][0]? = some (PV.rp (aE dl (aA sk) (aA dc)) 0),_,_]) (by kernel_rfl) (gc (cP h3) (gc (fv (mG (aS dl (aA dc)) num h2)) (gc rfl (gc (fk 3 (rO (dl:=dl) (sk:=(aA sk)) (dc:=(aA dc)) h1) rfl) (gc rfl (gc aDh (gc (fk 4 (fW dl sk dc h0) rfl) gn)))))))
theorem bWf{num:Int}(h0:bK dl sk dc)(h1:bH (aA dc))(h2:(aS dl (aA dc)).length≤1000)(h3:((aS dl (aA dc)).contains num)=true)(h4:(8:Int)<(((aS dl (aA dc)).length:Nat):Int)){base:Nat}:FV Tp 58 [(.p (.agg (bU dl sk dc))),(pI num)] base (.tup [(pB false),(pI 10)]) []:=by
 exact FV.fin Tryz.func58 rfl (o:=[.c (.tup [(.rp (aE dl (aA sk) (aA dc)) 0),(pI 0)]) [],bF,.g 1 ⟨[],[0,2,3],[4,1],[]⟩,.x (PV.rp (aE dl (aA sk) (aA dc)) 0),.c (.own 3) [(3,(.row 3 ((aS dl (aA dc)).length) ((aS dl (aA dc)).map aB)))],.x (aB num),.c (pB ((aS dl (aA dc)).contains num)) [],bF,bT]) (l:=[_,_,FC Tp 52 [(.own 3),(pI num)] [(3,(.row 3 ((aS dl (aA dc)).length) ((aS dl (aA dc)).map aB)))] 4 (pB ((aS dl (aA dc)).contains num)) [],[(aB num)][0]? = some (aB num),_,[(PV.rp (aE dl (aA sk) (aA dc)) 0)][0]? = some (PV.rp (aE dl (aA sk) (aA dc)) 0),_,_]) (by kernel_rfl) (gc (bA h4) (gc (aR h3) (gc (fv (mG (aS dl (aA dc)) num h2)) (gc rfl (gc (fk 3 (rO (dl:=dl) (sk:=(aA sk)) (dc:=(aA dc)) h1) rfl) (gc rfl (gc aDh (gc (fk 4 (fW dl sk dc h0) rfl) gn))))))))
theorem bWg{num y0 y1 y2 y3 y4 y5 r6:Int}(h0:bK dl sk dc)(h1:bH (aA dc))(h2:(aS dl (aA dc)).length≤1000)(h3:((aS dl (aA dc)).contains num)=true)(h4:(((aS dl (aA dc)).length:Nat):Int)≤8)(h5:cI .i64 (atF (aA dc).reverse) (.int .i64 num))(h6:(dO (atF (aA dc).reverse) (.int .i64 num))=true)(h7:eZ (atF (aA dc).reverse) (.int .i64 num)=some (dcE y0 y1 y2 y3 y4 y5))(h8:aMq dl (aA sk) (aA dc) [y0,y1,y2,y3,y4,y5] r6)(h9:uni 2 (aA sk)∧(aA sk).length≤1000)(h10:(aK (aA sk) 0).length≤1000)(h11:(aZ (fun x=>decide (r6=x)) (aK (aA sk) 0))<0){base:Nat}:FV Tp 58 [(.p (.agg (bU dl sk dc))),(pI num)] base (.tup [(pB false),(pI 0)]) []:=by
 exact FV.fin Tryz.func58 rfl (o:=[.c (.tup [(.rp (aE dl (aA sk) (aA dc)) 0),(pI 0)]) [],bF,.g 1 ⟨[],[0,2,3],[4,1],[]⟩,.x (PV.rp (aE dl (aA sk) (aA dc)) 0),.c (.own 3) [(3,(.row 3 ((aS dl (aA dc)).length) ((aS dl (aA dc)).map aB)))],.x (aB num),.c (pB ((aS dl (aA dc)).contains num)) [],bF,bF,.x (PV.rp (aE dl (aA sk) (aA dc)) 0),.x (PV.rp (aE dl (aA sk) (aA dc)) 0),.x (.mp (atF (aA dc).reverse)),.x (aB num),bT,.x (dcE y0 y1 y2 y3 y4 y5),.c (pI r6) [],.x (PV.rp (aE dl (aA sk) (aA dc)) 0),.x (.agg (bU dl (aA sk) (aA dc))),.c (.own 13) [(13,(.row 3 ((aK (aA sk) 0).length) ((aK (aA sk) 0).map aB)))],.c (pI (aZ (fun x=>decide (r6=x)) (aK (aA sk) 0))) [],.g 2 ⟨[],[0,1,2,3,13],[12,29],[]⟩,.x (aB (aZ (fun x=>decide (r6=x)) (aK (aA sk) 0))),bT]) (l:=[_,[(aB (aZ (fun x=>decide (r6=x)) (aK (aA sk) 0)))][0]? = some (aB (aZ (fun x=>decide (r6=x)) (aK (aA sk) 0))),FC Tp 126 [(.own 13),(pI r6)] [(13,(.row 3 ((aK (aA sk) 0).length) ((aK (aA sk) 0).map aB)))] 21 (pI (aZ (fun x=>decide (r6=x)) (aK (aA sk) 0))) [],_,some (.agg (((aE dl (aA sk) (aA dc)).drop 0).take 3):PV)=some (.agg (bU dl (aA sk) (aA dc))),0+3≤(aE dl (aA sk) (aA dc)).length,[(PV.rp (aE dl (aA sk) (aA dc)) 0)][0]? = some (PV.rp (aE dl (aA sk) (aA dc)) 0),FC Tp 128 [(.rp (aE dl (aA sk) (aA dc)) 0),(.p (dcE y0 y1 y2 y3 y4 y5))] [] 4 (pI r6) [],_,_,_,[(aB num)][0]? = some (aB num),(aE dl (aA sk) (aA dc))[3]? = some (.mp (atF (aA dc).reverse)),[(PV.rp (aE dl (aA sk) (aA dc)) 0)][0]? = some (PV.rp (aE dl (aA sk) (aA dc)) 0),[(PV.rp (aE dl (aA sk) (aA dc)) 0)][0]? = some (PV.rp (aE dl (aA sk) (aA dc)) 0),_,_,FC Tp 52 [(.own 3),(pI num)] [(3,(.row 3 ((aS dl (aA dc)).length) ((aS dl (aA dc)).map aB)))] 4 (pB ((aS dl (aA dc)).contains num)) [],[(aB num)][0]? = some (aB num),_,[(PV.rp (aE dl (aA sk) (aA dc)) 0)][0]? = some (PV.rp (aE dl (aA sk) (aA dc)) 0),_,_]) (by kernel_rfl) (gc (bA h11) (gc rfl (gc (fv (aCh (aK (aA sk) 0) r6 h10)) (gc (fk 13 (nP dl (aA sk) (aA dc) h9) rfl) (gc rfl (gc (by first | decide | simp) (gc rfl (gc (FV.fc (h8 _) rfl) (gc h7 (gc h6 (gc h5 (gc rfl (gc rfl (gc rfl (gc rfl (gc (bL h4) (gc (aR h3) (gc (fv (mG (aS dl (aA dc)) num h2)) (gc rfl (gc (fk 3 (rO (dl:=dl) (sk:=(aA sk)) (dc:=(aA dc)) h1) rfl) (gc rfl (gc aDh (gc (fk 4 (fW dl sk dc h0) rfl) gn)))))))))))))))))))))))
theorem bWh{num y0 y1 y2 y3 y4 y5 r6:Int}(h0:bK dl sk dc)(h1:bH (aA dc))(h2:(aS dl (aA dc)).length≤1000)(h3:((aS dl (aA dc)).contains num)=true)(h4:(((aS dl (aA dc)).length:Nat):Int)≤8)(h5:cI .i64 (atF (aA dc).reverse) (.int .i64 num))(h6:(dO (atF (aA dc).reverse) (.int .i64 num))=true)(h7:eZ (atF (aA dc).reverse) (.int .i64 num)=some (dcE y0 y1 y2 y3 y4 y5))(h8:aMq dl (aA sk) (aA dc) [y0,y1,y2,y3,y4,y5] r6)(h9:uni 2 (aA sk)∧(aA sk).length≤1000)(h10:(aK (aA sk) 0).length≤1000)(h11:(0:Int)≤(aZ (fun x=>decide (r6=x)) (aK (aA sk) 0)))(hl12:aC Tp 0 aJh (uQ dl sk dc num r6) .normal (mP dl sk dc num r6 )){base:Nat}:FV Tp 58 [(.p (.agg (bU dl sk dc))),(pI num)] base (.tup [(pB false),(pI 0)]) []:=by
 exact FV.fin Tryz.func58 rfl (o:=[.c (.tup [(.rp (aE dl (aA sk) (aA dc)) 0),(pI 0)]) [],bF,.g 1 ⟨[],[0,2,3],[4,1],[]⟩,.x (PV.rp (aE dl (aA sk) (aA dc)) 0),.c (.own 3) [(3,(.row 3 ((aS dl (aA dc)).length) ((aS dl (aA dc)).map aB)))],.x (aB num),.c (pB ((aS dl (aA dc)).contains num)) [],bF,bF,.x (PV.rp (aE dl (aA sk) (aA dc)) 0),.x (PV.rp (aE dl (aA sk) (aA dc)) 0),.x (.mp (atF (aA dc).reverse)),.x (aB num),bT,.x (dcE y0 y1 y2 y3 y4 y5),.c (pI r6) [],.x (PV.rp (aE dl (aA sk) (aA dc)) 0),.x (.agg (bU dl (aA sk) (aA dc))),.c (.own 13) [(13,(.row 3 ((aK (aA sk) 0).length) ((aK (aA sk) 0).map aB)))],.c (pI (aZ (fun x=>decide (r6=x)) (aK (aA sk) 0))) [],.g 2 ⟨[],[0,1,2,3,13],[12,29],[]⟩,.x (aB (aZ (fun x=>decide (r6=x)) (aK (aA sk) 0))),bF,.c (.p (aG ((aS dl (aA dc)).filter fun n => !(n == num)))) [(3,.dead)],.c (.fn 182 [] [(.rp [(aG ((aS dl (aA dc)).filter fun n => !(n == num)))] 0)]) [],.k 1 ⟨(rng [(0,3),(7,2),(11,42),(54,48)]),[1,2],[],[]⟩ .normal (mP dl sk dc num r6 )]) (l:=[aC Tp 0 aJh (uQ dl sk dc num r6) .normal (mP dl sk dc num r6 ),FC Tp 132 [(.p (aG ((aS dl (aA dc)).filter fun n => !(n == num))))] [] 5 (.fn 182 [] [(.rp [(aG ((aS dl (aA dc)).filter fun n => !(n == num)))] 0)]) [],FC Tp 54 [(.own 3),(.fn 133 [] [(.rp [(aB num)] 0)])] [(3,(.row 3 ((aS dl (aA dc)).length) ((aS dl (aA dc)).map aB)))] 5 (.p (aG ((aS dl (aA dc)).filter fun n => !(n == num)))) [(3,.dead)],_,[(aB (aZ (fun x=>decide (r6=x)) (aK (aA sk) 0)))][0]? = some (aB (aZ (fun x=>decide (r6=x)) (aK (aA sk) 0))),FC Tp 126 [(.own 13),(pI r6)] [(13,(.row 3 ((aK (aA sk) 0).length) ((aK (aA sk) 0).map aB)))] 21 (pI (aZ (fun x=>decide (r6=x)) (aK (aA sk) 0))) [],_,some (.agg (((aE dl (aA sk) (aA dc)).drop 0).take 3):PV)=some (.agg (bU dl (aA sk) (aA dc))),0+3≤(aE dl (aA sk) (aA dc)).length,[(PV.rp (aE dl (aA sk) (aA dc)) 0)][0]? = some (PV.rp (aE dl (aA sk) (aA dc)) 0),FC Tp 128 [(.rp (aE dl (aA sk) (aA dc)) 0),(.p (dcE y0 y1 y2 y3 y4 y5))] [] 4 (pI r6) [],_,_,_,[(aB num)][0]? = some (aB num),(aE dl (aA sk) (aA dc))[3]? = some (.mp (atF (aA dc).reverse)),[(PV.rp (aE dl (aA sk) (aA dc)) 0)][0]? = some (PV.rp (aE dl (aA sk) (aA dc)) 0),[(PV.rp (aE dl (aA sk) (aA dc)) 0)][0]? = some (PV.rp (aE dl (aA sk) (aA dc)) 0),_,_,FC Tp 52 [(.own 3),(pI num)] [(3,(.row 3 ((aS dl (aA dc)).length) ((aS dl (aA dc)).map aB)))] 4 (pB ((aS dl (aA dc)).contains num)) [],[(aB num)][0]? = some (aB num),_,[(PV.rp (aE dl (aA sk) (aA dc)) 0)][0]? = some (PV.rp (aE dl (aA sk) (aA dc)) 0),_,_]) (by kernel_rfl) (gc hl12 (gc (FV.fc (aQv (q:=((aS dl (aA dc)).filter fun n => !(n == num)))) rfl) (gc (FMM.fc (ids:=[3]) (bHf (l:=(aS dl (aA dc))) (m:=num) h2 (fun _ _=>rfl)) (by kernel_rfl)) (gc (bL h11) (gc rfl (gc (fv (aCh (aK (aA sk) 0) r6 h10)) (gc (fk 13 (nP dl (aA sk) (aA dc) h9) rfl) (gc rfl (gc (by first | decide | simp) (gc rfl (gc (FV.fc (h8 _) rfl) (gc h7 (gc h6 (gc h5 (gc rfl (gc rfl (gc rfl (gc rfl (gc (bL h4) (gc (aR h3) (gc (fv (mG (aS dl (aA dc)) num h2)) (gc rfl (gc (fk 3 (rO (dl:=dl) (sk:=(aA sk)) (dc:=(aA dc)) h1) rfl) (gc rfl (gc aDh (gc (fk 4 (fW dl sk dc h0) rfl) gn))))))))))))))))))))))))))
theorem bWi{num y0 y1 y2 y3 y4 y5 r6:Int}(h0:bK dl sk dc)(h1:bH (aA dc))(h2:(aS dl (aA dc)).length≤1000)(h3:((aS dl (aA dc)).contains num)=true)(h4:(((aS dl (aA dc)).length:Nat):Int)≤8)(h5:cI .i64 (atF (aA dc).reverse) (.int .i64 num))(h6:(dO (atF (aA dc).reverse) (.int .i64 num))=true)(h7:eZ (atF (aA dc).reverse) (.int .i64 num)=some (dcE y0 y1 y2 y3 y4 y5))(h8:aMq dl (aA sk) (aA dc) [y0,y1,y2,y3,y4,y5] r6)(h9:uni 2 (aA sk)∧(aA sk).length≤1000)(h10:(aK (aA sk) 0).length≤1000)(h11:(0:Int)≤(aZ (fun x=>decide (r6=x)) (aK (aA sk) 0)))(hl12:aC Tp 0 aJh (uQ dl sk dc num r6) .ret (aDi dl sk dc num r6)){base:Nat}:FV Tp 58 [(.p (.agg (bU dl sk dc))),(pI num)] base (.tup [(pB true),(pI 0)]) []:=by
 exact FV.fin Tryz.func58 rfl (o:=[.c (.tup [(.rp (aE dl (aA sk) (aA dc)) 0),(pI 0)]) [],bF,.g 1 ⟨[],[0,2,3],[4,1],[]⟩,.x (PV.rp (aE dl (aA sk) (aA dc)) 0),.c (.own 3) [(3,(.row 3 ((aS dl (aA dc)).length) ((aS dl (aA dc)).map aB)))],.x (aB num),.c (pB ((aS dl (aA dc)).contains num)) [],bF,bF,.x (PV.rp (aE dl (aA sk) (aA dc)) 0),.x (PV.rp (aE dl (aA sk) (aA dc)) 0),.x (.mp (atF (aA dc).reverse)),.x (aB num),bT,.x (dcE y0 y1 y2 y3 y4 y5),.c (pI r6) [],.x (PV.rp (aE dl (aA sk) (aA dc)) 0),.x (.agg (bU dl (aA sk) (aA dc))),.c (.own 13) [(13,(.row 3 ((aK (aA sk) 0).length) ((aK (aA sk) 0).map aB)))],.c (pI (aZ (fun x=>decide (r6=x)) (aK (aA sk) 0))) [],.g 2 ⟨[],[0,1,2,3,13],[12,29],[]⟩,.x (aB (aZ (fun x=>decide (r6=x)) (aK (aA sk) 0))),bF,.c (.p (aG ((aS dl (aA dc)).filter fun n => !(n == num)))) [(3,.dead)],.c (.fn 182 [] [(.rp [(aG ((aS dl (aA dc)).filter fun n => !(n == num)))] 0)]) [],.k 1 ⟨(rng [(0,3),(7,2),(11,42),(54,48)]),[1,2],[],[]⟩ .ret (aDi dl sk dc num r6)]) (l:=[aC Tp 0 aJh (uQ dl sk dc num r6) .ret (aDi dl sk dc num r6),FC Tp 132 [(.p (aG ((aS dl (aA dc)).filter fun n => !(n == num))))] [] 5 (.fn 182 [] [(.rp [(aG ((aS dl (aA dc)).filter fun n => !(n == num)))] 0)]) [],FC Tp 54 [(.own 3),(.fn 133 [] [(.rp [(aB num)] 0)])] [(3,(.row 3 ((aS dl (aA dc)).length) ((aS dl (aA dc)).map aB)))] 5 (.p (aG ((aS dl (aA dc)).filter fun n => !(n == num)))) [(3,.dead)],_,[(aB (aZ (fun x=>decide (r6=x)) (aK (aA sk) 0)))][0]? = some (aB (aZ (fun x=>decide (r6=x)) (aK (aA sk) 0))),FC Tp 126 [(.own 13),(pI r6)] [(13,(.row 3 ((aK (aA sk) 0).length) ((aK (aA sk) 0).map aB)))] 21 (pI (aZ (fun x=>decide (r6=x)) (aK (aA sk) 0))) [],_,some (.agg (((aE dl (aA sk) (aA dc)).drop 0).take 3):PV)=some (.agg (bU dl (aA sk) (aA dc))),0+3≤(aE dl (aA sk) (aA dc)).length,[(PV.rp (aE dl (aA sk) (aA dc)) 0)][0]? = some (PV.rp (aE dl (aA sk) (aA dc)) 0),FC Tp 128 [(.rp (aE dl (aA sk) (aA dc)) 0),(.p (dcE y0 y1 y2 y3 y4 y5))] [] 4 (pI r6) [],_,_,_,[(aB num)][0]? = some (aB num),(aE dl (aA sk) (aA dc))[3]? = some (.mp (atF (aA dc).reverse)),[(PV.rp (aE dl (aA sk) (aA dc)) 0)][0]? = some (PV.rp (aE dl (aA sk) (aA dc)) 0),[(PV.rp (aE dl (aA sk) (aA dc)) 0)][0]? = some (PV.rp (aE dl (aA sk) (aA dc)) 0),_,_,FC Tp 52 [(.own 3),(pI num)] [(3,(.row 3 ((aS dl (aA dc)).length) ((aS dl (aA dc)).map aB)))] 4 (pB ((aS dl (aA dc)).contains num)) [],[(aB num)][0]? = some (aB num),_,[(PV.rp (aE dl (aA sk) (aA dc)) 0)][0]? = some (PV.rp (aE dl (aA sk) (aA dc)) 0),_,_]) (by kernel_rfl) (gc hl12 (gc (FV.fc (aQv (q:=((aS dl (aA dc)).filter fun n => !(n == num)))) rfl) (gc (FMM.fc (ids:=[3]) (bHf (l:=(aS dl (aA dc))) (m:=num) h2 (fun _ _=>rfl)) (by kernel_rfl)) (gc (bL h11) (gc rfl (gc (fv (aCh (aK (aA sk) 0) r6 h10)) (gc (fk 13 (nP dl (aA sk) (aA dc) h9) rfl) (gc rfl (gc (by first | decide | simp) (gc rfl (gc (FV.fc (h8 _) rfl) (gc h7 (gc h6 (gc h5 (gc rfl (gc rfl (gc rfl (gc rfl (gc (bL h4) (gc (aR h3) (gc (fv (mG (aS dl (aA dc)) num h2)) (gc rfl (gc (fk 3 (rO (dl:=dl) (sk:=(aA sk)) (dc:=(aA dc)) h1) rfl) (gc rfl (gc aDh (gc (fk 4 (fW dl sk dc h0) rfl) gn))))))))))))))))))))))))))
def iA(dl:Int)(sk:Lqq)(dc:Lqq)(num:Int)(r6:Int)(x:List Int)  : St:=⟨fr 102 [(3,(.rp [(aB num)] 0)),(4,(.ptr 0 0)),(5,(.ptr 1 0)),(6,(.rp [(PV.rp (aE dl (aA sk) (aA dc)) 0)] 0)),(9,(.rp [(aB r6)] 0)),(10,(.rp [(aB (aZ (fun x=>decide (r6=x)) (aK (aA sk) 0)))] 0)),(11,(.own 2)),(53,(.fn 182 [] [(.rp [(aG ((aS dl (aA dc)).filter fun n => !(n == num)))] 0)])),(54,(.own 2))],[some (.box 4 [(pB false)]),some (.box 34 [(pI 0)]),some (.row 3 x.length (x.map aB))]⟩
def aJi(dl:Int)(sk:Lqq)(dc:Lqq)(num:Int)(r6:Int)  : St:=⟨fr 102 [],[some (.box 4 [(.kb true)]),some (.box 34 [(pI 0)]),some .dead]⟩
theorem bCq{num r6:Int}{x:List Int}{y100 y101 n102:Int}{b103:Bool}{T104:Lqb}(hl0:aC Tp 3 yA (iA dl sk dc num r6 x ) .normal (cG (iA dl sk dc num r6 x ) [(12,(pI ((fH dl sk dc r6 x).1))),(13,(pB ((fH dl sk dc r6 x).2)))]))(h1:(aA sk)[(aZ (fun x=>decide (r6=x)) (aK (aA sk) 0)).toNat]? = some [y100,y101])(h2:0≤(aZ (fun x=>decide (r6=x)) (aK (aA sk) 0)))(h3:uni 2 (aA sk))(h4:[(aB num)].length=1*1∧x.length+1≤1000000)(h5:wC dl (aA sk) (aA dc) (.sl (x.length+1) ((x.map aB)++[(aB num)])) [y100,y101] n102 b103 ([]:Lqb) T104)(h6:eC [(aB r6),(aB 0),(aB ((fH dl sk dc r6 x).1))] [(0,3,true),(1,3,true),(2,3,true)]=true∧eC [(aB r6),(aB 0),(aB n102)] [(0,3,true),(1,3,true),(2,3,true)]=true)(h7:(nK [(aB r6),(aB 0),(aB ((fH dl sk dc r6 x).1))] [(aB r6),(aB 0),(aB n102)] [(0,3,true),(1,3,true),(2,3,true)])=false):aC Tp 3 aRw (rfO (mP dl sk dc num r6 ) 54 11 x) .ret (aJi dl sk dc num r6 ):=by
 exact aC.fin (g:=⟨(rng [(0,102)]),[],[],[]⟩) (o:=[.k 2 ⟨(rng [(0,3),(7,2),(12,2),(16,37),(55,16)]),[],[],[]⟩ .normal (cG (iA dl sk dc num r6 x ) [(12,(pI ((fH dl sk dc r6 x).1))),(13,(pB ((fH dl sk dc r6 x).2)))]),.x (PV.rp (aE dl (aA sk) (aA dc)) 0),.x (PV.rp (aE dl (aA sk) (aA dc)) 0),.x (.sl ((aA sk).length) ((aA sk).flatten.map aB)),.x (aB (aZ (fun x=>decide (r6=x)) (aK (aA sk) 0))),.x (.agg [(aB y100),(aB y101)]),.x (PV.rp (aE dl (aA sk) (aA dc)) 0),.x (aB num),.c (.agg (kVL 9 10 5 7 11 6)) [(4,.dead),(5,(vB0 dl (aA sk) (aA dc))),(6,(.box 33 [(.p (.sl (x.length+1) ((x.map aB)++[(aB num)])))])),(7,(.box 139 (kVL 9 10 5 7 11 6))),(8,(.mp (aF ([]:Lqb)) 0)),(9,(.box 207 [(.mp 8)])),(10,(vB5 dl (aA sk) (aA dc))),(11,(.box 209 [(.fn 153 [] [(.ptr 5 0),(.ptr 7 0)])]))],.c (.tup [(pI n102),(pB b103)]) [(5,(vB0 dl (aA sk) (aA dc))),(6,(.box 33 [(.p (.sl (x.length+1) ((x.map aB)++[(aB num)])))])),(7,(.box 139 (kVL 9 10 5 7 11 6))),(8,(.mp (aF T104) T104.length)),(9,(.box 207 [(.mp 8)])),(10,(vB5 dl (aA sk) (aA dc))),(11,(.box 209 [(.fn 153 [] [(.ptr 5 0),(.ptr 7 0)])]))],.x (aB r6),.x (aB r6),bT,bT,bT,bT]) (l:=[_,_,_,_,_,[(aB r6)][0]? = some (aB r6),[(aB r6)][0]? = some (aB r6),FC Tp 134 [(.rp (aE dl (aA sk) (aA dc)) 0),(.p (.agg [(aB y100),(aB y101)])),(.agg (kVL 9 10 5 7 11 6))] [(9,(.box 207 [(.mp 8)])),(10,(vB5 dl (aA sk) (aA dc))),(5,(vB0 dl (aA sk) (aA dc))),(7,(.box 139 (kVL 9 10 5 7 11 6))),(11,(.box 209 [(.fn 153 [] [(.ptr 5 0),(.ptr 7 0)])])),(6,(.box 33 [(.p (.sl (x.length+1) ((x.map aB)++[(aB num)])))])),(8,(.mp (aF ([]:Lqb)) 0))] 13 (.tup [(pI n102),(pB b103)]) [(5,(vB0 dl (aA sk) (aA dc))),(6,(.box 33 [(.p (.sl (x.length+1) ((x.map aB)++[(aB num)])))])),(7,(.box 139 (kVL 9 10 5 7 11 6))),(8,(.mp (aF T104) T104.length)),(9,(.box 207 [(.mp 8)])),(10,(vB5 dl (aA sk) (aA dc))),(11,(.box 209 [(.fn 153 [] [(.ptr 5 0),(.ptr 7 0)])]))],FC Tp 87 [(.rp (aE dl (aA sk) (aA dc)) 0),(.own 4)] [(4,(.row 3 (x.length+1) ((x.map aB)++[(aB num)])))] 5 (.agg (kVL 9 10 5 7 11 6)) [(4,.dead),(5,(vB0 dl (aA sk) (aA dc))),(6,(.box 33 [(.p (.sl (x.length+1) ((x.map aB)++[(aB num)])))])),(7,(.box 139 (kVL 9 10 5 7 11 6))),(8,(.mp (aF ([]:Lqb)) 0)),(9,(.box 207 [(.mp 8)])),(10,(vB5 dl (aA sk) (aA dc))),(11,(.box 209 [(.fn 153 [] [(.ptr 5 0),(.ptr 7 0)])]))],_,[(aB num)][0]? = some (aB num),[(PV.rp (aE dl (aA sk) (aA dc)) 0)][0]? = some (PV.rp (aE dl (aA sk) (aA dc)) 0),_,_,0≤(aZ (fun x=>decide (r6=x)) (aK (aA sk) 0))∧(aZ (fun x=>decide (r6=x)) (aK (aA sk) 0))<(((aA sk).length:Nat):Int)∧((aZ (fun x=>decide (r6=x)) (aK (aA sk) 0)).toNat*2)<((aA sk).flatten.map aB).length,[(aB (aZ (fun x=>decide (r6=x)) (aK (aA sk) 0)))][0]? = some (aB (aZ (fun x=>decide (r6=x)) (aK (aA sk) 0))),(aE dl (aA sk) (aA dc))[1]? = some (.sl ((aA sk).length) ((aA sk).flatten.map aB)),[(PV.rp (aE dl (aA sk) (aA dc)) 0)][0]? = some (PV.rp (aE dl (aA sk) (aA dc)) 0),[(PV.rp (aE dl (aA sk) (aA dc)) 0)][0]? = some (PV.rp (aE dl (aA sk) (aA dc)) 0),aC Tp 3 yA (iA dl sk dc num r6 x ) .normal (cG (iA dl sk dc num r6 x ) [(12,(pI ((fH dl sk dc r6 x).1))),(13,(pB ((fH dl sk dc r6 x).2)))])]) (by kernel_rfl) (g4c (cP h7) (gc h6 (gc rfl (gc rfl (gc (FMM.fc (ids:=[5,6,7,8,9,10,11]) h5 (by kernel_rfl)) (gc (FC.close1 (args':=[(.rp (aE dl (aA sk) (aA dc)) 0),(.p (.sl (x.length+1) ((x.map aB)++[(aB num)])))]) (FMM.fcN (k:=7) rfl (ids:=[]) (pV (dl:=dl) (sk:=(aA sk)) (dc:=(aA dc)) (on:=(x.length+1)) (ol:=((x.map aB)++[(aB num)]))) (by kernel_rfl)) (by kernel_rfl)) (gc h4 (gc rfl (gc rfl (gc (aT (i:=(aZ (fun x=>decide (r6=x)) (aK (aA sk) 0)).toNat) h3 h1) (gc (bI (i:=(aZ (fun x=>decide (r6=x)) (aK (aA sk) 0)).toNat) h3 h1) (gc (bO (k:=2) (i:=(aZ (fun x=>decide (r6=x)) (aK (aA sk) 0))) (by decide) h3 h2 h1) (gc rfl (gc rfl (gc rfl (gc rfl (gc hl0 gn)))))))))))))))))
theorem bCr{num r6:Int}{x:List Int}{y100 y101 n102:Int}{b103:Bool}{T104:Lqb}(hl0:aC Tp 3 yA (iA dl sk dc num r6 x ) .normal (cG (iA dl sk dc num r6 x ) [(12,(pI ((fH dl sk dc r6 x).1))),(13,(pB ((fH dl sk dc r6 x).2)))]))(h1:(aA sk)[(aZ (fun x=>decide (r6=x)) (aK (aA sk) 0)).toNat]? = some [y100,y101])(h2:0≤(aZ (fun x=>decide (r6=x)) (aK (aA sk) 0)))(h3:uni 2 (aA sk))(h4:[(aB num)].length=1*1∧x.length+1≤1000000)(h5:wC dl (aA sk) (aA dc) (.sl (x.length+1) ((x.map aB)++[(aB num)])) [y100,y101] n102 b103 ([]:Lqb) T104)(h6:eC [(aB r6),(aB 0),(aB ((fH dl sk dc r6 x).1))] [(0,3,true),(1,3,true),(2,3,true)]=true∧eC [(aB r6),(aB 0),(aB n102)] [(0,3,true),(1,3,true),(2,3,true)]=true)(h7:(nK [(aB r6),(aB 0),(aB ((fH dl sk dc r6 x).1))] [(aB r6),(aB 0),(aB n102)] [(0,3,true),(1,3,true),(2,3,true)])=true)(h8:(((fH dl sk dc r6 x).2) == b103)=false):aC Tp 3 aRw (rfO (mP dl sk dc num r6 ) 54 11 x) .ret (aJi dl sk dc num r6 ):=by
 exact aC.fin (g:=⟨(rng [(0,102)]),[],[],[]⟩) (o:=[.k 2 ⟨(rng [(0,3),(7,2),(12,2),(16,37),(55,16)]),[],[],[]⟩ .normal (cG (iA dl sk dc num r6 x ) [(12,(pI ((fH dl sk dc r6 x).1))),(13,(pB ((fH dl sk dc r6 x).2)))]),.x (PV.rp (aE dl (aA sk) (aA dc)) 0),.x (PV.rp (aE dl (aA sk) (aA dc)) 0),.x (.sl ((aA sk).length) ((aA sk).flatten.map aB)),.x (aB (aZ (fun x=>decide (r6=x)) (aK (aA sk) 0))),.x (.agg [(aB y100),(aB y101)]),.x (PV.rp (aE dl (aA sk) (aA dc)) 0),.x (aB num),.c (.agg (kVL 9 10 5 7 11 6)) [(4,.dead),(5,(vB0 dl (aA sk) (aA dc))),(6,(.box 33 [(.p (.sl (x.length+1) ((x.map aB)++[(aB num)])))])),(7,(.box 139 (kVL 9 10 5 7 11 6))),(8,(.mp (aF ([]:Lqb)) 0)),(9,(.box 207 [(.mp 8)])),(10,(vB5 dl (aA sk) (aA dc))),(11,(.box 209 [(.fn 153 [] [(.ptr 5 0),(.ptr 7 0)])]))],.c (.tup [(pI n102),(pB b103)]) [(5,(vB0 dl (aA sk) (aA dc))),(6,(.box 33 [(.p (.sl (x.length+1) ((x.map aB)++[(aB num)])))])),(7,(.box 139 (kVL 9 10 5 7 11 6))),(8,(.mp (aF T104) T104.length)),(9,(.box 207 [(.mp 8)])),(10,(vB5 dl (aA sk) (aA dc))),(11,(.box 209 [(.fn 153 [] [(.ptr 5 0),(.ptr 7 0)])]))],.x (aB r6),.x (aB r6),bF,bF,bF,bF,bT]) (l:=[_,_,_,_,_,_,[(aB r6)][0]? = some (aB r6),[(aB r6)][0]? = some (aB r6),FC Tp 134 [(.rp (aE dl (aA sk) (aA dc)) 0),(.p (.agg [(aB y100),(aB y101)])),(.agg (kVL 9 10 5 7 11 6))] [(9,(.box 207 [(.mp 8)])),(10,(vB5 dl (aA sk) (aA dc))),(5,(vB0 dl (aA sk) (aA dc))),(7,(.box 139 (kVL 9 10 5 7 11 6))),(11,(.box 209 [(.fn 153 [] [(.ptr 5 0),(.ptr 7 0)])])),(6,(.box 33 [(.p (.sl (x.length+1) ((x.map aB)++[(aB num)])))])),(8,(.mp (aF ([]:Lqb)) 0))] 13 (.tup [(pI n102),(pB b103)]) [(5,(vB0 dl (aA sk) (aA dc))),(6,(.box 33 [(.p (.sl (x.length+1) ((x.map aB)++[(aB num)])))])),(7,(.box 139 (kVL 9 10 5 7 11 6))),(8,(.mp (aF T104) T104.length)),(9,(.box 207 [(.mp 8)])),(10,(vB5 dl (aA sk) (aA dc))),(11,(.box 209 [(.fn 153 [] [(.ptr 5 0),(.ptr 7 0)])]))],FC Tp 87 [(.rp (aE dl (aA sk) (aA dc)) 0),(.own 4)] [(4,(.row 3 (x.length+1) ((x.map aB)++[(aB num)])))] 5 (.agg (kVL 9 10 5 7 11 6)) [(4,.dead),(5,(vB0 dl (aA sk) (aA dc))),(6,(.box 33 [(.p (.sl (x.length+1) ((x.map aB)++[(aB num)])))])),(7,(.box 139 (kVL 9 10 5 7 11 6))),(8,(.mp (aF ([]:Lqb)) 0)),(9,(.box 207 [(.mp 8)])),(10,(vB5 dl (aA sk) (aA dc))),(11,(.box 209 [(.fn 153 [] [(.ptr 5 0),(.ptr 7 0)])]))],_,[(aB num)][0]? = some (aB num),[(PV.rp (aE dl (aA sk) (aA dc)) 0)][0]? = some (PV.rp (aE dl (aA sk) (aA dc)) 0),_,_,0≤(aZ (fun x=>decide (r6=x)) (aK (aA sk) 0))∧(aZ (fun x=>decide (r6=x)) (aK (aA sk) 0))<(((aA sk).length:Nat):Int)∧((aZ (fun x=>decide (r6=x)) (aK (aA sk) 0)).toNat*2)<((aA sk).flatten.map aB).length,[(aB (aZ (fun x=>decide (r6=x)) (aK (aA sk) 0)))][0]? = some (aB (aZ (fun x=>decide (r6=x)) (aK (aA sk) 0))),(aE dl (aA sk) (aA dc))[1]? = some (.sl ((aA sk).length) ((aA sk).flatten.map aB)),[(PV.rp (aE dl (aA sk) (aA dc)) 0)][0]? = some (PV.rp (aE dl (aA sk) (aA dc)) 0),[(PV.rp (aE dl (aA sk) (aA dc)) 0)][0]? = some (PV.rp (aE dl (aA sk) (aA dc)) 0),aC Tp 3 yA (iA dl sk dc num r6 x ) .normal (cG (iA dl sk dc num r6 x ) [(12,(pI ((fH dl sk dc r6 x).1))),(13,(pB ((fH dl sk dc r6 x).2)))])]) (by kernel_rfl) (gc (cP h8) (g4c (aR h7) (gc h6 (gc rfl (gc rfl (gc (FMM.fc (ids:=[5,6,7,8,9,10,11]) h5 (by kernel_rfl)) (gc (FC.close1 (args':=[(.rp (aE dl (aA sk) (aA dc)) 0),(.p (.sl (x.length+1) ((x.map aB)++[(aB num)])))]) (FMM.fcN (k:=7) rfl (ids:=[]) (pV (dl:=dl) (sk:=(aA sk)) (dc:=(aA dc)) (on:=(x.length+1)) (ol:=((x.map aB)++[(aB num)]))) (by kernel_rfl)) (by kernel_rfl)) (gc h4 (gc rfl (gc rfl (gc (aT (i:=(aZ (fun x=>decide (r6=x)) (aK (aA sk) 0)).toNat) h3 h1) (gc (bI (i:=(aZ (fun x=>decide (r6=x)) (aK (aA sk) 0)).toNat) h3 h1) (gc (bO (k:=2) (i:=(aZ (fun x=>decide (r6=x)) (aK (aA sk) 0))) (by decide) h3 h2 h1) (gc rfl (gc rfl (gc rfl (gc rfl (gc hl0 gn))))))))))))))))))
def aRx(dl:Int)(sk:Lqq)(dc:Lqq)(num:Int)(r6:Int)  : St:=⟨fr 102 [(3,(.rp [(aB num)] 0)),(4,(.ptr 0 0)),(5,(.ptr 1 0)),(6,(.rp [(PV.rp (aE dl (aA sk) (aA dc)) 0)] 0)),(9,(.rp [(aB r6)] 0)),(10,(.rp [(aB (aZ (fun x=>decide (r6=x)) (aK (aA sk) 0)))] 0)),(53,(.fn 182 [] [(.rp [(aG ((aS dl (aA dc)).filter fun n => !(n == num)))] 0)]))],[some (.box 4 [(pB false)]),some (.box 34 [(pI 0)]),some .dead]⟩
theorem bCs{num r6:Int}{x:List Int}{y100 y101 n102:Int}{b103:Bool}{T104:Lqb}(hl0:aC Tp 3 yA (iA dl sk dc num r6 x ) .normal (cG (iA dl sk dc num r6 x ) [(12,(pI ((fH dl sk dc r6 x).1))),(13,(pB ((fH dl sk dc r6 x).2)))]))(h1:(aA sk)[(aZ (fun x=>decide (r6=x)) (aK (aA sk) 0)).toNat]? = some [y100,y101])(h2:0≤(aZ (fun x=>decide (r6=x)) (aK (aA sk) 0)))(h3:uni 2 (aA sk))(h4:[(aB num)].length=1*1∧x.length+1≤1000000)(h5:wC dl (aA sk) (aA dc) (.sl (x.length+1) ((x.map aB)++[(aB num)])) [y100,y101] n102 b103 ([]:Lqb) T104)(h6:eC [(aB r6),(aB 0),(aB ((fH dl sk dc r6 x).1))] [(0,3,true),(1,3,true),(2,3,true)]=true∧eC [(aB r6),(aB 0),(aB n102)] [(0,3,true),(1,3,true),(2,3,true)]=true)(h7:(nK [(aB r6),(aB 0),(aB ((fH dl sk dc r6 x).1))] [(aB r6),(aB 0),(aB n102)] [(0,3,true),(1,3,true),(2,3,true)])=true)(h8:(((fH dl sk dc r6 x).2) == b103)=true):aC Tp 3 aRw (rfO (mP dl sk dc num r6 ) 54 11 x) .normal (aRx dl sk dc num r6 ):=by
 exact aC.fin (g:=⟨(rng [(0,3),(7,2),(11,42),(54,48)]),[],[],[]⟩) (o:=[.k 2 ⟨(rng [(0,3),(7,2),(12,2),(16,37),(55,16)]),[],[],[]⟩ .normal (cG (iA dl sk dc num r6 x ) [(12,(pI ((fH dl sk dc r6 x).1))),(13,(pB ((fH dl sk dc r6 x).2)))]),.x (PV.rp (aE dl (aA sk) (aA dc)) 0),.x (PV.rp (aE dl (aA sk) (aA dc)) 0),.x (.sl ((aA sk).length) ((aA sk).flatten.map aB)),.x (aB (aZ (fun x=>decide (r6=x)) (aK (aA sk) 0))),.x (.agg [(aB y100),(aB y101)]),.x (PV.rp (aE dl (aA sk) (aA dc)) 0),.x (aB num),.c (.agg (kVL 9 10 5 7 11 6)) [(4,.dead),(5,(vB0 dl (aA sk) (aA dc))),(6,(.box 33 [(.p (.sl (x.length+1) ((x.map aB)++[(aB num)])))])),(7,(.box 139 (kVL 9 10 5 7 11 6))),(8,(.mp (aF ([]:Lqb)) 0)),(9,(.box 207 [(.mp 8)])),(10,(vB5 dl (aA sk) (aA dc))),(11,(.box 209 [(.fn 153 [] [(.ptr 5 0),(.ptr 7 0)])]))],.c (.tup [(pI n102),(pB b103)]) [(5,(vB0 dl (aA sk) (aA dc))),(6,(.box 33 [(.p (.sl (x.length+1) ((x.map aB)++[(aB num)])))])),(7,(.box 139 (kVL 9 10 5 7 11 6))),(8,(.mp (aF T104) T104.length)),(9,(.box 207 [(.mp 8)])),(10,(vB5 dl (aA sk) (aA dc))),(11,(.box 209 [(.fn 153 [] [(.ptr 5 0),(.ptr 7 0)])]))],.x (aB r6),.x (aB r6),bF,bF,bF,bF,bF]) (l:=[_,_,_,_,_,_,[(aB r6)][0]? = some (aB r6),[(aB r6)][0]? = some (aB r6),FC Tp 134 [(.rp (aE dl (aA sk) (aA dc)) 0),(.p (.agg [(aB y100),(aB y101)])),(.agg (kVL 9 10 5 7 11 6))] [(9,(.box 207 [(.mp 8)])),(10,(vB5 dl (aA sk) (aA dc))),(5,(vB0 dl (aA sk) (aA dc))),(7,(.box 139 (kVL 9 10 5 7 11 6))),(11,(.box 209 [(.fn 153 [] [(.ptr 5 0),(.ptr 7 0)])])),(6,(.box 33 [(.p (.sl (x.length+1) ((x.map aB)++[(aB num)])))])),(8,(.mp (aF ([]:Lqb)) 0))] 13 (.tup [(pI n102),(pB b103)]) [(5,(vB0 dl (aA sk) (aA dc))),(6,(.box 33 [(.p (.sl (x.length+1) ((x.map aB)++[(aB num)])))])),(7,(.box 139 (kVL 9 10 5 7 11 6))),(8,(.mp (aF T104) T104.length)),(9,(.box 207 [(.mp 8)])),(10,(vB5 dl (aA sk) (aA dc))),(11,(.box 209 [(.fn 153 [] [(.ptr 5 0),(.ptr 7 0)])]))],FC Tp 87 [(.rp (aE dl (aA sk) (aA dc)) 0),(.own 4)] [(4,(.row 3 (x.length+1) ((x.map aB)++[(aB num)])))] 5 (.agg (kVL 9 10 5 7 11 6)) [(4,.dead),(5,(vB0 dl (aA sk) (aA dc))),(6,(.box 33 [(.p (.sl (x.length+1) ((x.map aB)++[(aB num)])))])),(7,(.box 139 (kVL 9 10 5 7 11 6))),(8,(.mp (aF ([]:Lqb)) 0)),(9,(.box 207 [(.mp 8)])),(10,(vB5 dl (aA sk) (aA dc))),(11,(.box 209 [(.fn 153 [] [(.ptr 5 0),(.ptr 7 0)])]))],_,[(aB num)][0]? = some (aB num),[(PV.rp (aE dl (aA sk) (aA dc)) 0)][0]? = some (PV.rp (aE dl (aA sk) (aA dc)) 0),_,_,0≤(aZ (fun x=>decide (r6=x)) (aK (aA sk) 0))∧(aZ (fun x=>decide (r6=x)) (aK (aA sk) 0))<(((aA sk).length:Nat):Int)∧((aZ (fun x=>decide (r6=x)) (aK (aA sk) 0)).toNat*2)<((aA sk).flatten.map aB).length,[(aB (aZ (fun x=>decide (r6=x)) (aK (aA sk) 0)))][0]? = some (aB (aZ (fun x=>decide (r6=x)) (aK (aA sk) 0))),(aE dl (aA sk) (aA dc))[1]? = some (.sl ((aA sk).length) ((aA sk).flatten.map aB)),[(PV.rp (aE dl (aA sk) (aA dc)) 0)][0]? = some (PV.rp (aE dl (aA sk) (aA dc)) 0),[(PV.rp (aE dl (aA sk) (aA dc)) 0)][0]? = some (PV.rp (aE dl (aA sk) (aA dc)) 0),aC Tp 3 yA (iA dl sk dc num r6 x ) .normal (cG (iA dl sk dc num r6 x ) [(12,(pI ((fH dl sk dc r6 x).1))),(13,(pB ((fH dl sk dc r6 x).2)))])]) (by kernel_rfl) (gc (aR h8) (g4c (aR h7) (gc h6 (gc rfl (gc rfl (gc (FMM.fc (ids:=[5,6,7,8,9,10,11]) h5 (by kernel_rfl)) (gc (FC.close1 (args':=[(.rp (aE dl (aA sk) (aA dc)) 0),(.p (.sl (x.length+1) ((x.map aB)++[(aB num)])))]) (FMM.fcN (k:=7) rfl (ids:=[]) (pV (dl:=dl) (sk:=(aA sk)) (dc:=(aA dc)) (on:=(x.length+1)) (ol:=((x.map aB)++[(aB num)]))) (by kernel_rfl)) (by kernel_rfl)) (gc h4 (gc rfl (gc rfl (gc (aT (i:=(aZ (fun x=>decide (r6=x)) (aK (aA sk) 0)).toNat) h3 h1) (gc (bI (i:=(aZ (fun x=>decide (r6=x)) (aK (aA sk) 0)).toNat) h3 h1) (gc (bO (k:=2) (i:=(aZ (fun x=>decide (r6=x)) (aK (aA sk) 0))) (by decide) h3 h2 h1) (gc rfl (gc rfl (gc rfl (gc rfl (gc hl0 gn))))))))))))))))))
end
section
variable {F:Fence} {n:Nat} {P:Program}
theorem aRv{o:Oper}{a:Act}{next next':Act→World→Prop}{Q Q':Exit→Act→World→Prop}{r:Result Next}(h:o.uponIn F n P a next Q r)
  (hn:∀ v d w',next (({ a with defers:=d }:Act).put o.dst v) w'→next' (({ a with defers:=d }:Act).put o.dst v) w') (hQ:∀ e a' w',e ≠ .normal→Q e a' w'→Q' e a' w') (hL:LetsOut Q→LetsOut Q'):o.uponIn F n P a next' Q' r:=by
 have hn':∀ v w',next (a.put o.dst v) w'→next' (a.put o.dst v) w':=fun v w'=>hn v a.defers w'
 cases r with
 | halt x w' =>
  cases x <;> first | exact hQ _ _ _ (by simp) h | exact h
 | ok nx w' =>
  cases nx with
  | value v=>exact hn' _ _ h
  | skip=>exact hn' _ _ h
  | defer d=>exact hn _ _ _ h
  | enter f us =>
   refine ⟨h.1,h.2.mono ?_⟩;intro e w'' he;cases e with
   | returned v=>exact hn' _ _ he
   | panicked c=>exact hQ _ _ _ (by simp) he
   | outgrown=>exact hL he
  | row r us=>exact ⟨h.1,h.2.mono fun v w'' he=>hn' _ _ he⟩
  | round l f tmps as1 bd =>
   refine ⟨h.1,h.2.mono ?_⟩;intro e w'' he;cases e with
   | returned v=>exact hn' _ _ he
   | panicked c=>exact hQ _ _ _ (by simp) he
   | outgrown=>exact hL he
  | _=>exact h
def Kps(ops:Array Oper)(a0 a:Act):Prop:=∀ i,(∀ o∈ops.toList,o.dst≠some i)→a.tmps.getD i undef=a0.tmps.getD i undef
theorem bCp{ops:Array Oper}{Q Q':Exit→Act→World→Prop}{i:Nat}{K K':Act→World→Prop}{a0 a:Act}{w:World}(h:wpOpIn F n P ops Q i K a w)(ha:Kps ops a0 a)(hK:∀ a' w',Kps ops a0 a'→K a' w'→K' a' w')
  (hQ:∀ e a' w',e ≠ .normal→Q e a' w'→Q' e a' w') (hL:LetsOut Q→LetsOut Q'):wpOpIn F n P ops Q' i K' a w:=by
 unfold wpOpIn at h ⊢
 split
 ·rename_i hi
  simp only [hi] at h
  exact hK _ _ ha h
 ·rename_i o hi
  simp only [hi] at h
  have hm:o∈ops.toList:=by
   obtain ⟨hl,he⟩:=kQ9.1 hi;rw [← he];exact Array.mem_toList_iff.2 (Array.getElem_mem hl)
  have hput:∀ v (d:List Deferred),Kps ops a0 (({ a with defers:=d }:Act).put o.dst v):=fun v d i hd=>by
   rw [oR (a:={ a with defers:=d }) (hd o hm)]
   exact ha i hd
  split at h
  ·rename_i hw
   rw [if_pos hw];exact ⟨h.1,aRv h.2 (fun v d w' hn=>hK _ _ (hput v d) hn) hQ hL⟩
  ·rename_i hw
   rw [if_neg hw];exact ⟨h.1,hK _ _ (hput undef a.defers) h.2⟩
theorem aDg{md:Region.Mode}{ops:Array Oper}{Q:Exit→Act→World→Prop}{a0:Act}:∀ (fuel:Nat) (listed:Array Bool) (a:Act) (w:World),wpAnyIn F n P md ops Q fuel listed a w→Kps ops a0 a →
  wpAnyIn F n P md ops (fun e a' w'=>Q e a' w'∧(e = .normal→Kps ops a0 a')) fuel listed a w
 | 0,listed,a,w,h,ha=>⟨h.1,h.2,fun _=>ha⟩
 | fuel+1,listed,a,w,h,ha=>by
  refine ⟨fun h0=>⟨h.1 h0,fun _=>ha⟩,fun j hj => ?_⟩
  exact bCp (h.2 j hj) ha (fun a' w' hk h'=>aDg fuel _ a' w' h' hk) (fun e a' w' hne hq=>⟨hq,fun he=>absurd he hne⟩) (fun ⟨a',w',hq⟩=>⟨a',w',hq,fun he=>by cases he⟩)
end
section
section
variable {F:Fence} {n:Nat} {P:Program}
def bkD(ds:List Deferred)(a:Act):Act:={ a with defers:=a.defers++ds }
theorem aJg(ds:List Deferred)(a:Act)(d:Option Nat)(v:Value):(bkD ds a).put d v=bkD ds (a.put d v):=by cases d <;> rfl
theorem aDf(ds:List Deferred)(a:Act):(bkD ds a).eval=a.eval:=by funext x;cases x <;> rfl
theorem bCn(ds:List Deferred){o:Oper}{a:Act}{next next':Act→World→Prop}{Q Q':Exit→Act→World→Prop}{r:Result Next}(h:o.uponIn F n P a next Q r)
  (hn:∀ a' w',next a' w'→next' (bkD ds a') w') (hQ:∀ e a' w',Q e a' w'→Q' e (bkD ds a') w') (hL:LetsOut Q→LetsOut Q'):o.uponIn F n P (bkD ds a) next' Q' r:=by
 have hv:∀ v w',next (a.put o.dst v) w'→next' ((bkD ds a).put o.dst v) w':=fun v w' h=>by rw [aJg];exact hn _ _ h
 cases r with
 | halt x w' =>
  cases x <;> first | exact hQ _ _ _ h | exact h
 | ok nx w' =>
  cases nx with
  | value v=>exact hv _ _ h
  | skip=>exact hv _ _ h
  | defer d =>
   have:=hn _ _ h;rw [← aJg] at this
   exact this
  | enter f us =>
   refine ⟨h.1,h.2.mono ?_⟩;intro e w'' he;cases e with
   | returned v=>exact hv _ _ he
   | panicked c=>exact hQ _ _ _ he
   | outgrown=>exact hL he
  | row r us=>exact ⟨h.1,h.2.mono fun v w'' he=>hv _ _ he⟩
  | round l f tmps as1 bd =>
   refine ⟨h.1,h.2.mono ?_⟩;intro e w'' he;cases e with
   | returned v=>exact hv _ _ he
   | panicked c=>exact hQ _ _ _ he
   | outgrown=>exact hL he
  | _=>exact h
theorem bOj(ds:List Deferred){ops:Array Oper}{Q Q':Exit→Act→World→Prop}{i:Nat}{K K':Act→World→Prop}{a:Act}{w:World}(h:wpOpIn F n P ops Q i K a w)(hK:∀ a' w',K a' w'→K' (bkD ds a') w')
  (hQ:∀ e a' w',Q e a' w'→Q' e (bkD ds a') w') (hL:LetsOut Q→LetsOut Q'):wpOpIn F n P ops Q' i K' (bkD ds a) w:=by
 unfold wpOpIn at h ⊢
 split
 ·rename_i hi
  simp only [hi] at h
  exact hK _ _ h
 ·rename_i o hi
  simp only [hi] at h
  have e1:(bkD ds a).tmps=a.tmps:=rfl;rw [e1]
  split at h
  ·rename_i hw
   rw [if_pos hw];refine ⟨by rw [aDf];exact h.1,?_⟩
   rw [aDf];exact bCn ds h.2 hK hQ hL
  ·rename_i hw
   rw [if_neg hw];exact ⟨by rw [aDf];exact h.1,by rw [aJg];exact hK _ _ h.2⟩
theorem aNc(ds:List Deferred){md:Region.Mode}{ops:Array Oper}{Q Q':Exit→Act→World→Prop}(hQ:∀ e a' w',Q e a' w'→Q' e (bkD ds a') w')(hL:LetsOut Q→LetsOut Q'):∀ (fuel:Nat) (listed:Array Bool) (a:Act) (w:World),wpAnyIn F n P md ops Q fuel listed a w→wpAnyIn F n P md ops Q' fuel listed (bkD ds a) w
 | 0,listed,a,w,h=>⟨h.1,hQ _ _ _ h.2⟩
 | fuel+1,listed,a,w,h=>⟨fun h0=>hQ _ _ _ (h.1 h0),fun j hj=>bOj ds (h.2 j hj) (fun a' w' h'=>aNc ds hQ hL fuel _ a' w' h') hQ hL⟩
end
variable {P:Program} {T:TT} {E:Env}
theorem bCo(ds:List Deferred)(hT:∀ t i,T t=some i→cL P t=some i)(hE:lI P E)(hm:P.follows .mixedOrders=true){id:Nat}{ops:Array Oper}{st st':St}{s s':AS}(h:aJt P T E ops true st s=some (st',s'))(g:bD s')
  (C0:Cx) (M0:Mem) (w0:World) (a:Act) (w:World) (hs:Sim P C0 M0 w0 st a w) (ro:Option Nat) (n:Nat):(Code.region id ops true).wpIn (Fen ro) n P (fun e' a' w'=>e'=Ex.normal.toExit∧∃ a2,a'=bkD ds a2∧Sim P C0 M0 w0 st' a2 w'∧Kps ops a a2) (bkD ds a) w:=by
 obtain ⟨_,s1,h1,k1⟩:=aD h;obtain ⟨e1,rfl⟩:=aH h1;obtain ⟨r,s2,h2,k2⟩:=aD k1;obtain ⟨_,s3,h3,k3⟩:=aD k2;obtain ⟨e3,rfl⟩:=aH h3;obtain ⟨rfl,rfl⟩:=aJ k3;obtain ⟨hB,_⟩:=bR e1;obtain ⟨hA,_⟩:=bR e3;obtain ⟨os,hfts,hlex⟩:=qR ops.toList _ (fts:=r.1) (fin:=r.2) h2 g
 replace hB:=wU hB
 unfold Region.lexB at hB
 rw [kQ6] at hB
 have hlen:os.length=ops.toList.length:=by
  have:∀ {l:List Oper} {id:Nat} {st:St} {os:List uZ} {fin:St},aJu P T E ops.toList id l st os fin→os.length=l.length:=by
   intro l
   induction l with
   | nil=>intro id st os fin h;cases h;rfl
   | cons o l ih=>intro id st os fin h;cases h with | cons _ _ _ _ q os _ h hr=>simp [ih hr]
  exact this hlex
 have key:oD P T E ops.toList st.m.length (fun k=>os.getD k (.any,[],none)) r.2 ops.toList.length (Array.replicate ops.size false) st:=by
  refine oD.lex ops.toList 0 _ st os (fun j=>by simp) (fun j q hj=>by simp [kQ4,hj]) (fun j hj=>absurd hj (aOy _)) (fun j oj hj hl => ?_) (fun i j _ hij hj => ?_) (by simpa using hB.2) (by simpa [ido] using hlex)
  ·exfalso
   rcases Nat.lt_or_ge j ops.size with h' | h'
   ·simp [h'] at hl
   ·simp [Nat.not_lt.2 h'] at hl
  have hj2:j<os.length:=by
   rw [hlen];obtain ⟨o,ho⟩:=Option.isSome_iff_exists.1 hj;exact (kQ3.1 ho).1
  have:=mU r.1 0 hA i j (aAk os[i]) (aAk os[j]) hij (by rw [hfts,iL,kQ0 (by omega)];rfl) (by rw [hfts,iL,kQ0 hj2];rfl)
  rw [gQ,gQ] at this
  simp only [kQ4,kQ0 hj2,kQ0 (show i<os.length by omega),Option.getD_some,Array.toArray_toList]
  exact this
 refine wpIn_region_any hm ?_;have:=oD.sound hT hE (C0:=C0) (M0:=M0) (w0:=w0) (ro:=ro) (n:=n) (Q:=fun e' a' w'=>e'=Ex.normal.toExit∧Sim P C0 M0 w0 r.2 a' w') (fun a' w' h'=>⟨rfl,h'⟩) _ _ _ a _ key (hs.drawn (w.drawn+1))
 have h2:=aDg (a0:=a) _ _ _ _ (by simpa using this) (fun _ _=>rfl)
 exact aNc ds (fun e a' w' h=>⟨h.1.1,a',rfl,h.1.2,h.2 h.1.1⟩) (fun ⟨a',w',h⟩=>by cases h.1.1) _ _ _ _ h2

end
section
def aDe(P:Program)(k:Nat)(c:Code)(st:St)(e:Ex)(st':St):Prop:=∀ (C0:Cx) (M0:Mem) (w0:World) (a:Act) (w:World),M0.length≤k→Sim P C0 M0 w0 st a w→∀ (ds:List Deferred) (ro:Option Nat) (n:Nat),c.wpIn (Fen ro) n P (fun e' a' w'=>e'=e.toExit∧∃ a2,a'=bkD ds a2∧Sim P C0 M0 w0 st' a2 w'∧(∀ i,wrR c i=false→a2.tmps.getD i undef=a.tmps.getD i undef)) (bkD ds a) w
noncomputable def bPk(c:Code)(st:St):Ask (Ex × St):=match c with
 | .region _ ops true=>do
  let st' ← aJt Tp tT EO ops true st
  pure (.normal,st')
 | _=>fail
theorem aDe.fin{k:Nat}{c:Code}{st st':St}{e:Ex}{g:Gh}{o:List OI}{l:List Prop}(h:aLj k g (bPk c st (asg o))=some (e,st',l,[]))(gd:bD (out l)):aDe Tp k c st e st':=by
 unfold aLj at h
 split at h
 ·rename_i e1 st1 s hr
  split at h
  ·rename_i st2 hg
   simp only [Option.some.injEq,Prod.mk.injEq] at h
   obtain ⟨rfl,rfl,rfl,hs⟩:=h;unfold bPk at hr
   split at hr
   ·rename_i id ops
    obtain ⟨st3,s1,h1,k1⟩:=aD hr;obtain ⟨he,rfl⟩:=aJ k1;cases he;intro C0 M0 w0 a w hk hsm ds ro n;refine wpIn_mono (bCo ds aFt aFs mixed h1 (fun p hp=>gd p hp) C0 M0 w0 a w hsm ro n) ?_
    rintro e' a' w' ⟨rfl,a2,rfl,h',hkp⟩;exact ⟨rfl,a2,rfl,eN hk hg h',fun i hi=>hkp i fun o ho e=>by
     unfold wrR at hi
     have:=List.any_eq_false.1 hi o ho;rw [e] at this
     exact this (Nat.beq_refl i)⟩
   ·cases hr
  ·cases h
 ·cases h
end
section

theorem bWd{dl:Int}{sk dc:Lqq}{num r6:Int}{x:List Int}{y0 y1 n2:Int}{b3:Bool}{T4:Lqb}(h0:(aA sk)[(aZ (fun x=>decide (r6=x)) (aK (aA sk) 0)).toNat]? = some [y0,y1])(h1:0≤(aZ (fun x=>decide (r6=x)) (aK (aA sk) 0)))(h2:uni 2 (aA sk))(h3:wC dl (aA sk) (aA dc) (aG x) [y0,y1] n2 b3 ([]:Lqb) T4):aDe Tp 0 (sub (cd Tryz.f58) [1,1,1,1,1,1,1,1,1,0,1,0,1,0,0]) ⟨fr 102 [(3,(.rp [(aB num)] 0)),(6,(.rp [(PV.rp (aE dl (aA sk) (aA dc)) 0)] 0)),(9,(.rp [(aB r6)] 0)),(10,(.rp [(aB (aZ (fun x=>decide (r6=x)) (aK (aA sk) 0)))] 0)),(11,(.p (aG x)))],[]⟩ .normal ⟨fr 102 [(3,(.rp [(aB num)] 0)),(6,(.rp [(PV.rp (aE dl (aA sk) (aA dc)) 0)] 0)),(9,(.rp [(aB r6)] 0)),(10,(.rp [(aB (aZ (fun x=>decide (r6=x)) (aK (aA sk) 0)))] 0)),(11,(.p (aG x))),(12,(pI n2)),(13,(pB b3))],[]⟩:=by
 exact aDe.fin (g:=⟨(rng [(0,3),(4,2),(7,2),(14,88)]),[],[],[]⟩) (o:=[.x (PV.rp (aE dl (aA sk) (aA dc)) 0),.x (PV.rp (aE dl (aA sk) (aA dc)) 0),.x (.sl ((aA sk).length) ((aA sk).flatten.map aB)),.x (aB (aZ (fun x=>decide (r6=x)) (aK (aA sk) 0))),.x (.agg [(aB y0),(aB y1)]),.x (PV.rp (aE dl (aA sk) (aA dc)) 0),.c fG (vU dl (aA sk) (aA dc) (aG x) ([]:Lqb)),.c (.tup [(pI n2),(pB b3)]) (vU dl (aA sk) (aA dc) (aG x) T4)]) (l:=[FC Tp 134 [(.rp (aE dl (aA sk) (aA dc)) 0),(.p (.agg [(aB y0),(aB y1)])),fG] [(4,(.box 207 [(.mp 3)])),(5,(vB5 dl (aA sk) (aA dc))),(0,(vB0 dl (aA sk) (aA dc))),(2,vB2),(6,vB6),(1,(.box 33 [(.p (aG x))])),(3,(.mp (aF ([]:Lqb)) 0))] 8 (.tup [(pI n2),(pB b3)]) (vU dl (aA sk) (aA dc) (aG x) T4),FC Tp 87 [(.rp (aE dl (aA sk) (aA dc)) 0),(.p (aG x))] [] 0 fG (vU dl (aA sk) (aA dc) (aG x) ([]:Lqb)),[(PV.rp (aE dl (aA sk) (aA dc)) 0)][0]? = some (PV.rp (aE dl (aA sk) (aA dc)) 0),_,_,0≤(aZ (fun x=>decide (r6=x)) (aK (aA sk) 0))∧(aZ (fun x=>decide (r6=x)) (aK (aA sk) 0))<(((aA sk).length:Nat):Int)∧((aZ (fun x=>decide (r6=x)) (aK (aA sk) 0)).toNat*2)<((aA sk).flatten.map aB).length,[(aB (aZ (fun x=>decide (r6=x)) (aK (aA sk) 0)))][0]? = some (aB (aZ (fun x=>decide (r6=x)) (aK (aA sk) 0))),(aE dl (aA sk) (aA dc))[1]? = some (.sl ((aA sk).length) ((aA sk).flatten.map aB)),[(PV.rp (aE dl (aA sk) (aA dc)) 0)][0]? = some (PV.rp (aE dl (aA sk) (aA dc)) 0),[(PV.rp (aE dl (aA sk) (aA dc)) 0)][0]? = some (PV.rp (aE dl (aA sk) (aA dc)) 0)]) (by kernel_rfl) (gc (FMM.fc (ids:=[0,1,2,3,4,5,6]) h3 (by kernel_rfl)) (gc (FMM.fcN (k:=7) rfl (ids:=[]) (pV (dl:=dl) (sk:=(aA sk)) (dc:=(aA dc)) (on:=x.length) (ol:=(x.map aB))) (by kernel_rfl)) (gc rfl (gc (aT (i:=(aZ (fun x=>decide (r6=x)) (aK (aA sk) 0)).toNat) h2 h0) (gc (bI (i:=(aZ (fun x=>decide (r6=x)) (aK (aA sk) 0)).toNat) h2 h0) (gc (bO (k:=2) (i:=(aZ (fun x=>decide (r6=x)) (aK (aA sk) 0))) (by decide) h2 h1 h0) (gc rfl (gc rfl (gc rfl (gc rfl gn))))))))))
end
end KV
end Go.Proofs
section
namespace Go.Proofs
open Go.RowKit
namespace KV
theorem bIc{P:Program}{C:Cx}{st:St}{a:Act}{w:World}(hS:eH C st.m w st.t a.tmps)(hM:aQ P C st.m w)(hp:fV st.m=true)(hn:aNu st.m) :
  Sim P (cxF fun _=>False) [] { w with heap := #[] } st { a with defers:=[] } w :=
 ⟨C,hS,hM,⟨rfl,rfl,rfl,Nat.zero_le _,fun b hb=>absurd hb (aOy _),fun _ _ h=>by simp at h,fun _ _ h=>by simp at h,fun _ _ h=>by simp at h,fun _ _ b _ _ _ => .inl (Nat.zero_le _),fun _ h=>h.elim,fun b _ => .inr (.inl (Nat.zero_le _))⟩,.nil rfl hn⟩
theorem bCm{P:Program}{C:Cx}{M:Mem}{W W':World}(hM:aQ P C M W)(hg:W.grownBy W' none):aQ P C M W'∧Fr C M W C M W':=by
 have hsame:∀ b,b<W.heap.size→W'.heap[b]? = W.heap[b]? := fun b hb=>hg.block b hb (fun e=>by cases e)
 have hL:Le C C M M W W':=⟨fun _ o h=>⟨o,h⟩,fun _ _ _ _ _ cs h=>⟨cs,h⟩,fun _ o h o' h' hl=>by rw [h] at h';cases h';exact ⟨hl,rfl,rfl⟩,fun _ h=>h,fun b hb=>hsame b (hM.Fs b hb)⟩
 refine ⟨⟨fun i ty n cs hm => ?_,fun i ty cs hm => ?_,fun i es cl hm => ?_,hM.inj,hM.nF,fun b hb=>kQ8 (hM.Fs b hb) hg.size,fun i o b ho hl hb=>kQ8 (hM.lt i o b ho hl hb) hg.size⟩,
  ⟨hg.os,hg.tape,hg.output,hg.size,fun b hb _=>hsame b hb,fun i o h=>⟨⟨o,h⟩,rfl,rfl⟩,fun _ _ _ _ _ cs h=>⟨cs,h⟩,fun _ o h o' h' hl=>by rw [h] at h';cases h';exact hl,fun i o b ho hl hb => .inr ⟨i,o,ho,hl,hb⟩,fun _ h=>h,fun _ h => .inl h⟩⟩
 ·rcases hM.row _ _ _ _ hm with h4 | ⟨b,arr,inf,q0,q1,q2,q3,q4,q5,q6,q7,q8⟩
  ·exact .inl h4
  ·exact .inr ⟨b,arr,inf,q0,(hsame b (kQ9.1 q1).1).trans q1,q2,q3,q4,q5,q6,fun j hj=>(q7 j hj).mono hL.F hL.fz,q8⟩
 ·obtain ⟨b,arr,q0,q1,q2,q3,q4⟩:=hM.box _ _ _ hm
  exact ⟨b,arr,q0,(hsame b (kQ9.1 q1).1).trans q1,q2,fun j hj=>(q3 j hj).mono hL,q4⟩
 ·obtain ⟨b,arr,q0,q1,q2,q3⟩:=hM.mp _ _ _ hm
  refine ⟨b,arr,q0,(hsame b (kQ9.1 q1).1).trans q1,q2,fun j hj => ?_⟩
  obtain ⟨en,r1,r2,r3,r4⟩:=q3 j hj;exact ⟨en,r1,r2,r3,r4.mono hL.F hL.fz⟩
def bId(t:List AV)(i:Nat):Bool:=match t[i]? with
 | some .any=>true
 | _=>false
theorem aUs{C:Cx}{M:Mem}{w:World}{v u:Value}(h:Rep C M w (.p (.v v)) u):u=v:=by
 cases h with
 | p _ _ h=>cases h;rfl
theorem bWc{P:Program}{k:Nat}{c:Code}{tA tB:List AV}{S:St}{g:Gh}{i1 i2:Nat}{v1 v2:Value}(hk:aDe P 0 c ⟨tA,[]⟩ .normal ⟨tB,[]⟩)(hg:gh 0 g S=some ⟨tA,[]⟩)(hn:fV S.m=true)
  (h1:tB[i1]? = some (.p (.v v1))) (h2:tB[i2]? = some (.p (.v v2))) (hne:i1≠i2) (hl:tB.length=S.t.length) (hall:((List.range S.t.length).all fun i => !wrR c i || Nat.beq i i1 || Nat.beq i i2 || bId S.t i)=true) :
  aC P k c S .normal (cG S [(i1,.p (.v v1)),(i2,.p (.v v2))]):=by
 intro C0 M0 w0 a w hk0 hs ro _ n;obtain ⟨C,hS,hM,hF,hD⟩:=hs;obtain ⟨C1,hS1,hM1,_,_⟩:=eN (dW 0) hg (bIc hS hM hn (eE hn).2);have hs1:Sim P (C1.with []) [] w ⟨tA,[]⟩ { a with defers:=[] } w:=⟨C1,hS1,hM1,(Fr.refl _ _ _).based [],.nil rfl (eE (m:=[]) rfl).2⟩
 have:=hk (C1.with []) [] w _ w (dW 0) hs1 a.defers ro n
 refine wpIn_mono this ?_;rintro e' a' w' ⟨rfl,a2,rfl,⟨C2,hS2,hM2,hF2,⟨l2,d1,d2,d3⟩,_⟩,hkp⟩;have hg2:w.grownBy w' none:=aMs hF2;obtain ⟨hM3,hF3⟩:=bCm hM hg2;have hS3:=hS.le (hM.le hF3);refine ⟨rfl,C,⟨?_,fun i hi => ?_⟩,hM3,hF.trans hF3,?_⟩
 ·have e0:=hS2.size
  show a2.tmps.size=((S.t.set i1 _).set i2 _).length;rw [uC,uC];exact e0.trans hl
 ·have hi':i<S.t.length:=by
   have:i<((S.t.set i1 (.p (.v v1))).set i2 (.p (.v v2))).length:=hi
   rwa [uC,uC] at this
  have key:∀ x,((S.t.set i1 (.p (.v v1))).set i2 (.p (.v v2)))[i]? = some x→Rep C S.m w' x (a2.tmps.getD i undef):=by
   intro x hx
   by_cases e2:i2=i
   ·subst e2
    rw [bEk (by rw [uC];exact hi')] at hx
    cases hx;rw [aUs (hS2.at h2)]
    exact .p _ _ (.v _)
   rw [bJg e2] at hx
   by_cases e1:i1=i
   ·subst e1
    rw [bEk hi'] at hx
    cases hx;rw [aUs (hS2.at h1)]
    exact .p _ _ (.v _)
   rw [bJg e1] at hx
   have hc:=iD.1 hall i (xE.2 hi');cases hw:wrR c i with
   | false =>
    rw [hkp i hw];exact hS3.at hx
   | true =>
    have n1:Nat.beq i i1=false:=by
     cases h:Nat.beq i i1 with
     | false=>rfl
     | true=>exact absurd (Nat.eq_of_beq_eq_true h).symm e1
    have n2:Nat.beq i i2=false:=by
     cases h:Nat.beq i i2 with
     | false=>rfl
     | true=>exact absurd (Nat.eq_of_beq_eq_true h).symm e2
    rw [hw,n1,n2] at hc
    have hc:bId S.t i=true:=hc;unfold bId at hc
    rw [hx] at hc
    cases x <;> first | exact .any _ | cases hc
  exact key _ (kQ0 hi)
 ·obtain ⟨⟨l,e1,e2,e3⟩,hR⟩:=hD.fr hM .refl hF3
  obtain ⟨⟨l',e1',_,e3'⟩,_⟩:=hD;have hll:l=l':=by
   have:=e1.symm.trans e1';exact (List.map_inj_right (fun x y h=>by simpa [mark] using h)).1 this
  refine ⟨⟨l2++l,?_,?_,?_⟩,hR⟩
  ·show a2.defers++a.defers=_
   rw [d1,e1,iZ]
  ·refine List.nodup_append.2 ⟨d2,e2,fun x hx y hy hxy => ?_⟩
   have:=(d3 x hx).2.1;have:=(kQ9.1 (e3' y (hll ▸ hy)).1).1;subst hxy;omega
  ·intro D hD2
   rcases kI.1 hD2 with h | h
   ·exact ⟨(d3 D h).1,gC hF.size (d3 D h).2.1,fun hf=>by
     have:=hM.Fs D hf;have:=(d3 D h).2.1;omega⟩
   ·exact e3 D h
end KV
end Go.Proofs
end
namespace Go.Proofs
namespace KV
section
variable {dl:Int}{sk dc:Lqq}
theorem bOf(l:List Int)(v:Int)(hl:l.length≤1000000){base:Nat}:FV Tp 126 [.p (aG l),.p (aB v)] base (pI (aZ (fun x=>decide (v=x)) l)) []:=by
 rcases aI.find (P:=Tp) (k:=0) (b:=(sub (cd Tryz.f126) [1,0,1,0,0])) (fun i=>gK l v i) (fun i _=>cG (gK l v i) [(4,.p (aB (i:Int)))]) (gK l v l.length) .ret (.exit 0) (by simp) (by simp) (fun x=>decide (v=x)) l
  (fun i x hx hp=>aGd (by have:=bB hx;omega) hx (by simpa using hp) (aO (by have:=bB hx;omega)) rfl)
  (fun i x hx hp=>aGc (by have:=bB hx;omega) hx (by simpa using hp))
  (aGe (l:=l) (i:=l.length) (by omega)) with ⟨i,x,h1,h2,h3,h4⟩ | ⟨h1,h2,h3⟩
 ·rw [gG h2];exact bFd h4
 ·rw [gH h1];exact bFc h3
theorem bOg(l:List Int)(v:Int)(hl:l.length≤1000000){base:Nat}:FV Tp 52 [.p (aG l),.p (aB v)] base (pB (l.contains v)) []:=by
 rw [← vZ];exact FV.fin Tryz.func52 rfl (o:=[.c (pI (aZ (fun x=>decide (v=x)) l)) []]) (l:=[_]) (by kernel_rfl) (gc (fk 0 (bOf l v hl) rfl) gn)
theorem bOh{l:List Int}(hl:l.length≤1000000)(n:Int):qM (aG l) n (l.contains n):=fun base=>bOg l n hl
def aEn(dl:Int)(sk dc:Lqq)(num r6:Int)(x:List Int):Bool := !(((fH dl sk dc r6 x).1 == (fH dl sk dc r6 (x++[num])).1) && ((fH dl sk dc r6 x).2 == (fH dl sk dc r6 (x++[num])).2))
theorem bYb(r t t':Int):nK [aB r,aB 0,aB t] [aB r,aB 0,aB t'] [(0,3,true),(1,3,true),(2,3,true)]=(t == t'):=by
 rw [Bool.eq_iff_iff];simp [nK,aEc]
theorem aUr{r6 y0 y1:Int}(h:(aA sk)[(aZ (fun x=>decide (r6=x)) (aK (aA sk) 0)).toNat]? = some [y0,y1])(x:List Int):fH dl sk dc r6 x=eR dl x (aA dc) y0 y1:=by
 have e:(aA sk).getD (aZ (fun x=>decide (r6=x)) (aK (aA sk) 0)).toNat []=[y0,y1]:=by
  rw [kQ4,h];rfl
 unfold fH;rw [e];rfl
theorem bIa{dl:Int}{sk dc:Lqq}{num r6:Int}{x:List Int}(hd:bH (aA dc))(hu:uni 2 (aA sk))(hs:∀ s∈aA sk,-1≤s.getD 1 0∧s.getD 1 0≤360000)(hx:x.length≤1000){y0 y1:Int}(h0:(aA sk)[(aZ (fun x=>decide (r6=x)) (aK (aA sk) 0)).toNat]? = some [y0,y1])(h1:0≤(aZ (fun x=>decide (r6=x)) (aK (aA sk) 0))) :
  aC Tp 3 (sub (cd Tryz.f58) [1,1,1,1,1,1,1,1,1,0,1,0,1,0,0]) (iA dl sk dc num r6 x) .normal (cG (iA dl sk dc num r6 x) [(12,(pI ((fH dl sk dc r6 x).1))),(13,(pB ((fH dl sk dc r6 x).2)))]):=by
 obtain ⟨T',_,hT⟩:=aLx (sk:=aA sk) hd (fun n=>aCl hx n) y0 y1 (hs _ (kQ5 h0)) (T:=[]) bW.nil
 rw [aUr h0];exact bWc (bWd (num:=num) h0 h1 hu hT) (g:=⟨(rng [(0,3),(4,2),(7,2),(12,90)]),[],[2],[]⟩) (by kernel_rfl) rfl (by rfl) (by rfl) (by decide) (by rfl) (by kernel_rfl)
theorem bCk{dl:Int}{sk dc:Lqq}{num r6:Int}{x:List Int}(hd:bH (aA dc))(hu:uni 2 (aA sk))(hs:∀ s∈aA sk,-1≤s.getD 1 0∧s.getD 1 0≤360000)(hx:x.length≤1000){y0 y1:Int}(h0:(aA sk)[(aZ (fun x=>decide (r6=x)) (aK (aA sk) 0)).toNat]? = some [y0,y1])(h1:0≤(aZ (fun x=>decide (r6=x)) (aK (aA sk) 0))) :
  (aEn dl sk dc num r6 x=false→aC Tp 3 (sub (cd Tryz.f58) [1,1,1,1,1,1,1,1,1,0,1,0,1]) (rfO (mP dl sk dc num r6) 54 11 x) .normal (aRx dl sk dc num r6)) ∧
  (aEn dl sk dc num r6 x=true→aC Tp 3 (sub (cd Tryz.f58) [1,1,1,1,1,1,1,1,1,0,1,0,1]) (rfO (mP dl sk dc num r6) 54 11 x) .ret (aJi dl sk dc num r6)):=by
 have hn:=bIa (dl:=dl) (num:=num) hd hu hs hx h0 h1;obtain ⟨T',_,hT⟩:=aLx (dl:=dl) (sk:=aA sk) hd (fun n=>bOh (l:=x++[num]) (by rw [lF];show x.length+1≤_;omega) n) y0 y1 (hs _ (kQ5 h0)) (T:=[]) bW.nil
 rw [← aUr h0] at hT
 have hov:aG (x++[num]) = .sl (x.length+1) (x.map aB++[aB num]):=by
  show PV.sl (x++[num]).length ((x++[num]).map aB)=_;rw [lF,iZ];rfl
 rw [hov] at hT
 have hq:=bYb r6 (fH dl sk dc r6 x).1 (fH dl sk dc r6 (x++[num])).1;unfold aEn;cases ha:((fH dl sk dc r6 x).1 == (fH dl sk dc r6 (x++[num])).1) with
 | false =>
  refine ⟨fun h=>(by cases h),fun _ => ?_⟩
  rw [ha] at hq
  exact bCq hn h0 h1 hu ⟨rfl,by omega⟩ hT ⟨rfl,rfl⟩ hq
 | true =>
  rw [ha] at hq
  cases hb:((fH dl sk dc r6 x).2 == (fH dl sk dc r6 (x++[num])).2) with
  | false =>
   refine ⟨fun h=>(by cases h),fun _ => ?_⟩
   exact bCr hn h0 h1 hu ⟨rfl,by omega⟩ hT ⟨rfl,rfl⟩ hq hb
  | true =>
   refine ⟨fun _ => ?_,fun h=>(by cases h)⟩
   exact bCs hn h0 h1 hu ⟨rfl,by omega⟩ hT ⟨rfl,rfl⟩ hq hb
theorem bCl{num r6:Int}(hd:bH (aA dc))(hu:uni 2 (aA sk))(hs:∀ s∈aA sk,-1≤s.getD 1 0∧s.getD 1 0≤360000){y0 y1:Int}(h0:(aA sk)[(aZ (fun x=>decide (r6=x)) (aK (aA sk) 0)).toNat]? = some [y0,y1])(h1:0≤(aZ (fun x=>decide (r6=x)) (aK (aA sk) 0)))(ho:((aS dl (aA dc)).filter fun n => !(n == num)).length≤60) :
  ((jM ((aS dl (aA dc)).filter fun n => !(n == num))).any (aEn dl sk dc num r6)=false→aC Tp 0 (sub (cd Tryz.f58) [1,1,1,1,1,1,1,1,1,0,1,0]) (uQ dl sk dc num r6) .normal (mP dl sk dc num r6)) ∧
  ((jM ((aS dl (aA dc)).filter fun n => !(n == num))).any (aEn dl sk dc num r6)=true→aC Tp 0 (sub (cd Tryz.f58) [1,1,1,1,1,1,1,1,1,0,1,0]) (uQ dl sk dc num r6) .ret (aDi dl sk dc num r6)):=by
 have main:=aGl (P:=Tp) (k:=0) (kb:=3) (kk:=2) (g0:=⟨[],[],[],[]⟩) (g1:=⟨[],[],[],[]⟩) (gR:=⟨[],[],[],[]⟩) (uQ dl sk dc num r6) (fun _=>mP dl sk dc num r6) (fun _ _=>aRx dl sk dc num r6) (fun _ _=>aJi dl sk dc num r6) (mP dl sk dc num r6).t (aDi dl sk dc num r6).m (fun _=>aEn dl sk dc num r6)
  (cc := sub (cd Tryz.f58) [1, 1, 1, 1, 1, 1, 1, 1, 1, 0, 1, 0]) (gi := 53) (p1 := 54) (d := 11) (id := 14) (ty := 33) (pos := "outcome.go:200") (body := sub (cd Tryz.f58) [1, 1, 1, 1, 1, 1, 1, 1, 1, 0, 1, 0, 1]) (by kernel_rfl)
  rfl (fun _=>rfl) (g := .fn 182 [] [.rp [aG ((aS dl (aA dc)).filter fun n => !(n == num))] 0]) (by rfl) (aGj _ ho) (fun args w=>rfl) (fun _=>rfl) (fun _=>rfl) (fun _ _=>rfl) (fun _ _=>rfl) rfl rfl (fun _=>by show 2<3;omega) (by kernel_rfl) (fun x=>rfl) (by show 2≤2;omega) rfl (by kernel_rfl) (fun pre l=>by kernel_rfl) (fun _ _ _=>by kernel_rfl) (fun pre l _ hx=>bCk hd hu hs hx h0 h1)
 refine ⟨fun h=>main.1 fun pre l hp => ?_,fun h=>main.2 ?_⟩
 ·have:=List.any_eq_false.1 h l (hp.subset (by simp))
  simpa using this
 ·obtain ⟨l,hl,hb⟩:=List.any_eq_true.1 h
  obtain ⟨s,t,e⟩:=List.append_of_mem hl;exact ⟨s,l,⟨t,by rw [e];simp⟩,hb⟩
def bIb(dl:Int)(sk dc:Lqq)(num:Int):Bool × Int :=
 if (aS dl (aA dc)).contains num=false then (false,1) else if 8<(aS dl (aA dc)).length then (false,10) else
 if aZ (fun x=>decide (aMp (aA dc) num=x)) (aK (aA sk) 0)<0 then (false,0) else ((jM ((aS dl (aA dc)).filter fun n => !(n == num))).any (aEn dl sk dc num (aMp (aA dc) num)),0)
theorem bOi{α:Type}{p:α→Bool}{l:List α}(h:0≤aZ p l):(aZ p l).toNat<l.length:=by
 unfold aZ at h ⊢
 cases e:l.findIdx? p with
 | none=>rw [e] at h;simp at h
 | some i =>
  obtain ⟨hi,_⟩:=List.findIdx?_eq_some_iff_getElem.1 e;simpa using hi
theorem bWb(h:bK dl sk dc)(num:Int){base:Nat}:FV Tp 58 [.p (.agg (bU dl sk dc)),.p (aB num)] base (.tup [.p (blP (bIb dl sk dc num).1),.p (aB (bIb dl sk dc num).2)]) []:=by
 have hd:=dL h;obtain ⟨hu,hl,hs,_⟩:=pY h;have hol:(aS dl (aA dc)).length≤1000:=by
  unfold aS;rw [eV];exact gC (sV _ _) hd.len
 unfold bIb;cases hc:(aS dl (aA dc)).contains num with
 | false=>exact bWe h hd hol hc
 | true =>
  rw [if_neg (by simp)]
  by_cases h8:8<(aS dl (aA dc)).length
  ·rw [if_pos h8];exact bWf h hd hol hc (by omega)
  ·rw [if_neg h8]
   have hm:num∈aS dl (aA dc):=by simpa using hc
   have hm2:=hm;unfold aS at hm2
   obtain ⟨x,hx,rfl⟩:=eW.1 hm2;have hx:=(pK.1 hx).1;have hr:=cD hd hx;have hsb:aMp (aA dc) (dN x)=fA (aA dc) x:=by unfold aMp;rw [sS hd hx]
   obtain ⟨q1,q2⟩:=aCx hd hx;have hk:=lU hd (n:=dN x) (by unfold inR;omega)
   have hab:=kK hd x hx;rw [hsb];obtain ⟨a,b,c,d,e,f,rfl⟩:=len6 (hd.ud x hx);have hf:inR f:=by
    have:=(iF.1 (hd.rng _ hx));unfold inR;simp [dAb] at this hab ⊢;omega
   have hsbj:aMq dl (aA sk) (aA dc) [a,b,c,d,e,f] (fA (aA dc) [a,b,c,d,e,f]):=fun base=>aRj hd hf (.inl hx) hr.2
   have hcl:(aK (aA sk) 0).length≤1000:=by rw [vX];omega
   by_cases h0:aZ (fun x=>decide (fA (aA dc) [a,b,c,d,e,f]=x)) (aK (aA sk) 0)<0
   ·rw [if_pos h0]
    exact bWg h hd hol hc (by omega) hk q1 q2 hsbj ⟨hu,by omega⟩ hcl h0
   ·rw [if_neg h0]
    have hi:=bOi (p:=fun x=>decide (fA (aA dc) [a,b,c,d,e,f]=x)) (l:=aK (aA sk) 0) (by omega)
    rw [vX] at hi
    obtain ⟨y0,y1,hy⟩:=at2 hu hi;have hrg:=bCl (dl:=dl) (num:=dN [a,b,c,d,e,f]) hd hu hs hy (by omega) (gC (sV _ _) (by omega))
    cases hb:(jM ((aS dl (aA dc)).filter fun n => !(n == dN [a,b,c,d,e,f]))).any (aEn dl sk dc (dN [a,b,c,d,e,f]) (fA (aA dc) [a,b,c,d,e,f])) with
    | false=>exact bWh h hd hol hc (by omega) hk q1 q2 hsbj ⟨hu,by omega⟩ hcl (by omega) (hrg.1 hb)
    | true=>exact bWi h hd hol hc (by omega) hk q1 q2 hsbj ⟨hu,by omega⟩ hcl (by omega) (hrg.2 hb)
end
section

theorem aRt:((0:Int) == (0:Int))=true:=by first | decide | simp
theorem aRu:((0:Int) != (0:Int))=false:=by first | decide | simp
theorem aJf:((3:Int) != (3:Int))=false:=by first | decide | simp
theorem bVz:((15100:Int) == (15100:Int))=true:=by first | decide | simp
abbrev thD:List PV:=[(aB 1),(aB 0),(aB 0),(aB 1),(aB 300),(aB 0),(aB 2),(aB 7),(aB 10),(aB 0),(aB 0),(aB 1),(aB 3),(aB 9),(aB 40),(aB 0),(aB 0),(aB 2),(aB 4),(aB 5),(aB 50),(aB 0),(aB 0),(aB 3),(aB 5),(aB 6),(aB 60),(aB 0),(aB 100),(aB 1)]
abbrev thS:List PV:=[(aB 1),(aB 15000),(aB 2),(aB 15100),(aB 3),(aB 15200)]
abbrev mS:AV:=(.p (.agg [(aB 30),(.sl 3 thS),(.sl 2 [(aB 1),(aB 0),(aB 0),(aB 1),(aB 300),(aB 0),(aB 2),(aB 7),(aB 10),(aB 0),(aB 0),(aB 1)])]))
abbrev bHx:AV:=(.p (.agg [(aB 30),(.sl 3 thS),(.sl 3 [(aB 1),(aB 0),(aB 0),(aB 1),(aB 300),(aB 0),(aB 2),(aB 7),(aB 10),(aB 0),(aB 0),(aB 1),(aB 3),(aB 9),(aB 40),(aB 0),(aB 0),(aB 2)])]))
abbrev bHy:AV:=(.p (.agg [(aB 30),(.sl 3 thS),(.sl 4 [(aB 1),(aB 0),(aB 0),(aB 1),(aB 300),(aB 0),(aB 2),(aB 7),(aB 10),(aB 0),(aB 0),(aB 1),(aB 3),(aB 9),(aB 40),(aB 0),(aB 0),(aB 2),(aB 4),(aB 5),(aB 50),(aB 0),(aB 0),(aB 3)])]))
abbrev bHz:AV:=(.p (.agg [(aB 30),(.sl 3 thS),(.sl 5 [(aB 1),(aB 0),(aB 0),(aB 1),(aB 300),(aB 0),(aB 2),(aB 7),(aB 10),(aB 0),(aB 0),(aB 1),(aB 3),(aB 9),(aB 40),(aB 0),(aB 0),(aB 2),(aB 4),(aB 5),(aB 50),(aB 0),(aB 0),(aB 3),(aB 5),(aB 6),(aB 60),(aB 0),(aB 100),(aB 1)])]))
theorem bNy{r0c:List PV}(h0:0≤(0:Int)∧(0:Int)≤2∧(2:Int)≤5)(er0c:r0c=((thD.drop 0).take (2*(thD.length / 5)))){base:Nat}:FV Tp 88 [(pI 2)] base (.p (.agg [(aB 30),(.sl 3 [(aB 1),(aB 15000),(aB 2),(aB 15100),(aB 3),(aB 15200)]),(.sl 2 r0c)])) []:=by
 subst er0c;exact FV.frz (FMM.fin (k:=0) (g:=⟨[],[],[2,1],[]⟩) rfl Tryz.func88 rfl (o:=[.c (.p (dcE 1 0 0 1 300 0)) [],.c (.p (dcE 2 7 10 0 0 1)) [],.c (.p (dcE 3 9 40 0 0 2)) [],.c (.p (dcE 4 5 50 0 0 3)) [],.c (.p (dcE 5 6 60 0 100 1)) []]) (l:=[_,FC Tp 49 [(pI 5),(pI 6),(pI 1),(pI 60),(pI 100)] [] 1 (.p (dcE 5 6 60 0 100 1)) [],FC Tp 49 [(pI 4),(pI 5),(pI 3),(pI 50),(pI 0)] [] 1 (.p (dcE 4 5 50 0 0 3)) [],FC Tp 49 [(pI 3),(pI 9),(pI 2),(pI 40),(pI 0)] [] 1 (.p (dcE 3 9 40 0 0 2)) [],FC Tp 49 [(pI 2),(pI 7),(pI 1),(pI 10),(pI 0)] [] 1 (.p (dcE 2 7 10 0 0 1)) [],FC Tp 23 [(pI 1),(pI 1),(pI 300)] [] 1 (.p (dcE 1 0 0 1 300 0)) []]) (by kernel_rfl) (gc h0 (gc (FV.fc (iP (a:=(5:Int)) (b:=(6:Int)) (c:=(1:Int)) (d:=(60:Int)) (e:=(100:Int))) rfl) (gc (FV.fc (iP (a:=(4:Int)) (b:=(5:Int)) (c:=(3:Int)) (d:=(50:Int)) (e:=(0:Int))) rfl) (gc (FV.fc (iP (a:=(3:Int)) (b:=(9:Int)) (c:=(2:Int)) (d:=(40:Int)) (e:=(0:Int))) rfl) (gc (FV.fc (iP (a:=(2:Int)) (b:=(7:Int)) (c:=(1:Int)) (d:=(10:Int)) (e:=(0:Int))) rfl) (gc (FV.fc (aIt (a:=(1:Int)) (b:=(1:Int)) (c:=(300:Int))) rfl) gn))))))) (by kernel_rfl)
theorem bNz{r0c:List PV}(h0:0≤(0:Int)∧(0:Int)≤3∧(3:Int)≤5)(er0c:r0c=((thD.drop 0).take (3*(thD.length / 5)))){base:Nat}:FV Tp 88 [(pI 3)] base (.p (.agg [(aB 30),(.sl 3 [(aB 1),(aB 15000),(aB 2),(aB 15100),(aB 3),(aB 15200)]),(.sl 3 r0c)])) []:=by
 subst er0c;exact FV.frz (FMM.fin (k:=0) (g:=⟨[],[],[2,1],[]⟩) rfl Tryz.func88 rfl (o:=[.c (.p (dcE 1 0 0 1 300 0)) [],.c (.p (dcE 2 7 10 0 0 1)) [],.c (.p (dcE 3 9 40 0 0 2)) [],.c (.p (dcE 4 5 50 0 0 3)) [],.c (.p (dcE 5 6 60 0 100 1)) []]) (l:=[_,FC Tp 49 [(pI 5),(pI 6),(pI 1),(pI 60),(pI 100)] [] 1 (.p (dcE 5 6 60 0 100 1)) [],FC Tp 49 [(pI 4),(pI 5),(pI 3),(pI 50),(pI 0)] [] 1 (.p (dcE 4 5 50 0 0 3)) [],FC Tp 49 [(pI 3),(pI 9),(pI 2),(pI 40),(pI 0)] [] 1 (.p (dcE 3 9 40 0 0 2)) [],FC Tp 49 [(pI 2),(pI 7),(pI 1),(pI 10),(pI 0)] [] 1 (.p (dcE 2 7 10 0 0 1)) [],FC Tp 23 [(pI 1),(pI 1),(pI 300)] [] 1 (.p (dcE 1 0 0 1 300 0)) []]) (by kernel_rfl) (gc h0 (gc (FV.fc (iP (a:=(5:Int)) (b:=(6:Int)) (c:=(1:Int)) (d:=(60:Int)) (e:=(100:Int))) rfl) (gc (FV.fc (iP (a:=(4:Int)) (b:=(5:Int)) (c:=(3:Int)) (d:=(50:Int)) (e:=(0:Int))) rfl) (gc (FV.fc (iP (a:=(3:Int)) (b:=(9:Int)) (c:=(2:Int)) (d:=(40:Int)) (e:=(0:Int))) rfl) (gc (FV.fc (iP (a:=(2:Int)) (b:=(7:Int)) (c:=(1:Int)) (d:=(10:Int)) (e:=(0:Int))) rfl) (gc (FV.fc (aIt (a:=(1:Int)) (b:=(1:Int)) (c:=(300:Int))) rfl) gn))))))) (by kernel_rfl)
theorem bOa{r0c:List PV}(h0:0≤(0:Int)∧(0:Int)≤4∧(4:Int)≤5)(er0c:r0c=((thD.drop 0).take (4*(thD.length / 5)))){base:Nat}:FV Tp 88 [(pI 4)] base (.p (.agg [(aB 30),(.sl 3 [(aB 1),(aB 15000),(aB 2),(aB 15100),(aB 3),(aB 15200)]),(.sl 4 r0c)])) []:=by
 subst er0c;exact FV.frz (FMM.fin (k:=0) (g:=⟨[],[],[2,1],[]⟩) rfl Tryz.func88 rfl (o:=[.c (.p (dcE 1 0 0 1 300 0)) [],.c (.p (dcE 2 7 10 0 0 1)) [],.c (.p (dcE 3 9 40 0 0 2)) [],.c (.p (dcE 4 5 50 0 0 3)) [],.c (.p (dcE 5 6 60 0 100 1)) []]) (l:=[_,FC Tp 49 [(pI 5),(pI 6),(pI 1),(pI 60),(pI 100)] [] 1 (.p (dcE 5 6 60 0 100 1)) [],FC Tp 49 [(pI 4),(pI 5),(pI 3),(pI 50),(pI 0)] [] 1 (.p (dcE 4 5 50 0 0 3)) [],FC Tp 49 [(pI 3),(pI 9),(pI 2),(pI 40),(pI 0)] [] 1 (.p (dcE 3 9 40 0 0 2)) [],FC Tp 49 [(pI 2),(pI 7),(pI 1),(pI 10),(pI 0)] [] 1 (.p (dcE 2 7 10 0 0 1)) [],FC Tp 23 [(pI 1),(pI 1),(pI 300)] [] 1 (.p (dcE 1 0 0 1 300 0)) []]) (by kernel_rfl) (gc h0 (gc (FV.fc (iP (a:=(5:Int)) (b:=(6:Int)) (c:=(1:Int)) (d:=(60:Int)) (e:=(100:Int))) rfl) (gc (FV.fc (iP (a:=(4:Int)) (b:=(5:Int)) (c:=(3:Int)) (d:=(50:Int)) (e:=(0:Int))) rfl) (gc (FV.fc (iP (a:=(3:Int)) (b:=(9:Int)) (c:=(2:Int)) (d:=(40:Int)) (e:=(0:Int))) rfl) (gc (FV.fc (iP (a:=(2:Int)) (b:=(7:Int)) (c:=(1:Int)) (d:=(10:Int)) (e:=(0:Int))) rfl) (gc (FV.fc (aIt (a:=(1:Int)) (b:=(1:Int)) (c:=(300:Int))) rfl) gn))))))) (by kernel_rfl)
theorem bOb{r0c:List PV}(h0:0≤(0:Int)∧(0:Int)≤5∧(5:Int)≤5)(er0c:r0c=((thD.drop 0).take (5*(thD.length / 5)))){base:Nat}:FV Tp 88 [(pI 5)] base (.p (.agg [(aB 30),(.sl 3 [(aB 1),(aB 15000),(aB 2),(aB 15100),(aB 3),(aB 15200)]),(.sl 5 r0c)])) []:=by
 subst er0c;exact FV.frz (FMM.fin (k:=0) (g:=⟨[],[],[2,1],[]⟩) rfl Tryz.func88 rfl (o:=[.c (.p (dcE 1 0 0 1 300 0)) [],.c (.p (dcE 2 7 10 0 0 1)) [],.c (.p (dcE 3 9 40 0 0 2)) [],.c (.p (dcE 4 5 50 0 0 3)) [],.c (.p (dcE 5 6 60 0 100 1)) []]) (l:=[_,FC Tp 49 [(pI 5),(pI 6),(pI 1),(pI 60),(pI 100)] [] 1 (.p (dcE 5 6 60 0 100 1)) [],FC Tp 49 [(pI 4),(pI 5),(pI 3),(pI 50),(pI 0)] [] 1 (.p (dcE 4 5 50 0 0 3)) [],FC Tp 49 [(pI 3),(pI 9),(pI 2),(pI 40),(pI 0)] [] 1 (.p (dcE 3 9 40 0 0 2)) [],FC Tp 49 [(pI 2),(pI 7),(pI 1),(pI 10),(pI 0)] [] 1 (.p (dcE 2 7 10 0 0 1)) [],FC Tp 23 [(pI 1),(pI 1),(pI 300)] [] 1 (.p (dcE 1 0 0 1 300 0)) []]) (by kernel_rfl) (gc h0 (gc (FV.fc (iP (a:=(5:Int)) (b:=(6:Int)) (c:=(1:Int)) (d:=(60:Int)) (e:=(100:Int))) rfl) (gc (FV.fc (iP (a:=(4:Int)) (b:=(5:Int)) (c:=(3:Int)) (d:=(50:Int)) (e:=(0:Int))) rfl) (gc (FV.fc (iP (a:=(3:Int)) (b:=(9:Int)) (c:=(2:Int)) (d:=(40:Int)) (e:=(0:Int))) rfl) (gc (FV.fc (iP (a:=(2:Int)) (b:=(7:Int)) (c:=(1:Int)) (d:=(10:Int)) (e:=(0:Int))) rfl) (gc (FV.fc (aIt (a:=(1:Int)) (b:=(1:Int)) (c:=(300:Int))) rfl) gn))))))) (by kernel_rfl)
theorem wO{base:Nat}:FV Tp 88 [.p (aB 2)] base mS []:=bNy (by decide) rfl
theorem bOc{base:Nat}:FV Tp 88 [.p (aB 3)] base bHx []:=bNz (by decide) rfl
theorem bOd{base:Nat}:FV Tp 88 [.p (aB 4)] base bHy []:=bOa (by decide) rfl
theorem bOe{base:Nat}:FV Tp 88 [.p (aB 5)] base bHz []:=bOb (by decide) rfl
theorem bWa(h28_0:∀ base:Nat,FV Tp 28 [mS] base (.tup [(.own base),(pI 0)]) [(base,(.row 48 3 [(aB 2),(aB 1),(aB 15100),(aB 3),(aB 2),(aB 15200),(aB 1),(aB 3),(aB 15300)]))])(h21_1:∀ base:Nat,FV Tp 21 [mS,(.p (.sl 1 [(aB 2)]))] base (.tup [(.own base),(pI 0)]) [(base,(.row 48 3 [(aB 1),(aB 1),(aB 15000),(aB 2),(aB 2),(aB 15100),(aB 3),(aB 3),(aB 15200)]))])(h71_2:∀ base:Nat,FV Tp 71 [mS,(pI 1)] base (.tup [(.p (.sl 2 [(aB 1),(aB 3)])),(pB false),(pI 0)]) [])(h33_3:∀ base:Nat,FV Tp 33 [mS,(pI 2)] base (.tup [(.p (.sl 1 [(aB 2)])),(pI 0)]) [])(h51_4:∀ base:Nat,FV Tp 51 [(.p (.sl 3 [(aB 2),(aB 1),(aB 15100),(aB 3),(aB 2),(aB 15200),(aB 1),(aB 3),(aB 15300)])),(.p (.sl 3 [(aB 2),(aB 1),(aB 15100),(aB 3),(aB 2),(aB 15200),(aB 1),(aB 3),(aB 15300)]))] base (pB true) [])(h5:eC [(aB 1),(aB 1),(aB 15000)] [(0,3,true),(1,3,true),(2,3,true)]=true∧eC [(aB 1),(aB 1),(aB 15000)] [(0,3,true),(1,3,true),(2,3,true)]=true)(h6:(nK [(aB 1),(aB 1),(aB 15000)] [(aB 1),(aB 1),(aB 15000)] [(0,3,true),(1,3,true),(2,3,true)])=true)(h41_7:∀ base:Nat,FV Tp 41 [(.p (.sl 2 [(aB 1),(aB 3)])),(.p (.sl 2 [(aB 1),(aB 3)]))] base (pB true) [])(h41_8:∀ base:Nat,FV Tp 41 [(.p (.sl 1 [(aB 2)])),(.p (.sl 1 [(aB 2)]))] base (pB true) [])(h19_9:∀ base:Nat,FV Tp 19 [bHx] base (.tup [(.p (.sl 0 [])),(pI 0)]) [])(h19_10:∀ base:Nat,FV Tp 19 [bHy] base (.tup [(.p (.sl 1 [(aB 2)])),(pI 0)]) [])(h61_11:∀ base:Nat,FV Tp 61 [bHz,(pI 1)] base (.tup [(pI 15100),(pB false),(pI 0)]) [])(h58_12:∀ base:Nat,FV Tp 58 [mS,(pI 2)] base (.tup [(pB true),(pI 0)]) []){base:Nat}:FV Tp 26 [] base (pB true) []:=by
 exact FV.fin Tryz.func26 rfl (o:=[.c mS [],.c (.tup [(.own 0),(pI 0)]) [(0,(.row 48 3 [(aB 2),(aB 1),(aB 15100),(aB 3),(aB 2),(aB 15200),(aB 1),(aB 3),(aB 15300)]))],.c mS [],.c (.tup [(.own 2),(pI 0)]) [(1,.dead),(2,(.row 48 3 [(aB 1),(aB 1),(aB 15000),(aB 2),(aB 2),(aB 15100),(aB 3),(aB 3),(aB 15200)]))],.c mS [],.c (.tup [(.p (.sl 2 [(aB 1),(aB 3)])),(pB false),(pI 0)]) [],.c mS [],.c (.tup [(.p (.sl 1 [(aB 2)])),(pI 0)]) [],bF,bF,bF,bF,bF,bF,bF,bF,bF,bF,bF,bF,bF,bF,bF,.c (pB true) [],bF,bF,bF,bF,bF,bF,bF,bF,bF,.x (.agg [(aB 1),(aB 1),(aB 15000)]),bF,bF,bF,bF,bF,bF,.c (pB true) [],bF,bF,bF,bF,bF,.c (pB true) [],bF,bF,bF,.c bHx [],.c (.tup [(.p (.sl 0 [])),(pI 0)]) [],.c bHy [],.c (.tup [(.p (.sl 1 [(aB 2)])),(pI 0)]) [],.c bHz [],.c (.tup [(pI 15100),(pB false),(pI 0)]) [],.c mS [],.c (.tup [(pB true),(pI 0)]) [],bT,bT,bT,bT,bT,bT,bT,bT,bT,bT,bT,bT,bT,bT,bT,bT,.c (pB true) [],bT,bT,bT,bT,bT,bT]) (l:=[_,_,true=true,true=true,true=true,_,FC Tp 41 [(.p (.sl 1 [(aB 2)])),(.own 6)] [(6,(.row 3 1 [(aB 2)]))] 7 (pB true) [],_,_,_,_,_,_,_,_,_,_,_,_,_,_,_,_,FC Tp 58 [mS,(pI 2)] [] 6 (.tup [(pB true),(pI 0)]) [],FC Tp 88 [(pI 2)] [] 6 mS [],FC Tp 61 [bHz,(pI 1)] [] 6 (.tup [(pI 15100),(pB false),(pI 0)]) [],FC Tp 88 [(pI 5)] [] 6 bHz [],FC Tp 19 [bHy] [] 6 (.tup [(.p (.sl 1 [(aB 2)])),(pI 0)]) [],FC Tp 88 [(pI 4)] [] 6 bHy [],FC Tp 19 [bHx] [] 6 (.tup [(.p (.sl 0 [])),(pI 0)]) [],FC Tp 88 [(pI 3)] [] 6 bHx [],false=false,false=false,false=false,FC Tp 41 [(.p (.sl 1 [(aB 2)])),(.own 5)] [(5,(.row 3 1 [(aB 2)]))] 6 (pB true) [],false=false,false=false,false=false,_,_,FC Tp 41 [(.p (.sl 2 [(aB 1),(aB 3)])),(.own 4)] [(4,(.row 3 2 [(aB 1),(aB 3)]))] 5 (pB true) [],_,_,_,_,_,_,_,some (.agg (([(aB 1),(aB 1),(aB 15000),(aB 2),(aB 2),(aB 15100),(aB 3),(aB 3),(aB 15200)].drop 0).take 3):PV)=some (.agg [(aB 1),(aB 1),(aB 15000)]),0+3≤[(aB 1),(aB 1),(aB 15000),(aB 2),(aB 2),(aB 15100),(aB 3),(aB 3),(aB 15200)].length,_,0≤(0:Int)∧(0:Int)<3,_,_,false=false,false=false,false=false,false=false,_,_,FC Tp 51 [(.own 0),(.own 3)] [(0,(.row 48 3 [(aB 2),(aB 1),(aB 15100),(aB 3),(aB 2),(aB 15200),(aB 1),(aB 3),(aB 15300)])),(3,(.row 48 3 [(aB 2),(aB 1),(aB 15100),(aB 3),(aB 2),(aB 15200),(aB 1),(aB 3),(aB 15300)]))] 4 (pB true) [],_,_,_,_,_,_,_,_,_,_,_,_,_,_,_,FC Tp 33 [mS,(pI 2)] [] 3 (.tup [(.p (.sl 1 [(aB 2)])),(pI 0)]) [],FC Tp 88 [(pI 2)] [] 3 mS [],FC Tp 71 [mS,(pI 1)] [] 3 (.tup [(.p (.sl 2 [(aB 1),(aB 3)])),(pB false),(pI 0)]) [],FC Tp 88 [(pI 2)] [] 3 mS [],FC Tp 21 [mS,(.own 1)] [(1,(.row 3 1 [(aB 2)]))] 2 (.tup [(.own 2),(pI 0)]) [(1,.dead),(2,(.row 48 3 [(aB 1),(aB 1),(aB 15000),(aB 2),(aB 2),(aB 15100),(aB 3),(aB 3),(aB 15200)]))],FC Tp 88 [(pI 2)] [] 1 mS [],FC Tp 28 [mS] [] 0 (.tup [(.own 0),(pI 0)]) [(0,(.row 48 3 [(aB 2),(aB 1),(aB 15100),(aB 3),(aB 2),(aB 15200),(aB 1),(aB 3),(aB 15300)]))],FC Tp 88 [(pI 2)] [] 0 mS []]) (by kernel_rfl) (g2c bVz (gc rfl (gc rfl (gc rfl (gc aRt (gc (fv (h41_8 _)) (g8c aRt (g8c aRt (gc (FV.fc (h58_12 _) rfl) (gc (FV.fc wO (by kernel_rfl)) (gc (FV.fc (h61_11 _) rfl) (gc (FV.fc bOe (by kernel_rfl)) (gc (FV.fc (h19_10 _) rfl) (gc (FV.fc bOd (by kernel_rfl)) (gc (FV.fc (h19_9 _) rfl) (gc (FV.fc bOc (by kernel_rfl)) (gc rfl (gc rfl (gc rfl (gc (fv (h41_8 _)) (gc rfl (gc rfl (gc rfl (g2c (aR h6) (gc (fv (h41_7 _)) (g3c (aR h6) (gc aJf (gc h5 (g2c aJf (gc rfl (gc (by first | decide | simp) (gc aJf (gc (by first | decide | simp) (g2c aJf (gc rfl (gc rfl (gc rfl (gc rfl (g2c aRu (gc (fv (h51_4 _)) (g8c aRu (g7c aRu (gc (FV.fc (h33_3 _) rfl) (gc (FV.fc wO (by kernel_rfl)) (gc (FV.fc (h71_2 _) rfl) (gc (FV.fc wO (by kernel_rfl)) (gc (FV.close (ids:=[1]) (args':=[mS,(.p (.sl 1 [(aB 2)]))]) (h21_1 _) (by kernel_rfl)) (gc (FV.fc wO (by kernel_rfl)) (gc (FV.fc (h28_0 _) rfl) (gc (FV.fc wO (by kernel_rfl)) gn))))))))))))))))))))))))))))))))))))))))))))))))))
end
section
abbrev sB(s:List Int):Int:=s.getD 0 0
abbrev sT(s:List Int):Int:=s.getD 1 0
def tL(dl:Int)(oc:List Int)(dc sk:Lqq):Lqq:=(sk.filter fun s => !(eR dl oc dc (sB s) (sT s)).2).map fun s=>[sB s,0,(eR dl oc dc (sB s) (sT s)).1]
def qB(dl:Int)(oc:List Int)(dc sk:Lqq):Lqq:=(sk.filter fun s=>(eR dl oc dc (sB s) (sT s)).2).map fun s=>[sB s,-1,0]
def plN(A:Lqq)(t:Int):Int:=match A.getLast? with
 | some y=>if y.getD 2 0=t then y.getD 1 0 else (A.length:Int)+1
 | none=>(A.length:Int)+1
def plS(A:Lqq)(x:List Int):Lqq:=A++[[x.getD 0 0,plN A (x.getD 2 0),x.getD 2 0]]
def sA(l:Lqq):Lqq:=l.foldl plS []
def aDj(dl:Int)(oc:List Int)(dc sk:Lqq):Lqq:=sA (isort (ltK 2) (tL dl oc dc sk))++qB dl oc dc sk

theorem bOk(A D:List PV)(a b c v:PV):(A++[a,b,c]++D).set (A.length+1) v=A++[a,v,c]++D:=by
 induction A with
 | nil=>rfl
 | cons x A ih=>simp
theorem aAa{L:Lqq}{j:Nat}{a b c:Int}(hu:uni 3 L)(hj:L[j]? = some [a,b,c])(v:Int):(L.flatten.map aB).set (j*3+1) (aB v)=((L.set j [a,v,c]).flatten.map aB):=by
 obtain ⟨hlt,he⟩:=kQ3.1 hj;have h0:=rI (k:=3) (i:=j) (x:=[a,b,c]) hu hlt rfl;have h1:=rI (k:=3) (i:=j) (x:=[a,v,c]) hu hlt rfl;have hs:L.set j [a,b,c]=L:=by rw [← he];exact List.set_getElem_self hlt
 rw [hs] at h0
 rw [← h1];have hl:((L.flatten.map aB).take (j*3)).length=j*3:=by
  have:=bI hu hj;rw [lQ];omega
 have:=bOk ((L.flatten.map aB).take (j*3)) ((L.flatten.map aB).drop (j*3+3)) (aB a) (aB b) (aB c) (aB v);rw [hl] at this
 conv=>lhs;rw [← h0]
 exact this
theorem bOl(A:Lqq)(x:List Int):(plS A x).length=A.length+1:=by simp [plS]
theorem aUt(l:Lqq):∀ A:Lqq,(l.foldl plS A).length=A.length+l.length:=by
 induction l with
 | nil=>intro A;simp
 | cons x l ih=>intro A;rw [vV,ih,bOl];simp;omega
theorem aUu(l:Lqq):∀ A:Lqq,uni 3 A→uni 3 (l.foldl plS A):=by
 induction l with
 | nil=>intro A h;exact h
 | cons x l ih =>
  intro A h;rw [vV];refine ih _ fun y hy => ?_
  unfold plS at hy
  rcases kI.1 hy with hy | hy
  ·exact h y hy
  ·rw [List.mem_singleton.1 hy];rfl
section
variable {dl:Int} {sk dc:Lqq} {oc:List Int} {ov:PV}
theorem aRy(l:Lqq)(hu:uni 3 l)(hl:l.length<1000)(p q:Lqq)(hp:(isort (ltK 2) p).length=l.length)(t:Lqb) :
  aI Tp 7 (sub (cd Tryz.f86) [1,1,1,1,0,1,0,0]) (eY dl sk dc ov p q t l.length (l.flatten.map aB) 0) (.exit 2) (eY dl sk dc ov p q t (sA l).length ((sA l).flatten.map aB) l.length):=by
 let St (j:Nat):Lqq:=(l.take j).foldl plS []++l.drop j
 have hlen:∀ j,j≤l.length→((l.take j).foldl plS []).length=j:=fun j hj=>by rw [aUt];simp;omega
 have hlS:∀ j,j≤l.length→(St j).length=l.length:=fun j hj=>by
  show (_++_:Lqq).length=_;rw [lF,hlen j hj,bEn];omega
 have huS:∀ j,uni 3 (St j):=fun j y hy=>by
  rcases kI.1 hy with hy | hy
  ·exact aUu _ [] (fun z hz=>by cases hz) y hy
  ·exact hu y (List.mem_of_mem_drop hy)
 have:=aI.count (P:=Tp) (k:=7) (b:=sub (cd Tryz.f86) [1,1,1,1,0,1,0,0]) (e := .exit 2) (R:=eY dl sk dc ov p q t (sA l).length ((sA l).flatten.map aB) l.length) l.length
  (fun j=>eY dl sk dc ov p q t (St j).length ((St j).flatten.map aB) j)
  (fun j hj=>by
   have hx:=hu _ (gO hj);obtain ⟨a,b,c,hx⟩:=len3 hx;have hA:=hlen j (by omega)
   have e1:(l.take (j+1)).foldl plS []=plS ((l.take j).foldl plS []) [a,b,c]:=by
    rw [List.take_add_one,kQ0 hj,hx];rw [aEg];rfl
   have hdr:l.drop j=[a,b,c]::l.drop (j+1):=by rw [bEj hj,hx]
   have g1:(St j)[j]? = some [a,b,c]:=by
    show ((l.take j).foldl plS []++l.drop j)[j]? = _;rw [aBt (by omega),hA,aWs,hdr];rfl
   have hset:∀ v,(St j).set j [a,v,c]=(l.take j).foldl plS []++[a,v,c]::l.drop (j+1):=fun v=>by
    show ((l.take j).foldl plS []++l.drop j).set j [a,v,c]=_;rw [List.set_append_right _ _ (by omega),hA,aWs,hdr];rfl
   have hnext:St (j+1)=(St j).set j [a,plN ((l.take j).foldl plS []) c,c]:=by
    rw [hset];show (l.take (j+1)).foldl plS []++l.drop (j+1)=_;rw [e1];unfold plS;rw [List.append_assoc];rfl
   have hle:=bI (huS j) g1;have hpl:(j:Int)<((isort (ltK 2) p).length:Int):=by rw [hp];omega
   rw [hnext]
   rcases Nat.eq_zero_or_pos j with h0 | hpos
   ·have hn:plN ((l.take j).foldl plS []) c=(j:Int)+1:=by
     subst h0;rfl
    rw [hn];exact bCa (L:=St j) (L':=(St j).set j [a,((j+1:Nat):Int),c]) (by exact_mod_cast hpl) (aO (by omega)) g1 (by omega) (by omega) (by simp) (aAa (huS j) g1 _).symm rfl
   ·have g2:∃ y0 y1 y2,((l.take j).foldl plS []).getLast? = some [y0,y1,y2]∧(St j)[((j:Int)-1).toNat]? = some [y0,y1,y2]:=by
     have hlt:j-1<((l.take j).foldl plS []).length:=by omega
     have h3:=aUu (l.take j) [] (fun z hz=>by cases hz) _ (gO hlt)
     obtain ⟨y0,y1,y2,hy⟩:=len3 h3;refine ⟨y0,y1,y2,?_,?_⟩
     ·rw [List.getLast?_eq_getElem?,hA,kQ0 hlt,hy]
     ·show ((l.take j).foldl plS []++l.drop j)[((j:Int)-1).toNat]? = _
      rw [show ((j:Int)-1).toNat=j-1 by omega,aBu hlt,kQ0 hlt,hy]
    obtain ⟨y0,y1,y2,g3,g4⟩:=g2
    by_cases hc:c=y2
    ·have hn:plN ((l.take j).foldl plS []) c=y1:=by
      unfold plN;rw [g3];show (if y2=c then y1 else _)=y1
      rw [if_pos hc.symm]
     rw [hn];have hu1:uni 3 ((St j).set j [a,((j+1:Nat):Int),c]):=aTh (huS j) rfl;have g5:((St j).set j [a,((j+1:Nat):Int),c])[j]? = some [a,((j+1:Nat):Int),c]:=by
      rw [bEk (by rw [hlS j (by omega)];omega)]
     refine bBy (L:=St j) (L':=(St j).set j [a,y1,c]) (by exact_mod_cast hpl) (aO (by omega)) g1 (by omega) (by omega) (huS j) (by unfold inR;omega) g4 (by omega) hc (by rw [uC];omega) (by simp) ?_ rfl
     rw [aAa (huS j) g1,aAa hu1 g5,List.set_set]
    ·have hn:plN ((l.take j).foldl plS []) c=(j:Int)+1:=by
      unfold plN;rw [g3];show (if y2=c then y1 else _)=_
      rw [if_neg (fun h=>hc h.symm),hA]
     rw [hn];exact bBz (L:=St j) (L':=(St j).set j [a,((j+1:Nat):Int),c]) (by exact_mod_cast hpl) (aO (by omega)) g1 (by omega) (by omega) (huS j) (by unfold inR;omega) g4 (by omega) hc (by simp) (aAa (huS j) g1 _).symm rfl)
  (by
   have e:St l.length=sA l:=by
    show (l.take l.length).foldl plS []++l.drop l.length=_;rw [List.take_length,List.drop_length,List.append_nil];rfl
   rw [e];exact bCb (by rw [hp];omega)) (by simp)
 exact this
theorem aGv:(tL dl oc dc sk).length≤sk.length:=by
 unfold tL;rw [eV];exact sV _ _
theorem aDk:(qB dl oc dc sk).length≤sk.length:=by
 unfold qB;rw [eV];exact sV _ _
theorem aGw:uni 3 (tL dl oc dc sk):=fun y hy=>by
 obtain ⟨s,_,rfl⟩:=eW.1 hy;rfl
theorem aRz:uni 3 (qB dl oc dc sk):=fun y hy=>by
 obtain ⟨s,_,rfl⟩:=eW.1 hy;rfl
theorem aDl(f:Nat)(l:Lqq):(isort (ltK f) l).length=l.length:=wM _ _
theorem bCt{k f:Nat}{l:Lqq}(h:uni k l):uni k (isort (ltK f) l):=fun y hy=>h y ((aGs _ _ y).1 hy)
theorem aSa(l:Lqq):(sA l).length=l.length:=by unfold sA;rw [aUt];simp
theorem bYc(hd:bH dc)(hov:∀ n,qM ov n (oc.contains n))(hs:uni 2 sk)(hb:∀ x∈sk,skB x=true)(hl:sk.length<20){T:Lqb}(hT:bW dl oc dc T):∃ T',bW dl oc dc T'∧bUx dl sk dc ov (aDj dl oc dc sk) T T':=by
 obtain ⟨acc,⟨h1,h2,h3⟩,h4⟩:=aI.ex (P:=Tp) (k:=7) (b:=sub (cd Tryz.f86) [1,1,0,1,0,0]) (e := .exit 0) (fun i (a:(Lqq × Lqq) × Lqb)=>jF dl sk dc ov a.1.1.length (a.1.1.flatten.map aB) a.1.2.length (a.1.2.flatten.map aB) i (aF a.2) a.2.length)
  (fun a=>jF dl sk dc ov a.1.1.length (a.1.1.flatten.map aB) a.1.2.length (a.1.2.flatten.map aB) sk.length (aF a.2) a.2.length)
  (fun i a=>bW dl oc dc a.2∧a.1.1=tL dl oc dc (sk.take i)∧a.1.2=qB dl oc dc (sk.take i)) (by simp) sk.length
  (fun i acc hi hI=>by
   obtain ⟨⟨p,q⟩,T1⟩:=acc;obtain ⟨h1,h2,h3⟩:=hI;dsimp only at h1 h2 h3
   have hm:=gO hi;obtain ⟨a,b,hy⟩:=len2 (hs _ hm);have hx:sk[i]? = some [a,b]:=by rw [kQ0 hi,hy]
   rw [hy] at hm
   have hr : -1≤b∧b≤360000:=by
    have:=hb _ hm;rw [bSe,kQ6] at this
    exact cM.1 this.2
   obtain ⟨T2,q1,q2⟩:=aLx (sk:=sk) hd hov a b hr h1;have hp:p.length≤20:=by rw [h2];have:=aGv (dl:=dl) (oc:=oc) (dc:=dc) (sk:=sk.take i);rw [lQ] at this;omega
   have hq:q.length≤20:=by rw [h3];have:=aDk (dl:=dl) (oc:=oc) (dc:=dc) (sk:=sk.take i);rw [lQ] at this;omega
   have et:sk.take (i+1)=sk.take i++[[a,b]]:=by rw [List.take_add_one,hx];rfl
   rw [et];have e1:tL dl oc dc (sk.take i++[[a,b]])=p++if (eR dl oc dc a b).2 then [] else [[a,0,(eR dl oc dc a b).1]]:=by
    rw [h2];unfold tL;rw [rH,iZ]
    congr 1
    show (List.filter _ [[a,b]]).map _=_;cases hq:(eR dl oc dc a b).2 <;> simp [hq]
   have e2:qB dl oc dc (sk.take i++[[a,b]])=q++if (eR dl oc dc a b).2 then [[a,-1,0]] else []:=by
    rw [h3];unfold qB;rw [rH,iZ]
    congr 1
    show (List.filter _ [[a,b]]).map _=_;cases hq:(eR dl oc dc a b).2 <;> simp [hq]
   rw [e1,e2];cases hc:(eR dl oc dc a b).2 with
   | true =>
    rw [hc] at q2
    exact ⟨((p,q++[[a,-1,0]]),T2),⟨q1,by simp,by simp⟩,bBv (q:=q) (q':=q++[[a,-1,0]]) (by omega) hx hs q2 rfl ⟨rfl,by omega⟩ (aO (by omega)) (by simp) (by simp) rfl rfl rfl⟩
   | false =>
    rw [hc] at q2
    exact ⟨((p++[[a,0,(eR dl oc dc a b).1]],q),T2),⟨q1,by simp,by simp⟩,bBw (p:=p) (p':=p++[[a,0,(eR dl oc dc a b).1]]) (by omega) hx hs q2 rfl ⟨rfl,by omega⟩ (aO (by omega)) (by simp) (by simp) rfl rfl rfl⟩)
  (fun acc hI=>bBx (by omega)) (acc:=(([],[]),T)) ⟨hT,by simp [tL],by simp [qB]⟩
 obtain ⟨⟨p,q⟩,T1⟩:=acc;dsimp only at h1 h2 h3 h4
 rw [List.take_length] at h2 h3
 subst h2 h3;have hp:=aGv (dl:=dl) (oc:=oc) (dc:=dc) (sk:=sk);have hq:=aDk (dl:=dl) (oc:=oc) (dc:=dc) (sk:=sk);have hP:=aRy (dl:=dl) (sk:=sk) (dc:=dc) (ov:=ov) (isort (ltK 2) (tL dl oc dc sk)) (bCt aGw) (by rw [aDl];omega) (tL dl oc dc sk) (qB dl oc dc sk) rfl T1
 refine ⟨T1,h1,bUy (r0n:=(aDj dl oc dc sk).length) (r0c:=(aDj dl oc dc sk).flatten.map aB) h4 aGw (by omega) hP ⟨rM aRz,by rw [aSa,aDl];omega⟩ ?_ ?_⟩
 ·unfold aDj;rw [lF]
 ·unfold aDj;rw [bEm,iZ]
end
theorem aUv{dl:Int}{sk dc:Lqq}(h:bK dl sk dc):∀ x∈aA sk,skB x=true:=fun x hx=>h.hsk x ((dS sk).mem_iff.1 hx)
theorem bWj{dl:Int}{sk dc:Lqq}(h:bK dl sk dc)(hl:sk.length<20){base:Nat}:FV Tp 28 [.p (.agg (bU dl sk dc))] base (.tup [.own base,.p (aB 0)]) [(base,.row 48 (aDj dl [] (aA dc) (aA sk)).length ((aDj dl [] (aA dc) (aA sk)).flatten.map aB))]:=by
 obtain ⟨T',h1,h2⟩:=bYc (dl:=dl) (sk:=aA sk) (dL h) iY (lZ h.us) (aUv h) (by rw [eT];exact hl) bW.nil
 exact bUz h h2
theorem bCu{dl:Int}{dc:Lqq}(hd:bH dc):(aS dl dc).length≤1000:=by
 unfold aS;rw [eV];have:=sV (qG dl dc) dc;have:=hd.len;omega
def wP(u:List Int):Bool:=(List.range u.length).all fun i=>i == 0 || decide (u.getD (i-1) 0<u.getD i 0)
theorem bIe{dl:Int}{sk dc:Lqq}(u:List Int)(hl:u.length≤1000):(wP u=true∧∃ i,aI Tp 0 (sub (cd Tryz.f21) [1,1,1,1,1,0,1,0,0]) (hZ dl sk dc u 1) (.exit 0) (hZ dl sk dc u i)) ∨
  (wP u=false∧∃ i,aI Tp 0 (sub (cd Tryz.f21) [1,1,1,1,1,0,1,0,0]) (hZ dl sk dc u 1) .ret (cG (hZ dl sk dc u i) [(4,.p aW),(5,.p (aB 4))])):=by
 rcases Nat.lt_or_ge u.length 2 with h2 | h2
 ·refine .inl ⟨?_,1,.exit (aGn (by omega)) (by simp)⟩
  unfold wP;rw [iD];intro i hi;have:=xE.1 hi;have:i=0:=by omega
  subst this;rfl
 ·have hget:∀ i,i<u.length→u[i]? = some (u.getD i 0):=fun i hi=>by rw [kQ4,kQ0 hi];rfl
  have key:∀ d i,i+d=u.length→1≤i→(∀ j,j<i→(j == 0 || decide (u.getD (j-1) 0<u.getD j 0))=true) →
   (wP u=true∧∃ k,aI Tp 0 (sub (cd Tryz.f21) [1,1,1,1,1,0,1,0,0]) (hZ dl sk dc u (i:Int)) (.exit 0) (hZ dl sk dc u k)) ∨
   (wP u=false∧∃ k,aI Tp 0 (sub (cd Tryz.f21) [1,1,1,1,1,0,1,0,0]) (hZ dl sk dc u (i:Int)) .ret (cG (hZ dl sk dc u k) [(4,.p aW),(5,.p (aB 4))])):=by
   intro d
   induction d with
   | zero =>
    intro i hi h1 hj;refine .inl ⟨?_,_,.exit (aGn (by omega)) (by simp)⟩
    unfold wP;rw [iD];intro j hjr;exact hj j (by have:=xE.1 hjr;omega)
   | succ d ih =>
    intro i hi h1 hj;have g1:u[((i:Nat):Int).toNat]? = some (u.getD i 0):=by rw [bJi];exact hget i (by omega)
    have g2:u[((i:Int)-1).toNat]? = some (u.getD (i-1) 0):=by rw [show ((i:Int)-1).toNat=i-1 by omega];exact hget (i-1) (by omega)
    by_cases hc:u.getD (i-1) 0<u.getD i 0
    ·have hst:=bCd (dl:=dl) (sk:=sk) (dc:=dc) (i:=(i:Int)) (i':=((i+1:Nat):Int)) (by omega) g1 (by omega) (by unfold inR;omega) g2 (by omega) hc (by unfold inR;omega) (by omega)
     rcases ih (i+1) (by omega) (by omega) (fun j hj2=>by
      rcases Nat.lt_or_ge j i with h3 | h3
      ·exact hj j h3
      ·obtain rfl:j=i:=by omega
       rw [decide_eq_true hc,Bool.or_true]) with ⟨q1,k,q2⟩ | ⟨q1,k,q2⟩
     ·exact .inl ⟨q1,k,.step hst q2⟩
     ·exact .inr ⟨q1,k,.step hst q2⟩
    ·refine .inr ⟨?_,_,.exit (bCc (i:=(i:Int)) (by omega) g1 (by omega) (by unfold inR;omega) g2 (by omega) (by omega)) (by simp)⟩
     cases hr:wP u with
     | false=>rfl
     | true =>
      unfold wP at hr
      have:=iD.1 hr i (xE.2 (by omega))
      rw [show (i == 0)=false by simp;omega,Bool.false_or] at this
      exact absurd (of_decide_eq_true this) hc
  have:=key (u.length-1) 1 (by omega) (by omega) (fun j hj=>by
   have:j=0:=by omega
   subst this;rfl)
  exact this
def bYd(dl:Int)(dc:Lqq)(u:List Int):Int:=if u.all (ocB (aS dl dc)) then (if wP u then 0 else 4) else 1
theorem bWk{dl:Int}{sk dc:Lqq}(h:bK dl sk dc)(hl:sk.length<20)(u:List Int)(hu:u.length≤1000)(he:bYd dl (aA dc) u=0){base:Nat}:FV Tp 21 [.p (.agg (bU dl sk dc)),.p (aG u)] base (.tup [.own base,.p (aB 0)]) [(base,.row 48 (aDj dl u (aA dc) (aA sk)).length ((aDj dl u (aA dc) (aA sk)).flatten.map aB))]:=by
 have hd:=dL h;unfold bYd at he
 cases ha:u.all (ocB (aS dl (aA dc))) with
 | false=>rw [ha] at he;simp at he
 | true =>
  rw [ha,if_pos rfl] at he
  rcases bIe (dl:=dl) (sk:=sk) (dc:=dc) u hu with ⟨q1,i,q2⟩ | ⟨q1,i,q2⟩
  ·obtain ⟨T',h1,h2⟩:=bYc (dl:=dl) (sk:=aA sk) hd (aCl hu) (lZ h.us) (aUv h) (by rw [eT];exact hl) bW.nil
   exact bVe h hd hu (fun _ _=>bCu hd) ha q2 h2
  ·rw [q1] at he;simp at he
end
end KV
end Go.Proofs
section
namespace Go.Proofs
namespace KL
def aRs(x:Int):List Int→List Int
 | []=>[x]
 | y::r=>if x≤y then x::y::r else y::aRs x r
def sortI:List Int→List Int
 | []=>[]
 | x::r=>aRs x (sortI r)
theorem xZ(x:Int):∀ l,(aRs x l).Perm (x::l)
 | [] => .refl _
 | y::r=>by
  unfold aRs
  split
  ·exact .refl _
  ·exact ((xZ x r).cons y).trans (List.Perm.swap x y r)
theorem aDd:∀ l,(sortI l).Perm l
 | [] => .refl _
 | x::r=>(xZ x _).trans ((aDd r).cons x)
theorem zD(x:Int):∀ l,l.Pairwise (· ≤ ·)→(aRs x l).Pairwise (· ≤ ·)
 | [],_=>by simp [aRs]
 | y::r,h=>by
  obtain ⟨h1,h2⟩:=List.pairwise_cons.1 h;unfold aRs
  split
  ·rename_i hx
   exact List.pairwise_cons.2 ⟨fun z hz=>by
    rcases List.mem_cons.1 hz with rfl | hz
    ·exact hx
    ·have:=h1 z hz;omega,h⟩
  ·rename_i hx
   refine List.pairwise_cons.2 ⟨fun z hz => ?_,zD x r h2⟩
   rcases List.mem_cons.1 ((xZ x r).mem_iff.1 hz) with rfl | hz
   ·omega
   ·exact h1 z hz
theorem wN:∀ l,(sortI l).Pairwise (· ≤ ·)
 | [] => .nil
 | x::r=>zD x _ (wN r)
theorem aGu:∀ (a b:List Int),a.Perm b→a.Pairwise (· ≤ ·)→b.Pairwise (· ≤ ·)→a=b
 | [],b,h,_,_=>(List.nil_perm.1 h).symm
 | x::r,[],h,_,_=>absurd h.length_eq (by simp)
 | x::r,y::t,h,ha,hb=>by
  obtain ⟨h1,h2⟩:=List.pairwise_cons.1 ha;obtain ⟨h3,h4⟩:=List.pairwise_cons.1 hb;have e:x=y:=by
   have m1:x∈y::t:=h.mem_iff.1 (List.mem_cons_self ..);have m2:y∈x::r:=h.mem_iff.2 (List.mem_cons_self ..)
   rcases List.mem_cons.1 m1 with e | m1
   ·exact e
   ·rcases List.mem_cons.1 m2 with e | m2
    ·exact e.symm
    ·have:=h1 y m2;have:=h3 x m1;omega
  subst e;rw [aGu r t (List.Perm.cons_inv h) h2 h4]
theorem mergeSort_eq(l:List Int):l.mergeSort leB=sortI l:=by
 refine aGu _ _ ((List.mergeSort_perm _ _).trans (aDd l).symm) ?_ (wN l);have:=List.pairwise_mergeSort (le:=leB) (fun a b c h1 h2=>by simp only [leB,decide_eq_true_eq] at *;omega) (fun a b=>by simp only [leB,Bool.or_eq_true,decide_eq_true_eq];omega) l
 exact this.imp (fun h=>by simpa [leB] using h)
end KL
namespace KV
abbrev sk3:List (List Int):=[[1,15000],[2,15100],[3,15200]]
abbrev dc2:List (List Int):=[[1,0,0,1,300,0],[2,7,10,0,0,1]]
abbrev dc3:List (List Int):=[[1,0,0,1,300,0],[2,7,10,0,0,1],[3,9,40,0,0,2]]
abbrev dc4:List (List Int):=[[1,0,0,1,300,0],[2,7,10,0,0,1],[3,9,40,0,0,2],[4,5,50,0,0,3]]
abbrev dc5:List (List Int):=[[1,0,0,1,300,0],[2,7,10,0,0,1],[3,9,40,0,0,2],[4,5,50,0,0,3],[5,6,60,0,100,1]]
theorem rZ{l:List (List Int)}(h:l.Pairwise fun a b=>a.getD 0 0≤b.getD 0 0):aA l=l:=List.mergeSort_of_pairwise (h.imp fun h=>decide_eq_true h)
theorem aEm:aA sk3=sk3:=rZ (by decide)
theorem srt2:aA dc2=dc2:=rZ (by decide)
theorem srt3:aA dc3=dc3:=rZ (by decide)
theorem srt4:aA dc4=dc4:=rZ (by decide)
theorem srt5:aA dc5=dc5:=rZ (by decide)
theorem rec2:bK 30 sk3 dc2:=⟨by unfold uni;decide,by unfold uni;decide,by decide,by decide,by decide,by decide,by decide,by decide,by decide,by decide,by decide⟩
theorem rec3:bK 30 sk3 dc3:=⟨by unfold uni;decide,by unfold uni;decide,by decide,by decide,by decide,by decide,by decide,by decide,by decide,by decide,by decide⟩
theorem rec4:bK 30 sk3 dc4:=⟨by unfold uni;decide,by unfold uni;decide,by decide,by decide,by decide,by decide,by decide,by decide,by decide,by decide,by decide⟩
theorem rec5:bK 30 sk3 dc5:=⟨by unfold uni;decide,by unfold uni;decide,by decide,by decide,by decide,by decide,by decide,by decide,by decide,by decide,by decide⟩
def bNx(al:List fK)(s:Nat)(c:List cN):List Int:=Lib.compact (KL.sortI (c.flatMap (chL al s)))
theorem aUq(al:List fK)(s:Nat)(c:List cN):lS al s c=bNx al s c:=by unfold lS bNx;rw [KL.mergeSort_eq]
def bHu(dl:Int)(sk dc:List (List Int))(f:Int)(i:Nat):Bool:=match (bP dl sk dc)[i]? with
 | some h=>aIu (bNx (bP dl sk dc) i h.1) (h.1.any fun x=>x.2.1) (h.1.any fun x => !x.2.1) f
 | none=>false
theorem bHv(dl:Int)(sk dc:List (List Int))(f:Int):zA dl sk dc f=bHu dl sk dc f:=by
 funext i
 unfold zA bHu
 split
 ·rename_i h e
  first | rw [e] | skip
  simp only [aUq]
 ·rename_i e
  first | rw [e] | rfl
theorem h28(base:Nat):FV Tryz.prog 28 [.p (.agg (bU 30 sk3 dc2))] base (.tup [.own base,.p (aB 0)]) [(base,.row 48 3 ([[2,1,15100],[3,2,15200],[1,3,15300]].flatten.map aB))]:=by
 have:=bWj rec2 (by decide) (base:=base)
 rw [aEm,srt2,show aDj 30 [] dc2 sk3=[[2,1,15100],[3,2,15200],[1,3,15300]] from by decide +kernel] at this
 exact this
theorem h21(base:Nat):FV Tryz.prog 21 [.p (.agg (bU 30 sk3 dc2)),.p (aG [2])] base (.tup [.own base,.p (aB 0)]) [(base,.row 48 3 ([[1,1,15000],[2,2,15100],[3,3,15200]].flatten.map aB))]:=by
 have:=bWk rec2 (by decide) [2] (by decide) (by rw [srt2];decide +kernel) (base:=base)
 rw [aEm,srt2,show aDj 30 [2] dc2 sk3=[[1,1,15000],[2,2,15100],[3,3,15200]] from by decide +kernel] at this
 exact this
theorem open2:aS 30 dc2=[2]:=by decide +kernel
theorem h71(base:Nat):FV Tryz.prog 71 [.p (.agg (bU 30 sk3 dc2)),.p (aB 1)] base (.tup [.p (aG [1,3]),.p (blP false),.p (aB 0)]) []:=by
 have:=bTu rec2 (bib:=1) (i:=0) (s0:=1) (s1:=15000) (by rw [aEm];decide +kernel) (by rw [aEm];rfl) (by rw [srt2,open2];decide) (base:=base)
 rw [aEm,srt2,aUq,show bNx (bP 30 sk3 dc2) 0 (oQ 30 dc2 1 15000 (uN 30 dc2 1)).1=[1,3] from by decide +kernel,show ((oQ 30 dc2 1 15000 (uN 30 dc2 1)).1.any fun x=>x.2.1)=false from by decide +kernel] at this
 exact this
theorem h33(base:Nat):FV Tryz.prog 33 [.p (.agg (bU 30 sk3 dc2)),.p (aB 2)] base (.tup [.p (aG [2]),.p (aB 0)]) []:=by
 have:=bTw rec2 (f:=2) (by decide) (by rw [srt2,open2];decide) (base:=base)
 have e:aMk 30 sk3 dc2 2=[2]:=by
  unfold aMk;rw [bHv];decide +kernel
 rw [aEm,srt2,e] at this
 exact this
theorem h19a(base:Nat):FV Tryz.prog 19 [.p (.agg (bU 30 sk3 dc3))] base (.tup [.p (aG []),.p (aB 0)]) []:=by
 have:=bHo rec3 (base:=base);rw [srt3,show aS 30 dc3=[] from by decide +kernel] at this
 exact this
theorem h19b(base:Nat):FV Tryz.prog 19 [.p (.agg (bU 30 sk3 dc4))] base (.tup [.p (aG [2]),.p (aB 0)]) []:=by
 have:=bHo rec4 (base:=base);rw [srt4,show aS 30 dc4=[2] from by decide +kernel] at this
 exact this
theorem h61(base:Nat):FV Tryz.prog 61 [.p (.agg (bU 30 sk3 dc5)),.p (aB 1)] base (.tup [.p (aB 15100),.p (blP false),.p (aB 0)]) []:=by
 obtain ⟨T',_,hT⟩:=aLx (dl:=30) (sk:=aA sk3) (dc:=aA dc5) (dL rec5) iY 1 15000 (by decide) (T:=[]) bW.nil
 have:=bGu rec5 (bib:=1) (i0:=0) (s1:=1) (s2:=15000) (by rw [aEm];decide +kernel) (by rw [aEm];rfl) hT (base:=base)
 rw [srt5,show eR 30 [] dc5 1 15000=(15100,false) from by decide +kernel] at this
 exact this
theorem h58(base:Nat):FV Tryz.prog 58 [.p (.agg (bU 30 sk3 dc2)),.p (aB 2)] base (.tup [.p (blP true),.p (aB 0)]) []:=by
 have:=bWb rec2 2 (base:=base);have hB:∀ r6,aEn 30 sk3 dc2 2 r6=fun x => !(((eR 30 x dc2 ((sk3.getD (aZ (fun x=>decide (r6=x)) (aK sk3 0)).toNat []).getD 0 0) ((sk3.getD (aZ (fun x=>decide (r6=x)) (aK sk3 0)).toNat []).getD 1 0)).1 == (eR 30 (x++[2]) dc2 ((sk3.getD (aZ (fun x=>decide (r6=x)) (aK sk3 0)).toNat []).getD 0 0) ((sk3.getD (aZ (fun x=>decide (r6=x)) (aK sk3 0)).toNat []).getD 1 0)).1) && ((eR 30 x dc2 ((sk3.getD (aZ (fun x=>decide (r6=x)) (aK sk3 0)).toNat []).getD 0 0) ((sk3.getD (aZ (fun x=>decide (r6=x)) (aK sk3 0)).toNat []).getD 1 0)).2 == (eR 30 (x++[2]) dc2 ((sk3.getD (aZ (fun x=>decide (r6=x)) (aK sk3 0)).toNat []).getD 0 0) ((sk3.getD (aZ (fun x=>decide (r6=x)) (aK sk3 0)).toNat []).getD 1 0)).2)):=fun r6=>by
  funext x
  unfold aEn fH;rw [aEm,srt2]
 have e:bIb 30 sk3 dc2 2=(true,0):=by
  unfold bIb;rw [aEm,srt2,hB];decide +kernel
 rw [e] at this
 exact this
theorem bHw{base:Nat}:FV Tryz.prog 26 [] base (.p (blP true)) [] :=
 bWa h28 h21 h71 h33 (fun base=>by
  have:=bTq [[2,1,15100],[3,2,15200],[1,3,15300]] [[2,1,15100],[3,2,15200],[1,3,15300]] (by unfold uni;decide) (by unfold uni;decide) (by decide) (base:=base)
  rw [decide_eq_true rfl] at this
  exact this) ⟨rfl,rfl⟩ (by decide) (fun base=>by
  have:=bGv [1,3] [1,3] (by decide) (base:=base)
  rw [decide_eq_true rfl] at this
  exact this) (fun base=>by
  have:=bGv [2] [2] (by decide) (base:=base)
  rw [decide_eq_true rfl] at this
  exact this) h19a h19b h61 h58
end KV
end Go.Proofs
end
namespace Go.Proofs
namespace KV
section
variable {dl:Int}{sk dc:Lqq}

noncomputable abbrev rL:Code:=sub (cd Tryz.f64) [1,1,1,1,1,0,1,0,0]
noncomputable abbrev aCc:Code:=sub (cd Tryz.f64) [1,1,1,1,1,0,1,0,0,1,1,0,0,1,1,1,1,1,0,0]
def fP(dl:Int)(sk:Lqq)(dc:Lqq)(bib:Int)(on:Nat)(oc:List PV)(i:Nat)(te:List (Value × PV))(tk:Nat):St:=⟨fr 89 [(1,(pI bib)),(4,(.p aW)),(5,(pI 0)),(9,(.ptr 7 0)),(10,(.own 8)),(33,(.p (.sl ((aA dc).length) ((aA dc).flatten.map aB)))),(34,(pI (((aA dc).length:Nat):Int))),(35,(pI (i:Int)))],[some (vB0 dl (aA sk) (aA dc)),some (.box 33 [(.p aW)]),some vB2,some (.mp te tk),some (.box 207 [(.mp 3)]),some (vB5 dl (aA sk) (aA dc)),some vB6,some vB2,some (.row 3 on oc)]⟩
theorem bQc{bib:Int}{i0:Nat}{s1 s2:Int}{o'3:List Int}{i'4:Nat}{t'5:Lqb}(h0:bK dl sk dc)(h1:iH (aA sk) bib=(i0:Int))(h2:(aA sk)[i0]? = some [s1,s2])(hl3:aI Tp 0 rL (fP dl sk dc bib 0 [] 0 (aF ([]:Lqb)) 0) (.exit 0) (fP dl sk dc bib o'3.length (o'3.map aB) i'4 (aF t'5) t'5.length))(h4:o'3.length≤1000000){base:Nat}:FV Tp 64 [(.p (.agg (bU dl sk dc))),(pI bib)] base (.tup [(.p (aG (o'3.mergeSort KL.leB))),(pI 0)]) []:=by
 exact FV.frz (FMM.fin (k:=0) (g:=⟨[],[],[8],[]⟩) rfl Tryz.func64 rfl (o:=[.c (.tup [(.rp (aE dl (aA sk) (aA dc)) 0),(.p (.agg [(aB s1),(aB s2)])),(pI 0)]) [],bF,.c (.agg (kVL 6 7 2 4 8 3)) [(2,(vB0 dl (aA sk) (aA dc))),(3,(.box 33 [(.p aW)])),(4,(.box 139 (kVL 6 7 2 4 8 3))),(5,(.mp (aF ([]:Lqb)) 0)),(6,(.box 207 [(.mp 5)])),(7,(vB5 dl (aA sk) (aA dc))),(8,(.box 209 [(.fn 153 [] [(.ptr 2 0),(.ptr 4 0)])]))],.x (.sl ((aA dc).length) ((aA dc).flatten.map aB)),.k 1 ⟨(rng [(0,1),(2,2),(6,3),(11,22),(36,50),(87,1)]),[2,3,4,5,6,7,8,9,10],[],[(10,3)]⟩ (.exit 0) (fP dl sk dc bib o'3.length (o'3.map aB) i'4 (aF t'5) t'5.length),.c (.tup []) [(8,(.row 3 ((o'3.mergeSort KL.leB).length) ((o'3.mergeSort KL.leB).map aB)))]]) (l:=[FC Tp 57 [(.own 8)] [(8,(.row 3 o'3.length (o'3.map aB)))] 9 (.tup []) [(8,(.row 3 ((o'3.mergeSort KL.leB).length) ((o'3.mergeSort KL.leB).map aB)))],_,(aE dl (aA sk) (aA dc))[2]? = some (.sl ((aA dc).length) ((aA dc).flatten.map aB)),FC Tp 87 [(.rp (aE dl (aA sk) (aA dc)) 0),(.p aW)] [] 2 (.agg (kVL 6 7 2 4 8 3)) [(2,(vB0 dl (aA sk) (aA dc))),(3,(.box 33 [(.p aW)])),(4,(.box 139 (kVL 6 7 2 4 8 3))),(5,(.mp (aF ([]:Lqb)) 0)),(6,(.box 207 [(.mp 5)])),(7,(vB5 dl (aA sk) (aA dc))),(8,(.box 209 [(.fn 153 [] [(.ptr 2 0),(.ptr 4 0)])]))],((0:Int) != (0:Int))=false,_]) (by kernel_rfl) (gc (FMM.fc (ids:=[8]) (aMz o'3 h4) (by kernel_rfl)) (gc hl3.code (gc rfl (gc (FMM.fcN (k:=7) rfl (ids:=[]) (kW (dl:=dl) (sk:=(aA sk)) (dc:=(aA dc))) (by kernel_rfl)) (gc (by first | decide | simp) (gc (fk 1 (aCw h0 h1 h2) rfl) gn))))))) (by kernel_rfl)
def iM(dl:Int)(sk:Lqq)(dc:Lqq)(bib:Int)(i:Nat)(y100:Int)(y101:Int)(y102:Int)(y103:Int)(y104:Int)(y105:Int)(on:Nat)(oc:List PV)(y0:Int)(y1:Int)(y2:Int)(y3:Int)(y4:Int)(y5:Int)(is:Bool)(te:List (Value × PV))(tk:Nat):St:=⟨fr 89 [(1,(pI bib)),(4,(.p aW)),(5,(pI 0)),(9,(.ptr 7 0)),(10,(.own 9)),(12,(.ptr 8 0)),(15,(.ptr 10 0)),(16,(pB is)),(33,(.p (.sl ((aA dc).length) ((aA dc).flatten.map aB)))),(34,(pI (((aA dc).length:Nat):Int))),(35,(pI (i:Int))),(36,(pB (decide ((i:Int)<(((aA dc).length:Nat):Int)))))],[some (vB0 dl (aA sk) (aA dc)),some (.box 33 [(.p aW)]),some vB2,some (.mp te tk),some (.box 207 [(.mp 3)]),some (vB5 dl (aA sk) (aA dc)),some vB6,some vB2,some (.box 44 [(pI y100),(pI y101),(pI y102),(pI y103),(pI y104),(pI y105)]),some (.row 3 on oc),some (.box 44 [(pI y0),(pI y1),(pI y2),(pI y3),(pI y4),(pI y5)])]⟩
theorem aXg{bib:Int}{o:List Int}{i:Nat}{t:Lqb}{y100 y101 y102 y103 y104 y105:Int}{b106:Bool}{T107:Lqb}{i':Nat}{t':Lqb}(h0:(i:Int)<(((aA dc).length:Nat):Int))(h1:(aA dc)[i]? = some [y100,y101,y102,y103,y104,y105])(h2:uni 6 (aA dc))(h3:uK dl (aA sk) (aA dc) aW [y100,y101,y102,y103,y104,y105] bib b106 t T107)(h4:b106=false)(h5:inR (((i+1):Nat):Int))(ei':i'=(i+1))(et'e:aF t'=(aF T107))(et'k:t'.length=T107.length):aC Tp 0 rL (fP dl sk dc bib o.length (o.map aB) i (aF t) t.length) .normal (fP dl sk dc bib o.length (o.map aB) i' (aF t') t'.length):=by
 subst ei';have raw:aC Tp 0 rL (fP dl sk dc bib o.length (o.map aB) i (aF t) t.length) .normal (fP dl sk dc bib o.length (o.map aB) (i+1) (aF T107) T107.length):=aC.fin (g:=⟨(rng [(0,1),(2,2),(6,3),(11,22),(36,50),(87,1)]),[0,1,2,3,4,5,6,7,8],[],[]⟩) (o:=[bT,.x (dcE y100 y101 y102 y103 y104 y105),.c (pB b106) (vU dl (aA sk) (aA dc) aW T107),bT]) (l:=[_,_,FC Tp 136 [fG,(.p (dcE y100 y101 y102 y103 y104 y105)),(pI bib)] [(4,(.box 207 [(.mp 3)])),(5,(vB5 dl (aA sk) (aA dc))),(0,(vB0 dl (aA sk) (aA dc))),(2,vB2),(6,vB6),(1,(.box 33 [(.p aW)])),(3,(.mp (aF t) t.length))] 10 (pB b106) (vU dl (aA sk) (aA dc) aW T107),_,_,0≤(i:Int)∧(i:Int)<(((aA dc).length:Nat):Int)∧(i*6)<((aA dc).flatten.map aB).length,_]) (by kernel_rfl) (gc h5 (gc (cP h4) (gc (FMM.fc (ids:=[0,1,2,3,4,5,6]) h3 (by kernel_rfl)) (gc (aT (i:=i) h2 h1) (gc (bI (i:=i) h2 h1) (gc (bO (k:=6) (i:=(i:Int)) (by decide) h2 (kQ2 _) h1) (gc (bA h0) gn)))))))
 exact raw.cast (by rw [et'e,et'k])
theorem aXh{bib:Int}{o:List Int}{i:Nat}{t:Lqb}{y100 y101 y102 y103 y104 y105:Int}{b106:Bool}{T107:Lqb}{z108 z109 z110 z111 z112 z113:Int}{b114:Bool}{T115:Lqb}{z116 z117 z118 z119 z120 z121:Int}{b122:Bool}{T123:Lqb}{o'124:List Int}{y0'125 y1'126 y2'127 y3'128 y4'129 y5'130:Int}{is'131:Bool}{t'132:Lqb}{o':List Int}{i':Nat}{t':Lqb}(h0:(i:Int)<(((aA dc).length:Nat):Int))(h1:(aA dc)[i]? = some [y100,y101,y102,y103,y104,y105])(h2:uni 6 (aA dc))(h3:uK dl (aA sk) (aA dc) aW [y100,y101,y102,y103,y104,y105] bib b106 t T107)(h4:b106=true)(h5:[(aB y100)].length=1*1∧o.length+1≤1000000)(h6:y101=4)(h7:aIl dl (aA sk) (aA dc) aW [y100,y101,y102,y103,y104,y105] [z108,z109,z110,z111,z112,z113] b114 T107 T115)(h8:[(aB z108)].length=1*1∧(o.length+1)+1≤1000000)(h9:aLy dl (aA sk) (aA dc) aW [y100,y101,y102,y103,y104,y105] [z116,z117,z118,z119,z120,z121] b122 T115 T123)(hl10:aI Tp 0 aCc (iM dl sk dc bib i y100 y101 y102 y103 y104 y105 ((o.length+1)+1) (((o.map aB)++[(aB y100)])++[(aB z108)]) z116 z117 z118 z119 z120 z121 b122 (aF T123) T123.length) (.exit 2) (iM dl sk dc bib i y100 y101 y102 y103 y104 y105 o'124.length (o'124.map aB) y0'125 y1'126 y2'127 y3'128 y4'129 y5'130 is'131 (aF t'132) t'132.length))(h11:inR (((i+1):Nat):Int))(eo'n:o'.length=o'124.length)(eo'c:o'.map aB=(o'124.map aB))(ei':i'=(i+1))(et'e:aF t'=(aF t'132))(et'k:t'.length=t'132.length):aC Tp 0 rL (fP dl sk dc bib o.length (o.map aB) i (aF t) t.length) .normal (fP dl sk dc bib o'.length (o'.map aB) i' (aF t') t'.length):=by
 subst ei'
 have raw:aC Tp 0 rL (fP dl sk dc bib o.length (o.map aB) i (aF t) t.length) .normal (fP dl sk dc bib o'124.length (o'124.map aB) (i+1) (aF t'132) t'132.length):=aC.fin (g:=⟨(rng [(0,1),(2,2),(6,3),(11,22),(36,50),(87,1)]),[0,1,2,3,4,5,6,7,9],[],[]⟩) (o:=[bT,.x (dcE y100 y101 y102 y103 y104 y105),.c (pB b106) (vU dl (aA sk) (aA dc) aW T107),bF,bT,.c (.tup [(.p (dcE z108 z109 z110 z111 z112 z113)),(pB b114)]) (vU dl (aA sk) (aA dc) aW T115),.c (.tup [(.p (dcE z116 z117 z118 z119 z120 z121)),(pB b122)]) (vU dl (aA sk) (aA dc) aW T123),.k 1 ⟨(rng [(0,1),(2,2),(6,3),(11,1),(13,2),(17,16),(37,48),(87,1)]),[0,1,2,3,4,5,6,7,9,14,15],[],[]⟩ (.exit 2) (iM dl sk dc bib i y100 y101 y102 y103 y104 y105 o'124.length (o'124.map aB) y0'125 y1'126 y2'127 y3'128 y4'129 y5'130 is'131 (aF t'132) t'132.length)]) (l:=[_,_,FC Tp 158 [(.p (dcE y100 y101 y102 y103 y104 y105)),(.ptr 6 0)] [(6,vB6),(0,(vB0 dl (aA sk) (aA dc))),(2,vB2),(4,(.box 207 [(.mp 3)])),(5,(vB5 dl (aA sk) (aA dc))),(1,(.box 33 [(.p aW)])),(3,(.mp (aF T115) T115.length))] 15 (.tup [(.p (dcE z116 z117 z118 z119 z120 z121)),(pB b122)]) (vU dl (aA sk) (aA dc) aW T123),_,FC Tp 156 [(.p (dcE y100 y101 y102 y103 y104 y105)),(.ptr 6 0)] [(6,vB6),(0,(vB0 dl (aA sk) (aA dc))),(2,vB2),(4,(.box 207 [(.mp 3)])),(5,(vB5 dl (aA sk) (aA dc))),(1,(.box 33 [(.p aW)])),(3,(.mp (aF T107) T107.length))] 12 (.tup [(.p (dcE z108 z109 z110 z111 z112 z113)),(pB b114)]) (vU dl (aA sk) (aA dc) aW T115),_,_,_,FC Tp 136 [fG,(.p (dcE y100 y101 y102 y103 y104 y105)),(pI bib)] [(4,(.box 207 [(.mp 3)])),(5,(vB5 dl (aA sk) (aA dc))),(0,(vB0 dl (aA sk) (aA dc))),(2,vB2),(6,vB6),(1,(.box 33 [(.p aW)])),(3,(.mp (aF t) t.length))] 10 (pB b106) (vU dl (aA sk) (aA dc) aW T107),_,_,0≤(i:Int)∧(i:Int)<(((aA dc).length:Nat):Int)∧(i*6)<((aA dc).flatten.map aB).length,_]) (by kernel_rfl) (gc h11 (gc hl10.code (gc (FMM.fc (ids:=[0,1,2,3,4,5,6]) h9 (by kernel_rfl)) (gc h8 (gc (FMM.fc (ids:=[0,1,2,3,4,5,6]) h7 (by kernel_rfl)) (gc (dR h6) (gc h5 (gc (aR h4) (gc (FMM.fc (ids:=[0,1,2,3,4,5,6]) h3 (by kernel_rfl)) (gc (aT (i:=i) h2 h1) (gc (bI (i:=i) h2 h1) (gc (bO (k:=6) (i:=(i:Int)) (by decide) h2 (kQ2 _) h1) (gc (bA h0) gn)))))))))))))
 exact raw.cast (by rw [eo'n,eo'c,et'e,et'k])
theorem aXi{bib:Int}{o:List Int}{i:Nat}{t:Lqb}{y100 y101 y102 y103 y104 y105:Int}{b106:Bool}{T107:Lqb}{z108 z109 z110 z111 z112 z113:Int}{b114:Bool}{T115:Lqb}{o'116:List Int}{y0'117 y1'118 y2'119 y3'120 y4'121 y5'122:Int}{is'123:Bool}{t'124:Lqb}{o':List Int}{i':Nat}{t':Lqb}(h0:(i:Int)<(((aA dc).length:Nat):Int))(h1:(aA dc)[i]? = some [y100,y101,y102,y103,y104,y105])(h2:uni 6 (aA dc))(h3:uK dl (aA sk) (aA dc) aW [y100,y101,y102,y103,y104,y105] bib b106 t T107)(h4:b106=true)(h5:[(aB y100)].length=1*1∧o.length+1≤1000000)(h6:y101≠4)(h7:aLy dl (aA sk) (aA dc) aW [y100,y101,y102,y103,y104,y105] [z108,z109,z110,z111,z112,z113] b114 T107 T115)(hl8:aI Tp 0 aCc (iM dl sk dc bib i y100 y101 y102 y103 y104 y105 (o.length+1) ((o.map aB)++[(aB y100)]) z108 z109 z110 z111 z112 z113 b114 (aF T115) T115.length) (.exit 2) (iM dl sk dc bib i y100 y101 y102 y103 y104 y105 o'116.length (o'116.map aB) y0'117 y1'118 y2'119 y3'120 y4'121 y5'122 is'123 (aF t'124) t'124.length))(h9:inR (((i+1):Nat):Int))(eo'n:o'.length=o'116.length)(eo'c:o'.map aB=(o'116.map aB))(ei':i'=(i+1))(et'e:aF t'=(aF t'124))(et'k:t'.length=t'124.length):aC Tp 0 rL (fP dl sk dc bib o.length (o.map aB) i (aF t) t.length) .normal (fP dl sk dc bib o'.length (o'.map aB) i' (aF t') t'.length):=by
 subst ei';have raw:aC Tp 0 rL (fP dl sk dc bib o.length (o.map aB) i (aF t) t.length) .normal (fP dl sk dc bib o'116.length (o'116.map aB) (i+1) (aF t'124) t'124.length):=aC.fin (g:=⟨(rng [(0,1),(2,2),(6,3),(11,22),(36,50),(87,1)]),[0,1,2,3,4,5,6,7,9],[],[]⟩) (o:=[bT,.x (dcE y100 y101 y102 y103 y104 y105),.c (pB b106) (vU dl (aA sk) (aA dc) aW T107),bF,bF,.c (.tup [(.p (dcE z108 z109 z110 z111 z112 z113)),(pB b114)]) (vU dl (aA sk) (aA dc) aW T115),.k 1 ⟨(rng [(0,1),(2,2),(6,3),(11,1),(13,2),(17,16),(37,48),(87,1)]),[0,1,2,3,4,5,6,7,9,11,12],[],[]⟩ (.exit 2) (iM dl sk dc bib i y100 y101 y102 y103 y104 y105 o'116.length (o'116.map aB) y0'117 y1'118 y2'119 y3'120 y4'121 y5'122 is'123 (aF t'124) t'124.length)]) (l:=[_,_,FC Tp 158 [(.p (dcE y100 y101 y102 y103 y104 y105)),(.ptr 6 0)] [(6,vB6),(0,(vB0 dl (aA sk) (aA dc))),(2,vB2),(4,(.box 207 [(.mp 3)])),(5,(vB5 dl (aA sk) (aA dc))),(1,(.box 33 [(.p aW)])),(3,(.mp (aF T107) T107.length))] 12 (.tup [(.p (dcE z108 z109 z110 z111 z112 z113)),(pB b114)]) (vU dl (aA sk) (aA dc) aW T115),_,_,_,FC Tp 136 [fG,(.p (dcE y100 y101 y102 y103 y104 y105)),(pI bib)] [(4,(.box 207 [(.mp 3)])),(5,(vB5 dl (aA sk) (aA dc))),(0,(vB0 dl (aA sk) (aA dc))),(2,vB2),(6,vB6),(1,(.box 33 [(.p aW)])),(3,(.mp (aF t) t.length))] 10 (pB b106) (vU dl (aA sk) (aA dc) aW T107),_,_,0≤(i:Int)∧(i:Int)<(((aA dc).length:Nat):Int)∧(i*6)<((aA dc).flatten.map aB).length,_]) (by kernel_rfl) (gc h9 (gc hl8.code (gc (FMM.fc (ids:=[0,1,2,3,4,5,6]) h7 (by kernel_rfl)) (gc (bJ h6) (gc h5 (gc (aR h4) (gc (FMM.fc (ids:=[0,1,2,3,4,5,6]) h3 (by kernel_rfl)) (gc (aT (i:=i) h2 h1) (gc (bI (i:=i) h2 h1) (gc (bO (k:=6) (i:=(i:Int)) (by decide) h2 (kQ2 _) h1) (gc (bA h0) gn)))))))))))
 exact raw.cast (by rw [eo'n,eo'c,et'e,et'k])
theorem aXj{bib:Int}{o:List Int}{i:Nat}{t:Lqb}(h0:(((aA dc).length:Nat):Int)≤(i:Int)):aC Tp 0 rL (fP dl sk dc bib o.length (o.map aB) i (aF t) t.length) (.exit 0) (fP dl sk dc bib o.length (o.map aB) i (aF t) t.length):=by
 exact aC.fin (g:=⟨(rng [(0,1),(2,2),(6,3),(11,22),(36,50),(87,1)]),[0,1,2,3,4,5,6,7,8],[],[]⟩) (o:=[bF]) (l:=[_]) (by kernel_rfl) (gc (bL h0) gn)
theorem aXk{bib:Int}{i:Nat}{y100 y101 y102 y103 y104 y105:Int}{o:List Int}{y0 y1 y2 y3 y4 y5:Int}{is:Bool}{t:Lqb}{z200 z201 z202 z203 z204 z205:Int}{b206:Bool}{T207:Lqb}{o':List Int}{t':Lqb}(h0:is=true)(h1:[(aB y0)].length=1*1∧o.length+1≤1000000)(h2:aLy dl (aA sk) (aA dc) aW [y0,y1,y2,y3,y4,y5] [z200,z201,z202,z203,z204,z205] b206 t T207)(eo'n:o'.length=(o.length+1))(eo'c:o'.map aB=((o.map aB)++[(aB y0)]))(et'e:aF t'=(aF T207))(et'k:t'.length=T207.length):aC Tp 0 aCc (iM dl sk dc bib i y100 y101 y102 y103 y104 y105 o.length (o.map aB) y0 y1 y2 y3 y4 y5 is (aF t) t.length) .normal (iM dl sk dc bib i y100 y101 y102 y103 y104 y105 o'.length (o'.map aB) z200 z201 z202 z203 z204 z205 b206 (aF t') t'.length):=by
 have raw:aC Tp 0 aCc (iM dl sk dc bib i y100 y101 y102 y103 y104 y105 o.length (o.map aB) y0 y1 y2 y3 y4 y5 is (aF t) t.length) .normal (iM dl sk dc bib i y100 y101 y102 y103 y104 y105 (o.length+1) ((o.map aB)++[(aB y0)]) z200 z201 z202 z203 z204 z205 b206 (aF T207) T207.length):=aC.fin (g:=⟨(rng [(0,1),(2,2),(6,3),(11,1),(13,2),(17,16),(37,48),(87,1)]),[0,1,2,3,4,5,6,7,8,12,13],[],[]⟩) (o:=[bT,.c (.tup [(.p (dcE z200 z201 z202 z203 z204 z205)),(pB b206)]) (vU dl (aA sk) (aA dc) aW T207)]) (l:=[FC Tp 158 [(.p (dcE y0 y1 y2 y3 y4 y5)),(.ptr 6 0)] [(6,vB6),(0,(vB0 dl (aA sk) (aA dc))),(2,vB2),(4,(.box 207 [(.mp 3)])),(5,(vB5 dl (aA sk) (aA dc))),(1,(.box 33 [(.p aW)])),(3,(.mp (aF t) t.length))] 14 (.tup [(.p (dcE z200 z201 z202 z203 z204 z205)),(pB b206)]) (vU dl (aA sk) (aA dc) aW T207),_,_]) (by kernel_rfl) (gc (FMM.fc (ids:=[0,1,2,3,4,5,6]) h2 (by kernel_rfl)) (gc h1 (gc h0 gn)))
 exact raw.cast (by rw [eo'n,eo'c,et'e,et'k])
theorem aFx{bib:Int}{i:Nat}{y100 y101 y102 y103 y104 y105:Int}{o:List Int}{y0 y1 y2 y3 y4 y5:Int}{is:Bool}{t:Lqb}(h0:is=false):aC Tp 0 aCc (iM dl sk dc bib i y100 y101 y102 y103 y104 y105 o.length (o.map aB) y0 y1 y2 y3 y4 y5 is (aF t) t.length) (.exit 2) (iM dl sk dc bib i y100 y101 y102 y103 y104 y105 o.length (o.map aB) y0 y1 y2 y3 y4 y5 is (aF t) t.length):=by
 exact aC.fin (g:=⟨(rng [(0,1),(2,2),(6,3),(11,1),(13,2),(17,16),(37,48),(87,1)]),[0,1,2,3,4,5,6,7,8,9,10],[],[]⟩) (o:=[bF]) (l:=[_]) (by kernel_rfl) (gc h0 gn)
end
section
def chN(dl:Int)(dc:Lqq):Nat→List Int→List Int
 | 0,_=>[]
 | k+1,x=>match iU dl [] dc x with
  | some y=>dN y::chN dl dc k y
  | none=>[]
def oJ(dl:Int)(dc:Lqq)(x:List Int):List Int:=dN x::((if dK x=4 then [dN ((pW dl [] dc x).getD zero6)] else [])++chN dl dc 10000 x)
def aPb(dl:Int)(dc:Lqq)(bib:Int)(o:List Int)(x:List Int):List Int:=if mK dl [] dc bib x then o++oJ dl dc x else o
def bEr(dl:Int)(dc:Lqq)(bib:Int):List Int:=dc.foldl (aPb dl dc bib) []
def cV(dl:Int)(dc:Lqq)(bib:Int):List Int:=(bEr dl dc bib).mergeSort KL.leB
section
variable {dl:Int} {sk dc:Lqq}
theorem pQ{oc:List Int}{D:Lqq}(hd:bH D){x z:List Int}(hx:x∈D)(h:iU dl oc D x=some z):z∈D∧dN x<dN z∧dK z=6∧dAb z=dN x∧bV dl oc D z=true:=by
 rw [rR hd hx] at h
 have h1:=qJ h;have h2:=aEh h;rw [kQ6] at h2
 obtain ⟨a1,a2⟩:=mL hd hx h1;exact ⟨a1,a2,by simpa using h2.1,(dC h1).2,h2.2⟩
theorem aTi{D:Lqq}(hd:bH D):∀ (k:Nat) (x:List Int),x∈D→((chN dl D k x).length:Int)≤9999-dN x
 | 0,x,hx=>by
  have:=cD hd hx;show ((0:Nat):Int)≤9999-dN x;omega
 | k+1,x,hx=>by
  unfold chN;cases hc:iU dl [] D x with
  | none =>
   have:=cD hd hx;show ((0:Nat):Int)≤9999-dN x;omega
  | some y =>
   obtain ⟨h1,h2,_⟩:=pQ hd hx hc;have:=aTi hd k y h1;dsimp only;rw [sW];omega
theorem aFw(hd:bH (aA dc)){bib:Int}{i:Nat}{y100 y101 y102 y103 y104 y105:Int}:∀ (k:Nat) (y:List Int),y∈aA dc→10000-dN y≤(k:Int)→∀ (o:List Int) (T:Lqb),bW dl [] (aA dc) T→(o.length:Int)+(10000-dN y)≤900000→∀ {y0 y1 y2 y3 y4 y5:Int},y=[y0,y1,y2,y3,y4,y5] →
  ∃ T' z0 z1 z2 z3 z4 z5,bW dl [] (aA dc) T'∧aI Tp 0 (sub (cd Tryz.f64) [1,1,1,1,1,0,1,0,0,1,1,0,0,1,1,1,1,1,0,0]) (iM dl sk dc bib i y100 y101 y102 y103 y104 y105 o.length (o.map aB) y0 y1 y2 y3 y4 y5 true (aF T) T.length) (.exit 2)
   (iM dl sk dc bib i y100 y101 y102 y103 y104 y105 (o++dN y::chN dl (aA dc) k y).length ((o++dN y::chN dl (aA dc) k y).map aB) z0 z1 z2 z3 z4 z5 false (aF T') T'.length)
 | 0,y,hy,hk=>by have:=cD hd hy;omega
 | k+1,y,hy,hk=>fun o T hT hl y0 y1 y2 y3 y4 y5 e=>by
  subst e;have hrg:=cD hd hy;obtain ⟨T',z0,z1,z2,z3,z4,z5,hT',hz,hC⟩:=aTr (sk:=aA sk) (ov:=aW) hd iY hy hT;have hst:=aXk (dl:=dl) (sk:=sk) (dc:=dc) (bib:=bib) (i:=i) (y100:=y100) (y101:=y101) (y102:=y102) (y103:=y103) (y104:=y104) (y105:=y105) (o:=o) (o':=o++[y0]) (t':=T') rfl ⟨rfl,by omega⟩ hC (by simp) (by simp) rfl rfl
  cases hc:iU dl [] (aA dc) [y0,y1,y2,y3,y4,y5] with
  | none =>
   rw [hc] at hst
   have ec:chN dl (aA dc) (k+1) [y0,y1,y2,y3,y4,y5]=[]:=by unfold chN;rw [hc]
   rw [ec];exact ⟨T',z0,z1,z2,z3,z4,z5,hT',.step hst (.exit (aFx rfl) (by simp))⟩
  | some z =>
   rw [hc] at hst hz
   obtain ⟨h1,h2,_⟩:=pQ hd hy hc;have h2:y0<dN z:=h2;have ez:z=[z0,z1,z2,z3,z4,z5]:=hz;obtain ⟨T2,w0,w1,w2,w3,w4,w5,hT2,hL⟩:=aFw hd (bib:=bib) (i:=i) (y100:=y100) (y101:=y101) (y102:=y102) (y103:=y103) (y104:=y104) (y105:=y105) k z h1 (by have:dN [y0,y1,y2,y3,y4,y5]=y0:=rfl;omega) (o++[y0]) T' hT' (by
    rw [lF,List.length_singleton];have:dN [y0,y1,y2,y3,y4,y5]=y0:=rfl;omega) ez
   have ec:chN dl (aA dc) (k+1) [y0,y1,y2,y3,y4,y5]=dN z::chN dl (aA dc) k z:=by
    conv=>lhs;unfold chN
    rw [hc]
   rw [ec];have eo:o++dN [y0,y1,y2,y3,y4,y5]::dN z::chN dl (aA dc) k z=(o++[y0])++dN z::chN dl (aA dc) k z:=by
    rw [List.append_assoc];rfl
   rw [eo];exact ⟨T2,w0,w1,w2,w3,w4,w5,hT2,.step hst hL⟩
theorem bEs(hd:bH (aA dc)){bib:Int}{i:Nat}{x0 x1 x2 x3 x4 x5:Int}(hx:[x0,x1,x2,x3,x4,x5]∈aA dc)(o:List Int)(T:Lqb)(hT:bW dl [] (aA dc) T)(hl:o.length≤800000) :
  ∃ z0 z1 z2 z3 z4 z5 T1 T' w0 w1 w2 w3 w4 w5,aLy dl (aA sk) (aA dc) aW [x0,x1,x2,x3,x4,x5] [z0,z1,z2,z3,z4,z5] (iU dl [] (aA dc) [x0,x1,x2,x3,x4,x5]).isSome T T1∧bW dl [] (aA dc) T' ∧
   aI Tp 0 (sub (cd Tryz.f64) [1,1,1,1,1,0,1,0,0,1,1,0,0,1,1,1,1,1,0,0]) (iM dl sk dc bib i x0 x1 x2 x3 x4 x5 o.length (o.map aB) z0 z1 z2 z3 z4 z5 (iU dl [] (aA dc) [x0,x1,x2,x3,x4,x5]).isSome (aF T1) T1.length) (.exit 2)
   (iM dl sk dc bib i x0 x1 x2 x3 x4 x5 (o++chN dl (aA dc) 10000 [x0,x1,x2,x3,x4,x5]).length ((o++chN dl (aA dc) 10000 [x0,x1,x2,x3,x4,x5]).map aB) w0 w1 w2 w3 w4 w5 false (aF T') T'.length):=by
 obtain ⟨T1,z0,z1,z2,z3,z4,z5,hT1,hz,hC⟩:=aTr (sk:=aA sk) (ov:=aW) hd iY hx hT;refine ⟨z0,z1,z2,z3,z4,z5,T1,?_⟩;cases hc:iU dl [] (aA dc) [x0,x1,x2,x3,x4,x5] with
 | none =>
  have ec:chN dl (aA dc) 10000 [x0,x1,x2,x3,x4,x5]=[]:=by
   show chN dl (aA dc) (9999+1) _=_;unfold chN;rw [hc]
  rw [hc] at hC
  rw [ec,List.append_nil];exact ⟨T1,z0,z1,z2,z3,z4,z5,hC,hT1,.exit (aFx rfl) (by simp)⟩
 | some z =>
  rw [hc] at hz hC
  obtain ⟨h1,h2,_⟩:=pQ hd hx hc;have hrg:=cD hd hx;obtain ⟨T2,w0,w1,w2,w3,w4,w5,hT2,hL⟩:=aFw (sk:=sk) hd (bib:=bib) (i:=i) (y100:=x0) (y101:=x1) (y102:=x2) (y103:=x3) (y104:=x4) (y105:=x5) 9999 z h1 (by omega) o T1 hT1 (by omega) (show z=[z0,z1,z2,z3,z4,z5] from hz)
  have ec:chN dl (aA dc) 10000 [x0,x1,x2,x3,x4,x5]=dN z::chN dl (aA dc) 9999 z:=by
   show chN dl (aA dc) (9999+1) _=_
   conv=>lhs;unfold chN
   rw [hc]
  rw [ec];exact ⟨T2,w0,w1,w2,w3,w4,w5,hC,hT2,hL⟩
theorem bEt(hd:bH (aA dc)){x:List Int}(hx:x∈aA dc):(oJ dl (aA dc) x).length≤10001:=by
 have h1:=aTi (dl:=dl) hd 10000 x hx;have h2:=cD hd hx;unfold oJ;rw [sW,lF]
 split
 ·rw [List.length_singleton];omega
 ·rw [List.length_nil];omega
theorem bQb(h:bK dl sk dc){bib:Int}{i:Nat}{s0 s1:Int}(hp:iH (aA sk) bib=(i:Int))(hs:(aA sk)[i]? = some [s0,s1]){base:Nat}:FV Tp 64 [.p (.agg (bU dl sk dc)),.p (aB bib)] base (.tup [.p (aG (cV dl (aA dc) bib)),.p (aB 0)]) []:=by
 have hd:=dL h;have hl2:(aA dc).length≤40:=by rw [eT];exact h.len2
 obtain ⟨⟨o,T⟩,⟨hT,ho,hol⟩,hL⟩:=aI.ex (P:=Tp) (k:=0) (b:=sub (cd Tryz.f64) [1,1,1,1,1,0,1,0,0]) (e := .exit 0)
  (fun i (a:List Int × Lqb)=>fP dl sk dc bib a.1.length (a.1.map aB) i (aF a.2) a.2.length) (fun a=>fP dl sk dc bib a.1.length (a.1.map aB) (aA dc).length (aF a.2) a.2.length)
  (fun i a=>bW dl [] (aA dc) a.2∧a.1=((aA dc).take i).foldl (aPb dl (aA dc) bib) []∧a.1.length≤10001*i) (by simp) (aA dc).length
  (fun i a hi hI=>by
   obtain ⟨o,T⟩:=a;obtain ⟨hT,ho,hol⟩:=hI;dsimp only at hT ho hol
   have hm:=gO hi;obtain ⟨a,k,c,d,e,f,hy⟩:=len6 (hd.ud _ hm);have hx:(aA dc)[i]? = some [a,k,c,d,e,f]:=by rw [kQ0 hi,hy]
   rw [hy] at hm
   have et:((aA dc).take (i+1)).foldl (aPb dl (aA dc) bib) []=aPb dl (aA dc) bib o [a,k,c,d,e,f]:=by
    rw [List.take_add_one,hx,aEg,← ho];rfl
   have hXl:=bEt (dl:=dl) hd hm;obtain ⟨T2,q1,q2⟩:=bXp (sk:=aA sk) (ov:=aW) hd iY bib hm hT;rw [et];unfold aPb;cases hh:mK dl [] (aA dc) bib [a,k,c,d,e,f] with
   | false =>
    rw [hh] at q2
    exact ⟨(o,T2),⟨q1,rfl,by dsimp only;omega⟩,aXg (by omega) hx hd.ud q2 rfl (aO (by omega)) rfl rfl rfl⟩
   | true =>
    rw [hh] at q2
    rw [if_pos rfl]
    by_cases h4:k=4
    ·obtain ⟨T3,z0,z1,z2,z3,z4,z5,hT3,hz,hC⟩:=aTq (sk:=aA sk) (ov:=aW) hd iY hm q1
     obtain ⟨v0,v1,v2,v3,v4,v5,T4,T5,w0,w1,w2,w3,w4,w5,hC2,hT5,hl⟩:=bEs (sk:=sk) hd (bib:=bib) (i:=i) hm (o++[a,z0]) T3 hT3 (by simp;omega)
     have eX:o++oJ dl (aA dc) [a,k,c,d,e,f]=(o++[a,z0])++chN dl (aA dc) 10000 [a,k,c,d,e,f]:=by
      unfold oJ;rw [if_pos (show dK [a,k,c,d,e,f]=4 from h4),hz]
      simp [dN]
     have e1:(o++[a,z0]).length=o.length+1+1:=by simp
     have e2:(o++[a,z0]).map aB=(o.map aB++[aB a])++[aB z0]:=by simp
     rw [e1,e2] at hl
     refine ⟨(o++oJ dl (aA dc) [a,k,c,d,e,f],T5),⟨hT5,rfl,by dsimp only;rw [lF];omega⟩,?_⟩
     rw [eX];exact aXh (by omega) hx hd.ud q2 rfl ⟨rfl,by show o.length+1≤1000000;omega⟩ h4 hC ⟨rfl,by show o.length+1+1≤1000000;omega⟩ hC2 hl (aO (by omega)) rfl rfl rfl rfl rfl
    ·obtain ⟨v0,v1,v2,v3,v4,v5,T4,T5,w0,w1,w2,w3,w4,w5,hC2,hT5,hl⟩:=bEs (sk:=sk) hd (bib:=bib) (i:=i) hm (o++[a]) T2 q1 (by simp;omega)
     have eX:o++oJ dl (aA dc) [a,k,c,d,e,f]=(o++[a])++chN dl (aA dc) 10000 [a,k,c,d,e,f]:=by
      unfold oJ;rw [if_neg (show ¬ dK [a,k,c,d,e,f]=4 from h4)]
      simp [dN]
     have e1:(o++[a]).length=o.length+1:=by simp
     have e2:(o++[a]).map aB=o.map aB++[aB a]:=by simp
     rw [e1,e2] at hl
     refine ⟨(o++oJ dl (aA dc) [a,k,c,d,e,f],T5),⟨hT5,rfl,by dsimp only;rw [lF];omega⟩,?_⟩
     rw [eX];exact aXi (by omega) hx hd.ud q2 rfl ⟨rfl,by show o.length+1≤1000000;omega⟩ h4 hC2 hl (aO (by omega)) rfl rfl rfl rfl rfl)
  (fun a _=>aXj (by omega)) (acc:=([],[])) ⟨bW.nil,by simp,by simp⟩
 dsimp only at hT ho hol
 rw [List.take_length] at ho
 have:=bQc h hp hs hL (by show o.length≤1000000;omega) (base:=base)
 unfold cV bEr;rw [← ho];exact this
end
end
section

end
section
end
section

end
section
structure aEo (p:List Int→Bool) (l:Lqq) (j:Nat) (x:Lqq × Nat):Prop where
 len:x.1.length=l.length
 le:x.2<j
 kept:x.1.take x.2=(l.take j).filter fun n => !p n
 rest:x.1.drop j=l.drop j
theorem aEo.skip{p:List Int→Bool}{l:Lqq}{j:Nat}{x:Lqq × Nat}(h:aEo p l j x)(hj:j<l.length){n:List Int}(hn:x.1[j]? = some n)(hp:p n=true):aEo p l (j+1) x:=by
 have hl:l[j]? = some n:=by
  have:=congrArg (·[0]?) h.rest
  simp only [List.getElem?_drop,Nat.add_zero] at this
  rw [← this];exact hn
 refine ⟨h.len,by have:=h.le;omega,?_,?_⟩
 ·rw [h.kept,List.take_add_one,hl]
  simp [rH,hp]
 ·rw [← List.drop_drop,h.rest,List.drop_drop]
theorem aEo.keep{p:List Int→Bool}{l:Lqq}{j:Nat}{x:Lqq × Nat}(h:aEo p l j x)(hj:j<l.length){n:List Int}(hn:x.1[j]? = some n)(hp:p n=false):aEo p l (j+1) (x.1.set x.2 n,x.2+1):=by
 have hl:l[j]? = some n:=by
  have:=congrArg (·[0]?) h.rest
  simp only [List.getElem?_drop,Nat.add_zero] at this
  rw [← this];exact hn
 have hle:=h.le;have hlen:=h.len;refine ⟨by simp [h.len],by simpa using hle,?_,?_⟩
 ·show (x.1.set x.2 n).take (x.2+1)=_
  rw [List.take_add_one,List.take_set_of_le (dW _),h.kept,bEk (by omega),List.take_add_one,hl]
  simp [rH,hp]
 ·show (x.1.set x.2 n).drop (j+1)=_
  rw [List.drop_set_of_lt (by omega),← List.drop_drop,h.rest,List.drop_drop]
theorem aEo.start{p:List Int→Bool}{l:Lqq}{i:Nat}{n:List Int}(hi:l[i]? = some n)(hp:p n=true)(hb:∀ m∈l.take i,p m=false):aEo p l (i+1) (l,i):=by
 refine ⟨rfl,Nat.lt_succ_self _,?_,rfl⟩;show l.take i=_;rw [List.take_add_one,hi];simp only [rH];rw [List.filter_eq_self.2 fun m hm=>by simp [hb m hm]]
 simp [hp]
theorem aJl{p:List Int→Bool}{l:Lqq}{i:Nat}(h:l.findIdx? p=some i):∀ m∈l.take i,p m=false:=fun m hm=>by
 obtain ⟨hi,h1,h2⟩:=List.findIdx?_eq_some_iff_getElem.1 h;obtain ⟨j,hj,rfl⟩:=List.getElem_of_mem hm;rw [List.getElem_take];rw [lQ] at hj
 have:=h2 j (by omega)
 simpa using this
end
section

noncomputable abbrev yB:Code:=sub (cd Tryz.f129) [1,0,1,0,0]
noncomputable abbrev aDm:Code:=sub (cd Tryz.f77) [1,0,1,0,0]
noncomputable abbrev aDn:Code:=sub (cd Tryz.f124) [1,1,1,0,1,0,0]
theorem bOn{n dl:Int}{sk dc:Lqq}{y0 y1 y2 y3 y4 y5:Int}(h0:cI .i64 (atF dc.reverse) (.int .i64 n))(h1:(dO (atF dc.reverse) (.int .i64 n))=true)(h2:eZ (atF dc.reverse) (.int .i64 n)=some (dcE y0 y1 y2 y3 y4 y5)){base:Nat}:FV Tp 137 [(pI n),(.rp [(PV.rp (aE dl sk dc) 0)] 0)] base (pB true) []:=by
 exact FV.fin Tryz.func137 rfl (o:=[.x (PV.rp (aE dl sk dc) 0),.x (.mp (atF dc.reverse)),bT,.x (dcE y0 y1 y2 y3 y4 y5)]) (l:=[_,_,_,(aE dl sk dc)[3]? = some (.mp (atF dc.reverse)),[(PV.rp (aE dl sk dc) 0)][0]? = some (PV.rp (aE dl sk dc) 0)]) (by kernel_rfl) (gc h2 (gc h1 (gc h0 (gc rfl (gc rfl gn)))))
theorem bOo{n dl:Int}{sk dc:Lqq}(h0:cI .i64 (atF dc.reverse) (.int .i64 n))(h1:(dO (atF dc.reverse) (.int .i64 n))=false){base:Nat}:FV Tp 137 [(pI n),(.rp [(PV.rp (aE dl sk dc) 0)] 0)] base (pB false) []:=by
 exact FV.fin Tryz.func137 rfl (o:=[.x (PV.rp (aE dl sk dc) 0),.x (.mp (atF dc.reverse)),bF]) (l:=[_,_,(aE dl sk dc)[3]? = some (.mp (atF dc.reverse)),[(PV.rp (aE dl sk dc) 0)][0]? = some (PV.rp (aE dl sk dc) 0)]) (by kernel_rfl) (gc h1 (gc h0 (gc rfl (gc rfl gn))))
def atB(dc:Lqq)(n:Int):Bool:=dc.any fun x=>dN x == n
theorem bOp(n dl:Int)(sk dc:Lqq)(h:bH dc∧inR n){base:Nat}:FV Tp 137 [.p (aB n),.rp [aUh dl sk dc] 0] base (pB (atB dc n)) []:=by
 cases hb:atB dc n with
 | true =>
  obtain ⟨x,hx,e⟩:=List.any_eq_true.1 hb;have e:dN x=n:=by simpa using e
  obtain ⟨q1,q2⟩:=aCx h.1 hx;obtain ⟨a,b,c,d,e5,f,rfl⟩:=len6 (h.1.ud x hx);have e:a=n:=e;subst e;exact bOn (lU h.1 h.2) q1 q2
 | false =>
  have:=List.any_eq_false.1 hb;exact bOo (lU h.1 h.2) (zZ h.1 fun x hx=>by simpa using this x hx)
theorem bOq{x dl:Int}{sk dc:Lqq}{r0:Bool}(h0:bH dc∧inR x)(er0:r0=(!(atB dc x))):FMM Tp 150 [(pI x),(.ptr 0 0)] [some (.box 96 [(.fn 137 [] [(.rp [(PV.rp (aE dl sk dc) 0)] 0)])])] (pB r0) [some (.box 96 [(.fn 137 [] [(.rp [(PV.rp (aE dl sk dc) 0)] 0)])])]:=by
 subst er0;exact FMM.fin (k:=1) (g:=⟨[],[],[],[]⟩) rfl Tryz.func150 rfl (o:=[.c (pB (atB dc x)) []]) (l:=[_]) (by kernel_rfl) (gc (fk 1 (bOp x dl sk dc h0) rfl) gn)
theorem aUw(x:Int)(dl:Int)(sk:Lqq)(dc:Lqq)(he:bH dc∧inR x):FMM Tp 150 [(pI x),.ptr 0 0] [some (.box 96 [(.fn 137 [] [(.rp [(PV.rp (aE dl sk dc) 0)] 0)])])] (pB (!(atB dc x))) [some (.box 96 [(.fn 137 [] [(.rp [(PV.rp (aE dl sk dc) 0)] 0)])])]:=bOq he rfl
def gA(l:List Int)(dl:Int)(sk:Lqq)(dc:Lqq)(i:Nat):St:=⟨fr 19 [(0,(.p (aG l))),(1,(.fn 150 [] [(.ptr 0 0)])),(7,(pI (l.length:Int))),(8,(pI (i:Int)))],[some (.box 96 [(.fn 137 [] [(.rp [(PV.rp (aE dl sk dc) 0)] 0)])])]⟩
theorem bOr{l:List Int}{dl:Int}{sk dc:Lqq}{i'0:Nat}(hl0:aI Tp 1 yB (gA l dl sk dc 0) (.exit 0) (gA l dl sk dc i'0)):FMM Tp 129 [(.p (aG l)),(.fn 150 [] [(.ptr 0 0)])] [some (.box 96 [(.fn 137 [] [(.rp [(PV.rp (aE dl sk dc) 0)] 0)])])] (pI (-1:Int)) [some (.box 96 [(.fn 137 [] [(.rp [(PV.rp (aE dl sk dc) 0)] 0)])])]:=by
 exact FMM.fin (k:=1) (g:=⟨[],[],[],[]⟩) rfl Tryz.func129 rfl (o:=[.k 6 ⟨(rng [(2,5),(9,10)]),[],[],[]⟩ (.exit 0) (gA l dl sk dc i'0)]) (l:=[_]) (by kernel_rfl) (gc hl0.code gn)
theorem bOs{l:List Int}{dl:Int}{sk dc:Lqq}{i'0:Nat}(hl0:aI Tp 1 yB (gA l dl sk dc 0) .ret (cG (gA l dl sk dc i'0) [(4,(pI (i'0:Int)))])):FMM Tp 129 [(.p (aG l)),(.fn 150 [] [(.ptr 0 0)])] [some (.box 96 [(.fn 137 [] [(.rp [(PV.rp (aE dl sk dc) 0)] 0)])])] (pI (i'0:Int)) [some (.box 96 [(.fn 137 [] [(.rp [(PV.rp (aE dl sk dc) 0)] 0)])])]:=by
 exact FMM.fin (k:=1) (g:=⟨[],[],[],[]⟩) rfl Tryz.func129 rfl (o:=[.k 6 ⟨(rng [(2,5),(9,10)]),[],[],[]⟩ .ret (cG (gA l dl sk dc i'0) [(4,(pI (i'0:Int)))])]) (l:=[_]) (by kernel_rfl) (gc hl0.code gn)
theorem aSd{l:List Int}{dl:Int}{sk dc:Lqq}{i:Nat}{x100:Int}(h0:(i:Int)<(l.length:Int))(h1:l[i]? = some x100)(h2:bH dc∧inR x100)(h3:(atB dc x100)=false):aC Tp 1 yB (gA l dl sk dc i) .ret (cG (gA l dl sk dc i) [(4,(pI (i:Int)))]):=by
 exact aC.fin (g:=⟨(rng [(2,2),(5,2),(9,10)]),[],[],[]⟩) (o:=[bT,.x (aB x100),.c (pB (!(atB dc x100))) [(0,(.box 96 [(.fn 137 [] [(.rp [(PV.rp (aE dl sk dc) 0)] 0)])]))],bT]) (l:=[_,FC Tp 150 [(pI x100),(.ptr 0 0)] [(0,(.box 96 [(.fn 137 [] [(.rp [(PV.rp (aE dl sk dc) 0)] 0)])]))] 1 (pB (!(atB dc x100))) [(0,(.box 96 [(.fn 137 [] [(.rp [(PV.rp (aE dl sk dc) 0)] 0)])]))],_,_,_]) (by kernel_rfl) (gc (cP h3) (gc (FMM.fc (ids:=[0]) (aUw x100 dl sk dc h2) (by kernel_rfl)) (gc (atm aB h1) (gc (ixn aB h1) (gc (bA h0) gn)))))
theorem aSe{l:List Int}{dl:Int}{sk dc:Lqq}{i:Nat}{x100:Int}{i':Nat}(h0:(i:Int)<(l.length:Int))(h1:l[i]? = some x100)(h2:bH dc∧inR x100)(h3:(atB dc x100)=true)(h4:inR (((i+1):Nat):Int))(ei':i'=(i+1)):aC Tp 1 yB (gA l dl sk dc i) .normal (gA l dl sk dc i'):=by
 subst ei';exact aC.fin (g:=⟨(rng [(2,5),(9,10)]),[],[],[]⟩) (o:=[bT,.x (aB x100),.c (pB (!(atB dc x100))) [(0,(.box 96 [(.fn 137 [] [(.rp [(PV.rp (aE dl sk dc) 0)] 0)])]))],bF]) (l:=[_,_,FC Tp 150 [(pI x100),(.ptr 0 0)] [(0,(.box 96 [(.fn 137 [] [(.rp [(PV.rp (aE dl sk dc) 0)] 0)])]))] 1 (pB (!(atB dc x100))) [(0,(.box 96 [(.fn 137 [] [(.rp [(PV.rp (aE dl sk dc) 0)] 0)])]))],_,_,_]) (by kernel_rfl) (gc h4 (gc (aR h3) (gc (FMM.fc (ids:=[0]) (aUw x100 dl sk dc h2) (by kernel_rfl)) (gc (atm aB h1) (gc (ixn aB h1) (gc (bA h0) gn))))))
theorem aSf{l:List Int}{dl:Int}{sk dc:Lqq}{i:Nat}(h0:(l.length:Int)≤(i:Int)):aC Tp 1 yB (gA l dl sk dc i) (.exit 0) (gA l dl sk dc i):=by
 exact aC.fin (g:=⟨(rng [(2,5),(9,10)]),[],[],[]⟩) (o:=[bF]) (l:=[_]) (by kernel_rfl) (gc (bL h0) gn)
theorem bOt(l:List Int)(dl:Int)(sk:Lqq)(dc:Lqq)(hl:l.length≤1000)(he:∀ x∈l,bH dc∧inR x):FMM Tp 129 [.p (aG l),(.fn 150 [] [(.ptr 0 0)])] [some (.box 96 [(.fn 137 [] [(.rp [(PV.rp (aE dl sk dc) 0)] 0)])])] (pI (aZ (fun x => !(atB dc x)) l)) [some (.box 96 [(.fn 137 [] [(.rp [(PV.rp (aE dl sk dc) 0)] 0)])])]:=by
 rcases aI.find (P:=Tp) (k:=1) (b:=yB) (fun i=>gA l dl sk dc i) (fun i _=>cG (gA l dl sk dc i) [(4,.p (aB (i:Int)))]) (gA l dl sk dc l.length) .ret (.exit 0) (by simp) (by simp) (fun x => !(atB dc x)) l
  (fun i x hx hp=>by exact aSe (by have:=bB hx;omega) hx (he _ (kQ5 hx)) (by simpa using hp) (aO (by have:=bB hx;omega)) rfl)
  (fun i x hx hp=>by exact aSd (by have:=bB hx;omega) hx (he _ (kQ5 hx)) (by simpa using hp))
  (aSf (l:=l) (i:=l.length) (by omega)) with ⟨i,x,h1,h2,h3,h4⟩ | ⟨h1,h2,h3⟩
 ·rw [gG h2];exact bOs h4
 ·rw [gH h1];exact bOr h3
theorem bOu{l:List Int}{dl:Int}{sk dc:Lqq}{r0:Bool}(h0:l.length≤1000)(h1:∀ x∈l,bH dc∧inR x)(er0:r0=(decide ((aZ (fun x => !(atB dc x)) l) ≥ (0:Int)))):FMM Tp 149 [(.p (aG l)),(.fn 150 [] [(.ptr 0 0)])] [some (.box 96 [(.fn 137 [] [(.rp [(PV.rp (aE dl sk dc) 0)] 0)])])] (pB r0) [some (.box 96 [(.fn 137 [] [(.rp [(PV.rp (aE dl sk dc) 0)] 0)])])]:=by
 subst er0;exact FMM.fin (k:=1) (g:=⟨[],[],[],[]⟩) rfl Tryz.func149 rfl (o:=[.c (pI (aZ (fun x => !(atB dc x)) l)) [(0,(.box 96 [(.fn 137 [] [(.rp [(PV.rp (aE dl sk dc) 0)] 0)])]))]]) (l:=[FC Tp 129 [(.p (aG l)),(.fn 150 [] [(.ptr 0 0)])] [(0,(.box 96 [(.fn 137 [] [(.rp [(PV.rp (aE dl sk dc) 0)] 0)])]))] 1 (pI (aZ (fun x => !(atB dc x)) l)) [(0,(.box 96 [(.fn 137 [] [(.rp [(PV.rp (aE dl sk dc) 0)] 0)])]))]]) (by kernel_rfl) (gc (FMM.fc (ids:=[0]) (bOt l dl sk dc h0 h1) (by kernel_rfl)) gn)
theorem bOv(l:List Int)(dl:Int)(sk:Lqq)(dc:Lqq)(hl:l.length≤1000)(he:∀ x∈l,bH dc∧inR x):FMM Tp 149 [.p (aG l),(.fn 150 [] [(.ptr 0 0)])] [some (.box 96 [(.fn 137 [] [(.rp [(PV.rp (aE dl sk dc) 0)] 0)])])] (pB (l.any (fun x => !(atB dc x)))) [some (.box 96 [(.fn 137 [] [(.rp [(PV.rp (aE dl sk dc) 0)] 0)])])]:=bOu hl he (mF _ _).symm
theorem bWo{l:List Int}{dl:Int}{sk dc:Lqq}{r0:Bool}(h0:l.length≤1000)(h1:∀ x∈l,bH dc∧inR x)(er0:r0=(!(l.any (fun x => !(atB dc x))))){base:Nat}:FV Tp 84 [(.p (aG l)),(.fn 137 [] [(.rp [(PV.rp (aE dl sk dc) 0)] 0)])] base (pB r0) []:=by
 subst er0;exact FV.fin Tryz.func84 rfl (o:=[.c (pB (l.any (fun x => !(atB dc x)))) [(0,(.box 96 [(.fn 137 [] [(.rp [(PV.rp (aE dl sk dc) 0)] 0)])]))]]) (l:=[FC Tp 149 [(.p (aG l)),(.fn 150 [] [(.ptr 0 0)])] [(0,(.box 96 [(.fn 137 [] [(.rp [(PV.rp (aE dl sk dc) 0)] 0)])]))] 1 (pB (l.any (fun x => !(atB dc x)))) [(0,(.box 96 [(.fn 137 [] [(.rp [(PV.rp (aE dl sk dc) 0)] 0)])]))]]) (by kernel_rfl) (gc (FMM.fc (ids:=[0]) (bOv l dl sk dc h0 h1) (by kernel_rfl)) gn)
theorem bIg(l:List Int)(dl:Int)(sk:Lqq)(dc:Lqq)(hl:l.length≤1000)(he:∀ x∈l,bH dc∧inR x){base:Nat}:FV Tp 84 [.p (aG l),(.fn 137 [] [(.rp [(PV.rp (aE dl sk dc) 0)] 0)])] base (pB (l.all (atB dc))) []:=bWo hl he (by rw [List.all_eq_not_any_not])
theorem bWp{a b c d e f:Int}{q:List Int}{r0:Bool}(h0:q.length≤1000)(er0:r0=(!(q.contains a))){base:Nat}:FV Tp 139 [(.p (dcE a b c d e f)),(.rp [(aG q)] 0)] base (pB r0) []:=by
 subst er0;exact FV.fin Tryz.func139 rfl (o:=[.x (aG q),.c (pB (q.contains a)) []]) (l:=[_,[(aG q)][0]? = some (aG q)]) (by kernel_rfl) (gc (fk 1 (mG q a h0) rfl) (gc rfl gn))
theorem aJk(a b c d e f:Int)(q:List Int)(h:q.length≤1000){base:Nat}:FV Tp 139 [.p (dcE a b c d e f),.rp [aG q] 0] base (pB (!(q.contains a))) []:=bWp h rfl
def gB(l:Lqq)(q:List Int)(i:Nat):St:=⟨fr 19 [(0,(.own 0)),(1,(.fn 139 [] [(.rp [(aG q)] 0)])),(7,(pI (l.length:Int))),(8,(pI (i:Int)))],[some (.row 44 l.length (l.flatten.map aB))]⟩
theorem bOw{l:Lqq}{q:List Int}{i'0:Nat}(hl0:aI Tp 1 aDm (gB l q 0) (.exit 0) (gB l q i'0)):FMM Tp 77 [(.own 0),(.fn 139 [] [(.rp [(aG q)] 0)])] [some (.row 44 l.length (l.flatten.map aB))] (pI (-1:Int)) [some (.row 44 l.length (l.flatten.map aB))]:=by
 exact FMM.fin (k:=1) (g:=⟨[],[],[],[]⟩) rfl Tryz.func77 rfl (o:=[.k 6 ⟨(rng [(2,5),(9,10)]),[],[],[]⟩ (.exit 0) (gB l q i'0)]) (l:=[_]) (by kernel_rfl) (gc hl0.code gn)
theorem bOx{l:Lqq}{q:List Int}{i'0:Nat}(hl0:aI Tp 1 aDm (gB l q 0) .ret (cG (gB l q i'0) [(4,(pI (i'0:Int)))])):FMM Tp 77 [(.own 0),(.fn 139 [] [(.rp [(aG q)] 0)])] [some (.row 44 l.length (l.flatten.map aB))] (pI (i'0:Int)) [some (.row 44 l.length (l.flatten.map aB))]:=by
 exact FMM.fin (k:=1) (g:=⟨[],[],[],[]⟩) rfl Tryz.func77 rfl (o:=[.k 6 ⟨(rng [(2,5),(9,10)]),[],[],[]⟩ .ret (cG (gB l q i'0) [(4,(pI (i'0:Int)))])]) (l:=[_]) (by kernel_rfl) (gc hl0.code gn)
theorem aSg{l:Lqq}{q:List Int}{i:Nat}{y100 y101 y102 y103 y104 y105:Int}(h0:(i:Int)<(l.length:Int))(h1:l[i]? = some [y100,y101,y102,y103,y104,y105])(h2:uni 6 l)(h3:q.length≤1000)(h4:(!(q.contains y100))=true):aC Tp 1 aDm (gB l q i) .ret (cG (gB l q i) [(4,(pI (i:Int)))]):=by
 exact aC.fin (g:=⟨(rng [(2,2),(5,2),(9,10)]),[],[],[]⟩) (o:=[bT,.x (dcE y100 y101 y102 y103 y104 y105),.c (pB (!(q.contains y100))) [],bT]) (l:=[_,_,_,_,_,_]) (by kernel_rfl) (gc h4 (gc (fk 1 (aJk y100 y101 y102 y103 y104 y105 q h3) rfl) (gc (aT (i:=i) h2 h1) (gc (bI (i:=i) h2 h1) (gc (cW (i:=(i:Int)) (kQ2 _) h1) (gc (bA h0) gn))))))
theorem aSh{l:Lqq}{q:List Int}{i:Nat}{y100 y101 y102 y103 y104 y105:Int}{i':Nat}(h0:(i:Int)<(l.length:Int))(h1:l[i]? = some [y100,y101,y102,y103,y104,y105])(h2:uni 6 l)(h3:q.length≤1000)(h4:(!(q.contains y100))=false)(h5:inR (((i+1):Nat):Int))(ei':i'=(i+1)):aC Tp 1 aDm (gB l q i) .normal (gB l q i'):=by
 subst ei';exact aC.fin (g:=⟨(rng [(2,5),(9,10)]),[],[],[]⟩) (o:=[bT,.x (dcE y100 y101 y102 y103 y104 y105),.c (pB (!(q.contains y100))) [],bF]) (l:=[_,_,_,_,_,_,_]) (by kernel_rfl) (gc h5 (gc h4 (gc (fk 1 (aJk y100 y101 y102 y103 y104 y105 q h3) rfl) (gc (aT (i:=i) h2 h1) (gc (bI (i:=i) h2 h1) (gc (cW (i:=(i:Int)) (kQ2 _) h1) (gc (bA h0) gn)))))))
theorem aSi{l:Lqq}{q:List Int}{i:Nat}(h0:(l.length:Int)≤(i:Int)):aC Tp 1 aDm (gB l q i) (.exit 0) (gB l q i):=by
 exact aC.fin (g:=⟨(rng [(2,5),(9,10)]),[],[],[]⟩) (o:=[bF]) (l:=[_]) (by kernel_rfl) (gc (bL h0) gn)
abbrev bOy(l:Lqq)(q:List Int)(i:Int):Prop:=FMM Tp 77 [.own 0,(.fn 139 [] [(.rp [(aG q)] 0)])] [some (.row 44 l.length (l.flatten.map aB))] (pI i) [some (.row 44 l.length (l.flatten.map aB))]
def kS(q:List Int)(cn:Nat)(cc:List PV)(i:Nat)(j:Nat):St:=⟨fr 42 [(0,(.own 0)),(1,(.fn 139 [] [(.rp [(aG q)] 0)])),(4,(.p aW)),(5,(pI (i:Int))),(6,(pI (j:Int)))],[some (.row 44 cn cc)]⟩
theorem bWq{l:Lqq}{q:List Int}{i0:Nat}{c'1:Lqq}{i'2 j'3:Nat}{r0c:List PV}(h0:bOy l q (i0:Int))(h1:(i0:Int)≠(-1:Int))(h2:inR (((i0+1):Nat):Int))(hl3:aI Tp 1 aDn (kS q l.length (l.flatten.map aB) i0 (i0+1)) (.exit 0) (kS q c'1.length (c'1.flatten.map aB) i'2 j'3))(h4:0≤(i'2:Int)∧(i'2:Int)≤(c'1.length:Int)∧(c'1.length:Int)≤(c'1.length:Int))(h5:(i'2*6)+(c'1.length-i'2)*6≤(c'1.flatten.map aB).length)(h6:0≤(0:Int)∧(0:Int)≤(i'2:Int)∧(i'2:Int)≤(c'1.length:Int))(er0c:r0c=((((c'1.flatten.map aB).take (i'2*6)++(List.replicate (c'1.length-i'2) (List.map PV.v [(.int .i64 0),(.int .i64 0),(.int .i64 0),(.int .i64 0),(.int .i64 0),(.int .i64 0)])).flatten++(c'1.flatten.map aB).drop ((i'2*6)+(c'1.length-i'2)*6)).drop 0).take (i'2*(((c'1.flatten.map aB).take (i'2*6)++(List.replicate (c'1.length-i'2) (List.map PV.v [(.int .i64 0),(.int .i64 0),(.int .i64 0),(.int .i64 0),(.int .i64 0),(.int .i64 0)])).flatten++(c'1.flatten.map aB).drop ((i'2*6)+(c'1.length-i'2)*6)).length / c'1.length)))):FMM Tp 124 [(.own 0),(.fn 139 [] [(.rp [(aG q)] 0)])] [some (.row 44 l.length (l.flatten.map aB))] (.p (.sl i'2 r0c)) [some .dead]:=by
 subst er0c;exact FMM.fin (k:=1) (g:=⟨[],[],[0],[]⟩) rfl Tryz.func124 rfl (o:=[.c (pI (i0:Int)) [(0,(.row 44 l.length (l.flatten.map aB)))],bF,.k 4 ⟨(rng [(2,2),(7,29)]),[],[],[]⟩ (.exit 0) (kS q c'1.length (c'1.flatten.map aB) i'2 j'3)]) (l:=[_,_,_,_,_,_,FC Tp 77 [(.own 0),(.fn 139 [] [(.rp [(aG q)] 0)])] [(0,(.row 44 l.length (l.flatten.map aB)))] 1 (pI (i0:Int)) [(0,(.row 44 l.length (l.flatten.map aB)))]]) (by kernel_rfl) (gc h6 (gc h5 (gc h4 (gc hl3.code (gc h2 (gc (bJ h1) (gc (FMM.fc (ids:=[0]) h0 (by kernel_rfl)) gn)))))))
theorem bWr{l:Lqq}{q:List Int}(h0:bOy l q (-1:Int)):FMM Tp 124 [(.own 0),(.fn 139 [] [(.rp [(aG q)] 0)])] [some (.row 44 l.length (l.flatten.map aB))] (.p (fS l)) [some .dead]:=by
 exact FMM.fin (k:=1) (g:=⟨[],[],[0],[]⟩) rfl Tryz.func124 rfl (o:=[.c (pI (-1:Int)) [(0,(.row 44 l.length (l.flatten.map aB)))],bT]) (l:=[((-1:Int) == (-1:Int))=true,FC Tp 77 [(.own 0),(.fn 139 [] [(.rp [(aG q)] 0)])] [(0,(.row 44 l.length (l.flatten.map aB)))] 1 (pI (-1:Int)) [(0,(.row 44 l.length (l.flatten.map aB)))]]) (by kernel_rfl) (gc (by first | decide | simp) (gc (FMM.fc (ids:=[0]) h0 (by kernel_rfl)) gn))
theorem bCv{q:List Int}{c:Lqq}{i j:Nat}{y100 y101 y102 y103 y104 y105 y106 y107 y108 y109 y110 y111:Int}{c':Lqq}{i' j':Nat}(h0:(j:Int)<(c.length:Int))(h1:c[j]? = some [y100,y101,y102,y103,y104,y105])(h2:uni 6 c)(h3:q.length≤1000)(h4:(!(q.contains y100))=false)(h5:c[i]? = some [y106,y107,y108,y109,y110,y111])(h6:[(aB y100),(aB y101),(aB y102),(aB y103),(aB y104),(aB y105)].length=6∧(i*6)+6≤(c.flatten.map aB).length)(h7:inR (((i+1):Nat):Int))(h8:inR (((j+1):Nat):Int))(ec'n:c'.length=c.length)(ec'c:c'.flatten.map aB=((c.flatten.map aB).take (i*6)++[(aB y100),(aB y101),(aB y102),(aB y103),(aB y104),(aB y105)]++(c.flatten.map aB).drop ((i*6)+6)))(ei':i'=(i+1))(ej':j'=(j+1)):aC Tp 1 aDn (kS q c.length (c.flatten.map aB) i j) .normal (kS q c'.length (c'.flatten.map aB) i' j'):=by
 subst ei' ej';have raw:aC Tp 1 aDn (kS q c.length (c.flatten.map aB) i j) .normal (kS q c.length ((c.flatten.map aB).take (i*6)++[(aB y100),(aB y101),(aB y102),(aB y103),(aB y104),(aB y105)]++(c.flatten.map aB).drop ((i*6)+6)) (i+1) (j+1)):=aC.fin (g:=⟨(rng [(2,2),(7,29)]),[],[],[]⟩) (o:=[bT,.x (dcE y100 y101 y102 y103 y104 y105),.c (pB (!(q.contains y100))) [],bT]) (l:=[_,_,_,_,_,_,_,_,_,_]) (by kernel_rfl) (gc h8 (gc h7 (gc h6 (gc (cW (i:=(i:Int)) (kQ2 _) h5) (gc (cP h4) (gc (fk 2 (aJk y100 y101 y102 y103 y104 y105 q h3) rfl) (gc (aT (i:=j) h2 h1) (gc (bI (i:=j) h2 h1) (gc (cW (i:=(j:Int)) (kQ2 _) h1) (gc (bA h0) gn))))))))))
 exact raw.cast (by rw [ec'n,ec'c])
theorem bCw{q:List Int}{c:Lqq}{i j:Nat}{y100 y101 y102 y103 y104 y105:Int}{j':Nat}(h0:(j:Int)<(c.length:Int))(h1:c[j]? = some [y100,y101,y102,y103,y104,y105])(h2:uni 6 c)(h3:q.length≤1000)(h4:(!(q.contains y100))=true)(h5:inR (((j+1):Nat):Int))(ej':j'=(j+1)):aC Tp 1 aDn (kS q c.length (c.flatten.map aB) i j) .normal (kS q c.length (c.flatten.map aB) i j'):=by
 subst ej';exact aC.fin (g:=⟨(rng [(2,2),(7,29)]),[],[],[]⟩) (o:=[bT,.x (dcE y100 y101 y102 y103 y104 y105),.c (pB (!(q.contains y100))) [],bF]) (l:=[_,_,_,_,_,_,_]) (by kernel_rfl) (gc h5 (gc (aR h4) (gc (fk 2 (aJk y100 y101 y102 y103 y104 y105 q h3) rfl) (gc (aT (i:=j) h2 h1) (gc (bI (i:=j) h2 h1) (gc (cW (i:=(j:Int)) (kQ2 _) h1) (gc (bA h0) gn)))))))
theorem bCx{q:List Int}{c:Lqq}{i j:Nat}(h0:(c.length:Int)≤(j:Int)):aC Tp 1 aDn (kS q c.length (c.flatten.map aB) i j) (.exit 0) (kS q c.length (c.flatten.map aB) i j):=by
 exact aC.fin (g:=⟨(rng [(2,2),(7,29)]),[],[],[]⟩) (o:=[bF]) (l:=[_]) (by kernel_rfl) (gc (bL h0) gn)
end
section
def bG(l:Lqq)(q:List Int):Lqq:=l.filter fun x => !(!(q.contains (x.getD 0 0)))
theorem bOm{l:Lqq}{q:List Int}(hu:uni 6 l)(hl:l.length≤1000)(hsu:q.length≤1000) :
  (∃ i n,l[i]? = some n∧l.findIdx? (fun x => !(q.contains (x.getD 0 0)))=some i∧(!(q.contains (n.getD 0 0)))=true∧bOy l q (i:Int))∨(l.any (fun x => !(q.contains (x.getD 0 0)))=false∧bOy l q (-1)):=by
 rcases aI.find (P:=Tp) (k:=1) (b:=(sub (cd Tryz.f77) [1,0,1,0,0])) (fun i=>gB l q i) (fun i _=>cG (gB l q i) [(4,.p (aB (i:Int)))]) (gB l q l.length) .ret (.exit 0) (by simp) (by simp) (fun x => !(q.contains (x.getD 0 0))) l
  (fun i x hx hq=>by
   obtain ⟨a,b,c,d,e,f,rfl⟩:=len6 (hu _ (kQ5 hx));exact aSh (by have:=bB hx;omega) hx hu hsu hq (aO (by have:=bB hx;omega)) rfl)
  (fun i x hx hq=>by
   obtain ⟨a,b,c,d,e,f,rfl⟩:=len6 (hu _ (kQ5 hx));exact aSg (by have:=bB hx;omega) hx hu hsu hq)
  (aSi (by omega)) with ⟨i,x,h1,h2,h3,h4⟩ | ⟨h1,h2,h3⟩
 ·exact .inl ⟨i,x,h1,h2,h3,bOx h4⟩
 ·exact .inr ⟨h2,bOw h3⟩
theorem bIf(l:Lqq)(q:List Int)(hu:uni 6 l)(hl:l.length≤1000)(hsu:q.length≤1000) :
  FMM Tp 124 [.own 0,.fn 139 [] [.rp [aG q] 0]] [some (.row 44 l.length (l.flatten.map aB))] (.p (.sl (bG l q).length ((bG l q).flatten.map aB))) [some .dead]:=by
 rcases bOm (q:=q) hu hl hsu with ⟨i,n,h1,h2,h3,h4⟩ | ⟨h1,h2⟩
 ·have hi:=bB h1
  obtain ⟨d,hm⟩:∃ d,i+1+d=l.length:=⟨l.length-(i+1),by omega⟩
  obtain ⟨⟨c,k⟩,hI,hL⟩:=aI.ex (P:=Tp) (k:=1) (b:=(sub (cd Tryz.f124) [1,1,1,0,1,0,0])) (e := .exit 0) (fun j (x:Lqq × Nat)=>kS q x.1.length (x.1.flatten.map aB) x.2 (i+1+j)) (fun x=>kS q x.1.length (x.1.flatten.map aB) x.2 l.length)
   (fun j x=>aEo (fun x => !(q.contains (x.getD 0 0))) l (i+1+j) x∧uni 6 x.1) (by simp) d
   (fun j x hj hx=>by
    obtain ⟨hI,hs⟩:=hx;have hlt:i+1+j<x.1.length:=by rw [hI.len];omega
    have hle:=hI.le;have hlen:=hI.len;obtain ⟨y,hy⟩:∃ y,x.1[i+1+j]? = some y:=⟨_,kQ0 hlt⟩;obtain ⟨y0,y1,y2,y3,y4,y5,rfl⟩:=len6 (hs y (kQ5 hy));cases hq:(!(q.contains y0)) with
    | true=>exact ⟨x,⟨hI.skip (by omega) hy hq,hs⟩,bCw (by omega) hy hs hsu hq (aO (by omega)) rfl⟩
    | false =>
     obtain ⟨z,hz⟩:∃ z,x.1[x.2]? = some z:=⟨_,kQ0 (by omega)⟩
     obtain ⟨z0,z1,z2,z3,z4,z5,rfl⟩:=len6 (hs z (kQ5 hz));have hle2:=bI hs hz;refine ⟨_,⟨hI.keep (by omega) hy hq,fun n hn => ?_⟩,bCv (c:=x.1) (c':=x.1.set x.2 [y0,y1,y2,y3,y4,y5]) (by omega) hy hs hsu hq hz ⟨rfl,hle2⟩ (aO (by omega)) (aO (by omega)) (by simp) (rI hs (by omega) rfl).symm rfl rfl⟩
     rcases List.mem_or_eq_of_mem_set hn with h | rfl
     ·exact hs n h
     ·rfl)
   (fun x hx=>by
    have:=bCx (q:=q) (c:=x.1) (i:=x.2) (j:=l.length) (by rw [hx.1.len];omega)
    rw [show i+1+d=l.length from hm];exact this)
   (acc:=(l,i)) ⟨aEo.start h1 h3 (aJl h2),hu⟩
  obtain ⟨hI,hs⟩:=hI;have hlen:=hI.len;have hle:=hI.le;have hk:=hI.kept;simp only [hm,List.take_length] at hlen hle hk
  have hcl:(c.flatten.map aB).length=c.length*6:=rM hs;have hk6:k*6≤c.length*6:=Nat.mul_le_mul_right _ (by omega)
  have hsum:k*6+(c.length-k)*6=c.length*6:=by rw [← Nat.add_mul];congr 1;omega
  have fin:=bWq (l:=l) (c'1:=c) (i'2:=k) (j'3:=l.length) (r0c:=(c.take k).flatten.map aB) h4 (by omega) (aO (by omega)) hL ⟨by omega,by omega,by omega⟩ (by rw [hcl];omega) ⟨by omega,by omega,by omega⟩ (by
   have hz:((List.replicate (c.length-k) (List.map PV.v [(.int .i64 0),(.int .i64 0),(.int .i64 0),(.int .i64 0),(.int .i64 0),(.int .i64 0)])).flatten).length=(c.length-k)*6:=by
    rw [List.length_flatten];simp
   have hL2:(((c.flatten.map aB).take (k*6))++(List.replicate (c.length-k) (List.map PV.v [(.int .i64 0),(.int .i64 0),(.int .i64 0),(.int .i64 0),(.int .i64 0),(.int .i64 0)])).flatten++(c.flatten.map aB).drop (k*6+(c.length-k)*6)).length=c.length*6:=by
    rw [lF,lF,hz,lQ,bEn,hcl];omega
   rw [List.drop_zero,hL2,Nat.mul_comm c.length 6,Nat.mul_div_cancel _ (by omega:0<c.length),List.append_assoc,List.take_append_of_le_length (by rw [lQ,hcl];omega),List.take_take,Nat.min_self,← List.map_take,aHy _ hs])
  have hk':c.take k=bG l q:=hk;rw [← hk'];have e:(c.take k).length=k:=by rw [lQ,Nat.min_eq_left (by omega)]
  rw [e];exact fin
 ·have:bG l q=l:=List.filter_eq_self.2 fun n hn=>by
   have:=List.any_eq_false.1 h1 n hn;simpa using this
  rw [this];exact bWr h2
end
section

theorem aJj:((0:Int) != (0:Int))=false:=by first | decide | simp
theorem bWm{dl:Int}{sk dc:Lqq}{bib:Int}{q:List Int}{i0:Nat}{s1 s2 n3:Int}{b4:Bool}{T5:Lqb}{n6:Int}{b7:Bool}{T8:Lqb}{r0:Bool}(h0:bK dl sk dc)(h1:iH (aA sk) bib=(i0:Int))(h2:(aA sk)[i0]? = some [s1,s2])(h3:q.length≤1000)(h4:∀ x∈q,bH (aA dc)∧inR x)(h5:(q.all (atB (aA dc)))=true)(h6:uni 6 (aA dc))(h7:(aA dc).length≤1000)(h8:bK dl (aA sk) (bG (aA dc) q))(h9:wC dl (aA sk) (aA dc) aW [s1,s2] n3 b4 ([]:Lqb) T5)(h10:wC dl (aA (aA sk)) (aA (bG (aA dc) q)) aW [s1,s2] n6 b7 ([]:Lqb) T8)(h11:n6=n3)(er0:r0=(b7 == b4)){base:Nat}:FV Tp 65 [(.p (.agg (bU dl sk dc))),(pI bib),(.p (aG q))] base (.tup [(pB r0),(pI 0)]) []:=by
 subst er0
 exact FV.fin Tryz.func65 rfl (o:=[.c (.tup [(.rp (aE dl (aA sk) (aA dc)) 0),(.p (.agg [(aB s1),(aB s2)])),(pI 0)]) [],bF,.g 2 ⟨[],[0,1,3],[2],[]⟩,.c (pB (q.all (atB (aA dc)))) [],bF,.x (PV.rp (aE dl (aA sk) (aA dc)) 0),.x (.agg (bU dl (aA sk) (aA dc))),.g 1 ⟨[],[0,2,3],[1],[]⟩,.x (PV.rp (aE dl (aA sk) (aA dc)) 0),.x (.sl ((aA dc).length) ((aA dc).flatten.map aB)),.c (.own 3) [(3,(.row 44 ((aA dc).length) ((aA dc).flatten.map aB)))],.c (.p (.sl ((bG (aA dc) q).length) ((bG (aA dc) q).flatten.map aB))) [(3,.dead)],.c (.tup [(.rp (aE dl (aA (aA sk)) (aA (bG (aA dc) q))) 0),(pI 0)]) [],bF,.x (PV.rp (aE dl (aA sk) (aA dc)) 0),.x (PV.rp (aE dl (aA sk) (aA dc)) 0),.c (.agg (kVL 8 9 4 6 10 5)) [(4,(vB0 dl (aA sk) (aA dc))),(5,(.box 33 [(.p aW)])),(6,(.box 139 (kVL 8 9 4 6 10 5))),(7,(.mp (aF ([]:Lqb)) 0)),(8,(.box 207 [(.mp 7)])),(9,(vB5 dl (aA sk) (aA dc))),(10,(.box 209 [(.fn 153 [] [(.ptr 4 0),(.ptr 6 0)])]))],.c (.tup [(pI n3),(pB b4)]) [(4,(vB0 dl (aA sk) (aA dc))),(5,(.box 33 [(.p aW)])),(6,(.box 139 (kVL 8 9 4 6 10 5))),(7,(.mp (aF T5) T5.length)),(8,(.box 207 [(.mp 7)])),(9,(vB5 dl (aA sk) (aA dc))),(10,(.box 209 [(.fn 153 [] [(.ptr 4 0),(.ptr 6 0)])]))],.c (.agg (kVL 15 16 11 13 17 12)) [(11,(vB0 dl (aA (aA sk)) (aA (bG (aA dc) q)))),(12,(.box 33 [(.p aW)])),(13,(.box 139 (kVL 15 16 11 13 17 12))),(14,(.mp (aF ([]:Lqb)) 0)),(15,(.box 207 [(.mp 14)])),(16,(vB5 dl (aA (aA sk)) (aA (bG (aA dc) q)))),(17,(.box 209 [(.fn 153 [] [(.ptr 11 0),(.ptr 13 0)])]))],.c (.tup [(pI n6),(pB b7)]) [(11,(vB0 dl (aA (aA sk)) (aA (bG (aA dc) q)))),(12,(.box 33 [(.p aW)])),(13,(.box 139 (kVL 15 16 11 13 17 12))),(14,(.mp (aF T8) T8.length)),(15,(.box 207 [(.mp 14)])),(16,(vB5 dl (aA (aA sk)) (aA (bG (aA dc) q)))),(17,(.box 209 [(.fn 153 [] [(.ptr 11 0),(.ptr 13 0)])]))],bT,bT,bT,bT]) (l:=[_,_,_,_,FC Tp 134 [(.rp (aE dl (aA (aA sk)) (aA (bG (aA dc) q))) 0),(.p (.agg [(aB s1),(aB s2)])),(.agg (kVL 15 16 11 13 17 12))] [(15,(.box 207 [(.mp 14)])),(16,(vB5 dl (aA (aA sk)) (aA (bG (aA dc) q)))),(11,(vB0 dl (aA (aA sk)) (aA (bG (aA dc) q)))),(13,(.box 139 (kVL 15 16 11 13 17 12))),(17,(.box 209 [(.fn 153 [] [(.ptr 11 0),(.ptr 13 0)])])),(12,(.box 33 [(.p aW)])),(14,(.mp (aF ([]:Lqb)) 0))] 19 (.tup [(pI n6),(pB b7)]) [(11,(vB0 dl (aA (aA sk)) (aA (bG (aA dc) q)))),(12,(.box 33 [(.p aW)])),(13,(.box 139 (kVL 15 16 11 13 17 12))),(14,(.mp (aF T8) T8.length)),(15,(.box 207 [(.mp 14)])),(16,(vB5 dl (aA (aA sk)) (aA (bG (aA dc) q)))),(17,(.box 209 [(.fn 153 [] [(.ptr 11 0),(.ptr 13 0)])]))],FC Tp 87 [(.rp (aE dl (aA (aA sk)) (aA (bG (aA dc) q))) 0),(.p aW)] [] 11 (.agg (kVL 15 16 11 13 17 12)) [(11,(vB0 dl (aA (aA sk)) (aA (bG (aA dc) q)))),(12,(.box 33 [(.p aW)])),(13,(.box 139 (kVL 15 16 11 13 17 12))),(14,(.mp (aF ([]:Lqb)) 0)),(15,(.box 207 [(.mp 14)])),(16,(vB5 dl (aA (aA sk)) (aA (bG (aA dc) q)))),(17,(.box 209 [(.fn 153 [] [(.ptr 11 0),(.ptr 13 0)])]))],FC Tp 134 [(.rp (aE dl (aA sk) (aA dc)) 0),(.p (.agg [(aB s1),(aB s2)])),(.agg (kVL 8 9 4 6 10 5))] [(8,(.box 207 [(.mp 7)])),(9,(vB5 dl (aA sk) (aA dc))),(4,(vB0 dl (aA sk) (aA dc))),(6,(.box 139 (kVL 8 9 4 6 10 5))),(10,(.box 209 [(.fn 153 [] [(.ptr 4 0),(.ptr 6 0)])])),(5,(.box 33 [(.p aW)])),(7,(.mp (aF ([]:Lqb)) 0))] 12 (.tup [(pI n3),(pB b4)]) [(4,(vB0 dl (aA sk) (aA dc))),(5,(.box 33 [(.p aW)])),(6,(.box 139 (kVL 8 9 4 6 10 5))),(7,(.mp (aF T5) T5.length)),(8,(.box 207 [(.mp 7)])),(9,(vB5 dl (aA sk) (aA dc))),(10,(.box 209 [(.fn 153 [] [(.ptr 4 0),(.ptr 6 0)])]))],FC Tp 87 [(.rp (aE dl (aA sk) (aA dc)) 0),(.p aW)] [] 4 (.agg (kVL 8 9 4 6 10 5)) [(4,(vB0 dl (aA sk) (aA dc))),(5,(.box 33 [(.p aW)])),(6,(.box 139 (kVL 8 9 4 6 10 5))),(7,(.mp (aF ([]:Lqb)) 0)),(8,(.box 207 [(.mp 7)])),(9,(vB5 dl (aA sk) (aA dc))),(10,(.box 209 [(.fn 153 [] [(.ptr 4 0),(.ptr 6 0)])]))],[(PV.rp (aE dl (aA sk) (aA dc)) 0)][0]? = some (PV.rp (aE dl (aA sk) (aA dc)) 0),[(PV.rp (aE dl (aA sk) (aA dc)) 0)][0]? = some (PV.rp (aE dl (aA sk) (aA dc)) 0),_,_,FC Tp 124 [(.own 3),(.fn 139 [] [(.rp [(aG q)] 0)])] [(3,(.row 44 ((aA dc).length) ((aA dc).flatten.map aB)))] 4 (.p (.sl ((bG (aA dc) q).length) ((bG (aA dc) q).flatten.map aB))) [(3,.dead)],_,(aE dl (aA sk) (aA dc))[2]? = some (.sl ((aA dc).length) ((aA dc).flatten.map aB)),[(PV.rp (aE dl (aA sk) (aA dc)) 0)][0]? = some (PV.rp (aE dl (aA sk) (aA dc)) 0),some (.agg (((aE dl (aA sk) (aA dc)).drop 0).take 3):PV)=some (.agg (bU dl (aA sk) (aA dc))),0+3≤(aE dl (aA sk) (aA dc)).length,[(PV.rp (aE dl (aA sk) (aA dc)) 0)][0]? = some (PV.rp (aE dl (aA sk) (aA dc)) 0),_,_,_,_]) (by kernel_rfl) (g4c (dR h11) (gc (FMM.fc (ids:=[11,12,13,14,15,16,17]) h10 (by kernel_rfl)) (gc (FMM.fcN (k:=7) rfl (ids:=[]) (kW (dl:=dl) (sk:=(aA (aA sk))) (dc:=(aA (bG (aA dc) q)))) (by kernel_rfl)) (gc (FMM.fc (ids:=[4,5,6,7,8,9,10]) h9 (by kernel_rfl)) (gc (FMM.fcN (k:=7) rfl (ids:=[]) (kW (dl:=dl) (sk:=(aA sk)) (dc:=(aA dc))) (by kernel_rfl)) (gc rfl (gc rfl (gc aJj (gc (fk 4 (fW dl (aA sk) (bG (aA dc) q) h8) rfl) (gc (FMM.fc (ids:=[3]) (bIf (aA dc) q h6 h7 h3) (by kernel_rfl)) (gc (fk 3 (bEx (aA dc) h6 h7) rfl) (gc rfl (gc rfl (gc rfl (gc (by first | decide | simp) (gc rfl (gc (aR h5) (gc (fk 3 (bIg q dl (aA sk) (aA dc) h3 h4) rfl) (gc aJj (gc (fk 2 (aCw h0 h1 h2) rfl) gn))))))))))))))))))))
theorem bWn{dl:Int}{sk dc:Lqq}{bib:Int}{q:List Int}{i0:Nat}{s1 s2 n3:Int}{b4:Bool}{T5:Lqb}{n6:Int}{b7:Bool}{T8:Lqb}(h0:bK dl sk dc)(h1:iH (aA sk) bib=(i0:Int))(h2:(aA sk)[i0]? = some [s1,s2])(h3:q.length≤1000)(h4:∀ x∈q,bH (aA dc)∧inR x)(h5:(q.all (atB (aA dc)))=true)(h6:uni 6 (aA dc))(h7:(aA dc).length≤1000)(h8:bK dl (aA sk) (bG (aA dc) q))(h9:wC dl (aA sk) (aA dc) aW [s1,s2] n3 b4 ([]:Lqb) T5)(h10:wC dl (aA (aA sk)) (aA (bG (aA dc) q)) aW [s1,s2] n6 b7 ([]:Lqb) T8)(h11:n6≠n3){base:Nat}:FV Tp 65 [(.p (.agg (bU dl sk dc))),(pI bib),(.p (aG q))] base (.tup [(pB false),(pI 0)]) []:=by
 exact FV.fin Tryz.func65 rfl (o:=[.c (.tup [(.rp (aE dl (aA sk) (aA dc)) 0),(.p (.agg [(aB s1),(aB s2)])),(pI 0)]) [],bF,.g 2 ⟨[],[0,1,3],[2],[]⟩,.c (pB (q.all (atB (aA dc)))) [],bF,.x (PV.rp (aE dl (aA sk) (aA dc)) 0),.x (.agg (bU dl (aA sk) (aA dc))),.g 1 ⟨[],[0,2,3],[1],[]⟩,.x (PV.rp (aE dl (aA sk) (aA dc)) 0),.x (.sl ((aA dc).length) ((aA dc).flatten.map aB)),.c (.own 3) [(3,(.row 44 ((aA dc).length) ((aA dc).flatten.map aB)))],.c (.p (.sl ((bG (aA dc) q).length) ((bG (aA dc) q).flatten.map aB))) [(3,.dead)],.c (.tup [(.rp (aE dl (aA (aA sk)) (aA (bG (aA dc) q))) 0),(pI 0)]) [],bF,.x (PV.rp (aE dl (aA sk) (aA dc)) 0),.x (PV.rp (aE dl (aA sk) (aA dc)) 0),.c (.agg (kVL 8 9 4 6 10 5)) [(4,(vB0 dl (aA sk) (aA dc))),(5,(.box 33 [(.p aW)])),(6,(.box 139 (kVL 8 9 4 6 10 5))),(7,(.mp (aF ([]:Lqb)) 0)),(8,(.box 207 [(.mp 7)])),(9,(vB5 dl (aA sk) (aA dc))),(10,(.box 209 [(.fn 153 [] [(.ptr 4 0),(.ptr 6 0)])]))],.c (.tup [(pI n3),(pB b4)]) [(4,(vB0 dl (aA sk) (aA dc))),(5,(.box 33 [(.p aW)])),(6,(.box 139 (kVL 8 9 4 6 10 5))),(7,(.mp (aF T5) T5.length)),(8,(.box 207 [(.mp 7)])),(9,(vB5 dl (aA sk) (aA dc))),(10,(.box 209 [(.fn 153 [] [(.ptr 4 0),(.ptr 6 0)])]))],.c (.agg (kVL 15 16 11 13 17 12)) [(11,(vB0 dl (aA (aA sk)) (aA (bG (aA dc) q)))),(12,(.box 33 [(.p aW)])),(13,(.box 139 (kVL 15 16 11 13 17 12))),(14,(.mp (aF ([]:Lqb)) 0)),(15,(.box 207 [(.mp 14)])),(16,(vB5 dl (aA (aA sk)) (aA (bG (aA dc) q)))),(17,(.box 209 [(.fn 153 [] [(.ptr 11 0),(.ptr 13 0)])]))],.c (.tup [(pI n6),(pB b7)]) [(11,(vB0 dl (aA (aA sk)) (aA (bG (aA dc) q)))),(12,(.box 33 [(.p aW)])),(13,(.box 139 (kVL 15 16 11 13 17 12))),(14,(.mp (aF T8) T8.length)),(15,(.box 207 [(.mp 14)])),(16,(vB5 dl (aA (aA sk)) (aA (bG (aA dc) q)))),(17,(.box 209 [(.fn 153 [] [(.ptr 11 0),(.ptr 13 0)])]))],bF,bF,bF,bF]) (l:=[_,_,_,_,FC Tp 134 [(.rp (aE dl (aA (aA sk)) (aA (bG (aA dc) q))) 0),(.p (.agg [(aB s1),(aB s2)])),(.agg (kVL 15 16 11 13 17 12))] [(15,(.box 207 [(.mp 14)])),(16,(vB5 dl (aA (aA sk)) (aA (bG (aA dc) q)))),(11,(vB0 dl (aA (aA sk)) (aA (bG (aA dc) q)))),(13,(.box 139 (kVL 15 16 11 13 17 12))),(17,(.box 209 [(.fn 153 [] [(.ptr 11 0),(.ptr 13 0)])])),(12,(.box 33 [(.p aW)])),(14,(.mp (aF ([]:Lqb)) 0))] 19 (.tup [(pI n6),(pB b7)]) [(11,(vB0 dl (aA (aA sk)) (aA (bG (aA dc) q)))),(12,(.box 33 [(.p aW)])),(13,(.box 139 (kVL 15 16 11 13 17 12))),(14,(.mp (aF T8) T8.length)),(15,(.box 207 [(.mp 14)])),(16,(vB5 dl (aA (aA sk)) (aA (bG (aA dc) q)))),(17,(.box 209 [(.fn 153 [] [(.ptr 11 0),(.ptr 13 0)])]))],FC Tp 87 [(.rp (aE dl (aA (aA sk)) (aA (bG (aA dc) q))) 0),(.p aW)] [] 11 (.agg (kVL 15 16 11 13 17 12)) [(11,(vB0 dl (aA (aA sk)) (aA (bG (aA dc) q)))),(12,(.box 33 [(.p aW)])),(13,(.box 139 (kVL 15 16 11 13 17 12))),(14,(.mp (aF ([]:Lqb)) 0)),(15,(.box 207 [(.mp 14)])),(16,(vB5 dl (aA (aA sk)) (aA (bG (aA dc) q)))),(17,(.box 209 [(.fn 153 [] [(.ptr 11 0),(.ptr 13 0)])]))],FC Tp 134 [(.rp (aE dl (aA sk) (aA dc)) 0),(.p (.agg [(aB s1),(aB s2)])),(.agg (kVL 8 9 4 6 10 5))] [(8,(.box 207 [(.mp 7)])),(9,(vB5 dl (aA sk) (aA dc))),(4,(vB0 dl (aA sk) (aA dc))),(6,(.box 139 (kVL 8 9 4 6 10 5))),(10,(.box 209 [(.fn 153 [] [(.ptr 4 0),(.ptr 6 0)])])),(5,(.box 33 [(.p aW)])),(7,(.mp (aF ([]:Lqb)) 0))] 12 (.tup [(pI n3),(pB b4)]) [(4,(vB0 dl (aA sk) (aA dc))),(5,(.box 33 [(.p aW)])),(6,(.box 139 (kVL 8 9 4 6 10 5))),(7,(.mp (aF T5) T5.length)),(8,(.box 207 [(.mp 7)])),(9,(vB5 dl (aA sk) (aA dc))),(10,(.box 209 [(.fn 153 [] [(.ptr 4 0),(.ptr 6 0)])]))],FC Tp 87 [(.rp (aE dl (aA sk) (aA dc)) 0),(.p aW)] [] 4 (.agg (kVL 8 9 4 6 10 5)) [(4,(vB0 dl (aA sk) (aA dc))),(5,(.box 33 [(.p aW)])),(6,(.box 139 (kVL 8 9 4 6 10 5))),(7,(.mp (aF ([]:Lqb)) 0)),(8,(.box 207 [(.mp 7)])),(9,(vB5 dl (aA sk) (aA dc))),(10,(.box 209 [(.fn 153 [] [(.ptr 4 0),(.ptr 6 0)])]))],[(PV.rp (aE dl (aA sk) (aA dc)) 0)][0]? = some (PV.rp (aE dl (aA sk) (aA dc)) 0),[(PV.rp (aE dl (aA sk) (aA dc)) 0)][0]? = some (PV.rp (aE dl (aA sk) (aA dc)) 0),_,_,FC Tp 124 [(.own 3),(.fn 139 [] [(.rp [(aG q)] 0)])] [(3,(.row 44 ((aA dc).length) ((aA dc).flatten.map aB)))] 4 (.p (.sl ((bG (aA dc) q).length) ((bG (aA dc) q).flatten.map aB))) [(3,.dead)],_,(aE dl (aA sk) (aA dc))[2]? = some (.sl ((aA dc).length) ((aA dc).flatten.map aB)),[(PV.rp (aE dl (aA sk) (aA dc)) 0)][0]? = some (PV.rp (aE dl (aA sk) (aA dc)) 0),some (.agg (((aE dl (aA sk) (aA dc)).drop 0).take 3):PV)=some (.agg (bU dl (aA sk) (aA dc))),0+3≤(aE dl (aA sk) (aA dc)).length,[(PV.rp (aE dl (aA sk) (aA dc)) 0)][0]? = some (PV.rp (aE dl (aA sk) (aA dc)) 0),_,_,_,_]) (by kernel_rfl) (g4c (bJ h11) (gc (FMM.fc (ids:=[11,12,13,14,15,16,17]) h10 (by kernel_rfl)) (gc (FMM.fcN (k:=7) rfl (ids:=[]) (kW (dl:=dl) (sk:=(aA (aA sk))) (dc:=(aA (bG (aA dc) q)))) (by kernel_rfl)) (gc (FMM.fc (ids:=[4,5,6,7,8,9,10]) h9 (by kernel_rfl)) (gc (FMM.fcN (k:=7) rfl (ids:=[]) (kW (dl:=dl) (sk:=(aA sk)) (dc:=(aA dc))) (by kernel_rfl)) (gc rfl (gc rfl (gc aJj (gc (fk 4 (fW dl (aA sk) (bG (aA dc) q) h8) rfl) (gc (FMM.fc (ids:=[3]) (bIf (aA dc) q h6 h7 h3) (by kernel_rfl)) (gc (fk 3 (bEx (aA dc) h6 h7) rfl) (gc rfl (gc rfl (gc rfl (gc (by first | decide | simp) (gc rfl (gc (aR h5) (gc (fk 3 (bIg q dl (aA sk) (aA dc) h3 h4) rfl) (gc aJj (gc (fk 2 (aCw h0 h1 h2) rfl) gn))))))))))))))))))))
end
section

theorem bK.sub{dl:Int}{sk dc sk' dc' r:Lqq}(h:bK dl sk dc)(hs:sk'.Perm sk)(hd:(dc'++r).Perm dc):bK dl sk' dc':=by
 have hm:∀ x∈dc',x∈dc:=fun x hx=>hd.mem_iff.1 (kI.2 (.inl hx))
 have hl:=hd.length_eq;rw [lF] at hl
 have hc:∀ n,(aK sk' 0).contains n=(aK sk 0).contains n:=fun n=>by
  rw [Bool.eq_iff_iff,List.contains_iff_mem,List.contains_iff_mem];exact (hs.map fun x=>x.getD 0 0).mem_iff
 have hnd:(aK dc' 0).Nodup:=by
  have h1:=(hd.map fun x:List Int=>x.getD 0 0).nodup_iff.2 h.nd
  rw [iZ] at h1
  exact (List.nodup_append.1 h1).1
 have hl2:=h.len2;exact ⟨fun x hx=>h.us x (hs.mem_iff.1 hx),fun x hx=>h.ud x (hm x hx),by rw [hs.length_eq];exact h.len,by omega,h.hdl,fun x hx=>h.hsk x (hs.mem_iff.1 hx),fun x hx=>h.hdc x (hm x hx),
  (hs.map fun x:List Int=>x.getD 0 0).nodup_iff.2 h.ns,hnd,fun x hx=>by
   have:=h.inb x (hm x hx);unfold inB at this ⊢
   rw [hc];exact this,fun x hx=>h.ord x (hm x hx)⟩
section
variable {dl:Int} {oc:List Int} {sk dc:Lqq}
end
theorem bWs{sk:Lqq}(hn:(aK sk 0).Nodup){s:List Int}(hs:s∈sk):∃ i:Nat,iH sk (s.getD 0 0)=(i:Int)∧sk[i]? = some s:=by
 rcases bCe sk (s.getD 0 0) with ⟨i,x,h1,h2,h3⟩ | ⟨_,h2⟩
 ·exact ⟨i,h1,by rw [h2,aTj hn (kQ5 h2) hs h3]⟩
 ·exact absurd (eW.2 ⟨s,hs,rfl⟩) h2
end
section
section
variable {dl:Int} {sk dc:Lqq}
theorem aSb{l:Lqq}(hn:(aK l 0).Nodup)(hs:l.Pairwise fun a b=>a.getD 0 0≤b.getD 0 0):aA l=l:=(aCg hn (List.Perm.refl _) hs).symm
theorem aGx(h:bK dl sk dc)(q:List Int):bK dl (aA sk) (bG (aA dc) q):=by
 refine h.sub (dS sk) (r:=(aA dc).filter fun x => !(!(!(q.contains (x.getD 0 0))))) ?_
 exact (List.filter_append_perm (fun x => !(!(q.contains (x.getD 0 0)))) (aA dc)).trans (dS dc)
theorem aSc(h:bK dl sk dc)(q:List Int):aA (bG (aA dc) q)=bG (aA dc) q:=aSb (aGx h q).nd ((pR dc).sublist List.filter_sublist)
def qC(dl:Int)(D:Lqq)(q:List Int)(s0 s1:Int):Bool:=decide ((eR dl [] (bG D q) s0 s1).1=(eR dl [] D s0 s1).1) && ((eR dl [] (bG D q) s0 s1).2 == (eR dl [] D s0 s1).2)
theorem bWl(h:bK dl sk dc){bib:Int}{i:Nat}{s0 s1:Int}(hp:iH (aA sk) bib=(i:Int))(hs:(aA sk)[i]? = some [s0,s1]){q:List Int}(hq:q.length≤1000)(ha:∀ n∈q,∃ x∈aA dc,dN x=n){base:Nat}:FV Tp 65 [.p (.agg (bU dl sk dc)),.p (aB bib),.p (aG q)] base (.tup [.p (blP (qC dl (aA dc) q s0 s1)),.p (aB 0)]) []:=by
 have hd:=dL h;have hE:=aGx h q;have hdE:=dL hE;obtain ⟨_,_,h3,_⟩:=pY h;have hrg:=h3 _ (kQ5 hs);have hrg : -1≤s1∧s1≤360000:=hrg;have hin:∀ n∈q,bH (aA dc)∧inR n:=fun n hn=>by
  obtain ⟨x,hx,e⟩:=ha n hn;have:=cD hd hx;exact ⟨hd,by unfold inR;omega⟩
 have hat:q.all (atB (aA dc))=true:=iD.2 fun n hn=>by
  obtain ⟨x,hx,e⟩:=ha n hn;exact List.any_eq_true.2 ⟨x,hx,by rw [e];exact beq_self_eq_true _⟩
 obtain ⟨T1,_,c1⟩:=aLx (sk:=aA sk) (ov:=aW) (oc:=[]) (dl:=dl) hd iY s0 s1 hrg bW.nil;obtain ⟨T2,_,c2⟩:=aLx (sk:=aA (aA sk)) (ov:=aW) (oc:=[]) (dl:=dl) hdE iY s0 s1 hrg bW.nil;have e:=aSc h q;have hl:(aA dc).length≤1000:=hd.len;unfold qC
 by_cases ht:(eR dl [] (bG (aA dc) q) s0 s1).1=(eR dl [] (aA dc) s0 s1).1
 ·rw [decide_eq_true ht,iE]
  refine bWm h hp hs hq hin hat hd.ud hl hE c1 c2 ?_ ?_
  ·rw [e];exact ht
  ·rw [e]
 ·rw [decide_eq_false ht,Bool.false_and]
  refine bWn h hp hs hq hin hat hd.ud hl hE c1 c2 ?_;rw [e];exact ht
end
end
section

end
section

abbrev RS:=Bool × Bool × Bool × Bool × Int × Int × Int
end
section
end
section
section
variable {dl:Int} {sk dc:Lqq} {q:List Int} {i:Int} {L:List RS} {y100 y101 y102 y103 y104 y105:Int}
end
end
section
end
section
section
variable {dl:Int} {sk dc:Lqq} {q:List Int}
end
end
section
variable {dl:Int}{sk dc:Lqq}

theorem aSj:((0:Int) != (0:Int))=false:=by first | decide | simp
theorem bIh:((1:Int) != (0:Int))=true:=by first | decide | simp
theorem bIi(h:bK dl sk dc){base:Nat}:FV Tp 122 [.p (.agg (bU dl sk dc)),.fn 123 [] []] base (.tup [.p (aG (cB (bV dl [] (aA dc)) (aA dc))),.p (aB 0)]) [] :=
 bVh h _ fun x hx T hT=>bYn (dL h) iY hx hT
theorem aJm(h0:bK dl sk dc){base:Nat}:FV Tp 48 [(.p (.agg (bU dl sk dc)))] base (.tup [(.p (aG (cB (bV dl [] (aA dc)) (aA dc)))),(pI 0)]) []:=by
 exact FV.fin Tryz.func48 rfl (o:=[.c (.tup [(.p (aG (cB (bV dl [] (aA dc)) (aA dc)))),(pI 0)]) []]) (l:=[_]) (by kernel_rfl) (gc (fk 1 (bIi h0) rfl) gn)
theorem bWt{n z0 z1 z2 z3 z4 z5 m6:Int}{T7:Lqb}(h0:bK dl sk dc)(h1:ofN (aA dc) n=some [z0,z1,z2,z3,z4,z5])(h2:xI dl (aA sk) (aA dc) aW [z0,z1,z2,z3,z4,z5] m6 ([]:Lqb) T7){base:Nat}:FV Tp 74 [(.p (.agg (bU dl sk dc))),(pI n)] base (.tup [(pI m6),(pI 0)]) []:=by
 exact FV.fin Tryz.func74 rfl (o:=[.c (.tup [(.rp (aE dl (aA sk) (aA dc)) 0),(.p (dcE z0 z1 z2 z3 z4 z5)),(pI 0)]) [],bF,.c (.agg (kVL 6 7 2 4 8 3)) [(2,(vB0 dl (aA sk) (aA dc))),(3,(.box 33 [(.p aW)])),(4,(.box 139 (kVL 6 7 2 4 8 3))),(5,(.mp (aF ([]:Lqb)) 0)),(6,(.box 207 [(.mp 5)])),(7,(vB5 dl (aA sk) (aA dc))),(8,(.box 209 [(.fn 153 [] [(.ptr 2 0),(.ptr 4 0)])]))],.c (pI m6) [(2,(vB0 dl (aA sk) (aA dc))),(3,(.box 33 [(.p aW)])),(4,(.box 139 (kVL 6 7 2 4 8 3))),(5,(.mp (aF T7) T7.length)),(6,(.box 207 [(.mp 5)])),(7,(vB5 dl (aA sk) (aA dc))),(8,(.box 209 [(.fn 153 [] [(.ptr 2 0),(.ptr 4 0)])]))]]) (l:=[FC Tp 160 [(.p (dcE z0 z1 z2 z3 z4 z5)),(.ptr 4 0)] [(4,(.box 139 (kVL 6 7 2 4 8 3))),(6,(.box 207 [(.mp 5)])),(7,(vB5 dl (aA sk) (aA dc))),(2,(vB0 dl (aA sk) (aA dc))),(8,(.box 209 [(.fn 153 [] [(.ptr 2 0),(.ptr 4 0)])])),(3,(.box 33 [(.p aW)])),(5,(.mp (aF ([]:Lqb)) 0))] 10 (pI m6) [(2,(vB0 dl (aA sk) (aA dc))),(3,(.box 33 [(.p aW)])),(4,(.box 139 (kVL 6 7 2 4 8 3))),(5,(.mp (aF T7) T7.length)),(6,(.box 207 [(.mp 5)])),(7,(vB5 dl (aA sk) (aA dc))),(8,(.box 209 [(.fn 153 [] [(.ptr 2 0),(.ptr 4 0)])]))],FC Tp 87 [(.rp (aE dl (aA sk) (aA dc)) 0),(.p aW)] [] 2 (.agg (kVL 6 7 2 4 8 3)) [(2,(vB0 dl (aA sk) (aA dc))),(3,(.box 33 [(.p aW)])),(4,(.box 139 (kVL 6 7 2 4 8 3))),(5,(.mp (aF ([]:Lqb)) 0)),(6,(.box 207 [(.mp 5)])),(7,(vB5 dl (aA sk) (aA dc))),(8,(.box 209 [(.fn 153 [] [(.ptr 2 0),(.ptr 4 0)])]))],_,_]) (by kernel_rfl) (gc (FMM.fc (ids:=[2,3,4,5,6,7,8]) h2 (by kernel_rfl)) (gc (FMM.fcN (k:=7) rfl (ids:=[]) (kW (dl:=dl) (sk:=(aA sk)) (dc:=(aA dc))) (by kernel_rfl)) (gc aSj (gc (fk 1 (aRi h0 h1) rfl) gn))))
theorem bWu{n:Int}(h0:bK dl sk dc)(h1:inR n)(h2:ofN (aA dc) n=none){base:Nat}:FV Tp 74 [(.p (.agg (bU dl sk dc))),(pI n)] base (.tup [(pI 0),(pI 1)]) []:=by
 exact FV.fin Tryz.func74 rfl (o:=[.c (.tup [(.p (.v (.pointer none))),(.p (dcE 0 0 0 0 0 0)),(pI 1)]) [],bT]) (l:=[_,_]) (by kernel_rfl) (gc bIh (gc (fk 1 (bHp h0 h1 h2) rfl) gn))
theorem bWv{n r0:Int}(h0:uni 2 sk)(h1:uni 6 dc)(h2:(iN dl sk dc)≠0)(er0:r0=(iN dl sk dc)){base:Nat}:FV Tp 74 [(.p (.agg (bU dl sk dc))),(pI n)] base (.tup [(pI 0),(pI r0)]) []:=by
 subst er0;exact FV.fin Tryz.func74 rfl (o:=[.c (.tup [(.p (.v (.pointer none))),(.p (dcE 0 0 0 0 0 0)),(pI (iN dl sk dc))]) [],bT]) (l:=[_,_]) (by kernel_rfl) (gc (nG h2) (gc (fk 1 (aUm (n:=n) h0 h1 h2) rfl) gn))
theorem bWw{n z0 z1 z2 z3 z4 z5 r6:Int}(h0:bK dl sk dc)(h1:ofN (aA dc) n=some [z0,z1,z2,z3,z4,z5])(h2:aMq dl (aA sk) (aA dc) [z0,z1,z2,z3,z4,z5] r6)(h3:(0:Int)<r6){base:Nat}:FV Tp 53 [(.p (.agg (bU dl sk dc))),(pI n)] base (.tup [(pI r6),(pI 0)]) []:=by
 exact FV.fin Tryz.func53 rfl (o:=[.c (.tup [(.rp (aE dl (aA sk) (aA dc)) 0),(.p (dcE z0 z1 z2 z3 z4 z5)),(pI 0)]) [],bF,.c (pI r6) [],bT]) (l:=[_,FC Tp 128 [(.rp (aE dl (aA sk) (aA dc)) 0),(.p (dcE z0 z1 z2 z3 z4 z5))] [] 2 (pI r6) [],_,_]) (by kernel_rfl) (gc (bA h3) (gc (FV.fc (h2 _) rfl) (gc aSj (gc (fk 1 (aRi h0 h1) rfl) gn))))
theorem bWx{n z0 z1 z2 z3 z4 z5 r6:Int}(h0:bK dl sk dc)(h1:ofN (aA dc) n=some [z0,z1,z2,z3,z4,z5])(h2:aMq dl (aA sk) (aA dc) [z0,z1,z2,z3,z4,z5] r6)(h3:r6≤0){base:Nat}:FV Tp 53 [(.p (.agg (bU dl sk dc))),(pI n)] base (.tup [(pI 0),(pI 6)]) []:=by
 exact FV.fin Tryz.func53 rfl (o:=[.c (.tup [(.rp (aE dl (aA sk) (aA dc)) 0),(.p (dcE z0 z1 z2 z3 z4 z5)),(pI 0)]) [],bF,.c (pI r6) [],bF]) (l:=[_,FC Tp 128 [(.rp (aE dl (aA sk) (aA dc)) 0),(.p (dcE z0 z1 z2 z3 z4 z5))] [] 2 (pI r6) [],_,_]) (by kernel_rfl) (gc (bL h3) (gc (FV.fc (h2 _) rfl) (gc aSj (gc (fk 1 (aRi h0 h1) rfl) gn))))
theorem bWy{n:Int}(h0:bK dl sk dc)(h1:inR n)(h2:ofN (aA dc) n=none){base:Nat}:FV Tp 53 [(.p (.agg (bU dl sk dc))),(pI n)] base (.tup [(pI 0),(pI 1)]) []:=by
 exact FV.fin Tryz.func53 rfl (o:=[.c (.tup [(.p (.v (.pointer none))),(.p (dcE 0 0 0 0 0 0)),(pI 1)]) [],bT]) (l:=[_,_]) (by kernel_rfl) (gc bIh (gc (fk 1 (bHp h0 h1 h2) rfl) gn))
theorem bWz{n r0:Int}(h0:uni 2 sk)(h1:uni 6 dc)(h2:(iN dl sk dc)≠0)(er0:r0=(iN dl sk dc)){base:Nat}:FV Tp 53 [(.p (.agg (bU dl sk dc))),(pI n)] base (.tup [(pI 0),(pI r0)]) []:=by
 subst er0;exact FV.fin Tryz.func53 rfl (o:=[.c (.tup [(.p (.v (.pointer none))),(.p (dcE 0 0 0 0 0 0)),(pI (iN dl sk dc))]) [],bT]) (l:=[_,_]) (by kernel_rfl) (gc (nG h2) (gc (fk 1 (aUm (n:=n) h0 h1 h2) rfl) gn))
end
section

theorem uS(l:List Int)(v:Int)(hl:l.length≤1000){base:Nat}:FV Tp 52 [.p (aG l),.p (aB v)] base (.p (blP (l.contains v))) []:=mG l v hl
end
section

end
section
section
variable {dl:Int} {sk dc:Lqq}
end
def oT(dl:Int)(sk dc:Lqq)(n:Int):Int × Int:=if iN dl sk dc≠0 then (0,iN dl sk dc) else match ofN (aA dc) n with
 | some x=>(lK dl [] (aA dc) x,0)
 | none=>(0,1)
def oU(dl:Int)(sk dc:Lqq)(n:Int):Int × Int:=if iN dl sk dc≠0 then (0,iN dl sk dc) else match ofN (aA dc) n with
 | some x=>if 0<fA (aA dc) x then (fA (aA dc) x,0) else (0,6)
 | none=>(0,1)
theorem bXa{dl:Int}{sk dc:Lqq}(us:uni 2 sk)(ud:uni 6 dc){n:Int}(hn:inR n){base:Nat}:FV Tp 74 [.p (.agg (bU dl sk dc)),.p (aB n)] base (.tup [.p (aB (oT dl sk dc n).1),.p (aB (oT dl sk dc n).2)]) []:=by
 unfold oT
 by_cases hc:iN dl sk dc≠0
 ·rw [if_pos hc]
  exact bWv us ud hc rfl
 ·rw [if_neg hc]
  have h:=(vY us ud).1 (Classical.not_not.1 hc);have hd:=dL h;cases ho:ofN (aA dc) n with
  | none=>exact bWu h hn ho
  | some x =>
   have hm:=(jY ho).1;obtain ⟨T',_,hT⟩:=bXr (dl:=dl) (sk:=aA sk) (ov:=aW) (oc:=[]) hd iY hm (T:=[]) bW.nil;obtain ⟨y0,y1,y2,y3,y4,y5,rfl⟩:=len6 (hd.ud x hm);exact bWt h ho hT
theorem bXb{dl:Int}{sk dc:Lqq}(us:uni 2 sk)(ud:uni 6 dc){n:Int}(hn:inR n){base:Nat}:FV Tp 53 [.p (.agg (bU dl sk dc)),.p (aB n)] base (.tup [.p (aB (oU dl sk dc n).1),.p (aB (oU dl sk dc n).2)]) []:=by
 unfold oU
 by_cases hc:iN dl sk dc≠0
 ·rw [if_pos hc]
  exact bWz us ud hc rfl
 ·rw [if_neg hc]
  have h:=(vY us ud).1 (Classical.not_not.1 hc);have hd:=dL h;cases ho:ofN (aA dc) n with
  | none=>exact bWy h hn ho
  | some x =>
   have hm:=(jY ho).1;have hr:=cD hd hm;have hab:=kK hd x hm;obtain ⟨a,b,c,d,e,f,rfl⟩:=len6 (hd.ud x hm);have hf:inR f:=by
    have:=(iF.1 (hd.rng _ hm));unfold inR;simp [dAb] at this hab ⊢;omega
   have hsbj:aMq dl (aA sk) (aA dc) [a,b,c,d,e,f] (fA (aA dc) [a,b,c,d,e,f]):=fun base=>aRj hd hf (.inl hm) hr.2
   by_cases h0:0<fA (aA dc) [a,b,c,d,e,f]
   ·have e1:(match some [a,b,c,d,e,f] with | some x=>if 0<fA (aA dc) x then (fA (aA dc) x,(0:Int)) else (0,6) | none=>(0,1))=(fA (aA dc) [a,b,c,d,e,f],0):=by
     show (if _ then _ else _)=_
     rw [if_pos h0]
    rw [e1];exact bWw h ho hsbj h0
   ·have e1:(match some [a,b,c,d,e,f] with | some x=>if 0<fA (aA dc) x then (fA (aA dc) x,(0:Int)) else (0,6) | none=>(0,1))=(0,6):=by
     show (if _ then _ else _)=_
     rw [if_neg h0]
    rw [e1];exact bWx h ho hsbj (by omega)
end
section

theorem uR{dl:Int}{sk dc:Lqq}{n b e:Int}(us:uni 2 sk)(ud:uni 6 dc)(hn:inR n)(h:oU dl sk dc n=(b,e)){base:Nat}:FV Tp 53 [.p (.agg (bU dl sk dc)),.p (aB n)] base (.tup [.p (aB b),.p (aB e)]) []:=by
 have:=bXb (dl:=dl) us ud hn (base:=base);rw [h] at this
 exact this
end
section

noncomputable abbrev lG:Code:=sub (cd Tryz.f15) [1,1,1,1,1,1,1,1,1,1,0,1,0,0]
noncomputable abbrev aCb:Code:=sub (cd Tryz.f77) [1,0,1,0,0]
theorem jB:((0:Int) != (0:Int))=false:=by first | decide | simp
theorem bPx{a b c d e f n:Int}{r0:Bool}(er0:r0=(a == n)){base:Nat}:FV Tp 78 [(.p (dcE a b c d e f)),(.rp [(aB n)] 0)] base (pB r0) []:=by
 subst er0;exact FV.fin Tryz.func78 rfl (o:=[.x (aB n)]) (l:=[[(aB n)][0]? = some (aB n)]) (by kernel_rfl) (gc rfl gn)
theorem bEq(a b c d e f n:Int){base:Nat}:FV Tp 78 [.p (dcE a b c d e f),.rp [aB n] 0] base (pB (a == n)) []:=bPx rfl
def lH(l:Lqq)(n:Int)(i:Nat):St:=⟨fr 19 [(0,(.p (fS l))),(1,(.fn 78 [] [(.rp [(aB n)] 0)])),(7,(pI (l.length:Int))),(8,(pI (i:Int)))],[]⟩
theorem bPy{l:Lqq}{n:Int}{i'0:Nat}(hl0:aI Tp 0 aCb (lH l n 0) .ret (cG (lH l n i'0) [(4,(pI (i'0:Int)))])){base:Nat}:FV Tp 77 [(.p (fS l)),(.fn 78 [] [(.rp [(aB n)] 0)])] base (pI (i'0:Int)) []:=by
 exact FV.fin Tryz.func77 rfl (o:=[.k 6 ⟨(rng [(2,5),(9,10)]),[],[],[]⟩ .ret (cG (lH l n i'0) [(4,(pI (i'0:Int)))])]) (l:=[_]) (by kernel_rfl) (gc hl0.code gn)
theorem aWw{l:Lqq}{n:Int}{i:Nat}{y100 y101 y102 y103 y104 y105:Int}(h0:(i:Int)<(l.length:Int))(h1:l[i]? = some [y100,y101,y102,y103,y104,y105])(h2:uni 6 l)(h3:(y100 == n)=true):aC Tp 0 aCb (lH l n i) .ret (cG (lH l n i) [(4,(pI (i:Int)))]):=by
 exact aC.fin (g:=⟨(rng [(2,2),(5,2),(9,10)]),[],[],[]⟩) (o:=[bT,.x (dcE y100 y101 y102 y103 y104 y105),.c (pB (y100 == n)) [],bT]) (l:=[_,_,_,_,0≤(i:Int)∧(i:Int)<(l.length:Int)∧(i*6)<(l.flatten.map aB).length,_]) (by kernel_rfl) (gc h3 (gc (fk 0 (bEq y100 y101 y102 y103 y104 y105 n) rfl) (gc (aT (i:=i) h2 h1) (gc (bI (i:=i) h2 h1) (gc (bO (k:=6) (i:=(i:Int)) (by decide) h2 (kQ2 _) h1) (gc (bA h0) gn))))))
theorem aWx{l:Lqq}{n:Int}{i:Nat}{y100 y101 y102 y103 y104 y105:Int}{i':Nat}(h0:(i:Int)<(l.length:Int))(h1:l[i]? = some [y100,y101,y102,y103,y104,y105])(h2:uni 6 l)(h3:(y100 == n)=false)(h4:inR (((i+1):Nat):Int))(ei':i'=(i+1)):aC Tp 0 aCb (lH l n i) .normal (lH l n i'):=by
 subst ei';exact aC.fin (g:=⟨(rng [(2,5),(9,10)]),[],[],[]⟩) (o:=[bT,.x (dcE y100 y101 y102 y103 y104 y105),.c (pB (y100 == n)) [],bF]) (l:=[_,_,_,_,_,0≤(i:Int)∧(i:Int)<(l.length:Int)∧(i*6)<(l.flatten.map aB).length,_]) (by kernel_rfl) (gc h4 (gc h3 (gc (fk 0 (bEq y100 y101 y102 y103 y104 y105 n) rfl) (gc (aT (i:=i) h2 h1) (gc (bI (i:=i) h2 h1) (gc (bO (k:=6) (i:=(i:Int)) (by decide) h2 (kQ2 _) h1) (gc (bA h0) gn)))))))
theorem aWy{l:Lqq}{n:Int}{i:Nat}(h0:(l.length:Int)≤(i:Int)):aC Tp 0 aCb (lH l n i) (.exit 0) (lH l n i):=by
 exact aC.fin (g:=⟨(rng [(2,5),(9,10)]),[],[],[]⟩) (o:=[bF]) (l:=[_]) (by kernel_rfl) (gc (bL h0) gn)
theorem uD(l:Lqq)(n:Int)(hu:uni 6 l)(hl:l.length≤1000){i:Nat}(hi:aZ (fun x=>x.getD 0 0 == n) l=(i:Int)){base:Nat}:FV Tp 77 [.p (fS l),.fn 78 [] [.rp [aB n] 0]] base (pI (i:Int)) []:=by
 rcases aI.find (P:=Tp) (k:=0) (b:=aCb) (fun i=>lH l n i) (fun i _=>cG (lH l n i) [(4,.p (aB (i:Int)))]) (lH l n l.length) .ret (.exit 0) (by simp) (by simp) (fun x=>x.getD 0 0 == n) l
  (fun i x hx hq=>by
   obtain ⟨a,b,c,d,e,f,rfl⟩:=len6 (hu _ (kQ5 hx));exact aWx (by have:=bB hx;omega) hx hu hq (aO (by have:=bB hx;omega)) rfl)
  (fun i x hx hq=>by
   obtain ⟨a,b,c,d,e,f,rfl⟩:=len6 (hu _ (kQ5 hx));exact aWw (by have:=bB hx;omega) hx hu hq)
  (aWy (by omega)) with ⟨j,x,h1,h2,h3,h4⟩ | ⟨h1,h2,h3⟩
 ·rw [gG h2] at hi
  have:j=i:=by exact_mod_cast hi
  subst this;exact bPy h4
 ·rw [gH h1] at hi
  omega
section
variable {dl:Int} {sk dc:Lqq}
theorem uE{n b e:Int}(us:uni 2 sk)(ud:uni 6 dc)(hn:inR n)(h:oT dl sk dc n=(b,e)){base:Nat}:FV Tp 74 [.p (.agg (bU dl sk dc)),.p (aB n)] base (.tup [.p (aB b),.p (aB e)]) []:=by
 have:=bXa (dl:=dl) us ud hn (base:=base);rw [h] at this
 exact this
theorem aIa(h:bK dl sk dc){bib:Int}{i:Nat}{s0 s1:Int}(hp:iH (aA sk) bib=(i:Int))(hs:(aA sk)[i]? = some [s0,s1]){c:List Int}(hc:cV dl (aA dc) bib=c){base:Nat}:FV Tp 64 [.p (.agg (bU dl sk dc)),.p (aB bib)] base (.tup [.p (aG c),.p (aB 0)]) []:=by
 rw [← hc];exact bQb h hp hs
theorem rK(h:bK dl sk dc){bib:Int}{i:Nat}{s0 s1:Int}(hp:iH (aA sk) bib=(i:Int))(hs:(aA sk)[i]? = some [s0,s1]){q:List Int}(hq:q.length≤1000)(ha:∀ n∈q,∃ x∈aA dc,dN x=n){b:Bool}(hb:qC dl (aA dc) q s0 s1=b){base:Nat}:FV Tp 65 [.p (.agg (bU dl sk dc)),.p (aB bib),.p (aG q)] base (.tup [.p (blP b),.p (aB 0)]) []:=by
 rw [← hb];exact bWl h hp hs hq ha
end
def dD(sk0:Lqq)(dc1:Lqq)(y4:Int)(y5:Int)(c9:List Int)(t17:Int)(o18:Bool)(i:Nat)(sm:Int)(go:Bool):St:=⟨fr 214 [(5,(.ptr 0 0)),(6,(.ptr 1 0)),(11,(.p (aG (cB (bV (30:Int) [] (aA dc1)) (aA dc1))))),(13,(pI t17)),(14,(pB o18)),(18,(pI sm)),(19,(pB go)),(120,(.p (aG c9))),(121,(pI (c9.length:Int))),(122,(pI (i:Int)))],[some (.box 26 [(pI 30),(.p (fS sk0)),(.p (fS dc1))]),some (.box 31 [(pI y4),(pI y5)])]⟩
theorem bPz{l1:List Int}{wh:Int}{sk0 dc1:Lqq}{m2 t3 y4 y5:Int}{i6:Nat}{s7 s8:Int}{c9:List Int}{i10:Nat}{s11 s12:Int}{b13:Bool}{i14:Nat}{s15 s16 t17:Int}{o18:Bool}{i19:Nat}{s20 s21:Int}{b22:Bool}{i'23:Nat}{sm'24:Int}{go'25:Bool}(h0:0≤(0:Int)∧(0:Int)≤900)(h1:1≤(6:Int)∧(6:Int)≤30)(h2:0≤(18:Int)∧(18:Int)≤40)(h3:aLm (6:Int) (18:Int) l1 (0:Int) (17:Int)=(sk0,dc1,m2,t3))(h4:inR wh)(h5:(sk0.length:Int)≠0)(h6:sk0[(wh.tmod (sk0.length:Int)).toNat]? = some [y4,y5])(h7:0≤(wh.tmod (sk0.length:Int)))(h8:uni 2 sk0)(h9:bK (30:Int) sk0 dc1)(h10:iH (aA sk0) y4=(i6:Int))(h11:(aA sk0)[i6]? = some [s7,s8])(h12:cV (30:Int) (aA dc1) y4=c9)(h13:iH (aA sk0) y4=(i10:Int))(h14:(aA sk0)[i10]? = some [s11,s12])(h15:c9.length≤1000)(h16:∀ n∈c9,∃ x∈aA dc1,dN x=n)(h17:qC (30:Int) (aA dc1) c9 s11 s12=b13)(h18:iH (aA sk0) y4=(i14:Int))(h19:(aA sk0)[i14]? = some [s15,s16])(h20:eR (30:Int) [] (aA dc1) s15 s16=(t17,o18))(h21:iH (aA sk0) y4=(i19:Int))(h22:(aA sk0)[i19]? = some [s20,s21])(h23:([]:List Int).length≤1000)(h24:∀ n∈([]:List Int),∃ x∈aA dc1,dN x=n)(h25:qC (30:Int) (aA dc1) ([]:List Int) s20 s21=b22)(h26:b13=true)(h27:(o18 == (y5 == (-1:Int)))=true)(h28:o18=true)(h29:(b22 == true)=true)(hl30:aI Tp 0 lG (dD sk0 dc1 y4 y5 c9 t17 o18 0 y5 (y5 == (-1:Int))) (.exit 0) (dD sk0 dc1 y4 y5 c9 t17 o18 i'23 sm'24 go'25))(h31:(go'25 == o18)=true)(h32:t17=0)(h33:∀ {base:Nat},FV Tp 26 [] base (pB true) []){base:Nat}:FV Tp 15 [(.p (.sl l1.length (l1.map aN))),(.p (.v (.int .u8 wh)))] base (pB true) []:=by
 exact FV.fin Tryz.func15 rfl (o:=[.c (.ptr 0 0) [(0,(.box 129 [(.p (.sl l1.length (l1.map aN))),(pI 0),(.p (.v (.int .u32 (17:Int))))]))],.c (.p (.agg (bU 30 sk0 dc1))) [(0,(.box 129 [(.p (.sl l1.length (l1.map aN))),(pI m2),(.p (.v (.int .u32 t3)))]))],.x (.agg [(aB y4),(aB y5)]),.c (.tup [(.p (aG c9)),(pI 0)]) [],.c (.tup [(pB b13),(pI 0)]) [],.c (.tup [(.p (aG (cB (bV (30:Int) [] (aA dc1)) (aA dc1)))),(pI 0)]) [],.c (.tup [(pI t17),(pB o18),(pI 0)]) [],.c (.tup [(pB b22),(pI 0)]) [],bF,bF,bF,bF,bF,bF,bF,bF,bF,bF,bF,bF,bF,bF,bF,bF,bF,bF,bF,bF,bF,bF,bT,bT,bT,bT,bT,bT,bT,bT,bF,bT,bF,bF,bF,.k 6 ⟨(rng [(0,5),(7,4),(12,1),(15,3),(20,100),(123,68)]),[1,3],[],[]⟩ (.exit 0) (dD sk0 dc1 y4 y5 c9 t17 o18 i'23 sm'24 go'25),bT,bT,bT,bT,bT,bT,bT,bT,bT,bT,bT,bT,bT,bT,.c (pB true) []]) (l:=[FC Tp 26 [] [] 2 (pB true) [],_,_,_,_,_,_,_,_,_,_,_,_,_,_,_,_,_,_,_,_,_,_,_,_,_,_,_,_,_,_,_,_,_,_,_,_,_,_,_,_,_,_,_,_,_,_,_,_,_,_,_,_,FC Tp 48 [(.p (.agg (bU 30 sk0 dc1)))] [] 4 (.tup [(.p (aG (cB (bV (30:Int) [] (aA dc1)) (aA dc1)))),(pI 0)]) [],_,_,_,_,0≤(wh.tmod (sk0.length:Int))∧(wh.tmod (sk0.length:Int))<(sk0.length:Int)∧((wh.tmod (sk0.length:Int)).toNat*2)<(sk0.flatten.map aB).length,_,_,FC Tp 16 [(.ptr 0 0),(pI 6),(pI 18)] [(0,(.box 129 [(.p (.sl l1.length (l1.map aN))),(pI 0),(.p (.v (.int .u32 (17:Int))))]))] 1 (.p (.agg (bU 30 sk0 dc1))) [(0,(.box 129 [(.p (.sl l1.length (l1.map aN))),(pI m2),(.p (.v (.int .u32 t3)))]))],FC Tp 17 [(.p (.sl l1.length (l1.map aN)))] [] 0 (.ptr 0 0) [(0,(.box 129 [(.p (.sl l1.length (l1.map aN))),(pI 0),(.p (.v (.int .u32 (17:Int))))]))]]) (by kernel_rfl) (gc (FV.fc h33 (by kernel_rfl)) (gc h31 (gc (dR h32) (gc h31 (g4c (dR h32) (gc h31 (gc h28 (gc h31 (g2c h28 (g2c h31 (gc hl30.code (gc (aR h29) (g2c (aR h26) (gc h27 (gc (aR h26) (gc h28 (gc h27 (g4c h28 (g2c h27 (g7c (aR h26) (g8c jB (g7c jB (gc (fk 4 (FV.argwk (args:=[(.p (.agg (bU 30 sk0 dc1))),(pI y4),(.p aW)]) (rK h9 h21 h22 h23 h24 h25) (by kernel_rfl)) rfl) (gc (fk 4 (aIc h9 h18 h19 h20) rfl) (gc (FV.fc (aJm h9) rfl) (gc (fk 4 (rK h9 h13 h14 h15 h16 h17) rfl) (gc (fk 4 (aIa h9 h10 h11 h12) rfl) (gc (aT (i:=(wh.tmod (sk0.length:Int)).toNat) h8 h6) (gc (bI (i:=(wh.tmod (sk0.length:Int)).toNat) h8 h6) (gc (bO (k:=2) (i:=(wh.tmod (sk0.length:Int))) (by decide) h8 h7 h6) (gc h5 (gc h4 (gc (FMM.fc (ids:=[0]) (aIb (6:Int) (18:Int) l1 (0:Int) (17:Int) h0 h1 h2 h3) (by kernel_rfl)) (gc (FMM.fc (ids:=[]) (ofO l1) (by kernel_rfl)) gn))))))))))))))))))))))))))))))))))
theorem bQa{l1:List Int}{wh:Int}{sk0 dc1:Lqq}{m2 t3 y4 y5:Int}{i6:Nat}{s7 s8:Int}{c9:List Int}{i10:Nat}{s11 s12:Int}{b13:Bool}{i14:Nat}{s15 s16 t17:Int}{o18:Bool}{i19:Nat}{s20 s21:Int}{b22:Bool}{i'23:Nat}{sm'24:Int}{go'25:Bool}(h0:0≤(0:Int)∧(0:Int)≤900)(h1:1≤(6:Int)∧(6:Int)≤30)(h2:0≤(18:Int)∧(18:Int)≤40)(h3:aLm (6:Int) (18:Int) l1 (0:Int) (17:Int)=(sk0,dc1,m2,t3))(h4:inR wh)(h5:(sk0.length:Int)≠0)(h6:sk0[(wh.tmod (sk0.length:Int)).toNat]? = some [y4,y5])(h7:0≤(wh.tmod (sk0.length:Int)))(h8:uni 2 sk0)(h9:bK (30:Int) sk0 dc1)(h10:iH (aA sk0) y4=(i6:Int))(h11:(aA sk0)[i6]? = some [s7,s8])(h12:cV (30:Int) (aA dc1) y4=c9)(h13:iH (aA sk0) y4=(i10:Int))(h14:(aA sk0)[i10]? = some [s11,s12])(h15:c9.length≤1000)(h16:∀ n∈c9,∃ x∈aA dc1,dN x=n)(h17:qC (30:Int) (aA dc1) c9 s11 s12=b13)(h18:iH (aA sk0) y4=(i14:Int))(h19:(aA sk0)[i14]? = some [s15,s16])(h20:eR (30:Int) [] (aA dc1) s15 s16=(t17,o18))(h21:iH (aA sk0) y4=(i19:Int))(h22:(aA sk0)[i19]? = some [s20,s21])(h23:([]:List Int).length≤1000)(h24:∀ n∈([]:List Int),∃ x∈aA dc1,dN x=n)(h25:qC (30:Int) (aA dc1) ([]:List Int) s20 s21=b22)(h26:b13=true)(h27:(o18 == (y5 == (-1:Int)))=true)(h28:o18=false)(h29:(b22 == (t17 == y5))=true)(hl30:aI Tp 0 lG (dD sk0 dc1 y4 y5 c9 t17 o18 0 y5 (y5 == (-1:Int))) (.exit 0) (dD sk0 dc1 y4 y5 c9 t17 o18 i'23 sm'24 go'25))(h31:(go'25 == o18)=true)(h32:t17=(if sm'24 > (0:Int) then sm'24 else (0:Int)))(h33:∀ {base:Nat},FV Tp 26 [] base (pB true) []){base:Nat}:FV Tp 15 [(.p (.sl l1.length (l1.map aN))),(.p (.v (.int .u8 wh)))] base (pB true) []:=by
 exact FV.fin Tryz.func15 rfl (o:=[.c (.ptr 0 0) [(0,(.box 129 [(.p (.sl l1.length (l1.map aN))),(pI 0),(.p (.v (.int .u32 (17:Int))))]))],.c (.p (.agg (bU 30 sk0 dc1))) [(0,(.box 129 [(.p (.sl l1.length (l1.map aN))),(pI m2),(.p (.v (.int .u32 t3)))]))],.x (.agg [(aB y4),(aB y5)]),.c (.tup [(.p (aG c9)),(pI 0)]) [],.c (.tup [(pB b13),(pI 0)]) [],.c (.tup [(.p (aG (cB (bV (30:Int) [] (aA dc1)) (aA dc1)))),(pI 0)]) [],.c (.tup [(pI t17),(pB o18),(pI 0)]) [],.c (.tup [(pB b22),(pI 0)]) [],bF,bF,bF,bF,bF,bF,bF,bF,bF,bF,bF,bF,bF,bF,bF,bF,bF,bF,bF,bF,bF,bF,bT,bT,bF,bF,bF,bF,bT,bF,bF,bT,bF,bF,bF,.k 6 ⟨(rng [(0,5),(7,4),(12,1),(15,3),(20,100),(123,68)]),[1,3],[],[]⟩ (.exit 0) (dD sk0 dc1 y4 y5 c9 t17 o18 i'23 sm'24 go'25),bT,bT,bF,bF,bT,bF,bT,bT,bT,bT,bT,bT,bT,bT,bT,.c (pB true) [],bT]) (l:=[_,FC Tp 26 [] [] 2 (pB true) [],_,_,_,_,_,_,_,_,_,_,_,_,_,_,_,_,_,_,_,_,_,_,_,_,_,_,_,_,_,_,_,_,_,_,_,_,_,_,_,_,_,_,_,_,_,_,_,_,_,_,_,_,_,FC Tp 48 [(.p (.agg (bU 30 sk0 dc1)))] [] 4 (.tup [(.p (aG (cB (bV (30:Int) [] (aA dc1)) (aA dc1)))),(pI 0)]) [],_,_,_,_,0≤(wh.tmod (sk0.length:Int))∧(wh.tmod (sk0.length:Int))<(sk0.length:Int)∧((wh.tmod (sk0.length:Int)).toNat*2)<(sk0.flatten.map aB).length,_,_,FC Tp 16 [(.ptr 0 0),(pI 6),(pI 18)] [(0,(.box 129 [(.p (.sl l1.length (l1.map aN))),(pI 0),(.p (.v (.int .u32 (17:Int))))]))] 1 (.p (.agg (bU 30 sk0 dc1))) [(0,(.box 129 [(.p (.sl l1.length (l1.map aN))),(pI m2),(.p (.v (.int .u32 t3)))]))],FC Tp 17 [(.p (.sl l1.length (l1.map aN)))] [] 0 (.ptr 0 0) [(0,(.box 129 [(.p (.sl l1.length (l1.map aN))),(pI 0),(.p (.v (.int .u32 (17:Int))))]))]]) (by kernel_rfl) (gc (dR h32) (gc (FV.fc h33 (by kernel_rfl)) (gc (dR h32) (g2c h31 (g5c (cP h28) (gc h31 (gc h28 (gc h31 (g2c h28 (g2c h31 (gc hl30.code (gc (aR h29) (g2c (aR h26) (gc h27 (gc (aR h26) (gc h28 (gc h27 (g4c h28 (g2c h27 (g7c (aR h26) (g8c jB (g7c jB (gc (fk 4 (FV.argwk (args:=[(.p (.agg (bU 30 sk0 dc1))),(pI y4),(.p aW)]) (rK h9 h21 h22 h23 h24 h25) (by kernel_rfl)) rfl) (gc (fk 4 (aIc h9 h18 h19 h20) rfl) (gc (FV.fc (aJm h9) rfl) (gc (fk 4 (rK h9 h13 h14 h15 h16 h17) rfl) (gc (fk 4 (aIa h9 h10 h11 h12) rfl) (gc (aT (i:=(wh.tmod (sk0.length:Int)).toNat) h8 h6) (gc (bI (i:=(wh.tmod (sk0.length:Int)).toNat) h8 h6) (gc (bO (k:=2) (i:=(wh.tmod (sk0.length:Int))) (by decide) h8 h7 h6) (gc h5 (gc h4 (gc (FMM.fc (ids:=[0]) (aIb (6:Int) (18:Int) l1 (0:Int) (17:Int) h0 h1 h2 h3) (by kernel_rfl)) (gc (FMM.fc (ids:=[]) (ofO l1) (by kernel_rfl)) gn))))))))))))))))))))))))))))))))))
theorem bJn{l1:List Int}{wh:Int}{sk0 dc1:Lqq}{m2 t3 y4 y5:Int}{i6:Nat}{s7 s8:Int}{c9:List Int}{i10:Nat}{s11 s12:Int}{b13:Bool}{i14:Nat}{s15 s16 t17:Int}{o18:Bool}{i19:Nat}{s20 s21:Int}{b22:Bool}{i'23:Nat}{sm'24:Int}{go'25:Bool}(h0:0≤(0:Int)∧(0:Int)≤900)(h1:1≤(6:Int)∧(6:Int)≤30)(h2:0≤(18:Int)∧(18:Int)≤40)(h3:aLm (6:Int) (18:Int) l1 (0:Int) (17:Int)=(sk0,dc1,m2,t3))(h4:inR wh)(h5:(sk0.length:Int)≠0)(h6:sk0[(wh.tmod (sk0.length:Int)).toNat]? = some [y4,y5])(h7:0≤(wh.tmod (sk0.length:Int)))(h8:uni 2 sk0)(h9:bK (30:Int) sk0 dc1)(h10:iH (aA sk0) y4=(i6:Int))(h11:(aA sk0)[i6]? = some [s7,s8])(h12:cV (30:Int) (aA dc1) y4=c9)(h13:iH (aA sk0) y4=(i10:Int))(h14:(aA sk0)[i10]? = some [s11,s12])(h15:c9.length≤1000)(h16:∀ n∈c9,∃ x∈aA dc1,dN x=n)(h17:qC (30:Int) (aA dc1) c9 s11 s12=b13)(h18:iH (aA sk0) y4=(i14:Int))(h19:(aA sk0)[i14]? = some [s15,s16])(h20:eR (30:Int) [] (aA dc1) s15 s16=(t17,o18))(h21:iH (aA sk0) y4=(i19:Int))(h22:(aA sk0)[i19]? = some [s20,s21])(h23:([]:List Int).length≤1000)(h24:∀ n∈([]:List Int),∃ x∈aA dc1,dN x=n)(h25:qC (30:Int) (aA dc1) ([]:List Int) s20 s21=b22)(h26:b13=true)(h27:(o18 == (y5 == (-1:Int)))=false)(h28:(b22 == false)=true)(hl29:aI Tp 0 lG (dD sk0 dc1 y4 y5 c9 t17 o18 0 y5 (y5 == (-1:Int))) (.exit 0) (dD sk0 dc1 y4 y5 c9 t17 o18 i'23 sm'24 go'25))(h30:(go'25 == o18)=true)(h31:o18=true)(h32:t17=0)(h33:∀ {base:Nat},FV Tp 26 [] base (pB true) []){base:Nat}:FV Tp 15 [(.p (.sl l1.length (l1.map aN))),(.p (.v (.int .u8 wh)))] base (pB true) []:=by
 exact FV.fin Tryz.func15 rfl (o:=[.c (.ptr 0 0) [(0,(.box 129 [(.p (.sl l1.length (l1.map aN))),(pI 0),(.p (.v (.int .u32 (17:Int))))]))],.c (.p (.agg (bU 30 sk0 dc1))) [(0,(.box 129 [(.p (.sl l1.length (l1.map aN))),(pI m2),(.p (.v (.int .u32 t3)))]))],.x (.agg [(aB y4),(aB y5)]),.c (.tup [(.p (aG c9)),(pI 0)]) [],.c (.tup [(pB b13),(pI 0)]) [],.c (.tup [(.p (aG (cB (bV (30:Int) [] (aA dc1)) (aA dc1)))),(pI 0)]) [],.c (.tup [(pI t17),(pB o18),(pI 0)]) [],.c (.tup [(pB b22),(pI 0)]) [],bF,bF,bF,bF,bF,bF,bF,bF,bF,bF,bF,bF,bF,bF,bF,bF,bF,bF,bF,bF,bF,bF,bF,bF,bF,bF,bF,bF,bF,bF,.k 6 ⟨(rng [(0,5),(7,4),(12,1),(15,3),(20,100),(123,68)]),[1,3],[],[]⟩ (.exit 0) (dD sk0 dc1 y4 y5 c9 t17 o18 i'23 sm'24 go'25),bT,bT,bT,bT,bT,bT,bT,bT,bT,bT,bT,bT,bT,bT,.c (pB true) []]) (l:=[FC Tp 26 [] [] 2 (pB true) [],_,_,_,_,_,_,_,_,_,_,_,_,_,_,_,_,_,_,_,_,_,_,_,_,_,_,_,_,_,_,_,_,_,_,_,_,_,_,_,_,_,_,_,_,_,_,_,FC Tp 48 [(.p (.agg (bU 30 sk0 dc1)))] [] 4 (.tup [(.p (aG (cB (bV (30:Int) [] (aA dc1)) (aA dc1)))),(pI 0)]) [],_,_,_,_,0≤(wh.tmod (sk0.length:Int))∧(wh.tmod (sk0.length:Int))<(sk0.length:Int)∧((wh.tmod (sk0.length:Int)).toNat*2)<(sk0.flatten.map aB).length,_,_,FC Tp 16 [(.ptr 0 0),(pI 6),(pI 18)] [(0,(.box 129 [(.p (.sl l1.length (l1.map aN))),(pI 0),(.p (.v (.int .u32 (17:Int))))]))] 1 (.p (.agg (bU 30 sk0 dc1))) [(0,(.box 129 [(.p (.sl l1.length (l1.map aN))),(pI m2),(.p (.v (.int .u32 t3)))]))],FC Tp 17 [(.p (.sl l1.length (l1.map aN)))] [] 0 (.ptr 0 0) [(0,(.box 129 [(.p (.sl l1.length (l1.map aN))),(pI 0),(.p (.v (.int .u32 (17:Int))))]))]]) (by kernel_rfl) (gc (FV.fc h33 (by kernel_rfl)) (gc h30 (gc (dR h32) (gc h30 (g4c (dR h32) (gc h30 (gc h31 (gc h30 (g2c h31 (g2c h30 (gc hl29.code (gc (aR h28) (g2c (aR h26) (gc h27 (gc (aR h26) (g3c h27 (g7c (aR h26) (g8c jB (g7c jB (gc (fk 4 (FV.argwk (args:=[(.p (.agg (bU 30 sk0 dc1))),(pI y4),(.p aW)]) (rK h9 h21 h22 h23 h24 h25) (by kernel_rfl)) rfl) (gc (fk 4 (aIc h9 h18 h19 h20) rfl) (gc (FV.fc (aJm h9) rfl) (gc (fk 4 (rK h9 h13 h14 h15 h16 h17) rfl) (gc (fk 4 (aIa h9 h10 h11 h12) rfl) (gc (aT (i:=(wh.tmod (sk0.length:Int)).toNat) h8 h6) (gc (bI (i:=(wh.tmod (sk0.length:Int)).toNat) h8 h6) (gc (bO (k:=2) (i:=(wh.tmod (sk0.length:Int))) (by decide) h8 h7 h6) (gc h5 (gc h4 (gc (FMM.fc (ids:=[0]) (aIb (6:Int) (18:Int) l1 (0:Int) (17:Int) h0 h1 h2 h3) (by kernel_rfl)) (gc (FMM.fc (ids:=[]) (ofO l1) (by kernel_rfl)) gn)))))))))))))))))))))))))))))))
theorem bJo{l1:List Int}{wh:Int}{sk0 dc1:Lqq}{m2 t3 y4 y5:Int}{i6:Nat}{s7 s8:Int}{c9:List Int}{i10:Nat}{s11 s12:Int}{b13:Bool}{i14:Nat}{s15 s16 t17:Int}{o18:Bool}{i19:Nat}{s20 s21:Int}{b22:Bool}{i'23:Nat}{sm'24:Int}{go'25:Bool}(h0:0≤(0:Int)∧(0:Int)≤900)(h1:1≤(6:Int)∧(6:Int)≤30)(h2:0≤(18:Int)∧(18:Int)≤40)(h3:aLm (6:Int) (18:Int) l1 (0:Int) (17:Int)=(sk0,dc1,m2,t3))(h4:inR wh)(h5:(sk0.length:Int)≠0)(h6:sk0[(wh.tmod (sk0.length:Int)).toNat]? = some [y4,y5])(h7:0≤(wh.tmod (sk0.length:Int)))(h8:uni 2 sk0)(h9:bK (30:Int) sk0 dc1)(h10:iH (aA sk0) y4=(i6:Int))(h11:(aA sk0)[i6]? = some [s7,s8])(h12:cV (30:Int) (aA dc1) y4=c9)(h13:iH (aA sk0) y4=(i10:Int))(h14:(aA sk0)[i10]? = some [s11,s12])(h15:c9.length≤1000)(h16:∀ n∈c9,∃ x∈aA dc1,dN x=n)(h17:qC (30:Int) (aA dc1) c9 s11 s12=b13)(h18:iH (aA sk0) y4=(i14:Int))(h19:(aA sk0)[i14]? = some [s15,s16])(h20:eR (30:Int) [] (aA dc1) s15 s16=(t17,o18))(h21:iH (aA sk0) y4=(i19:Int))(h22:(aA sk0)[i19]? = some [s20,s21])(h23:([]:List Int).length≤1000)(h24:∀ n∈([]:List Int),∃ x∈aA dc1,dN x=n)(h25:qC (30:Int) (aA dc1) ([]:List Int) s20 s21=b22)(h26:b13=true)(h27:(o18 == (y5 == (-1:Int)))=false)(h28:(b22 == false)=true)(hl29:aI Tp 0 lG (dD sk0 dc1 y4 y5 c9 t17 o18 0 y5 (y5 == (-1:Int))) (.exit 0) (dD sk0 dc1 y4 y5 c9 t17 o18 i'23 sm'24 go'25))(h30:(go'25 == o18)=true)(h31:o18=false)(h32:t17=(if sm'24 > (0:Int) then sm'24 else (0:Int)))(h33:∀ {base:Nat},FV Tp 26 [] base (pB true) []){base:Nat}:FV Tp 15 [(.p (.sl l1.length (l1.map aN))),(.p (.v (.int .u8 wh)))] base (pB true) []:=by
 exact FV.fin Tryz.func15 rfl (o:=[.c (.ptr 0 0) [(0,(.box 129 [(.p (.sl l1.length (l1.map aN))),(pI 0),(.p (.v (.int .u32 (17:Int))))]))],.c (.p (.agg (bU 30 sk0 dc1))) [(0,(.box 129 [(.p (.sl l1.length (l1.map aN))),(pI m2),(.p (.v (.int .u32 t3)))]))],.x (.agg [(aB y4),(aB y5)]),.c (.tup [(.p (aG c9)),(pI 0)]) [],.c (.tup [(pB b13),(pI 0)]) [],.c (.tup [(.p (aG (cB (bV (30:Int) [] (aA dc1)) (aA dc1)))),(pI 0)]) [],.c (.tup [(pI t17),(pB o18),(pI 0)]) [],.c (.tup [(pB b22),(pI 0)]) [],bF,bF,bF,bF,bF,bF,bF,bF,bF,bF,bF,bF,bF,bF,bF,bF,bF,bF,bF,bF,bF,bF,bF,bF,bF,bF,bF,bF,bF,bF,.k 6 ⟨(rng [(0,5),(7,4),(12,1),(15,3),(20,100),(123,68)]),[1,3],[],[]⟩ (.exit 0) (dD sk0 dc1 y4 y5 c9 t17 o18 i'23 sm'24 go'25),bT,bT,bF,bF,bT,bF,bT,bT,bT,bT,bT,bT,bT,bT,bT,.c (pB true) [],bT]) (l:=[_,FC Tp 26 [] [] 2 (pB true) [],_,_,_,_,_,_,_,_,_,_,_,_,_,_,_,_,_,_,_,_,_,_,_,_,_,_,_,_,_,_,_,_,_,_,_,_,_,_,_,_,_,_,_,_,_,_,_,_,FC Tp 48 [(.p (.agg (bU 30 sk0 dc1)))] [] 4 (.tup [(.p (aG (cB (bV (30:Int) [] (aA dc1)) (aA dc1)))),(pI 0)]) [],_,_,_,_,0≤(wh.tmod (sk0.length:Int))∧(wh.tmod (sk0.length:Int))<(sk0.length:Int)∧((wh.tmod (sk0.length:Int)).toNat*2)<(sk0.flatten.map aB).length,_,_,FC Tp 16 [(.ptr 0 0),(pI 6),(pI 18)] [(0,(.box 129 [(.p (.sl l1.length (l1.map aN))),(pI 0),(.p (.v (.int .u32 (17:Int))))]))] 1 (.p (.agg (bU 30 sk0 dc1))) [(0,(.box 129 [(.p (.sl l1.length (l1.map aN))),(pI m2),(.p (.v (.int .u32 t3)))]))],FC Tp 17 [(.p (.sl l1.length (l1.map aN)))] [] 0 (.ptr 0 0) [(0,(.box 129 [(.p (.sl l1.length (l1.map aN))),(pI 0),(.p (.v (.int .u32 (17:Int))))]))]]) (by kernel_rfl) (gc (dR h32) (gc (FV.fc h33 (by kernel_rfl)) (gc (dR h32) (g2c h30 (g5c (cP h31) (gc h30 (gc h31 (gc h30 (g2c h31 (g2c h30 (gc hl29.code (gc (aR h28) (g2c (aR h26) (gc h27 (gc (aR h26) (g3c h27 (g7c (aR h26) (g8c jB (g7c jB (gc (fk 4 (FV.argwk (args:=[(.p (.agg (bU 30 sk0 dc1))),(pI y4),(.p aW)]) (rK h9 h21 h22 h23 h24 h25) (by kernel_rfl)) rfl) (gc (fk 4 (aIc h9 h18 h19 h20) rfl) (gc (FV.fc (aJm h9) rfl) (gc (fk 4 (rK h9 h13 h14 h15 h16 h17) rfl) (gc (fk 4 (aIa h9 h10 h11 h12) rfl) (gc (aT (i:=(wh.tmod (sk0.length:Int)).toNat) h8 h6) (gc (bI (i:=(wh.tmod (sk0.length:Int)).toNat) h8 h6) (gc (bO (k:=2) (i:=(wh.tmod (sk0.length:Int))) (by decide) h8 h7 h6) (gc h5 (gc h4 (gc (FMM.fc (ids:=[0]) (aIb (6:Int) (18:Int) l1 (0:Int) (17:Int) h0 h1 h2 h3) (by kernel_rfl)) (gc (FMM.fc (ids:=[]) (ofO l1) (by kernel_rfl)) gn)))))))))))))))))))))))))))))))
theorem aWz{sk0 dc1:Lqq}{y4 y5:Int}{c9:List Int}{t17:Int}{o18:Bool}{i:Nat}{sm:Int}{go:Bool}{x100 b101 m102:Int}{i103:Nat}{y104 y105 y106 y107 y108 y109:Int}{i':Nat}{sm':Int}(h0:(i:Int)<(c9.length:Int))(h1:c9[i]? = some x100)(h2:bK (30:Int) sk0 dc1)(h3:uni 2 sk0)(h4:uni 6 dc1)(h5:inR x100)(h6:oU (30:Int) sk0 dc1 x100=(b101,0))(h7:oT (30:Int) sk0 dc1 x100=(m102,0))(h8:b101=y4)(h9:(cB (bV (30:Int) [] (aA dc1)) (aA dc1)).length≤1000)(h10:((cB (bV (30:Int) [] (aA dc1)) (aA dc1)).contains x100)=true)(h11:dc1.length≤1000)(h12:aZ (fun x=>x.getD 0 0 == x100) dc1=(i103:Int))(h13:(0:Int)≤(i103:Int))(h14:dc1[i103]? = some [y104,y105,y106,y107,y108,y109])(h15:y105=0)(h16:inR (sm+m102))(h17:inR (((i+1):Nat):Int))(ei':i'=(i+1))(esm':sm'=(sm+m102)):aC Tp 0 lG (dD sk0 dc1 y4 y5 c9 t17 o18 i sm go) .normal (dD sk0 dc1 y4 y5 c9 t17 o18 i' sm' go):=by
 subst ei' esm';exact aC.fin (g:=⟨(rng [(0,5),(7,4),(12,1),(15,3),(20,100),(123,68)]),[0,1],[],[]⟩) (o:=[bT,.x (aB x100),.c (.tup [(pI b101),(pI 0)]) [],.c (.tup [(pI m102),(pI 0)]) [],bF,bF,bF,bF,bF,bF,bF,bF,bF,bF,bF,.c (pB ((cB (bV (30:Int) [] (aA dc1)) (aA dc1)).contains x100)) [],bF,bF,bF,.g 1 ⟨[],[0,1],[2],[]⟩,.c (pI (i103:Int)) [],bF,.x (aB y105),bT,bT]) (l:=[_,_,_,_,(dc1.flatten.map aB)[((i103*6)+1)]? = some (aB y105),0≤(i103:Int)∧(i103:Int)<(dc1.length:Int)∧(i103*6)<(dc1.flatten.map aB).length,_,_,_,_,_,_,_,_,_,_,_,_,_,_,_,_,_,_,_,_,_,_]) (by kernel_rfl) (gc h17 (gc h16 (g2c (dR h15) (gc (eI (i:=i103) (f:=1) h4 h14 rfl) (gc (bO (k:=6) (i:=(i103:Int)) (by decide) h4 (kQ2 _) h14) (gc (bL h13) (gc (fk 2 (uD dc1 x100 h4 h11 h12) rfl) (gc (aR h10) (g2c (fM h8) (gc (fk 3 (uS (cB (bV (30:Int) [] (aA dc1)) (aA dc1)) x100 h9) rfl) (g3c (fM h8) (g8c jB (gc (fk 3 (uE h3 h4 h5 h7) rfl) (gc (fk 3 (uR h3 h4 h5 h6) rfl) (gc (atm aB h1) (gc (ixn aB h1) (gc (bA h0) gn)))))))))))))))))
theorem aXa{sk0 dc1:Lqq}{y4 y5:Int}{c9:List Int}{t17:Int}{o18:Bool}{i:Nat}{sm:Int}{go:Bool}{x100 b101 m102:Int}{i103:Nat}{y104 y105 y106 y107 y108 y109:Int}{i':Nat}{sm':Int}(h0:(i:Int)<(c9.length:Int))(h1:c9[i]? = some x100)(h2:bK (30:Int) sk0 dc1)(h3:uni 2 sk0)(h4:uni 6 dc1)(h5:inR x100)(h6:oU (30:Int) sk0 dc1 x100=(b101,0))(h7:oT (30:Int) sk0 dc1 x100=(m102,0))(h8:b101=y4)(h9:(cB (bV (30:Int) [] (aA dc1)) (aA dc1)).length≤1000)(h10:((cB (bV (30:Int) [] (aA dc1)) (aA dc1)).contains x100)=true)(h11:dc1.length≤1000)(h12:aZ (fun x=>x.getD 0 0 == x100) dc1=(i103:Int))(h13:(0:Int)≤(i103:Int))(h14:dc1[i103]? = some [y104,y105,y106,y107,y108,y109])(h15:y105≠0)(h16:y105=4)(h17:inR (sm+m102))(h18:inR (((i+1):Nat):Int))(ei':i'=(i+1))(esm':sm'=(sm+m102)):aC Tp 0 lG (dD sk0 dc1 y4 y5 c9 t17 o18 i sm go) .normal (dD sk0 dc1 y4 y5 c9 t17 o18 i' sm' go):=by
 subst ei' esm';exact aC.fin (g:=⟨(rng [(0,5),(7,4),(12,1),(15,3),(20,100),(123,68)]),[0,1],[],[]⟩) (o:=[bT,.x (aB x100),.c (.tup [(pI b101),(pI 0)]) [],.c (.tup [(pI m102),(pI 0)]) [],bF,bF,bF,bF,bF,bF,bF,bF,bF,bF,bF,.c (pB ((cB (bV (30:Int) [] (aA dc1)) (aA dc1)).contains x100)) [],bF,bF,bF,.g 1 ⟨[],[0,1],[2],[]⟩,.c (pI (i103:Int)) [],bF,.x (aB y105),bF,bT]) (l:=[_,_,_,_,(dc1.flatten.map aB)[((i103*6)+1)]? = some (aB y105),0≤(i103:Int)∧(i103:Int)<(dc1.length:Int)∧(i103*6)<(dc1.flatten.map aB).length,_,_,_,_,_,_,_,_,_,_,_,_,_,_,_,_,_,_,_,_,_,_]) (by kernel_rfl) (gc h18 (gc h17 (gc (dR h16) (gc (bJ h15) (gc (eI (i:=i103) (f:=1) h4 h14 rfl) (gc (bO (k:=6) (i:=(i103:Int)) (by decide) h4 (kQ2 _) h14) (gc (bL h13) (gc (fk 2 (uD dc1 x100 h4 h11 h12) rfl) (gc (aR h10) (g2c (fM h8) (gc (fk 3 (uS (cB (bV (30:Int) [] (aA dc1)) (aA dc1)) x100 h9) rfl) (g3c (fM h8) (g8c jB (gc (fk 3 (uE h3 h4 h5 h7) rfl) (gc (fk 3 (uR h3 h4 h5 h6) rfl) (gc (atm aB h1) (gc (ixn aB h1) (gc (bA h0) gn))))))))))))))))))
theorem aXb{sk0 dc1:Lqq}{y4 y5:Int}{c9:List Int}{t17:Int}{o18:Bool}{i:Nat}{sm:Int}{go:Bool}{x100 b101 m102:Int}{i103:Nat}{y104 y105 y106 y107 y108 y109:Int}{i':Nat}{sm':Int}(h0:(i:Int)<(c9.length:Int))(h1:c9[i]? = some x100)(h2:bK (30:Int) sk0 dc1)(h3:uni 2 sk0)(h4:uni 6 dc1)(h5:inR x100)(h6:oU (30:Int) sk0 dc1 x100=(b101,0))(h7:oT (30:Int) sk0 dc1 x100=(m102,0))(h8:b101=y4)(h9:(cB (bV (30:Int) [] (aA dc1)) (aA dc1)).length≤1000)(h10:((cB (bV (30:Int) [] (aA dc1)) (aA dc1)).contains x100)=true)(h11:dc1.length≤1000)(h12:aZ (fun x=>x.getD 0 0 == x100) dc1=(i103:Int))(h13:(0:Int)≤(i103:Int))(h14:dc1[i103]? = some [y104,y105,y106,y107,y108,y109])(h15:y105≠0)(h16:y105≠4)(h17:y105=1)(h18:inR (sm-m102))(h19:inR (((i+1):Nat):Int))(ei':i'=(i+1))(esm':sm'=(sm-m102)):aC Tp 0 lG (dD sk0 dc1 y4 y5 c9 t17 o18 i sm go) .normal (dD sk0 dc1 y4 y5 c9 t17 o18 i' sm' go):=by
 subst ei' esm';exact aC.fin (g:=⟨(rng [(0,5),(7,4),(12,1),(15,3),(20,100),(123,68)]),[0,1],[],[]⟩) (o:=[bT,.x (aB x100),.c (.tup [(pI b101),(pI 0)]) [],.c (.tup [(pI m102),(pI 0)]) [],bF,bF,bF,bF,bF,bF,bF,bF,bF,bF,bF,.c (pB ((cB (bV (30:Int) [] (aA dc1)) (aA dc1)).contains x100)) [],bF,bF,bF,.g 1 ⟨[],[0,1],[2],[]⟩,.c (pI (i103:Int)) [],bF,.x (aB y105),bF,bF,bT]) (l:=[_,_,_,_,_,(dc1.flatten.map aB)[((i103*6)+1)]? = some (aB y105),0≤(i103:Int)∧(i103:Int)<(dc1.length:Int)∧(i103*6)<(dc1.flatten.map aB).length,_,_,_,_,_,_,_,_,_,_,_,_,_,_,_,_,_,_,_,_,_,_]) (by kernel_rfl) (gc h19 (gc h18 (gc (dR h17) (gc (bJ h16) (gc (bJ h15) (gc (eI (i:=i103) (f:=1) h4 h14 rfl) (gc (bO (k:=6) (i:=(i103:Int)) (by decide) h4 (kQ2 _) h14) (gc (bL h13) (gc (fk 2 (uD dc1 x100 h4 h11 h12) rfl) (gc (aR h10) (g2c (fM h8) (gc (fk 3 (uS (cB (bV (30:Int) [] (aA dc1)) (aA dc1)) x100 h9) rfl) (g3c (fM h8) (g8c jB (gc (fk 3 (uE h3 h4 h5 h7) rfl) (gc (fk 3 (uR h3 h4 h5 h6) rfl) (gc (atm aB h1) (gc (ixn aB h1) (gc (bA h0) gn)))))))))))))))))))
theorem aXc{sk0 dc1:Lqq}{y4 y5:Int}{c9:List Int}{t17:Int}{o18:Bool}{i:Nat}{sm:Int}{go:Bool}{x100 b101 m102:Int}{i103:Nat}{y104 y105 y106 y107 y108 y109:Int}{i':Nat}{sm':Int}(h0:(i:Int)<(c9.length:Int))(h1:c9[i]? = some x100)(h2:bK (30:Int) sk0 dc1)(h3:uni 2 sk0)(h4:uni 6 dc1)(h5:inR x100)(h6:oU (30:Int) sk0 dc1 x100=(b101,0))(h7:oT (30:Int) sk0 dc1 x100=(m102,0))(h8:b101=y4)(h9:(cB (bV (30:Int) [] (aA dc1)) (aA dc1)).length≤1000)(h10:((cB (bV (30:Int) [] (aA dc1)) (aA dc1)).contains x100)=true)(h11:dc1.length≤1000)(h12:aZ (fun x=>x.getD 0 0 == x100) dc1=(i103:Int))(h13:(0:Int)≤(i103:Int))(h14:dc1[i103]? = some [y104,y105,y106,y107,y108,y109])(h15:y105≠0)(h16:y105≠4)(h17:y105≠1)(h18:y105=2)(h19:inR ((1200:Int)*m102))(h20:inR (sm+((1200:Int)*m102)))(h21:inR (((i+1):Nat):Int))(ei':i'=(i+1))(esm':sm'=(sm+((1200:Int)*m102))):aC Tp 0 lG (dD sk0 dc1 y4 y5 c9 t17 o18 i sm go) .normal (dD sk0 dc1 y4 y5 c9 t17 o18 i' sm' go):=by
 subst ei' esm';exact aC.fin (g:=⟨(rng [(0,5),(7,4),(12,1),(15,3),(20,100),(123,68)]),[0,1],[],[]⟩) (o:=[bT,.x (aB x100),.c (.tup [(pI b101),(pI 0)]) [],.c (.tup [(pI m102),(pI 0)]) [],bF,bF,bF,bF,bF,bF,bF,bF,bF,bF,bF,.c (pB ((cB (bV (30:Int) [] (aA dc1)) (aA dc1)).contains x100)) [],bF,bF,bF,.g 1 ⟨[],[0,1],[2],[]⟩,.c (pI (i103:Int)) [],bF,.x (aB y105),bF,bF,bF,bT]) (l:=[_,_,_,_,_,_,_,(dc1.flatten.map aB)[((i103*6)+1)]? = some (aB y105),0≤(i103:Int)∧(i103:Int)<(dc1.length:Int)∧(i103*6)<(dc1.flatten.map aB).length,_,_,_,_,_,_,_,_,_,_,_,_,_,_,_,_,_,_,_,_,_,_]) (by kernel_rfl) (gc h21 (gc h20 (gc h19 (gc (dR h18) (gc (bJ h17) (gc (bJ h16) (gc (bJ h15) (gc (eI (i:=i103) (f:=1) h4 h14 rfl) (gc (bO (k:=6) (i:=(i103:Int)) (by decide) h4 (kQ2 _) h14) (gc (bL h13) (gc (fk 2 (uD dc1 x100 h4 h11 h12) rfl) (gc (aR h10) (g2c (fM h8) (gc (fk 3 (uS (cB (bV (30:Int) [] (aA dc1)) (aA dc1)) x100 h9) rfl) (g3c (fM h8) (g8c jB (gc (fk 3 (uE h3 h4 h5 h7) rfl) (gc (fk 3 (uR h3 h4 h5 h6) rfl) (gc (atm aB h1) (gc (ixn aB h1) (gc (bA h0) gn)))))))))))))))))))))
theorem aXd{sk0 dc1:Lqq}{y4 y5:Int}{c9:List Int}{t17:Int}{o18:Bool}{i:Nat}{sm:Int}{go:Bool}{x100 b101 m102:Int}{i103:Nat}{y104 y105 y106 y107 y108 y109:Int}{i':Nat}(h0:(i:Int)<(c9.length:Int))(h1:c9[i]? = some x100)(h2:bK (30:Int) sk0 dc1)(h3:uni 2 sk0)(h4:uni 6 dc1)(h5:inR x100)(h6:oU (30:Int) sk0 dc1 x100=(b101,0))(h7:oT (30:Int) sk0 dc1 x100=(m102,0))(h8:b101=y4)(h9:(cB (bV (30:Int) [] (aA dc1)) (aA dc1)).length≤1000)(h10:((cB (bV (30:Int) [] (aA dc1)) (aA dc1)).contains x100)=true)(h11:dc1.length≤1000)(h12:aZ (fun x=>x.getD 0 0 == x100) dc1=(i103:Int))(h13:(0:Int)≤(i103:Int))(h14:dc1[i103]? = some [y104,y105,y106,y107,y108,y109])(h15:y105≠0)(h16:y105≠4)(h17:y105≠1)(h18:y105≠2)(h19:y105=3)(h20:inR (((i+1):Nat):Int))(ei':i'=(i+1)):aC Tp 0 lG (dD sk0 dc1 y4 y5 c9 t17 o18 i sm go) .normal (dD sk0 dc1 y4 y5 c9 t17 o18 i' sm true):=by
 subst ei';exact aC.fin (g:=⟨(rng [(0,5),(7,4),(12,1),(15,3),(20,100),(123,68)]),[0,1],[],[(19,0)]⟩) (o:=[bT,.x (aB x100),.c (.tup [(pI b101),(pI 0)]) [],.c (.tup [(pI m102),(pI 0)]) [],bF,bF,bF,bF,bF,bF,bF,bF,bF,bF,bF,.c (pB ((cB (bV (30:Int) [] (aA dc1)) (aA dc1)).contains x100)) [],bF,bF,bF,.g 1 ⟨[],[0,1],[2],[]⟩,.c (pI (i103:Int)) [],bF,.x (aB y105),bF,bF,bF,bF,bT]) (l:=[_,_,_,_,_,_,(dc1.flatten.map aB)[((i103*6)+1)]? = some (aB y105),0≤(i103:Int)∧(i103:Int)<(dc1.length:Int)∧(i103*6)<(dc1.flatten.map aB).length,_,_,_,_,_,_,_,_,_,_,_,_,_,_,_,_,_,_,_,_,_,_]) (by kernel_rfl) (gc h20 (gc (dR h19) (gc (bJ h18) (gc (bJ h17) (gc (bJ h16) (gc (bJ h15) (gc (eI (i:=i103) (f:=1) h4 h14 rfl) (gc (bO (k:=6) (i:=(i103:Int)) (by decide) h4 (kQ2 _) h14) (gc (bL h13) (gc (fk 2 (uD dc1 x100 h4 h11 h12) rfl) (gc (aR h10) (g2c (fM h8) (gc (fk 3 (uS (cB (bV (30:Int) [] (aA dc1)) (aA dc1)) x100 h9) rfl) (g3c (fM h8) (g8c jB (gc (fk 3 (uE h3 h4 h5 h7) rfl) (gc (fk 3 (uR h3 h4 h5 h6) rfl) (gc (atm aB h1) (gc (ixn aB h1) (gc (bA h0) gn))))))))))))))))))))
theorem aXe{sk0 dc1:Lqq}{y4 y5:Int}{c9:List Int}{t17:Int}{o18:Bool}{i:Nat}{sm:Int}{go:Bool}{x100 b101 m102:Int}{i103:Nat}{y104 y105 y106 y107 y108 y109:Int}{i':Nat}(h0:(i:Int)<(c9.length:Int))(h1:c9[i]? = some x100)(h2:bK (30:Int) sk0 dc1)(h3:uni 2 sk0)(h4:uni 6 dc1)(h5:inR x100)(h6:oU (30:Int) sk0 dc1 x100=(b101,0))(h7:oT (30:Int) sk0 dc1 x100=(m102,0))(h8:b101=y4)(h9:(cB (bV (30:Int) [] (aA dc1)) (aA dc1)).length≤1000)(h10:((cB (bV (30:Int) [] (aA dc1)) (aA dc1)).contains x100)=true)(h11:dc1.length≤1000)(h12:aZ (fun x=>x.getD 0 0 == x100) dc1=(i103:Int))(h13:(0:Int)≤(i103:Int))(h14:dc1[i103]? = some [y104,y105,y106,y107,y108,y109])(h15:y105≠0)(h16:y105≠4)(h17:y105≠1)(h18:y105≠2)(h19:y105≠3)(h20:y105=6)(h21:inR (((i+1):Nat):Int))(ei':i'=(i+1)):aC Tp 0 lG (dD sk0 dc1 y4 y5 c9 t17 o18 i sm go) .normal (dD sk0 dc1 y4 y5 c9 t17 o18 i' sm go):=by
 subst ei';exact aC.fin (g:=⟨(rng [(0,5),(7,4),(12,1),(15,3),(20,100),(123,68)]),[0,1],[],[]⟩) (o:=[bT,.x (aB x100),.c (.tup [(pI b101),(pI 0)]) [],.c (.tup [(pI m102),(pI 0)]) [],bF,bF,bF,bF,bF,bF,bF,bF,bF,bF,bF,.c (pB ((cB (bV (30:Int) [] (aA dc1)) (aA dc1)).contains x100)) [],bF,bF,bF,.g 1 ⟨[],[0,1],[2],[]⟩,.c (pI (i103:Int)) [],bF,.x (aB y105),bF,bF,bF,bF,bF,bT,bT]) (l:=[_,_,_,_,_,_,_,_,(dc1.flatten.map aB)[((i103*6)+1)]? = some (aB y105),0≤(i103:Int)∧(i103:Int)<(dc1.length:Int)∧(i103*6)<(dc1.flatten.map aB).length,_,_,_,_,_,_,_,_,_,_,_,_,_,_,_,_,_,_,_,_,_,_]) (by kernel_rfl) (gc h21 (g2c (dR h20) (gc (bJ h19) (gc (bJ h18) (gc (bJ h17) (gc (bJ h16) (gc (bJ h15) (gc (eI (i:=i103) (f:=1) h4 h14 rfl) (gc (bO (k:=6) (i:=(i103:Int)) (by decide) h4 (kQ2 _) h14) (gc (bL h13) (gc (fk 2 (uD dc1 x100 h4 h11 h12) rfl) (gc (aR h10) (g2c (fM h8) (gc (fk 3 (uS (cB (bV (30:Int) [] (aA dc1)) (aA dc1)) x100 h9) rfl) (g3c (fM h8) (g8c jB (gc (fk 3 (uE h3 h4 h5 h7) rfl) (gc (fk 3 (uR h3 h4 h5 h6) rfl) (gc (atm aB h1) (gc (ixn aB h1) (gc (bA h0) gn)))))))))))))))))))))
theorem aXf{sk0 dc1:Lqq}{y4 y5:Int}{c9:List Int}{t17:Int}{o18:Bool}{i:Nat}{sm:Int}{go:Bool}{x100 b101 m102:Int}{i103:Nat}{y104 y105 y106 y107 y108 y109:Int}{i':Nat}(h0:(i:Int)<(c9.length:Int))(h1:c9[i]? = some x100)(h2:bK (30:Int) sk0 dc1)(h3:uni 2 sk0)(h4:uni 6 dc1)(h5:inR x100)(h6:oU (30:Int) sk0 dc1 x100=(b101,0))(h7:oT (30:Int) sk0 dc1 x100=(m102,0))(h8:b101=y4)(h9:(cB (bV (30:Int) [] (aA dc1)) (aA dc1)).length≤1000)(h10:((cB (bV (30:Int) [] (aA dc1)) (aA dc1)).contains x100)=true)(h11:dc1.length≤1000)(h12:aZ (fun x=>x.getD 0 0 == x100) dc1=(i103:Int))(h13:(0:Int)≤(i103:Int))(h14:dc1[i103]? = some [y104,y105,y106,y107,y108,y109])(h15:y105≠0)(h16:y105≠4)(h17:y105≠1)(h18:y105≠2)(h19:y105≠3)(h20:y105≠6)(h21:y105=8)(h22:inR (((i+1):Nat):Int))(ei':i'=(i+1)):aC Tp 0 lG (dD sk0 dc1 y4 y5 c9 t17 o18 i sm go) .normal (dD sk0 dc1 y4 y5 c9 t17 o18 i' sm go):=by
 subst ei';exact aC.fin (g:=⟨(rng [(0,5),(7,4),(12,1),(15,3),(20,100),(123,68)]),[0,1],[],[]⟩) (o:=[bT,.x (aB x100),.c (.tup [(pI b101),(pI 0)]) [],.c (.tup [(pI m102),(pI 0)]) [],bF,bF,bF,bF,bF,bF,bF,bF,bF,bF,bF,.c (pB ((cB (bV (30:Int) [] (aA dc1)) (aA dc1)).contains x100)) [],bF,bF,bF,.g 1 ⟨[],[0,1],[2],[]⟩,.c (pI (i103:Int)) [],bF,.x (aB y105),bF,bF,bF,bF,bF,bF,bT]) (l:=[_,_,_,_,_,_,_,_,(dc1.flatten.map aB)[((i103*6)+1)]? = some (aB y105),0≤(i103:Int)∧(i103:Int)<(dc1.length:Int)∧(i103*6)<(dc1.flatten.map aB).length,_,_,_,_,_,_,_,_,_,_,_,_,_,_,_,_,_,_,_,_,_,_]) (by kernel_rfl) (gc h22 (gc (dR h21) (gc (bJ h20) (gc (bJ h19) (gc (bJ h18) (gc (bJ h17) (gc (bJ h16) (gc (bJ h15) (gc (eI (i:=i103) (f:=1) h4 h14 rfl) (gc (bO (k:=6) (i:=(i103:Int)) (by decide) h4 (kQ2 _) h14) (gc (bL h13) (gc (fk 2 (uD dc1 x100 h4 h11 h12) rfl) (gc (aR h10) (g2c (fM h8) (gc (fk 3 (uS (cB (bV (30:Int) [] (aA dc1)) (aA dc1)) x100 h9) rfl) (g3c (fM h8) (g8c jB (gc (fk 3 (uE h3 h4 h5 h7) rfl) (gc (fk 3 (uR h3 h4 h5 h6) rfl) (gc (atm aB h1) (gc (ixn aB h1) (gc (bA h0) gn))))))))))))))))))))))
theorem aPa{sk0 dc1:Lqq}{y4 y5:Int}{c9:List Int}{t17:Int}{o18:Bool}{i:Nat}{sm:Int}{go:Bool}(h0:(c9.length:Int)≤(i:Int)):aC Tp 0 lG (dD sk0 dc1 y4 y5 c9 t17 o18 i sm go) (.exit 0) (dD sk0 dc1 y4 y5 c9 t17 o18 i sm go):=by
 exact aC.fin (g:=⟨(rng [(0,5),(7,4),(12,1),(15,3),(20,100),(123,68)]),[0,1],[],[]⟩) (o:=[bF]) (l:=[_]) (by kernel_rfl) (gc (bL h0) gn)
end
section

end
section
section
variable {dl:Int} {oc:List Int} {D:Lqq} {x:List Int}
theorem wR{α β:Type}(f g:β→α→β):∀ (l:List α) (b:β),(∀ x∈l,∀ b,f b x=g b x)→l.foldl f b=l.foldl g b
 | [],_,_=>rfl
 | x::l,b,h=>by
  rw [vV,vV,h x (iK ..),wR f g l _ fun y hy=>h y (kQ7 _ hy)]
end
end
section
section
variable {dl:Int} {oc:List Int} {D:Lqq} {x:List Int}
end
end
section
theorem aDu{α β:Type}{p:α→Bool}(f:β→α→β):∀ (l:List α) (b:β),(∀ x∈l,p x=false→∀ b,f b x=b)→(l.filter p).foldl f b=l.foldl f b
 | [],_,_=>rfl
 | a::l,b,h=>by
  have ih:=fun b=>aDu (p:=p) f l b fun s hs=>h s (kQ7 _ hs)
  cases hp:p a with
  | true=>rw [List.filter_cons_of_pos hp,vV,vV,ih]
  | false=>rw [List.filter_cons_of_neg (by rw [hp];exact Bool.false_ne_true),vV,h a (iK ..) hp,ih]
section
variable {dl:Int} {oc:List Int} {R:List Int→Bool}
end
end
section
section
variable {dl:Int} {oc oc':List Int}
end
section
variable {dl:Int} {oc oc':List Int} {F:List Int→Int}
end
section
variable {dc:Lqq}
theorem aDs(hd:bH dc):∀ (k:Nat) (x:List Int),x∈dc→dN x<(k:Int)→lA dc k x=lA dc (k+1) x
 | 0,x,hx,hk=>by have:=cD hd hx;omega
 | k+1,x,hx,hk=>by
  unfold lA
  by_cases h4:dK x≤4
  ·rw [if_pos h4,if_pos h4]
  ·rw [if_neg h4,if_neg h4]
   cases h:ofN dc (dAb x) with
   | none=>rfl
   | some y =>
    obtain ⟨h1,h2⟩:=jY h;have ho:=hd.ord _ hx;unfold orB at ho
    rw [if_neg (show ¬ x.getD 1 0≤4 from h4)] at ho
    have ho2:=cM.1 ho;have h3:dAb x≤dN x-1:=ho2.2;exact aDs hd k y h1 (by omega)
theorem uU(hd:bH dc){s y:List Int}(hs:s∈dc)(hy:y∈dc)(e:dAb s=dN y):fA dc s=fA dc y:=by
 have hk:¬ dK s≤4:=fun h4=>by
  have ho:=hd.ord _ hs;unfold orB at ho
  rw [if_pos (show s.getD 1 0≤4 from h4)] at ho
  have h0:dAb s=0:=by simpa using ho
  have:=cD hd hy;omega
 unfold fA;have e1:lA dc (10000+1) s=lA dc 10000 y:=by
  conv=>lhs;unfold lA
  rw [if_neg hk,e,sS hd hy]
 rw [e1];exact aDs hd 10000 y hy (by have:=cD hd hy;omega)
theorem aDt{y:List Int}(h:dK y≤4):fA dc y=dB y:=by
 unfold fA lA;rw [if_pos h]
end
end
section
theorem bPa{l:List Int}(h:l.Nodup):(l.mergeSort KL.leB).Pairwise (· < ·):=by
 have h1:(l.mergeSort KL.leB).Pairwise fun a b=>KL.leB a b=true:=List.pairwise_mergeSort (fun a b c h1 h2=>by simp only [KL.leB,decide_eq_true_eq] at *;omega) (fun a b=>by simp only [KL.leB,aEi,decide_eq_true_eq];omega) l
 have h2:(l.mergeSort KL.leB).Nodup:=(List.mergeSort_perm l KL.leB).nodup_iff.2 h;exact (h1.and h2).imp fun {a b} q=>by
  have q1:a≤b:=of_decide_eq_true q.1;have q2:a≠b:=q.2;omega
end
end KV
end Go.Proofs
