/- Parts of the proof of JMoved: laws of walks, contracts of functions, plain models. No condition. -/
import Derived.Sort.OwnSortedInts
import Derived.Lib.OwnBridge
import Derived.OneCell
import Derived.Test.YtgejpbmanhlkcaaGreatPJMovedD
set_option linter.unusedVariables false
set_option linter.unusedSimpArgs false
set_option maxRecDepth 100000
section
namespace Go.Proofs
open Go.RowKit Go.Lib Go.Sort
namespace KL
def OwnI(w:World)(base:Nat)(v:Value)(l:List Int):Prop:=w.ownsRow base 3 1 v l.length (l.map (Value.int .i64))

def leB:Int→Int→Bool:=fun x y=>decide (x≤y)

theorem bFl(base:Nat)(v:Value)(l:List Int)(w:World)(hv:OwnI w base v l)(hlen:l.length≤1000000) :
  Calls Tryz.prog 57 #[v] w fun e w'=>e = .returned (.tuple #[])∧OwnI w' base v (l.mergeSort leB)∧w.grownBy w' v.ownBlock:=by
 have hown:=hv
 rcases hv.2 with ⟨rfl,h0⟩ | ⟨g,cap,cur,rfl,hb,hg,hn,hm,hs,ht⟩
 ·have:l=[]:=List.eq_nil_of_length_eq_zero h0
  subst this;refine (Tryz.slices_Sort_int_none none 0 w).mono ?_;rintro e w' ⟨rfl,rfl⟩;exact ⟨rfl,by simpa using hown,World.grownBy.refl _ _⟩
 ·have hlt:=lt_of_block hg
  refine (Tryz.slices_Sort_int g 0 cap l w (holds_of_blockI hg (by simpa using ht)) hlt (by omega)).mono ?_
  rintro e w' ⟨rfl,n,os,rfl⟩;refine ⟨rfl,?_,grownBy_sortedI _⟩;have hl:(l.mergeSort leB).length=l.length:=List.length_mergeSort l;unfold OwnI;rw [hl];exact ownsRow_sortedI hl hb hg hn hm hs

end KL
open KL
namespace KV
open Go.Shelf
variable {P:Program} {C:Cx} {M:Mem} {w w':World}
abbrev pK(l:List Int):AO := .row 3 l.length (l.map aA)
theorem bFm{F:Nat→Prop}{cur:Array Value}{l:List Int}(hle:l.length≤cur.size)(h:∀ j (hj:j<(l.map aA).length),cQ F w (l.map aA)[j] (cur.getD j undef)):cur.toList.take l.length=l.map (Value.int .i64):=by
 apply List.ext_getElem
 ·simp;omega
 ·intro i h1 h2
  have hi:i<l.length:=by simpa using h2
  have:=h i (by simpa using hi)
  rw [List.getElem_map] at this
  rw [List.getElem_map,List.getElem_take];cases hx:cur.getD i undef with
  | int k z =>
   rw [hx] at this
   cases this;rw [Array.getD_eq_getD_getElem?,Array.getElem?_eq_getElem (by omega)] at hx
   simpa using hx
  | _=>rw [hx] at this;cases this
theorem aLt(F:Nat→Prop){cur:Array Value}{l:List Int}(h:cur.toList.take l.length=l.map (Value.int .i64)):(∀ j (hj:j<(l.map aA).length),cQ F w (l.map aA)[j] (cur.getD j undef))∧∀ j,j<(l.map aA).length→(cur.getD j undef).oneCell'=true:=by
 have key:∀ j (hj:j<l.length),cur.getD j undef = .int .i64 l[j]:=fun j hj=>by
  have h1:=congrArg (fun x=>x[j]?) h
  simp only [List.getElem?_take,hj,if_true,List.getElem?_map,List.getElem?_eq_getElem hj,Option.map_some,Array.getElem?_toList] at h1
  rw [Array.getD_eq_getD_getElem?,h1];rfl
 refine ⟨fun j hj => ?_,fun j hj => ?_⟩
 ·have hj':j<l.length:=by simpa using hj
  rw [List.getElem_map,key j hj'];exact .v _
 ·rw [key j (by simpa using hj)];rfl

theorem size3:∃ i,Tryz.prog.info? 3=some i∧i.size=1:=rQ (show (Tryz.prog.info? 3).map (fun i=>i.size)=some 1 by kernel_rfl)
theorem bFn{id:Nat}{l:List Int}{u:Value}(hM:aR Tryz.prog C M w)(ho:M[id]? = some (some (pK l)))(h:Rep C M w (.own id) u):OwnI w 0 u l:=by
 refine ⟨by simp,?_⟩
 cases h with
 | own _ _ h0 ha hr =>
  rcases hr _ _ _ ho with ⟨rfl,_,hn⟩ | ⟨b,rfl,hb⟩
  ·exact .inl ⟨rfl,hn⟩
  ·rcases hM.row _ _ _ _ ho with ⟨hn',_⟩ | ⟨b',arr,inf,hb',q1,q2,q3,q4,q5,q6,q7,q8⟩
   ·rw [hb] at hn';cases hn'
   ·rw [hb] at hb';cases hb'
    obtain ⟨i,hi,hs⟩:=size3;rw [hi] at q2;cases q2
    exact .inr ⟨b,_,arr,rfl,Nat.zero_le _,q1,q5,q6,by rw [q3,hs],by rw [Nat.mul_one];exact bFm (by rw [q3,hs];omega) q7⟩

theorem aFk{l l':List Int}{u u':Value}{d:Bool}(hM:aR Tryz.prog C [some (pK l)] w)(h:Rep C [some (pK l)] w (.own 0) u)(hown:OwnI w' 0 u' l')(hg:w.grownBy w' u.ownBlock)
  (hb:u'.ownBlock=u.ownBlock) (hd:d=false→u'=u∧l'.length=l.length) :
  ∃ C',Fr C [some (pK l)] w C' (if d then [some .dead,some (pK l')] else [some (pK l')]) w'∧aR Tryz.prog C' (if d then [some .dead,some (pK l')] else [some (pK l')]) w'∧Rep C' (if d then [some .dead,some (pK l')] else [some (pK l')]) w' (.own (if d then 1 else 0)) u':=by
 have at0:∀ (id:Nat) (o:AO),([some (pK l)]:Mem)[id]? = some (some o)→id=0∧o=pK l:=fun id o h=>by
  cases id with
  | zero=>simp at h;exact ⟨rfl,h.symm⟩
  | succ i=>simp at h
 have hblk:∀ b,C.ι 0=some b→u.ownBlock=some b∧∃ cap,u = .slice (some ⟨b,0,none⟩) l.length cap∧cap=C.κ 0:=fun b hb0=>by
  cases h with
  | own _ _ h0 ha hr =>
   rcases hr _ _ _ rfl with ⟨_,hn,_⟩ | ⟨b',rfl,hb'⟩
   ·rw [hb0] at hn;cases hn
   ·rw [hb0] at hb';cases hb';exact ⟨rfl,_,rfl,rfl⟩
 have hnb:C.ι 0=none→u = .slice none 0 0:=fun hn=>by
  cases h with
  | own _ _ h0 ha hr =>
   rcases hr _ _ _ rfl with ⟨hu,_,_⟩ | ⟨b',rfl,hb'⟩
   ·exact hu
   ·rw [hn] at hb';cases hb'
 have hkeep:∀ b,b<w.heap.size→(∀ (id:Nat) (o:AO),([some (pK l)]:Mem)[id]? = some (some o)→o.live=true→C.ι id≠some b)→w'.heap[b]? = w.heap[b]? := fun b hb1 hn=>by
  refine hg.block b hb1 fun he => ?_
  cases hι:C.ι 0 with
  | none=>rw [hnb hι] at he;cases he
  | some b' =>
   rw [(hblk b' hι).1] at he;cases he
   exact hn 0 _ rfl rfl hι
 have hFz:∀ b,C.F b→w'.heap[b]? = w.heap[b]? := fun b hf=>hkeep b (hM.Fs b hf) fun id o hm hl he=>hM.nF id o b hm hl he hf
 cases d with
 | false =>
  obtain ⟨rfl,hlen⟩:=hd rfl;simp only [Bool.false_eq_true,if_false];have at1:∀ (id:Nat) (o:AO),([some (pK l')]:Mem)[id]? = some (some o)→id=0∧o=pK l':=fun id o h=>by
   cases id with
   | zero=>simp at h;exact ⟨rfl,h.symm⟩
   | succ i=>simp at h
  have hblk':∀ b,C.ι 0=some b→∃ cur,w'.heap[b]? = some (.cells cur 3 (0,0))∧l'.length≤C.κ 0∧C.κ 0≤maxLen∧cur.size=C.κ 0∧cur.toList.take l'.length=l'.map (Value.int .i64):=fun b hι=>by
   obtain ⟨_,cap,hu,hc⟩:=hblk b hι
   rcases hown.2 with ⟨he,_⟩ | ⟨g,cap',cur,hv,_,hh,r1,r2,r3,r4⟩
   ·rw [hu] at he;cases he
   ·rw [hu] at hv
    obtain ⟨e1,_,e3⟩:=Value.slice.inj hv;cases e1;subst e3;subst hc;exact ⟨cur,hh,r1,r2,by omega,by simpa using r4⟩
  refine ⟨C,⟨hg.os,hg.tape,hg.output,hg.size,hkeep,fun id o hm => ?_,fun id o hm ty n cs hx => ?_,fun id o hm o' hx hl => ?_,fun id o b hm hl hb => ?_,fun _ h=>h,fun _ h => .inl h⟩,
   ⟨fun id ty n cs hm => ?_,fun id ty cs hm => ?_,fun id es cl hm => ?_,fun id id' o o' b h1 _ h2 _ _ _ => ?_,fun id o b hm hl hb => ?_,fun b hb=>Nat.lt_of_lt_of_le (hM.Fs b hb) hg.size,fun id o b hm hl hb => ?_⟩,?_⟩
  ·obtain ⟨rfl,rfl⟩:=at0 id o hm
   exact ⟨⟨_,rfl⟩,rfl,rfl⟩
  ·obtain ⟨rfl,rfl⟩:=at0 id o hm
   obtain ⟨_,he⟩:=at1 _ _ hx;cases he;exact ⟨l.map aA,by rw [hlen];rfl⟩
  ·obtain ⟨rfl,rfl⟩:=at0 id o hm
   rfl
  ·obtain ⟨rfl,rfl⟩:=at1 id o hm
   exact .inr ⟨0,_,rfl,rfl,hb⟩
  ·obtain ⟨rfl,he⟩:=at1 id _ hm
   cases he;cases hι:C.ι 0 with
   | none =>
    have:=hnb hι
    rcases hown.2 with ⟨_,h0⟩ | ⟨g,cap',cur,hv,_⟩
    ·have:l'=[]:=List.eq_nil_of_length_eq_zero h0
     subst this;exact .inl ⟨rfl,rfl,rfl⟩
    ·rw [this] at hv;cases hv
   | some b =>
    obtain ⟨cur,q1,q2,q3,q4,q5⟩:=hblk' b hι;obtain ⟨i,hi,hs⟩:=size3;obtain ⟨r1,r2⟩:=aLt (w:=w') C.F q5;exact .inr ⟨b,cur,i,rfl,q1,hi,by rw [hs,q4,Nat.mul_one],by simp [hs],q2,q3,r1,r2⟩
  ·obtain ⟨_,he⟩:=at1 id _ hm;cases he
  ·obtain ⟨_,he⟩:=at1 id _ hm;cases he
  ·obtain ⟨rfl,_⟩:=at1 id _ h1
   obtain ⟨rfl,_⟩:=at1 id' _ h2;rfl
  ·obtain ⟨rfl,_⟩:=at1 id _ hm
   exact hM.nF 0 _ b rfl rfl hb
  ·obtain ⟨rfl,_⟩:=at1 id _ hm
   exact Nat.lt_of_lt_of_le (hM.lt 0 _ b rfl rfl hb) hg.size
  ·cases h with
   | own _ _ h0 ha hr =>
    refine .own 0 _ h0 ⟨_,rfl⟩ fun ty n cs hx => ?_
    obtain ⟨_,he⟩:=at1 0 _ hx;cases he
    rcases hr _ _ _ rfl with ⟨q1,q2,q3⟩ | ⟨b,q1,q2⟩
    ·exact .inl ⟨q1,q2,by omega⟩
    ·exact .inr ⟨b,by rw [q1,hlen],q2⟩
 | true =>
  simp only [if_true]
  let cap':Nat:=match u' with | .slice _ _ c=>c | _=>0
  have at1:∀ (id:Nat) (o:AO),([some .dead,some (pK l')]:Mem)[id]? = some (some o)→(id=0∧o = .dead)∨(id=1∧o=pK l'):=fun id o h=>by
   match id,h with
   | 0,h=>simp at h;exact .inl ⟨rfl,h.symm⟩
   | 1,h=>simp at h;exact .inr ⟨rfl,h.symm⟩
   | i+2,h=>simp at h
  refine ⟨{ ι:=fun i=>if i=1 then u'.ownBlock else C.ι i,κ:=fun i=>if i=1 then cap' else C.κ i,F:=C.F },⟨hg.os,hg.tape,hg.output,hg.size,hkeep,fun id o hm => ?_,fun id o hm ty n cs hx => ?_,fun id o hm o' hx hl => ?_,fun id o b hm hl hbb => ?_,fun _ h=>h,fun _ h => .inl h⟩,
   ⟨fun id ty n cs hm => ?_,fun id ty cs hm => ?_,fun id es cl hm => ?_,fun id id' o o' b h1 l1 h2 l2 _ _ => ?_,fun id o b hm hl hbb => ?_,fun b hb=>Nat.lt_of_lt_of_le (hM.Fs b hb) hg.size,fun id o b hm hl hbb => ?_⟩,?_⟩
  ·obtain ⟨rfl,rfl⟩:=at0 id o hm
   exact ⟨⟨_,rfl⟩,rfl,rfl⟩
  ·obtain ⟨rfl,rfl⟩:=at0 id o hm
   rcases at1 _ _ hx with ⟨_,he⟩ | ⟨he,_⟩
   ·cases he
   ·cases he
  ·obtain ⟨rfl,rfl⟩:=at0 id o hm
   rfl
  ·rcases at1 id o hm with ⟨rfl,rfl⟩ | ⟨rfl,rfl⟩
   ·cases hl
   ·simp only [if_true] at hbb
    rw [hb] at hbb
    cases hι:C.ι 0 with
    | none=>rw [hnb hι] at hbb;cases hbb
    | some b' =>
     rw [(hblk b' hι).1] at hbb;cases hbb
     exact .inr ⟨0,_,rfl,rfl,hι⟩
  ·rcases at1 id _ hm with ⟨_,he⟩ | ⟨rfl,he⟩
   ·cases he
   ·cases he
    simp only [if_true]
    rcases hown.2 with ⟨rfl,h0⟩ | ⟨g,cp,cur,rfl,_,hh,r1,r2,r3,r4⟩
    ·have:l'=[]:=List.eq_nil_of_length_eq_zero h0
     subst this;exact .inl ⟨rfl,rfl,rfl⟩
    ·obtain ⟨i,hi,hs⟩:=size3
     obtain ⟨q1,q2⟩:=aLt (w:=w') C.F (by simpa using r4)
     exact .inr ⟨g,cur,i,rfl,hh,hi,by rw [hs];exact r3,by simp [hs],r1,r2,q1,q2⟩
  ·rcases at1 id _ hm with ⟨_,he⟩ | ⟨_,he⟩ <;> cases he
  ·rcases at1 id _ hm with ⟨_,he⟩ | ⟨_,he⟩ <;> cases he
  ·rcases at1 id _ h1 with ⟨_,rfl⟩ | ⟨rfl,_⟩
   ·cases l1
   ·rcases at1 id' _ h2 with ⟨_,rfl⟩ | ⟨rfl,_⟩
    ·cases l2
    ·rfl
  ·rcases at1 id _ hm with ⟨_,rfl⟩ | ⟨rfl,_⟩
   ·cases hl
   ·simp only [if_true] at hbb
    rw [hb] at hbb
    cases hι:C.ι 0 with
    | none=>rw [hnb hι] at hbb;cases hbb
    | some b' =>
     rw [(hblk b' hι).1] at hbb;cases hbb
     exact hM.nF 0 _ _ rfl rfl hι
  ·rcases at1 id _ hm with ⟨_,rfl⟩ | ⟨rfl,_⟩
   ·cases hl
   ·simp only [if_true] at hbb
    rw [hb] at hbb
    cases hι:C.ι 0 with
    | none=>rw [hnb hι] at hbb;cases hbb
    | some b' =>
     rw [(hblk b' hι).1] at hbb;cases hbb
     exact Nat.lt_of_lt_of_le (hM.lt 0 _ _ rfl rfl hι) hg.size
  ·have h0:u'.oneCell'=true:=by
    rcases hown.2 with ⟨rfl,_⟩ | ⟨g,cp,cur,rfl,_⟩ <;> rfl
   refine .own 1 _ h0 ⟨_,rfl⟩ fun ty n cs hx => ?_
   rcases at1 _ _ hx with ⟨he,_⟩ | ⟨_,he⟩
   ·cases he
   ·cases he
    simp only [if_true]
    rcases hown.2 with ⟨rfl,h9⟩ | ⟨g,cp,cur,rfl,_⟩
    ·exact .inl ⟨rfl,rfl,h9⟩
    ·exact .inr ⟨g,rfl,rfl⟩

theorem bFo(l:List Int)(hl:l.length≤1000000):FMM Tryz.prog 57 [.own 0] [some (pK l)] (.tup []) [some (pK (l.mergeSort leB))]:=fun C w us hus hM n=>by
 obtain ⟨u,rfl,hu⟩:=vA hus;refine (callsIn_wide.2 (bFl 0 u l w (bFn hM rfl hu) hl)).mono ?_;rintro e w' ⟨rfl,h1,h2⟩;obtain ⟨C',f,m,_⟩:=aFk (d:=false) hM hu h1 h2 rfl (fun _=>⟨rfl,List.length_mergeSort l⟩)
 exact ⟨_,rfl,C',f,m,.tup [] #[] rfl (fun i h=>by simp at h)⟩
theorem aCh(l:List Int):(Lib.compact l).length≤l.length:=by
 unfold Lib.compact Lib.compactUpTo;rw [List.length_map];exact Nat.le_trans (List.length_filter_le _ _) (by simp)
theorem aLu(base:Nat)(v:Value)(l:List Int)(w:World)(hv:KL.OwnI w base v l)(hlen:l.length≤1000000) :
  Calls Tryz.prog 186 #[v] w fun e w'=>∃ p' n' cap',e = .returned (.slice p' n' cap')∧n'=(Lib.compact l).length∧KL.OwnI w' base (.slice p' n' cap') (Lib.compact l)∧w.grownBy w' v.ownBlock∧((Value.slice p' n' cap').ownBlock=v.ownBlock):=by
 have hown:=hv
 rcases hv.2 with ⟨rfl,h0⟩ | ⟨b,cap,cur,rfl,hb,hg,hn,hm,hs,ht⟩
 ·have:l=[]:=List.eq_nil_of_length_eq_zero h0
  subst this;refine (Tryz.slices_Compact_int_empty none 0 w).mono ?_;rintro e w' ⟨rfl,rfl⟩;exact ⟨_,_,_,rfl,rfl,hown,World.grownBy.refl _ _,rfl⟩
 ·refine (Tryz.slices_Compact_int b 0 cap l w (holds_of_blockI hg (by simpa using ht)) (by omega) (by simpa using hn)).mono ?_
  rintro e w' ⟨rfl,q,rfl⟩;have hfl:=aCh l;refine ⟨_,_,_,rfl,rfl,?_,?_,rfl⟩
  ·have:=ownsRow_putRow (enc:=Value.int .i64) (q:=q) (k:=(Lib.compact l).length) (ys:=Lib.compact l++List.replicate (l.length-(Lib.compact l).length) 0) hown (by simp;omega) hfl
   unfold KL.OwnI;simpa using this
  ·exact grownBy_sortedI (os := #[]) (n:=q) (g:=b) (w:=w) ((Lib.compact l++List.replicate (l.length-(Lib.compact l).length) 0).toArray)
theorem aLv(l:List Int)(hl:l.length≤1000000):FMM Tryz.prog 186 [.own 0] [some (.row 3 l.length (l.map aA))] (.own 1) [some .dead,some (.row 3 (Lib.compact l).length ((Lib.compact l).map aA))]:=fun C w us hus hM n=>by
 obtain ⟨u,rfl,hu⟩:=vA hus;refine (callsIn_wide.2 (aLu 0 u l w (bFn hM rfl hu) hl)).mono ?_;rintro e w' ⟨p',n',cap',rfl,h0,h1,h2,h3⟩;obtain ⟨C',f,m,r⟩:=aFk (d:=true) hM hu h1 h2 h3 (fun h=>by cases h)
 exact ⟨_,rfl,C',f,m,r⟩
end KV
end Go.Proofs
end
namespace Go.Proofs
namespace KV
section

noncomputable abbrev rA:Code:=sub (cd Tryz.f142) [1,1,0,1,0,0]
noncomputable abbrev xB:Code:=sub (cd Tryz.f141) [1,0,1,0,0]
noncomputable abbrev xC:Code:=sub (cd Tryz.f141) [1,0,1,0,0,1,1,0,0,1,1,1,1,1,0,0]
theorem aHr:0≤(0:Int)∧(0:Int)<2:=by first | decide | simp
theorem aHs:0≤(1:Int)∧(1:Int)<2:=by first | decide | simp
def gZ(al:List fM)(s:Nat)(t:Int)(few:Nat)(many:Nat)(i:Nat):St:=⟨fr 39 [(1,(pI (s:Int))),(2,(pI t)),(6,(pI 0)),(7,(pI 0)),(8,(pI (few:Int))),(9,(pI (many:Int))),(12,(.p (.sl al.length ((al.map hpE).flatten)))),(13,(pI (al.length:Int))),(14,(pI (i:Int)))],[]⟩
theorem bRk{al:List fM}{s:Nat}{t:Int}{few'0 many'1 i'2:Nat}(hl0:aI Tp 0 rA (gZ al s t 0 0 0) (.exit 0) (gZ al s t few'0 many'1 i'2)){base:Nat}:FV Tp 142 [(.p (.sl al.length ((al.map hpE).flatten))),(pI (s:Int)),(pI t)] base (.tup [(pI (few'0:Int)),(pI (many'1:Int))]) []:=by
 exact FV.fin Tryz.func142 rfl (o:=[.k 8 ⟨(rng [(0,1),(3,3),(10,2),(15,22)]),[],[],[]⟩ (.exit 0) (gZ al s t few'0 many'1 i'2)]) (l:=[_]) (by kernel_rfl) (gc hl0.code gn)
theorem aYv{al:List fM}{s:Nat}{t:Int}{few many i:Nat}{c100:List cL}{mn101 mx102:Int}{i':Nat}(h0:(i:Int)<(al.length:Int))(h1:al[i]? = some (c100,mn101,mx102))(h2:(i:Int)=(s:Int))(h3:inR (((i+1):Nat):Int))(ei':i'=(i+1)):aC Tp 0 rA (gZ al s t few many i) .normal (gZ al s t few many i'):=by
 subst ei';exact aC.fin (g:=⟨(rng [(0,1),(3,3),(10,2),(15,22)]),[],[],[]⟩) (o:=[bT,.x (.agg [(.sl c100.length ((c100.map chE).flatten)),(aA mn101),(aA mx102)]),bT]) (l:=[_,_,some (.agg ((((al.map hpE).flatten).drop (i*3)).take 3):PV)=some (.agg [(.sl c100.length ((c100.map chE).flatten)),(aA mn101),(aA mx102)]),(i*3)+3≤((al.map hpE).flatten).length,0≤(i:Int)∧(i:Int)<(al.length:Int)∧(i*3)<((al.map hpE).flatten).length,_]) (by kernel_rfl) (gc h3 (gc (fB h2) (gc (mC (E:=hpE) (i:=i) (k:=3) (fun _=>rfl) h1 rfl) (gc (tU (E:=hpE) (i:=i) (k:=3) (fun _=>rfl) h1) (gc (rC (E:=hpE) (k:=3) (i:=(i:Int)) (fun _=>rfl) (by decide) (kQ3 _) h1) (gc (bB h0) gn))))))
theorem aYw{al:List fM}{s:Nat}{t:Int}{few many i:Nat}{c100:List cL}{mn101 mx102:Int}{few' many' i':Nat}(h0:(i:Int)<(al.length:Int))(h1:al[i]? = some (c100,mn101,mx102))(h2:(i:Int)≠(s:Int))(h3:mx102<t)(h4:inR (((few+1):Nat):Int))(h5:mn101<t)(h6:inR (((many+1):Nat):Int))(h7:inR (((i+1):Nat):Int))(efew':few'=(few+1))(emany':many'=(many+1))(ei':i'=(i+1)):aC Tp 0 rA (gZ al s t few many i) .normal (gZ al s t few' many' i'):=by
 subst efew' emany' ei';exact aC.fin (g:=⟨(rng [(0,1),(3,3),(10,2),(15,22)]),[],[],[]⟩) (o:=[bT,.x (.agg [(.sl c100.length ((c100.map chE).flatten)),(aA mn101),(aA mx102)]),bF,bT,bT]) (l:=[_,_,_,_,_,_,_,_,some (.agg ((((al.map hpE).flatten).drop (i*3)).take 3):PV)=some (.agg [(.sl c100.length ((c100.map chE).flatten)),(aA mn101),(aA mx102)]),(i*3)+3≤((al.map hpE).flatten).length,0≤(i:Int)∧(i:Int)<(al.length:Int)∧(i*3)<((al.map hpE).flatten).length,_]) (by kernel_rfl) (gc h7 (gc h6 (gc (bB h5) (gc aHr (gc h4 (gc (bB h3) (gc aHs (gc (bQ h2) (gc (mC (E:=hpE) (i:=i) (k:=3) (fun _=>rfl) h1 rfl) (gc (tU (E:=hpE) (i:=i) (k:=3) (fun _=>rfl) h1) (gc (rC (E:=hpE) (k:=3) (i:=(i:Int)) (fun _=>rfl) (by decide) (kQ3 _) h1) (gc (bB h0) gn))))))))))))
theorem aYx{al:List fM}{s:Nat}{t:Int}{few many i:Nat}{c100:List cL}{mn101 mx102:Int}{few' i':Nat}(h0:(i:Int)<(al.length:Int))(h1:al[i]? = some (c100,mn101,mx102))(h2:(i:Int)≠(s:Int))(h3:mx102<t)(h4:inR (((few+1):Nat):Int))(h5:t≤mn101)(h6:inR (((i+1):Nat):Int))(efew':few'=(few+1))(ei':i'=(i+1)):aC Tp 0 rA (gZ al s t few many i) .normal (gZ al s t few' many i'):=by
 subst efew' ei';exact aC.fin (g:=⟨(rng [(0,1),(3,3),(10,2),(15,22)]),[],[],[]⟩) (o:=[bT,.x (.agg [(.sl c100.length ((c100.map chE).flatten)),(aA mn101),(aA mx102)]),bF,bT,bF]) (l:=[_,_,_,_,_,_,_,some (.agg ((((al.map hpE).flatten).drop (i*3)).take 3):PV)=some (.agg [(.sl c100.length ((c100.map chE).flatten)),(aA mn101),(aA mx102)]),(i*3)+3≤((al.map hpE).flatten).length,0≤(i:Int)∧(i:Int)<(al.length:Int)∧(i*3)<((al.map hpE).flatten).length,_]) (by kernel_rfl) (gc h6 (gc (bO h5) (gc aHr (gc h4 (gc (bB h3) (gc aHs (gc (bQ h2) (gc (mC (E:=hpE) (i:=i) (k:=3) (fun _=>rfl) h1 rfl) (gc (tU (E:=hpE) (i:=i) (k:=3) (fun _=>rfl) h1) (gc (rC (E:=hpE) (k:=3) (i:=(i:Int)) (fun _=>rfl) (by decide) (kQ3 _) h1) (gc (bB h0) gn)))))))))))
theorem aYy{al:List fM}{s:Nat}{t:Int}{few many i:Nat}{c100:List cL}{mn101 mx102:Int}{many' i':Nat}(h0:(i:Int)<(al.length:Int))(h1:al[i]? = some (c100,mn101,mx102))(h2:(i:Int)≠(s:Int))(h3:t≤mx102)(h4:mn101<t)(h5:inR (((many+1):Nat):Int))(h6:inR (((i+1):Nat):Int))(emany':many'=(many+1))(ei':i'=(i+1)):aC Tp 0 rA (gZ al s t few many i) .normal (gZ al s t few many' i'):=by
 subst emany' ei';exact aC.fin (g:=⟨(rng [(0,1),(3,3),(10,2),(15,22)]),[],[],[]⟩) (o:=[bT,.x (.agg [(.sl c100.length ((c100.map chE).flatten)),(aA mn101),(aA mx102)]),bF,bF,bT]) (l:=[_,_,_,_,_,_,_,some (.agg ((((al.map hpE).flatten).drop (i*3)).take 3):PV)=some (.agg [(.sl c100.length ((c100.map chE).flatten)),(aA mn101),(aA mx102)]),(i*3)+3≤((al.map hpE).flatten).length,0≤(i:Int)∧(i:Int)<(al.length:Int)∧(i*3)<((al.map hpE).flatten).length,_]) (by kernel_rfl) (gc h6 (gc h5 (gc (bB h4) (gc aHr (gc (bO h3) (gc aHs (gc (bQ h2) (gc (mC (E:=hpE) (i:=i) (k:=3) (fun _=>rfl) h1 rfl) (gc (tU (E:=hpE) (i:=i) (k:=3) (fun _=>rfl) h1) (gc (rC (E:=hpE) (k:=3) (i:=(i:Int)) (fun _=>rfl) (by decide) (kQ3 _) h1) (gc (bB h0) gn)))))))))))
theorem aYz{al:List fM}{s:Nat}{t:Int}{few many i:Nat}{c100:List cL}{mn101 mx102:Int}{i':Nat}(h0:(i:Int)<(al.length:Int))(h1:al[i]? = some (c100,mn101,mx102))(h2:(i:Int)≠(s:Int))(h3:t≤mx102)(h4:t≤mn101)(h5:inR (((i+1):Nat):Int))(ei':i'=(i+1)):aC Tp 0 rA (gZ al s t few many i) .normal (gZ al s t few many i'):=by
 subst ei';exact aC.fin (g:=⟨(rng [(0,1),(3,3),(10,2),(15,22)]),[],[],[]⟩) (o:=[bT,.x (.agg [(.sl c100.length ((c100.map chE).flatten)),(aA mn101),(aA mx102)]),bF,bF,bF]) (l:=[_,_,_,_,_,_,some (.agg ((((al.map hpE).flatten).drop (i*3)).take 3):PV)=some (.agg [(.sl c100.length ((c100.map chE).flatten)),(aA mn101),(aA mx102)]),(i*3)+3≤((al.map hpE).flatten).length,0≤(i:Int)∧(i:Int)<(al.length:Int)∧(i*3)<((al.map hpE).flatten).length,_]) (by kernel_rfl) (gc h5 (gc (bO h4) (gc aHr (gc (bO h3) (gc aHs (gc (bQ h2) (gc (mC (E:=hpE) (i:=i) (k:=3) (fun _=>rfl) h1 rfl) (gc (tU (E:=hpE) (i:=i) (k:=3) (fun _=>rfl) h1) (gc (rC (E:=hpE) (k:=3) (i:=(i:Int)) (fun _=>rfl) (by decide) (kQ3 _) h1) (gc (bB h0) gn))))))))))
theorem aZa{al:List fM}{s:Nat}{t:Int}{few many i:Nat}(h0:(al.length:Int)≤(i:Int)):aC Tp 0 rA (gZ al s t few many i) (.exit 0) (gZ al s t few many i):=by
 exact aC.fin (g:=⟨(rng [(0,1),(3,3),(10,2),(15,22)]),[],[],[]⟩) (o:=[bF]) (l:=[_]) (by kernel_rfl) (gc (bO h0) gn)
def iR(al:List fM)(s:Nat)(t:Int):Nat→Nat × Nat
 | 0=>(0,0)
 | i+1=>match al[i]? with
  | some h=>if i=s then iR al s t i else ((if h.2.2<t then (iR al s t i).1+1 else (iR al s t i).1),(if h.2.1<t then (iR al s t i).2+1 else (iR al s t i).2))
  | none=>iR al s t i
abbrev cW(al:List fM)(s:Nat)(t:Int):Nat × Nat:=iR al s t al.length
theorem oA(al:List fM)(s:Nat)(t:Int):∀ i,(iR al s t i).1≤i∧(iR al s t i).2≤i
 | 0=>⟨eA _,eA _⟩
 | i+1=>by
  have:=oA al s t i;unfold iR
  split
  ·split
   ·omega
   ·dsimp only
    split <;> split <;> omega
  ·omega
theorem bRl(al:List fM)(s:Nat)(t:Int)(hl:al.length≤1000){base:Nat}:FV Tp 142 [.p (.sl al.length (al.map hpE).flatten),.p (aA s),.p (aA t)] base (.tup [.p (aA ((cW al s t).1:Nat)),.p (aA ((cW al s t).2:Nat))]) []:=by
 obtain ⟨a,hI,hL⟩:=aI.ex (P:=Tp) (k:=0) (b:=rA) (e := .exit 0) (fun i (a:Nat × Nat)=>gZ al s t a.1 a.2 i) (fun a=>gZ al s t a.1 a.2 al.length) (fun i a=>a=iR al s t i) (by simp) al.length
  (fun i a hi ha=>by
   obtain ⟨⟨c,mn,mx⟩,hx⟩:∃ x,al[i]? = some x:=⟨_,kQ0 hi⟩;have hle:=oA al s t i;refine ⟨_,rfl,?_⟩;subst ha;have e:iR al s t (i+1)=if i=s then iR al s t i else ((if mx<t then (iR al s t i).1+1 else (iR al s t i).1),(if mn<t then (iR al s t i).2+1 else (iR al s t i).2)):=by
    conv=>lhs;unfold iR
    rw [hx]
   rw [e]
   by_cases his:i=s
   ·rw [if_pos his];exact aYv (by omega) hx (by omega) (aP (by omega)) rfl
   ·rw [if_neg his]
    by_cases h1:mx<t <;> by_cases h2:mn<t
    ·rw [if_pos h1,if_pos h2];exact aYw (by omega) hx (by omega) h1 (aP (by omega)) h2 (aP (by omega)) (aP (by omega)) rfl rfl rfl
    ·rw [if_pos h1,if_neg h2];exact aYx (by omega) hx (by omega) h1 (aP (by omega)) (by omega) (aP (by omega)) rfl rfl
    ·rw [if_neg h1,if_pos h2];exact aYy (by omega) hx (by omega) (by omega) h2 (aP (by omega)) (aP (by omega)) rfl rfl
    ·rw [if_neg h1,if_neg h2];exact aYz (by omega) hx (by omega) (by omega) (by omega) (aP (by omega)) rfl)
  (fun a _=>aZa (by omega)) (acc:=(0,0)) rfl
 subst hI;exact bRk hL
def kJ(al:List fM)(s:Nat)(c0:List cL)(on:Nat)(oc:List PV)(ou:Bool)(inn:Bool)(i:Nat):St:=⟨fr 51 [(0,(.p (.sl al.length ((al.map hpE).flatten)))),(1,(pI (s:Int))),(4,(.own 0)),(5,(pB ou)),(6,(pB inn)),(16,(.p (.sl c0.length ((c0.map chE).flatten)))),(17,(pI (c0.length:Int))),(18,(pI (i:Int)))],[some (.row 3 on oc)]⟩
theorem bRm{al:List fM}{s:Nat}{c0:List cL}{mn1 mx2:Int}{o'3:List Int}{ou'4 inn'5:Bool}{i'6:Nat}(h0:al[s]? = some (c0,mn1,mx2))(hl1:aI Tp 0 xB (kJ al s c0 0 [] false false 0) (.exit 0) (kJ al s c0 o'3.length (o'3.map aA) ou'4 inn'5 i'6))(h2:o'3.length≤1000000)(h3:(o'3.mergeSort KL.leB).length≤1000000){base:Nat}:FV Tp 141 [(.p (.sl al.length ((al.map hpE).flatten))),(pI (s:Int))] base (.tup [(.p (aG (Lib.compact (o'3.mergeSort KL.leB)))),(pB ou'4),(pB inn'5)]) []:=by
 exact FV.frz (FMM.fin (k:=0) (g:=⟨[],[],[1],[]⟩) rfl Tryz.func141 rfl (o:=[.x (.sl c0.length ((c0.map chE).flatten)),.k 1 ⟨(rng [(2,2),(7,9),(19,26),(46,1)]),[0],[],[(4,3),(5,0),(6,0)]⟩ (.exit 0) (kJ al s c0 o'3.length (o'3.map aA) ou'4 inn'5 i'6),.c (.tup []) [(0,(.row 3 ((o'3.mergeSort KL.leB).length) ((o'3.mergeSort KL.leB).map aA)))],.c (.own 1) [(0,.dead),(1,(.row 3 ((Lib.compact (o'3.mergeSort KL.leB)).length) ((Lib.compact (o'3.mergeSort KL.leB)).map aA)))]]) (l:=[FC Tp 186 [(.own 0)] [(0,(.row 3 ((o'3.mergeSort KL.leB).length) ((o'3.mergeSort KL.leB).map aA)))] 1 (.own 1) [(0,.dead),(1,(.row 3 ((Lib.compact (o'3.mergeSort KL.leB)).length) ((Lib.compact (o'3.mergeSort KL.leB)).map aA)))],FC Tp 57 [(.own 0)] [(0,(.row 3 o'3.length (o'3.map aA)))] 1 (.tup []) [(0,(.row 3 ((o'3.mergeSort KL.leB).length) ((o'3.mergeSort KL.leB).map aA)))],_,((al.map hpE).flatten)[(s*3)]? = some (.sl c0.length ((c0.map chE).flatten)),0≤(s:Int)∧(s:Int)<(al.length:Int)∧(s*3)<((al.map hpE).flatten).length]) (by kernel_rfl) (gc (FMM.fc (ids:=[0]) (aLv (o'3.mergeSort KL.leB) h3) (by kernel_rfl)) (gc (FMM.fc (ids:=[0]) (bFo o'3 h2) (by kernel_rfl)) (gc hl1.code (gc (bAj (E:=hpE) (i:=s) (f:=0) (k:=3) (fun _=>rfl) h0 rfl) (gc (rC (E:=hpE) (k:=3) (i:=(s:Int)) (fun _=>rfl) (by decide) (kQ3 _) h0) gn)))))) (by kernel_rfl)
def kK(al:List fM)(s:Nat)(c0:List cL)(ou:Bool)(i:Nat)(t100:Int)(b101:Bool)(q102:List Int)(on:Nat)(oc:List PV)(n:Nat):St:=⟨fr 51 [(0,(.p (.sl al.length ((al.map hpE).flatten)))),(1,(pI (s:Int))),(4,(.own 0)),(5,(pB ou)),(6,(.kb true)),(8,(.ptr 1 0)),(9,(pI (((cW al s t100).1:Nat):Int))),(10,(pI (((cW al s t100).2:Nat):Int))),(11,(pI (n:Int))),(16,(.p (.sl c0.length ((c0.map chE).flatten)))),(17,(pI (c0.length:Int))),(18,(pI (i:Int))),(19,(pB (decide ((i:Int)<(c0.length:Int))))),(20,(.rp ((c0.map chE).flatten) (i*3))),(21,(.p (.agg [(aA t100),(blP b101),(aG q102)]))),(22,(.ptr 1 1)),(23,(pB b101)),(24,(.tup [(pI (((cW al s t100).1:Nat):Int)),(pI (((cW al s t100).2:Nat):Int))])),(25,(.p (.sl al.length ((al.map hpE).flatten)))),(26,(pI (s:Int))),(27,(.ptr 1 0)),(28,(pI t100)),(29,(.tup [(pI (((cW al s t100).1:Nat):Int)),(pI (((cW al s t100).2:Nat):Int))])),(30,(pI (((cW al s t100).1:Nat):Int))),(31,(pI (((cW al s t100).2:Nat):Int))),(32,(pI (((cW al s t100).1:Nat):Int))),(33,(pI ((((cW al s t100).1+1):Nat):Int)))],[some (.row 3 on oc),some (.box 197 [(pI t100),(pB b101),(.p (aG q102))])]⟩
theorem aZb{al:List fM}{s:Nat}{c0:List cL}{o:List Int}{ou inn:Bool}{i:Nat}{t100:Int}{b101:Bool}{q102:List Int}{i':Nat}(h0:(i:Int)<(c0.length:Int))(h1:c0[i]? = some (t100,b101,q102))(h2:b101=true)(h3:inR (((i+1):Nat):Int))(ei':i'=(i+1)):aC Tp 0 xB (kJ al s c0 o.length (o.map aA) ou inn i) .normal (kJ al s c0 o.length (o.map aA) true inn i'):=by
 subst ei';exact aC.fin (g:=⟨(rng [(2,2),(7,9),(19,26),(46,1)]),[0],[],[(5,0)]⟩) (o:=[bT,.x (.agg [(aA t100),(blP b101),(aG q102)]),bT]) (l:=[_,_,some (.agg ((((c0.map chE).flatten).drop (i*3)).take 3):PV)=some (.agg [(aA t100),(blP b101),(aG q102)]),(i*3)+3≤((c0.map chE).flatten).length,0≤(i:Int)∧(i:Int)<(c0.length:Int)∧(i*3)<((c0.map chE).flatten).length,_]) (by kernel_rfl) (gc h3 (gc h2 (gc (mC (E:=chE) (i:=i) (k:=3) (fun _=>rfl) h1 rfl) (gc (tU (E:=chE) (i:=i) (k:=3) (fun _=>rfl) h1) (gc (rC (E:=chE) (k:=3) (i:=(i:Int)) (fun _=>rfl) (by decide) (kQ3 _) h1) (gc (bB h0) gn))))))
theorem aZc{al:List fM}{s:Nat}{c0:List cL}{o:List Int}{ou inn:Bool}{i:Nat}{t100:Int}{b101:Bool}{q102 o'103:List Int}{n'104:Nat}{o':List Int}{i':Nat}(h0:(i:Int)<(c0.length:Int))(h1:c0[i]? = some (t100,b101,q102))(h2:b101=false)(h3:al.length≤1000)(h4:inR ((((cW al s t100).1+1):Nat):Int))(hl5:aI Tp 0 xC (kK al s c0 ou i t100 b101 q102 o.length (o.map aA) ((cW al s t100).1+1)) (.exit 2) (kK al s c0 ou i t100 b101 q102 o'103.length (o'103.map aA) n'104))(h6:inR (((i+1):Nat):Int))(eo'n:o'.length=o'103.length)(eo'c:o'.map aA=(o'103.map aA))(ei':i'=(i+1)):aC Tp 0 xB (kJ al s c0 o.length (o.map aA) ou inn i) .normal (kJ al s c0 o'.length (o'.map aA) ou true i'):=by
 subst ei';have raw:aC Tp 0 xB (kJ al s c0 o.length (o.map aA) ou inn i) .normal (kJ al s c0 o'103.length (o'103.map aA) ou true (i+1)):=aC.fin (g:=⟨(rng [(2,2),(7,9),(19,26),(46,1)]),[0],[],[(6,0)]⟩) (o:=[bT,.x (.agg [(aA t100),(blP b101),(aG q102)]),bF,.c (.tup [(pI (((cW al s t100).1:Nat):Int)),(pI (((cW al s t100).2:Nat):Int))]) [],.k 3 ⟨(rng [(2,2),(7,1),(12,4),(34,10),(46,1)]),[0,1],[],[]⟩ (.exit 2) (kK al s c0 ou i t100 b101 q102 o'103.length (o'103.map aA) n'104)]) (l:=[_,_,_,_,_,some (.agg ((((c0.map chE).flatten).drop (i*3)).take 3):PV)=some (.agg [(aA t100),(blP b101),(aG q102)]),(i*3)+3≤((c0.map chE).flatten).length,0≤(i:Int)∧(i:Int)<(c0.length:Int)∧(i*3)<((c0.map chE).flatten).length,_]) (by kernel_rfl) (gc h6 (gc hl5.code (gc h4 (gc (fk 2 (bRl al s t100 h3) rfl) (gc h2 (gc (mC (E:=chE) (i:=i) (k:=3) (fun _=>rfl) h1 rfl) (gc (tU (E:=chE) (i:=i) (k:=3) (fun _=>rfl) h1) (gc (rC (E:=chE) (k:=3) (i:=(i:Int)) (fun _=>rfl) (by decide) (kQ3 _) h1) (gc (bB h0) gn)))))))))
 exact raw.cast (by rw [eo'n,eo'c])
theorem aZd{al:List fM}{s:Nat}{c0:List cL}{o:List Int}{ou inn:Bool}{i:Nat}(h0:(c0.length:Int)≤(i:Int)):aC Tp 0 xB (kJ al s c0 o.length (o.map aA) ou inn i) (.exit 0) (kJ al s c0 o.length (o.map aA) ou inn i):=by
 exact aC.fin (g:=⟨(rng [(2,2),(7,9),(19,26),(46,1)]),[0],[],[]⟩) (o:=[bF]) (l:=[_]) (by kernel_rfl) (gc (bO h0) gn)
theorem aZe{al:List fM}{s:Nat}{c0:List cL}{ou:Bool}{i:Nat}{t100:Int}{b101:Bool}{q102 o:List Int}{n:Nat}{o':List Int}{n':Nat}(h0:inR ((((cW al s t100).2+1):Nat):Int))(h1:(n:Int)≤((((cW al s t100).2+1):Nat):Int))(h2:[(aA (n:Int))].length=1*1∧o.length+1≤1000000)(h3:inR (((n+1):Nat):Int))(eo'n:o'.length=(o.length+1))(eo'c:o'.map aA=((o.map aA)++[(aA (n:Int))]))(en':n'=(n+1)):aC Tp 0 xC (kK al s c0 ou i t100 b101 q102 o.length (o.map aA) n) .normal (kK al s c0 ou i t100 b101 q102 o'.length (o'.map aA) n'):=by
 subst en';have raw:aC Tp 0 xC (kK al s c0 ou i t100 b101 q102 o.length (o.map aA) n) .normal (kK al s c0 ou i t100 b101 q102 (o.length+1) ((o.map aA)++[(aA (n:Int))]) (n+1)):=aC.fin (g:=⟨(rng [(2,2),(7,1),(12,4),(34,10),(46,1)]),[3,1],[],[]⟩) (o:=[bT]) (l:=[_,_,_,_]) (by kernel_rfl) (gc h3 (gc h2 (gc (aGr h1) (gc h0 gn))))
 exact raw.cast (by rw [eo'n,eo'c])
theorem aZf{al:List fM}{s:Nat}{c0:List cL}{ou:Bool}{i:Nat}{t100:Int}{b101:Bool}{q102 o:List Int}{n:Nat}(h0:inR ((((cW al s t100).2+1):Nat):Int))(h1:((((cW al s t100).2+1):Nat):Int)<(n:Int)):aC Tp 0 xC (kK al s c0 ou i t100 b101 q102 o.length (o.map aA) n) (.exit 2) (kK al s c0 ou i t100 b101 q102 o.length (o.map aA) n):=by
 exact aC.fin (g:=⟨(rng [(2,2),(7,1),(12,4),(34,10),(46,1)]),[0,1],[],[]⟩) (o:=[bF]) (l:=[_,_]) (by kernel_rfl) (gc (pP h1) (gc h0 gn))
def aLj(few many:Nat):List Int:=(List.range (many+1-few)).map fun j=>((few+1+j:Nat):Int)
def chL(al:List fM)(s:Nat)(c:cL):List Int:=if c.2.1 then [] else aLj (cW al s c.1).1 (cW al s c.1).2
def lL(al:List fM)(s:Nat)(c:List cL):List Int:=Lib.compact ((c.flatMap (chL al s)).mergeSort KL.leB)
theorem bEs{a b:Nat}(h:b≤1000):(aLj a b).length≤1001:=by unfold aLj;simp;omega
theorem bJx(al:List fM)(hal:al.length≤1000)(s:Nat)(c:cL):(chL al s c).length≤1001:=by
 unfold chL
 split
 ·simp
 ·exact bEs (by have:(cW al s c.1).2≤al.length:=(oA al s c.1 al.length).2;omega)
theorem aHt{al:List fM}(hal:al.length≤1000)(s:Nat):∀ c:List cL,(c.flatMap (chL al s)).length≤c.length*1001
 | []=>by simp
 | x::c=>by
  rw [List.flatMap_cons,mG,tG];have:=bJx al hal s x;have:=aHt hal s c;omega
theorem bRn{al:List fM}(hal:al.length≤1000)(s:Nat)(c0:List cL)(ou:Bool)(i:Nat)(t:Int)(b:Bool)(q o:List Int)(ho:o.length≤900000) :
  ∃ n',aI Tp 0 xC (kK al s c0 ou i t b q o.length (o.map aA) ((cW al s t).1+1)) (.exit 2) (kK al s c0 ou i t b q (o++aLj (cW al s t).1 (cW al s t).2).length ((o++aLj (cW al s t).1 (cW al s t).2).map aA) n'):=by
 have h1:(cW al s t).1≤al.length:=(oA al s t al.length).1;have h2:(cW al s t).2≤al.length:=(oA al s t al.length).2;obtain ⟨x,hI,hL⟩:=aI.ex (P:=Tp) (k:=0) (b:=xC) (e := .exit 2) (fun j (x:List Int)=>kK al s c0 ou i t b q x.length (x.map aA) ((cW al s t).1+1+j)) (fun x=>kK al s c0 ou i t b q x.length (x.map aA) ((cW al s t).1+1+((cW al s t).2+1-(cW al s t).1)))
  (fun j x=>x=o++(List.range j).map fun j=>(((cW al s t).1+1+j:Nat):Int)) (by simp) ((cW al s t).2+1-(cW al s t).1)
  (fun j x hj hx=>by
   have hlen:x.length=o.length+j:=by rw [hx];simp
   refine ⟨x++[(((cW al s t).1+1+j:Nat):Int)],?_,aZe (aP (by omega)) (by omega) ⟨rfl,by omega⟩ (aP (by omega)) (by simp) (by simp) rfl⟩
   rw [hx,List.range_succ];simp)
  (fun x _=>aZf (aP (by omega)) (by omega)) (acc:=o) (by simp)
 rw [show o++aLj (cW al s t).1 (cW al s t).2=x from hI.symm]
 exact ⟨_,hL⟩
theorem aPp{al:List fM}(hal:al.length≤1000){s:Nat}{c:List cL}{mn mx:Int}(hx:al[s]? = some (c,mn,mx))(hc:c.length≤256){base:Nat} :
  FV Tp 141 [.p (.sl al.length (al.map hpE).flatten),.p (aA s)] base (.tup [.p (aG (lL al s c)),.p (blP (c.any fun x=>x.2.1)),.p (blP (c.any fun x => !x.2.1))]) []:=by
 obtain ⟨a,⟨hI,hJ,hK⟩,hL⟩:=aI.ex (P:=Tp) (k:=0) (b:=xB) (e := .exit 0) (fun i (a:List Int × Bool × Bool)=>kJ al s c a.1.length (a.1.map aA) a.2.1 a.2.2 i) (fun a=>kJ al s c a.1.length (a.1.map aA) a.2.1 a.2.2 c.length)
  (fun i a=>a.1=(c.take i).flatMap (chL al s)∧a.2.1=((c.take i).any fun x=>x.2.1)∧a.2.2=((c.take i).any fun x => !x.2.1)) (by simp) c.length
  (fun i a hi ha=>by
   obtain ⟨ha1,ha2,ha3⟩:=ha;obtain ⟨⟨t,b,q⟩,hx⟩:∃ x,c[i]? = some x:=⟨_,kQ0 hi⟩;have hlen:a.1.length≤256*1001:=by
    rw [ha1];have:=aHt hal s (c.take i);rw [lW] at this
    have:min i c.length≤256:=by omega
    omega
   have e1:c.take (i+1)=c.take i++[(t,b,q)]:=by rw [List.take_add_one,hx];rfl
   cases b with
   | true=>exact ⟨(a.1,true,a.2.2),⟨by rw [ha1,e1];simp [chL],by rw [e1];simp,by rw [ha3,e1];simp⟩,aZb (by omega) hx rfl (aP (by omega)) rfl⟩
   | false =>
    have h1:(cW al s t).1≤al.length:=(oA al s t al.length).1;obtain ⟨n',hl⟩:=bRn hal s c a.2.1 i t false q a.1 (by omega)
    exact ⟨(a.1++aLj (cW al s t).1 (cW al s t).2,a.2.1,true),⟨by rw [ha1,e1];simp [chL],by rw [ha2,e1];simp,by rw [e1];simp⟩,aZc (by omega) hx rfl hal (aP (by omega)) hl (aP (by omega)) rfl rfl rfl⟩)
  (fun a _=>aZd (by omega)) (acc:=([],false,false)) (by simp)
 rw [List.take_length] at hI hJ hK
 have hb:=aHt hal s c;have:=bRm (s:=s) hx hL (by rw [hI];omega) (by rw [List.length_mergeSort,hI];omega) (base:=base)
 rw [hI,hJ,hK] at this
 exact this
end
section
variable {dl:Int}{sk dc:Lqq}

theorem bEr:((0:Int) != (0:Int))=false:=by first | decide | simp
def qZ(l:Lqq)(x0:Int)(x1:Int)(i:Nat):St:=⟨fr 19 [(0,(.p (fS l))),(3,(.ptr 0 0)),(7,(pI (l.length:Int))),(8,(pI (i:Int)))],[some (.box 31 [(pI x0),(pI x1)])]⟩
theorem bRg{l:Lqq}{x0 x1:Int}{i'0:Nat}(hl0:aI Tp 0 (sub (cd Tryz.f185) [1,0,1,0,0]) (qZ l x0 x1 0) .ret (cE (qZ l x0 x1 i'0) [(4,(pI (i'0:Int)))])){base:Nat}:FV Tp 185 [(.p (fS l)),(.p (.agg [(aA x0),(aA x1)]))] base (pI (i'0:Int)) []:=by
 exact FV.fin Tryz.func185 rfl (o:=[.k 6 ⟨(rng [(1,2),(4,3),(9,10)]),[0],[],[]⟩ .ret (cE (qZ l x0 x1 i'0) [(4,(pI (i'0:Int)))])]) (l:=[_]) (by kernel_rfl) (gc hl0.code gn)
theorem aYt{l:Lqq}{x0 x1:Int}{i:Nat}{y100 y101:Int}(h0:(i:Int)<(l.length:Int))(h1:l[i]? = some [y100,y101])(h2:uni 2 l)(h3:cX [(aA x0),(aA x1)] [(0,3,true),(1,3,true)]=true∧cX [(aA y100),(aA y101)] [(0,3,true),(1,3,true)]=true)(h4:(jN [(aA x0),(aA x1)] [(aA y100),(aA y101)] [(0,3,true),(1,3,true)])=true):aC Tp 0 (sub (cd Tryz.f185) [1,0,1,0,0]) (qZ l x0 x1 i) .ret (cE (qZ l x0 x1 i) [(4,(pI (i:Int)))]):=by
 exact aC.fin (g:=⟨(rng [(1,2),(5,2),(9,10)]),[0],[],[]⟩) (o:=[bT,.x (.agg [(aA y100),(aA y101)]),bT]) (l:=[_,_,_,_,0≤(i:Int)∧(i:Int)<(l.length:Int)∧(i*2)<(l.flatten.map aA).length,_]) (by kernel_rfl) (gc h4 (gc h3 (gc (aU (i:=i) h2 h1) (gc (bD (i:=i) h2 h1) (gc (bS (k:=2) (i:=(i:Int)) (by decide) h2 (kQ3 _) h1) (gc (bB h0) gn))))))
theorem aYu{l:Lqq}{x0 x1:Int}{i:Nat}{y100 y101:Int}{i':Nat}(h0:(i:Int)<(l.length:Int))(h1:l[i]? = some [y100,y101])(h2:uni 2 l)(h3:cX [(aA x0),(aA x1)] [(0,3,true),(1,3,true)]=true∧cX [(aA y100),(aA y101)] [(0,3,true),(1,3,true)]=true)(h4:(jN [(aA x0),(aA x1)] [(aA y100),(aA y101)] [(0,3,true),(1,3,true)])=false)(h5:inR (((i+1):Nat):Int))(ei':i'=(i+1)):aC Tp 0 (sub (cd Tryz.f185) [1,0,1,0,0]) (qZ l x0 x1 i) .normal (qZ l x0 x1 i'):=by
 subst ei';exact aC.fin (g:=⟨(rng [(1,2),(4,3),(9,10)]),[0],[],[]⟩) (o:=[bT,.x (.agg [(aA y100),(aA y101)]),bF]) (l:=[_,_,_,_,_,0≤(i:Int)∧(i:Int)<(l.length:Int)∧(i*2)<(l.flatten.map aA).length,_]) (by kernel_rfl) (gc h5 (gc h4 (gc h3 (gc (aU (i:=i) h2 h1) (gc (bD (i:=i) h2 h1) (gc (bS (k:=2) (i:=(i:Int)) (by decide) h2 (kQ3 _) h1) (gc (bB h0) gn)))))))
theorem bRh{l:Lqq}(hu:uni 2 l)(hn:(aK l 0).Nodup)(hl:l.length≤1000){i:Nat}{x0 x1:Int}(hi:l[i]? = some [x0,x1]){base:Nat}:FV Tp 185 [.p (fS l),.p (.agg [aA x0,aA x1])] base (pI (i:Int)) []:=by
 have hlt:=bH hi;refine bRg (i'0:=i) ?_;have hne:∀ j,j<i→∃ y0 y1,l[j]? = some [y0,y1]∧y0≠x0:=fun j hj=>by
  obtain ⟨y0,y1,hy⟩:=at2 hu (i:=j) (by omega)
  refine ⟨y0,y1,hy,fun e => ?_⟩
  have e1:(aK l 0)[j]? = some y0:=by unfold aK;rw [gC,hy];rfl
  have e2:(aK l 0)[i]? = some x0:=by unfold aK;rw [gC,hi];rfl
  obtain ⟨hj1,hj2⟩:=kQ2.1 e1;obtain ⟨hi1,hi2⟩:=kQ2.1 e2;have:=List.pairwise_iff_getElem.1 hn j i hj1 hi1 hj;rw [hj2,hi2] at this
  exact this e
 exact aI.until (P:=Tp) i (fun j=>qZ l x0 x1 j) i (eA _)
  (fun j hj=>by
   obtain ⟨y0,y1,hy,hn⟩:=hne j hj;exact aYu (by omega) hy hu ⟨rfl,rfl⟩ (by simp [jN,uP];exact fun h=>absurd h.symm hn) (aP (by omega)) rfl)
  (aYt (by omega) hi hu ⟨rfl,rfl⟩ (by simp [jN,uP])) (by simp)
theorem vK(h:cN dl sk dc):uni 2 (aB sk)∧(aB sk).length≤30∧(∀ s∈aB sk,-1≤s.getD 1 0∧s.getD 1 0≤360000)∧(aK (aB sk) 0).Nodup:=by
 have hp:=eE sk;refine ⟨lQ h.us,by rw [eP];exact h.len.2,fun s hs=>(iU.1 (h.hsk s (hp.mem_iff.1 hs))).2,?_⟩
 unfold aK;exact (hp.map _).nodup_iff.2 h.ns
theorem aSn(h:cN dl sk dc)(ho:(aN dl (aB dc)).length≤8){base:Nat}:FV Tp 161 [qT dl (aB sk) (aB dc)] base (.tup [.own base,.p (aA 0)]) [(base,.row 195 (bI dl (aB sk) (aB dc)).length ((bI dl (aB sk) (aB dc)).map hpE).flatten)]:=by
 obtain ⟨h1,h2,h3,_⟩:=vK h;exact bRp (jU h) h1 (by omega) h3 ho
theorem bJw(h:cN dl sk dc){i:Nat}{x0 x1:Int}(hi:(aB sk)[i]? = some [x0,x1]){base:Nat}:FV Tp 185 [.p (fS (aB sk)),.p (.agg [aA x0,aA x1])] base (pI (i:Int)) []:=by
 obtain ⟨h1,h2,_,h4⟩:=vK h;exact bRh h1 h4 (by omega) hi
theorem bRi{bib:Int}{i0:Nat}{s1 s2:Int}(h0:cN dl sk dc)(h1:bFg (aB sk) bib=(i0:Int))(h2:(aB sk)[i0]? = some [s1,s2])(h3:(aN dl (aB dc)).length≤8){base:Nat}:FV Tp 140 [(.p (.agg (dH dl sk dc))),(pI bib)] base (.tup [(.p (.sl ((bI dl (aB sk) (aB dc)).length) (((bI dl (aB sk) (aB dc)).map hpE).flatten))),(pI (i0:Int)),(pI 0)]) []:=by
 exact FV.frz (FMM.fin (k:=0) (g:=⟨[],[],[2],[]⟩) rfl Tryz.func140 rfl (o:=[.c (.tup [(.rp (aH dl (aB sk) (aB dc)) 0),(.p (.agg [(aA s1),(aA s2)])),(pI 0)]) [],bF,.c (.tup [(.own 2),(pI 0)]) [(2,(.row 195 ((bI dl (aB sk) (aB dc)).length) (((bI dl (aB sk) (aB dc)).map hpE).flatten)))],.x (.sl ((aB sk).length) ((aB sk).flatten.map aA)),.c (pI (i0:Int)) []]) (l:=[_,(aH dl (aB sk) (aB dc))[1]? = some (.sl ((aB sk).length) ((aB sk).flatten.map aA)),_,_,_]) (by kernel_rfl) (gc (fk 3 (bJw h0 h2) rfl) (gc rfl (gc (fk 2 (aSn h0 h3) rfl) (gc bEr (gc (fk 1 (bFh h0 h1 h2) rfl) gn)))))) (by kernel_rfl)
theorem bRj{bib:Int}{i0:Nat}{s1 s2:Int}{c3:List cL}{mn4 mx5:Int}{r0:Bool}(h0:cN dl sk dc)(h1:bFg (aB sk) bib=(i0:Int))(h2:(aB sk)[i0]? = some [s1,s2])(h3:(aN dl (aB dc)).length≤8)(h4:(bI dl (aB sk) (aB dc))[i0]? = some (c3,mn4,mx5))(h5:(bI dl (aB sk) (aB dc)).length≤1000)(h6:c3.length≤256)(er0:r0=(c3.any fun x=>x.2.1)){base:Nat}:FV Tp 71 [(.p (.agg (dH dl sk dc))),(pI bib)] base (.tup [(.p (aG (lL (bI dl (aB sk) (aB dc)) i0 c3))),(pB r0),(pI 0)]) []:=by
 subst er0;exact FV.fin Tryz.func71 rfl (o:=[.c (.tup [(.p (.sl ((bI dl (aB sk) (aB dc)).length) (((bI dl (aB sk) (aB dc)).map hpE).flatten))),(pI (i0:Int)),(pI 0)]) [],bF,.c (.tup [(.p (aG (lL (bI dl (aB sk) (aB dc)) i0 c3))),(pB (c3.any fun x=>x.2.1)),(pB (c3.any fun x => !x.2.1))]) []]) (l:=[_,_,FC Tp 140 [(.p (.agg (dH dl sk dc))),(pI bib)] [] 1 (.tup [(.p (.sl ((bI dl (aB sk) (aB dc)).length) (((bI dl (aB sk) (aB dc)).map hpE).flatten))),(pI (i0:Int)),(pI 0)]) []]) (by kernel_rfl) (gc (fk 1 (aPp h5 h4 h6) rfl) (gc bEr (gc (FV.fc (bRi h0 h1 h2 h3) rfl) gn)))
end
section
variable {dl:Int}{sk dc:Lqq}

noncomputable abbrev aCe:Code:=sub (cd Tryz.f93) [1,1,1,1,1,1,1,0,1,0,0]
theorem bEp:((0:Int) != (0:Int))=false:=by first | decide | simp
theorem bRb{l:List Int}{a b:Bool}{f x0:Int}{r0:Bool}(h0:b=true)(h1:a=false)(h2:inR ((l.length:Int)-1))(h3:l[((l.length:Int)-1).toNat]? = some x0)(h4:0≤((l.length:Int)-1))(er0:r0=(decide (x0≤f))){base:Nat}:FV Tp 95 [(.p (aG l)),(pB a),(pB b),(.rp [(aA f)] 0)] base (pB r0) []:=by
 subst er0;exact FV.fin Tryz.func95 rfl (o:=[bT,bT,bT,bT,bT,bT,bT,bT,bT,.x (aA x0),bT,.x (aA f),bT,bT]) (l:=[_,_,[(aA f)][0]? = some (aA f),_,(l.map aA)[(((l.length:Int)-1).toNat*1)]? = some (aA x0),_,_,_,_,_,_,_,_,_,_,_]) (by kernel_rfl) (g2c (cU h1) (gc rfl (gc (cU h1) (gc (oU (i:=((l.length:Int)-1).toNat) h3) (gc (cU h1) (gc (oV (g:=aA) h4 h3) (gc (cU h1) (gc h2 (g4c (cU h1) (g3c h0 gn))))))))))
theorem bRc{l:List Int}{a b:Bool}{f:Int}(h0:b=true)(h1:a=true){base:Nat}:FV Tp 95 [(.p (aG l)),(pB a),(pB b),(.rp [(aA f)] 0)] base (pB false) []:=by
 exact FV.fin Tryz.func95 rfl (o:=[bT,bT,bT,bF,bF,bF,bF,bF,bF,bF,bF,bF]) (l:=[_,_,_,_,_,_,_,_,_,_,_,_]) (by kernel_rfl) (g8c (aW h1) (gc (aW h1) (g3c h0 gn)))
theorem bRd{l:List Int}{a b:Bool}{f:Int}(h0:b=false){base:Nat}:FV Tp 95 [(.p (aG l)),(pB a),(pB b),(.rp [(aA f)] 0)] base (pB false) []:=by
 exact FV.fin Tryz.func95 rfl (o:=[bF,bF,bF]) (l:=[_,_,_]) (by kernel_rfl) (g3c h0 gn)
def aHq(l:List Int)(a b:Bool)(f:Int):Bool:=b && (!a && decide (l.getD (l.length-1) 0≤f))
theorem bEq(l:List Int)(a b:Bool)(f:Int)(hl:l.length≤1000000)(hb:b=true→l≠[]){base:Nat}:FV Tp 95 [.p (aG l),.p (blP a),.p (blP b),.rp [aA f] 0] base (pB (aHq l a b f)) []:=by
 cases b with
 | false=>exact bRd rfl
 | true =>
  cases a with
  | true=>exact bRc rfl rfl
  | false =>
   have h0:=hb rfl;have h1:0<l.length:=List.length_pos_iff.2 h0;have h2:l[l.length-1]? = some (l.getD (l.length-1) 0):=by rw [kQ4,kQ0 (by omega)];rfl
   have e:((l.length:Int)-1).toNat=l.length-1:=by omega
   exact bRb (x0:=l.getD (l.length-1) 0) rfl rfl (by unfold inR;omega) (by rw [e];exact h2) (by omega) (by unfold aHq;simp)
def kI(dl:Int)(sk:Lqq)(dc:Lqq)(fi:Int)(on:Nat)(oc:List PV)(i:Nat):St:=⟨fr 58 [(2,(.fn 95 [] [(.rp [(aA fi)] 0)])),(6,(.p cJ)),(7,(pI 0)),(10,(.p (.sl ((bI dl (aB sk) (aB dc)).length) (((bI dl (aB sk) (aB dc)).map hpE).flatten)))),(11,(.own 0)),(36,(.p (.sl ((aB sk).length) ((aB sk).flatten.map aA)))),(37,(pI (((aB sk).length:Nat):Int))),(38,(pI (i:Int)))],[some (.row 3 on oc)]⟩
theorem bRe{fi:Int}{o'0:List Int}{i'1:Nat}(h0:cN dl sk dc)(h1:(1:Int)≤fi)(h2:(aN dl (aB dc)).length≤8)(hl3:aI Tp 0 aCe (kI dl sk dc fi 0 [] 0) (.exit 0) (kI dl sk dc fi o'0.length (o'0.map aA) i'1)){base:Nat}:FV Tp 93 [(.p (.agg (dH dl sk dc))),(pI fi),(.fn 95 [] [(.rp [(aA fi)] 0)])] base (.tup [(.p (aG o'0)),(pI 0)]) []:=by
 exact FV.frz (FMM.fin (k:=0) (g:=⟨[],[],[0],[]⟩) rfl Tryz.func93 rfl (o:=[.c (.tup [(.rp (aH dl (aB sk) (aB dc)) 0),(pI 0)]) [],bF,bF,.c (.tup [(.own 1),(pI 0)]) [(1,(.row 195 ((bI dl (aB sk) (aB dc)).length) (((bI dl (aB sk) (aB dc)).map hpE).flatten)))],bF,.g 1 ⟨[],[0],[1],[]⟩,.x (.sl ((aB sk).length) ((aB sk).flatten.map aA)),.k 1 ⟨(rng [(0,2),(3,3),(8,2),(12,24),(39,18)]),[1],[],[(11,3)]⟩ (.exit 0) (kI dl sk dc fi o'0.length (o'0.map aA) i'1)]) (l:=[_,(aH dl (aB sk) (aB dc))[1]? = some (.sl ((aB sk).length) ((aB sk).flatten.map aA)),_,_,_,_,_]) (by kernel_rfl) (gc hl3.code (gc rfl (gc bEp (gc (fk 1 (aSn h0 h2) rfl) (gc (bO h1) (gc bEp (gc (fk 1 (kQ dl sk dc h0) rfl) gn)))))))) (by kernel_rfl)
theorem aYq{fi:Int}{o:List Int}{i:Nat}{y100 y101:Int}{c102:List cL}{mn103 mx104:Int}{o':List Int}{i':Nat}(h0:(i:Int)<(((aB sk).length:Nat):Int))(h1:(aB sk)[i]? = some [y100,y101])(h2:uni 2 (aB sk))(h3:(bI dl (aB sk) (aB dc))[i]? = some (c102,mn103,mx104))(h4:(bI dl (aB sk) (aB dc)).length≤1000)(h5:c102.length≤256)(h6:(lL (bI dl (aB sk) (aB dc)) i c102).length≤1000000)(h7:(c102.any fun x => !x.2.1)=true→(lL (bI dl (aB sk) (aB dc)) i c102)≠[])(h8:(aHq (lL (bI dl (aB sk) (aB dc)) i c102) (c102.any fun x=>x.2.1) (c102.any fun x => !x.2.1) fi)=true)(h9:[(aA y100)].length=1*1∧o.length+1≤1000000)(h10:inR (((i+1):Nat):Int))(eo'n:o'.length=(o.length+1))(eo'c:o'.map aA=((o.map aA)++[(aA y100)]))(ei':i'=(i+1)):aC Tp 0 aCe (kI dl sk dc fi o.length (o.map aA) i) .normal (kI dl sk dc fi o'.length (o'.map aA) i'):=by
 subst ei';have raw:aC Tp 0 aCe (kI dl sk dc fi o.length (o.map aA) i) .normal (kI dl sk dc fi (o.length+1) ((o.map aA)++[(aA y100)]) (i+1)):=aC.fin (g:=⟨(rng [(0,2),(3,3),(8,2),(12,24),(39,18)]),[3],[],[]⟩) (o:=[bT,.x (.agg [(aA y100),(aA y101)]),.c (.tup [(.p (aG (lL (bI dl (aB sk) (aB dc)) i c102))),(pB (c102.any fun x=>x.2.1)),(pB (c102.any fun x => !x.2.1))]) [],.c (pB (aHq (lL (bI dl (aB sk) (aB dc)) i c102) (c102.any fun x=>x.2.1) (c102.any fun x => !x.2.1) fi)) [],bT]) (l:=[_,_,_,_,_,_,_,0≤(i:Int)∧(i:Int)<(((aB sk).length:Nat):Int)∧(i*2)<((aB sk).flatten.map aA).length,_]) (by kernel_rfl) (gc h10 (gc h9 (gc h8 (gc (fk 2 (bEq (lL (bI dl (aB sk) (aB dc)) i c102) (c102.any fun x=>x.2.1) (c102.any fun x => !x.2.1) fi h6 h7) rfl) (gc (fk 2 (aPp h4 h3 h5) rfl) (gc (aU (i:=i) h2 h1) (gc (bD (i:=i) h2 h1) (gc (bS (k:=2) (i:=(i:Int)) (by decide) h2 (kQ3 _) h1) (gc (bB h0) gn)))))))))
 exact raw.cast (by rw [eo'n,eo'c])
theorem aYr{fi:Int}{o:List Int}{i:Nat}{y100 y101:Int}{c102:List cL}{mn103 mx104:Int}{i':Nat}(h0:(i:Int)<(((aB sk).length:Nat):Int))(h1:(aB sk)[i]? = some [y100,y101])(h2:uni 2 (aB sk))(h3:(bI dl (aB sk) (aB dc))[i]? = some (c102,mn103,mx104))(h4:(bI dl (aB sk) (aB dc)).length≤1000)(h5:c102.length≤256)(h6:(lL (bI dl (aB sk) (aB dc)) i c102).length≤1000000)(h7:(c102.any fun x => !x.2.1)=true→(lL (bI dl (aB sk) (aB dc)) i c102)≠[])(h8:(aHq (lL (bI dl (aB sk) (aB dc)) i c102) (c102.any fun x=>x.2.1) (c102.any fun x => !x.2.1) fi)=false)(h9:inR (((i+1):Nat):Int))(ei':i'=(i+1)):aC Tp 0 aCe (kI dl sk dc fi o.length (o.map aA) i) .normal (kI dl sk dc fi o.length (o.map aA) i'):=by
 subst ei';exact aC.fin (g:=⟨(rng [(0,2),(3,3),(8,2),(12,24),(39,18)]),[0],[],[]⟩) (o:=[bT,.x (.agg [(aA y100),(aA y101)]),.c (.tup [(.p (aG (lL (bI dl (aB sk) (aB dc)) i c102))),(pB (c102.any fun x=>x.2.1)),(pB (c102.any fun x => !x.2.1))]) [],.c (pB (aHq (lL (bI dl (aB sk) (aB dc)) i c102) (c102.any fun x=>x.2.1) (c102.any fun x => !x.2.1) fi)) [],bF]) (l:=[_,_,_,_,_,_,0≤(i:Int)∧(i:Int)<(((aB sk).length:Nat):Int)∧(i*2)<((aB sk).flatten.map aA).length,_]) (by kernel_rfl) (gc h9 (gc h8 (gc (fk 2 (bEq (lL (bI dl (aB sk) (aB dc)) i c102) (c102.any fun x=>x.2.1) (c102.any fun x => !x.2.1) fi h6 h7) rfl) (gc (fk 2 (aPp h4 h3 h5) rfl) (gc (aU (i:=i) h2 h1) (gc (bD (i:=i) h2 h1) (gc (bS (k:=2) (i:=(i:Int)) (by decide) h2 (kQ3 _) h1) (gc (bB h0) gn))))))))
theorem aYs{fi:Int}{o:List Int}{i:Nat}(h0:(((aB sk).length:Nat):Int)≤(i:Int)):aC Tp 0 aCe (kI dl sk dc fi o.length (o.map aA) i) (.exit 0) (kI dl sk dc fi o.length (o.map aA) i):=by
 exact aC.fin (g:=⟨(rng [(0,2),(3,3),(8,2),(12,24),(39,18)]),[0],[],[]⟩) (o:=[bF]) (l:=[_]) (by kernel_rfl) (gc (bO h0) gn)
abbrev bUc(dl:Int)(sk dc:Lqq)(fi:Int)(o:List Int)(e:Int):Prop:=∀ base:Nat,FV Tp 93 [.p (.agg (dH dl sk dc)),.p (aA fi),.fn 95 [] [.rp [aA fi] 0]] base (.tup [.p (aG o),.p (aA e)]) []
theorem bRf{fi e0:Int}{o1:List Int}(h0:bUc dl sk dc fi o1 e0){base:Nat}:FV Tp 33 [(.p (.agg (dH dl sk dc))),(pI fi)] base (.tup [(.p (aG o1)),(pI e0)]) []:=by
 exact FV.fin Tryz.func33 rfl (o:=[.g 3 ⟨[],[0],[1],[]⟩,.x (aA fi),.c (.tup [(.p (aG o1)),(pI e0)]) []]) (l:=[FC Tp 93 [(.p (.agg (dH dl sk dc))),(pI fi),(.fn 95 [] [(.rp [(aA fi)] 0)])] [] 1 (.tup [(.p (aG o1)),(pI e0)]) [],[(aA fi)][0]? = some (aA fi)]) (by kernel_rfl) (gc (FV.fc (h0 _) rfl) (gc rfl gn))
end
end KV
end Go.Proofs
section
namespace Go.Proofs
open Go.RowKit Go.Lib
namespace KV
theorem bJt(o:List Int):jF o≠[]:=fun h=>by
 have:=vL o;rw [h] at this
 have:=Nat.two_pow_pos o.length;simp at *
 omega
theorem bEm(l:List cL):∀ m,l.foldl (fun m x=>if x.1<m then x.1 else m) m≤m∧∀ x∈l,l.foldl (fun m x=>if x.1<m then x.1 else m) m≤x.1:=by
 induction l with
 | nil=>intro m;exact ⟨aVa _,fun x h=>by cases h⟩
 | cons a l ih =>
  intro m;rw [oT];obtain ⟨h1,h2⟩:=ih (if a.1<m then a.1 else m)
  have ha:(if a.1<m then a.1 else m)≤m∧(if a.1<m then a.1 else m)≤a.1:=by split <;> omega
  exact ⟨by omega,fun x hx=>by
   rcases jG.1 hx with rfl | hx
   ·omega
   ·exact h2 x hx⟩
theorem bEn(l:List cL):∀ m,m≤l.foldl (fun m x=>if x.1 > m then x.1 else m) m∧∀ x∈l,x.1≤l.foldl (fun m x=>if x.1 > m then x.1 else m) m:=by
 induction l with
 | nil=>intro m;exact ⟨aVa _,fun x h=>by cases h⟩
 | cons a l ih =>
  intro m;rw [oT];obtain ⟨h1,h2⟩:=ih (if a.1 > m then a.1 else m)
  have ha:m≤(if a.1 > m then a.1 else m)∧a.1≤(if a.1 > m then a.1 else m):=by split <;> omega
  exact ⟨by omega,fun x hx=>by
   rcases jG.1 hx with rfl | hx
   ·omega
   ·exact h2 x hx⟩
theorem bJu{l:List cL}(h:l≠[]):mnM l≤mxM l:=by
 obtain ⟨x,hx⟩:=List.exists_mem_of_ne_nil l h;exact Int.le_trans ((bEm l far).2 x hx) ((bEn l 0).2 x hx)
theorem bJv(dl:Int)(dc:Lqq)(s0 s1:Int)(o:List Int):(oB dl dc s0 s1 o).2.1≤(oB dl dc s0 s1 o).2.2:=bJu fun h=>bJt o (List.map_eq_nil_iff.1 h)
theorem aFa(dl:Int)(sk dc:Lqq):(bI dl sk dc).length=sk.length:=by unfold bI;simp
theorem aLg{dl:Int}{sk dc:Lqq}{i:Nat}{s:List Int}(h:sk[i]? = some s):(bI dl sk dc)[i]? = some (oB dl dc (s.getD 0 0) (s.getD 1 0) (tR dl dc (s.getD 0 0))):=by
 unfold bI;rw [gC,h];rfl
theorem aLh{dl:Int}{dc:Lqq}{s0 s1:Int}(b:Int)(ho:(aN dl dc).length≤8):(oB dl dc s0 s1 (tR dl dc b)).1.length≤256:=by
 show ((jF (tR dl dc b)).map _).length≤256;rw [kQ6,vL];have:=bEt dl dc b;exact gQ (Nat.pow_le_pow_right (by omega) (show (tR dl dc b).length≤8 by omega)) (by decide)
theorem aSl{al:List fM}(h:∀ x∈al,x.2.1≤x.2.2)(s:Nat)(t:Int):∀ i,(iR al s t i).1≤(iR al s t i).2
 | 0=>eA _
 | i+1=>by
  have ih:=aSl h s t i;unfold iR
  split
  ·rename_i x hx
   have:=h x (kQ5 hx)
   split
   ·exact ih
   ·dsimp only
    split <;> split <;> omega
  ·exact ih
theorem aPo{l:List Int}(h:l≠[]):Lib.compact l≠[]:=fun e=>by
 have:(Lib.compact l).length=0:=by rw [e];rfl
 unfold Lib.compact Lib.compactUpTo at this
 rw [kQ6] at this
 have h0:0∈(List.range l.length).filter (Lib.keeps l.toArray):=wN.2 ⟨wO.2 (List.length_pos_iff.2 h),Lib.keeps_lt_one _ 0 (by omega)⟩
 rw [aDb this] at h0
 cases h0
theorem bEo{al:List fM}(h:∀ x∈al,x.2.1≤x.2.2)(s:Nat){c:List cL}(hc:(c.any fun x => !x.2.1)=true):lL al s c≠[]:=by
 unfold lL;refine aPo fun e => ?_
 have e2:c.flatMap (chL al s)=[]:=by
  have:=List.length_mergeSort (le:=KL.leB) (c.flatMap (chL al s));rw [e] at this
  exact aDb this.symm
 obtain ⟨x,hx,hn⟩:=List.any_eq_true.1 hc;have h1:chL al s x=[]:=List.flatMap_eq_nil_iff.1 e2 x hx;have hf:x.2.1=false:=by simpa using hn
 unfold chL aLj at h1
 rw [hf] at h1
 have:=congrArg List.length h1;have hl:=aSl h s x.1 al.length;simp at this
 have h3:(cW al s x.1).1≤(cW al s x.1).2:=hl;omega
theorem aSm{al:List fM}(hal:al.length≤1000)(s:Nat){c:List cL}(hc:c.length≤256):(lL al s c).length≤1000000:=by
 unfold lL;refine gQ (aCh _) ?_;rw [List.length_mergeSort];have:=aHt hal s c;omega
theorem aLi(dl:Int)(sk dc:Lqq):∀ x∈bI dl sk dc,x.2.1≤x.2.2:=fun x hx=>by
 obtain ⟨s,_,rfl⟩:=dQ.1 hx;exact bJv ..
end KV
end Go.Proofs
end
namespace Go.Proofs
namespace KV
section
def yP(dl:Int)(sk dc:Lqq)(f:Int)(i:Nat):Bool:=match (bI dl sk dc)[i]? with
 | some h=>aHq (lL (bI dl sk dc) i h.1) (h.1.any fun x=>x.2.1) (h.1.any fun x => !x.2.1) f
 | none=>false
def aLf(dl:Int)(sk dc:Lqq)(f:Int):List Int:=((List.range sk.length).filter (yP dl sk dc f)).map fun i=>(sk.getD i []).getD 0 0
theorem bQy{dl:Int}{sk dc:Lqq}(h:cN dl sk dc){bib:Int}{i:Nat}{s0 s1:Int}(hp:bFg (aB sk) bib=(i:Int))(hs:(aB sk)[i]? = some [s0,s1])(ho:(aN dl (aB dc)).length≤8){base:Nat} :
  FV Tp 71 [.p (.agg (dH dl sk dc)),.p (aA bib)] base (.tup [.p (aG (lL (bI dl (aB sk) (aB dc)) i (oB dl (aB dc) s0 s1 (tR dl (aB dc) s0)).1)),.p (blP ((oB dl (aB dc) s0 s1 (tR dl (aB dc) s0)).1.any fun x=>x.2.1)),.p (aA 0)]) []:=by
 obtain ⟨_,h2,_,_⟩:=vK h;exact bRj h hp hs ho (aLg hs) (by rw [aFa];omega) (aLh s0 ho) rfl
theorem bQz{dl:Int}{sk dc:Lqq}(h:cN dl sk dc){f:Int}(hf:1≤f)(ho:(aN dl (aB dc)).length≤8):bUc dl sk dc f (aLf dl (aB sk) (aB dc) f) 0:=fun base=>by
 obtain ⟨h1,h2,_,_⟩:=vK h;obtain ⟨o,hI,hL⟩:=aI.ex (P:=Tp) (k:=0) (b:=sub (cd Tryz.f93) [1,1,1,1,1,1,1,0,1,0,0]) (e := .exit 0) (fun i (o:List Int)=>kI dl sk dc f o.length (o.map aA) i) (fun o=>kI dl sk dc f o.length (o.map aA) (aB sk).length)
  (fun i o=>o=((List.range i).filter (yP dl (aB sk) (aB dc) f)).map fun i=>((aB sk).getD i []).getD 0 0) (by simp) (aB sk).length
  (fun i o hi hoE=>by
   obtain ⟨y0,y1,hy⟩:=at2 h1 hi;have hat:=aLg (dl:=dl) (dc:=aB dc) hy;have hlen:o.length≤i:=by
    rw [hoE,kQ6];have:=yY (yP dl (aB sk) (aB dc) f) (List.range i);simpa using this
   have hmb:yP dl (aB sk) (aB dc) f i=aHq (lL (bI dl (aB sk) (aB dc)) i (oB dl (aB dc) y0 y1 (tR dl (aB dc) y0)).1) ((oB dl (aB dc) y0 y1 (tR dl (aB dc) y0)).1.any fun x=>x.2.1) ((oB dl (aB dc) y0 y1 (tR dl (aB dc) y0)).1.any fun x => !x.2.1) f:=by
    unfold yP;rw [hat];rfl
   have hal:(bI dl (aB sk) (aB dc)).length≤1000:=by rw [aFa];omega
   have hc:=aLh (s0:=y0) (s1:=y1) y0 ho;have hg:((aB sk).getD i []).getD 0 0=y0:=by simp [kQ4,hy]
   cases hb:yP dl (aB sk) (aB dc) f i with
   | true =>
    refine ⟨o++[y0],?_,aYq (by omega) hy h1 hat hal hc (aSm hal i hc) (fun hn=>bEo (aLi _ _ _) i hn) (by rw [← hb,hmb];rfl) ⟨rfl,by omega⟩ (aP (by omega)) (by simp) (by simp) rfl⟩
    rw [hoE,List.range_succ,uY,iE];simp only [List.filter_cons,hb,if_true,List.filter_nil,gD,List.map_nil,hg]
   | false =>
    refine ⟨o,?_,aYr (by omega) hy h1 hat hal hc (aSm hal i hc) (fun hn=>bEo (aLi _ _ _) i hn) (by rw [← hb,hmb];rfl) (aP (by omega)) rfl⟩
    rw [hoE,List.range_succ,uY,iE];simp [List.filter_cons,hb])
  (fun o _=>aYs (by omega)) (acc:=[]) (by simp)
 have e:o=aLf dl (aB sk) (aB dc) f:=hI;rw [← e];exact bRe h hf ho hL
theorem bRa{dl:Int}{sk dc:Lqq}(h:cN dl sk dc){f:Int}(hf:1≤f)(ho:(aN dl (aB dc)).length≤8){base:Nat}:FV Tp 33 [.p (.agg (dH dl sk dc)),.p (aA f)] base (.tup [.p (aG (aLf dl (aB sk) (aB dc) f)),.p (aA 0)]) []:=bRf (bQz h hf ho)
end
section

noncomputable abbrev wZ:Code:=sub (cd Tryz.f51) [1,1,0,1,0,0]
noncomputable abbrev xA:Code:=sub (cd Tryz.f41) [1,1,0,1,0,0]
theorem bQq{dl:Int}{sk dc:Lqq}{bib:Int}{i0:Nat}{s1 s2 n3:Int}{b4:Bool}{T5:Lqb}(h0:cN dl sk dc)(h1:bFg (aB sk) bib=(i0:Int))(h2:(aB sk)[i0]? = some [s1,s2])(h3:aDe dl (aB sk) (aB dc) cJ [s1,s2] n3 b4 ([]:Lqb) T5){base:Nat}:FV Tp 61 [(.p (.agg (dH dl sk dc))),(pI bib)] base (.tup [(pI n3),(pB b4),(pI 0)]) []:=by
 exact FV.fin Tryz.func61 rfl (o:=[.c (.tup [(.rp (aH dl (aB sk) (aB dc)) 0),(.p (.agg [(aA s1),(aA s2)])),(pI 0)]) [],bF,.c (.agg (kVL 6 7 2 4 8 3)) [(2,(vB0 dl (aB sk) (aB dc))),(3,(.box 33 [(.p cJ)])),(4,(.box 139 (kVL 6 7 2 4 8 3))),(5,(.mp (aF ([]:Lqb)) 0)),(6,(.box 207 [(.mp 5)])),(7,(vB5 dl (aB sk) (aB dc))),(8,(.box 209 [(.fn 153 [] [(.ptr 2 0),(.ptr 4 0)])]))],.c (.tup [(pI n3),(pB b4)]) [(2,(vB0 dl (aB sk) (aB dc))),(3,(.box 33 [(.p cJ)])),(4,(.box 139 (kVL 6 7 2 4 8 3))),(5,(.mp (aF T5) T5.length)),(6,(.box 207 [(.mp 5)])),(7,(vB5 dl (aB sk) (aB dc))),(8,(.box 209 [(.fn 153 [] [(.ptr 2 0),(.ptr 4 0)])]))]]) (l:=[FC Tp 134 [(.rp (aH dl (aB sk) (aB dc)) 0),(.p (.agg [(aA s1),(aA s2)])),(.agg (kVL 6 7 2 4 8 3))] [(6,(.box 207 [(.mp 5)])),(7,(vB5 dl (aB sk) (aB dc))),(2,(vB0 dl (aB sk) (aB dc))),(4,(.box 139 (kVL 6 7 2 4 8 3))),(8,(.box 209 [(.fn 153 [] [(.ptr 2 0),(.ptr 4 0)])])),(3,(.box 33 [(.p cJ)])),(5,(.mp (aF ([]:Lqb)) 0))] 10 (.tup [(pI n3),(pB b4)]) [(2,(vB0 dl (aB sk) (aB dc))),(3,(.box 33 [(.p cJ)])),(4,(.box 139 (kVL 6 7 2 4 8 3))),(5,(.mp (aF T5) T5.length)),(6,(.box 207 [(.mp 5)])),(7,(vB5 dl (aB sk) (aB dc))),(8,(.box 209 [(.fn 153 [] [(.ptr 2 0),(.ptr 4 0)])]))],FC Tp 87 [(.rp (aH dl (aB sk) (aB dc)) 0),(.p cJ)] [] 2 (.agg (kVL 6 7 2 4 8 3)) [(2,(vB0 dl (aB sk) (aB dc))),(3,(.box 33 [(.p cJ)])),(4,(.box 139 (kVL 6 7 2 4 8 3))),(5,(.mp (aF ([]:Lqb)) 0)),(6,(.box 207 [(.mp 5)])),(7,(vB5 dl (aB sk) (aB dc))),(8,(.box 209 [(.fn 153 [] [(.ptr 2 0),(.ptr 4 0)])]))],((0:Int) != (0:Int))=false,_]) (by kernel_rfl) (gc (FMM.fc (ids:=[2,3,4,5,6,7,8]) h3 (by kernel_rfl)) (gc (FMM.fcN (k:=7) rfl (ids:=[]) (aHi (dl:=dl) (sk:=(aB sk)) (dc:=(aB dc))) (by kernel_rfl)) (gc (by first | decide | simp) (gc (fk 1 (bFh h0 h1 h2) rfl) gn))))
def iW(a:Lqq)(b:Lqq)(i:Nat):St:=⟨fr 26 [(0,(.p (fS a))),(1,(.p (fS b))),(12,(pI (a.length:Int))),(13,(pI (i:Int)))],[]⟩
theorem bQr{a b:Lqq}(h0:(a.length:Int)≠(b.length:Int)){base:Nat}:FV Tp 51 [(.p (fS a)),(.p (fS b))] base (pB false) []:=by
 exact FV.fin Tryz.func51 rfl (o:=[bT]) (l:=[_]) (by kernel_rfl) (gc (nV h0) gn)
theorem bQs{a b:Lqq}{i'0:Nat}(h0:(a.length:Int)=(b.length:Int))(hl1:aI Tp 0 wZ (iW a b 0) (.exit 0) (iW a b i'0)){base:Nat}:FV Tp 51 [(.p (fS a)),(.p (fS b))] base (pB true) []:=by
 exact FV.fin Tryz.func51 rfl (o:=[bF,.k 4 ⟨(rng [(2,10),(14,12)]),[],[],[]⟩ (.exit 0) (iW a b i'0)]) (l:=[_,_]) (by kernel_rfl) (gc hl1.code (gc (gM h0) gn))
theorem bQt{a b:Lqq}{i'0:Nat}(h0:(a.length:Int)=(b.length:Int))(hl1:aI Tp 0 wZ (iW a b 0) .ret (cE (iW a b i'0) [(4,(.kb false))])){base:Nat}:FV Tp 51 [(.p (fS a)),(.p (fS b))] base (pB false) []:=by
 exact FV.fin Tryz.func51 rfl (o:=[bF,.k 4 ⟨(rng [(2,10),(14,12)]),[],[],[]⟩ .ret (cE (iW a b i'0) [(4,(.kb false))])]) (l:=[_,_]) (by kernel_rfl) (gc hl1.code (gc (gM h0) gn))
theorem aYk{a b:Lqq}{i:Nat}{y100 y101 y102 y103 y104 y105:Int}(h0:(i:Int)<(a.length:Int))(h1:a[i]? = some [y100,y101,y102])(h2:uni 3 a)(h3:b[i]? = some [y103,y104,y105])(h4:uni 3 b)(h5:cX [(aA y100),(aA y101),(aA y102)] [(0,3,true),(1,3,true),(2,3,true)]=true∧cX [(aA y103),(aA y104),(aA y105)] [(0,3,true),(1,3,true),(2,3,true)]=true)(h6:(jN [(aA y100),(aA y101),(aA y102)] [(aA y103),(aA y104),(aA y105)] [(0,3,true),(1,3,true),(2,3,true)])=false):aC Tp 0 wZ (iW a b i) .ret (cE (iW a b i) [(4,(.kb false))]):=by
 exact aC.fin (g:=⟨(rng [(2,2),(5,7),(14,12)]),[],[],[]⟩) (o:=[bT,.x (.agg [(aA y100),(aA y101),(aA y102)]),.x (.agg [(aA y103),(aA y104),(aA y105)]),bT]) (l:=[_,_,_,_,0≤(i:Int)∧(i:Int)<(b.length:Int)∧(i*3)<(b.flatten.map aA).length,_,_,0≤(i:Int)∧(i:Int)<(a.length:Int)∧(i*3)<(a.flatten.map aA).length,_]) (by kernel_rfl) (gc (cU h6) (gc h5 (gc (aU (i:=i) h4 h3) (gc (bD (i:=i) h4 h3) (gc (bS (k:=3) (i:=(i:Int)) (by decide) h4 (kQ3 _) h3) (gc (aU (i:=i) h2 h1) (gc (bD (i:=i) h2 h1) (gc (bS (k:=3) (i:=(i:Int)) (by decide) h2 (kQ3 _) h1) (gc (bB h0) gn)))))))))
theorem aYl{a b:Lqq}{i:Nat}{y100 y101 y102 y103 y104 y105:Int}{i':Nat}(h0:(i:Int)<(a.length:Int))(h1:a[i]? = some [y100,y101,y102])(h2:uni 3 a)(h3:b[i]? = some [y103,y104,y105])(h4:uni 3 b)(h5:cX [(aA y100),(aA y101),(aA y102)] [(0,3,true),(1,3,true),(2,3,true)]=true∧cX [(aA y103),(aA y104),(aA y105)] [(0,3,true),(1,3,true),(2,3,true)]=true)(h6:(jN [(aA y100),(aA y101),(aA y102)] [(aA y103),(aA y104),(aA y105)] [(0,3,true),(1,3,true),(2,3,true)])=true)(h7:inR (((i+1):Nat):Int))(ei':i'=(i+1)):aC Tp 0 wZ (iW a b i) .normal (iW a b i'):=by
 subst ei';exact aC.fin (g:=⟨(rng [(2,10),(14,12)]),[],[],[]⟩) (o:=[bT,.x (.agg [(aA y100),(aA y101),(aA y102)]),.x (.agg [(aA y103),(aA y104),(aA y105)]),bF]) (l:=[_,_,_,_,_,0≤(i:Int)∧(i:Int)<(b.length:Int)∧(i*3)<(b.flatten.map aA).length,_,_,0≤(i:Int)∧(i:Int)<(a.length:Int)∧(i*3)<(a.flatten.map aA).length,_]) (by kernel_rfl) (gc h7 (gc (aW h6) (gc h5 (gc (aU (i:=i) h4 h3) (gc (bD (i:=i) h4 h3) (gc (bS (k:=3) (i:=(i:Int)) (by decide) h4 (kQ3 _) h3) (gc (aU (i:=i) h2 h1) (gc (bD (i:=i) h2 h1) (gc (bS (k:=3) (i:=(i:Int)) (by decide) h2 (kQ3 _) h1) (gc (bB h0) gn))))))))))
theorem aYm{a b:Lqq}{i:Nat}(h0:(a.length:Int)≤(i:Int)):aC Tp 0 wZ (iW a b i) (.exit 0) (iW a b i):=by
 exact aC.fin (g:=⟨(rng [(2,10),(14,12)]),[],[],[]⟩) (o:=[bF]) (l:=[_]) (by kernel_rfl) (gc (bO h0) gn)
theorem bQu(a b:Lqq)(ha:uni 3 a)(hb:uni 3 b)(hl:a.length≤1000){base:Nat}:FV Tp 51 [.p (fS a),.p (fS b)] base (pB (decide (a=b))) []:=by
 by_cases hlen:a.length=b.length
 ·have eqx:∀ i,i<a.length→∃ x y,a[i]? = some x∧b[i]? = some y∧x.length=3∧y.length=3:=fun i hi =>
   ⟨a[i],b[i],kQ0 hi,kQ0 (by omega),ha _ (gO hi),hb _ (gO (by omega))⟩
  rcases aI.find (P:=Tp) (k:=0) (b:=wZ) (fun i=>iW a b i) (fun i _=>cE (iW a b i) [(4,.kb false)]) (iW a b a.length) .ret (.exit 0) (by simp) (by simp) (fun j=>decide (a.getD j []≠b.getD j [])) (List.range a.length)
   (fun i x hx hp=>by
    have hi:i<a.length:=by have:=bH hx;simpa using this
    obtain ⟨y,z,hy,hz,ly,lz⟩:=eqx i hi;obtain ⟨a,b,c,rfl⟩:=len3 ly;obtain ⟨a',b',c',rfl⟩:=len3 lz;have hxi:x=i:=by rw [aNu hi] at hx;exact (Option.some.inj hx).symm
    subst hxi;have he:=of_decide_eq_false hp;simp only [kQ4,hy,hz,Option.getD_some,ne_eq,Classical.not_not] at he
    cases he;exact aYl (by omega) hy ha hz hb ⟨rfl,rfl⟩ (by simp [jN,uP]) (aP (by omega)) rfl)
   (fun i x hx hp=>by
    have hi:i<a.length:=by have:=bH hx;simpa using this
    obtain ⟨y,z,hy,hz,ly,lz⟩:=eqx i hi;obtain ⟨a,b,c,rfl⟩:=len3 ly;obtain ⟨a',b',c',rfl⟩:=len3 lz;have hxi:x=i:=by rw [aNu hi] at hx;exact (Option.some.inj hx).symm
    subst hxi;have he:=of_decide_eq_true hp;simp only [kQ4,hy,hz,Option.getD_some] at he
    exact aYk (by omega) hy ha hz hb ⟨rfl,rfl⟩ (by
     rw [Bool.eq_false_iff];intro h;simp [jN,uP] at h
     exact he (by simp [h])))
   (by rw [List.length_range];exact aYm (by omega)) with ⟨i,x,h1,h2,h3,h4⟩ | ⟨h1,h2,h3⟩
  ·have hi:i<a.length:=by have:=bH h1;simpa using this
   have hxi:x=i:=by rw [aNu hi] at h1;exact (Option.some.inj h1).symm
   have he:=of_decide_eq_true h3;rw [decide_eq_false (fun e=>he (by rw [e]))]
   exact bQt (by omega) h4
  ·have hall:∀ i,i<a.length→a.getD i []=b.getD i []:=fun i hi=>by
    have:=List.any_eq_false.1 h2 i (wO.2 hi);simpa using this
   have e:a=b:=by
    apply List.ext_getElem hlen;intro i h1 h2;have:=hall i h1;simpa [kQ4,kQ0 h1,kQ0 h2] using this
   rw [decide_eq_true e];exact bQs (by omega) h3
 ·rw [decide_eq_false (fun e=>hlen (by rw [e]))]
  exact bQr (by omega)
def iX(a:List Int)(b:List Int)(i:Nat):St:=⟨fr 26 [(0,(.p (aG a))),(1,(.p (aG b))),(12,(pI (a.length:Int))),(13,(pI (i:Int)))],[]⟩
theorem bQv{a b:List Int}(h0:(a.length:Int)≠(b.length:Int)){base:Nat}:FV Tp 41 [(.p (aG a)),(.p (aG b))] base (pB false) []:=by
 exact FV.fin Tryz.func41 rfl (o:=[bT]) (l:=[_]) (by kernel_rfl) (gc (nV h0) gn)
theorem bQw{a b:List Int}{i'0:Nat}(h0:(a.length:Int)=(b.length:Int))(hl1:aI Tp 0 xA (iX a b 0) (.exit 0) (iX a b i'0)){base:Nat}:FV Tp 41 [(.p (aG a)),(.p (aG b))] base (pB true) []:=by
 exact FV.fin Tryz.func41 rfl (o:=[bF,.k 4 ⟨(rng [(2,10),(14,12)]),[],[],[]⟩ (.exit 0) (iX a b i'0)]) (l:=[_,_]) (by kernel_rfl) (gc hl1.code (gc (gM h0) gn))
theorem bQx{a b:List Int}{i'0:Nat}(h0:(a.length:Int)=(b.length:Int))(hl1:aI Tp 0 xA (iX a b 0) .ret (cE (iX a b i'0) [(4,(.kb false))])){base:Nat}:FV Tp 41 [(.p (aG a)),(.p (aG b))] base (pB false) []:=by
 exact FV.fin Tryz.func41 rfl (o:=[bF,.k 4 ⟨(rng [(2,10),(14,12)]),[],[],[]⟩ .ret (cE (iX a b i'0) [(4,(.kb false))])]) (l:=[_,_]) (by kernel_rfl) (gc hl1.code (gc (gM h0) gn))
theorem aYn{a b:List Int}{i:Nat}{x100 x101:Int}(h0:(i:Int)<(a.length:Int))(h1:a[i]? = some x100)(h2:b[i]? = some x101)(h3:x100≠x101):aC Tp 0 xA (iX a b i) .ret (cE (iX a b i) [(4,(.kb false))]):=by
 exact aC.fin (g:=⟨(rng [(2,2),(5,7),(14,12)]),[],[],[]⟩) (o:=[bT,.x (aA x100),.x (aA x101),bT]) (l:=[_,_,_,_,_,_]) (by kernel_rfl) (gc (nV h3) (gc (atm aA h2) (gc (ixn aA h2) (gc (atm aA h1) (gc (ixn aA h1) (gc (bB h0) gn))))))
theorem aYo{a b:List Int}{i:Nat}{x100 x101:Int}{i':Nat}(h0:(i:Int)<(a.length:Int))(h1:a[i]? = some x100)(h2:b[i]? = some x101)(h3:x100=x101)(h4:inR (((i+1):Nat):Int))(ei':i'=(i+1)):aC Tp 0 xA (iX a b i) .normal (iX a b i'):=by
 subst ei';exact aC.fin (g:=⟨(rng [(2,10),(14,12)]),[],[],[]⟩) (o:=[bT,.x (aA x100),.x (aA x101),bF]) (l:=[_,_,_,_,_,_,_]) (by kernel_rfl) (gc h4 (gc (gM h3) (gc (atm aA h2) (gc (ixn aA h2) (gc (atm aA h1) (gc (ixn aA h1) (gc (bB h0) gn)))))))
theorem aYp{a b:List Int}{i:Nat}(h0:(a.length:Int)≤(i:Int)):aC Tp 0 xA (iX a b i) (.exit 0) (iX a b i):=by
 exact aC.fin (g:=⟨(rng [(2,10),(14,12)]),[],[],[]⟩) (o:=[bF]) (l:=[_]) (by kernel_rfl) (gc (bO h0) gn)
theorem bEl(a b:List Int)(hl:a.length≤1000){base:Nat}:FV Tp 41 [.p (aG a),.p (aG b)] base (pB (decide (a=b))) []:=by
 by_cases hlen:a.length=b.length
 ·rcases aI.find (P:=Tp) (k:=0) (b:=xA) (fun i=>iX a b i) (fun i _=>cE (iX a b i) [(4,.kb false)]) (iX a b a.length) .ret (.exit 0) (by simp) (by simp) (fun j=>decide (a.getD j 0≠b.getD j 0)) (List.range a.length)
   (fun i x hx hp=>by
    have hi:i<a.length:=by have:=bH hx;simpa using this
    have hxi:x=i:=by rw [aNu hi] at hx;exact (Option.some.inj hx).symm
    subst hxi;have h1:a[x]? = some (a.getD x 0):=by rw [kQ4,kQ0 hi];rfl
    have h2:b[x]? = some (b.getD x 0):=by rw [kQ4,kQ0 (by omega)];rfl
    have he:=of_decide_eq_false hp;exact aYo (by omega) h1 h2 (Classical.not_not.1 he) (aP (by omega)) rfl)
   (fun i x hx hp=>by
    have hi:i<a.length:=by have:=bH hx;simpa using this
    have hxi:x=i:=by rw [aNu hi] at hx;exact (Option.some.inj hx).symm
    subst hxi;have h1:a[x]? = some (a.getD x 0):=by rw [kQ4,kQ0 hi];rfl
    have h2:b[x]? = some (b.getD x 0):=by rw [kQ4,kQ0 (by omega)];rfl
    exact aYn (by omega) h1 h2 (of_decide_eq_true hp))
   (by rw [List.length_range];exact aYp (by omega)) with ⟨i,x,h1,h2,h3,h4⟩ | ⟨h1,h2,h3⟩
  ·have he:=of_decide_eq_true h3
   rw [decide_eq_false (fun e=>he (by rw [e]))]
   exact bQx (by omega) h4
  ·have hall:∀ i,i<a.length→a.getD i 0=b.getD i 0:=fun i hi=>by
    have:=List.any_eq_false.1 h2 i (wO.2 hi);simpa using this
   have e:a=b:=by
    apply List.ext_getElem hlen;intro i h1 h2;have:=hall i h1
    rwa [kQ4,kQ4,kQ0 h1,kQ0 h2] at this
   rw [decide_eq_true e];exact bQw (by omega) h3
 ·rw [decide_eq_false (fun e=>hlen (by rw [e]))]
  exact bQv (by omega)
theorem aHp{a b c:Int}{base:Nat}:FV Tp 23 [(pI a),(pI b),(pI c)] base (.p (dcE a 0 0 b c 0)) []:=by
 exact FV.fin Tryz.func23 rfl (o:=[]) (l:=[]) (by kernel_rfl) (gn)
theorem iL{a b c d e:Int}{base:Nat}:FV Tp 49 [(pI a),(pI b),(pI c),(pI d),(pI e)] base (.p (dcE a b d 0 e c)) []:=by
 exact FV.fin Tryz.func49 rfl (o:=[]) (l:=[]) (by kernel_rfl) (gn)
end
section
theorem ofO(l:List Int):FMM Tp 17 [.p (.sl l.length (l.map aO))] [] (.ptr 0 0) [some (jS l 0 17)]:=bTq
def bNa(ns nd:Int)(l:List Int)(nx st:Int)(r:Lqq × Lqq × Int × Int):Prop :=
 cN 30 r.1 r.2.1∧(r.1.length:Int)≤ns∧(r.2.1.length:Int)≤nd∧(0≤r.2.2.1∧r.2.2.1≤4000)∧(r.1.Pairwise fun a b=>a.getD 0 0<b.getD 0 0)∧(r.2.1.Pairwise fun a b=>a.getD 0 0<b.getD 0 0)∧(∀ x∈r.2.1,x.getD 0 0≤80)∧(∀ x∈r.1,x.getD 0 0≤88∧x.getD 1 0≤16000) ∧
  FMM Tp 16 [.ptr 0 0,.p (aA ns),.p (aA nd)] [some (jS l nx st)] (.p (.agg (dH 30 r.1 r.2.1))) [some (jS l r.2.2.1 r.2.2.2)]
open Classical in
noncomputable def aVo(ns nd:Int)(l:List Int)(nx st:Int):Lqq × Lqq × Int × Int:=if h:∃ r,bNa ns nd l nx st r then Classical.choose h else ([],[],0,0)
theorem aKk{ns nd:Int}{l:List Int}{nx st:Int}(hns:1≤ns∧ns≤30)(hnd:0≤nd∧nd≤40)(hnx:0≤nx∧nx≤900):bNa ns nd l nx st (aVo ns nd l nx st):=by
 obtain ⟨sk,dc,mx,tt,h⟩:=bNd (ns:=ns) (nd:=nd) (l:=l) (nx:=nx) (st:=st) hns hnd hnx;have hex:∃ r,bNa ns nd l nx st r:=⟨(sk,dc,mx,tt),h⟩;unfold aVo;rw [dif_pos hex];exact Classical.choose_spec hex
theorem bCo{sk dc:Lqq}{nx' st':Int}(ns nd:Int)(l:List Int)(nx st:Int)(h:0≤nx∧nx≤900)(hs:1≤ns∧ns≤30)(hd:0≤nd∧nd≤40)(e:aVo ns nd l nx st=(sk,dc,nx',st')):FMM Tp 16 [.ptr 0 0,.p (aA ns),.p (aA nd)] [some (jS l nx st)] (.p (.agg (dH 30 sk dc))) [some (jS l nx' st')]:=by
 have:=(aKk (l:=l) (st:=st) hs hd h).2.2.2.2.2.2.2.2;rw [e] at this
 exact this
end
section

end
section
end
section
variable {P:Program}
theorem FC.close1{f base id ty n:Nat}{cs:List PV}{args args':List AV}{y:AV}{L:Upd}(h:FC P f args' [] base y L)(ha:fzL id n cs args=args'):FC P f args [(id,.row ty n cs)] base y ((id,.dead)::L):=fun M hb hf h8=>by
 have hoM:=hb _ (jW ..);subst ha;have fre:∀ j,fD M (base+j)=true→fD (aX M id (some .dead)) (base+j)=true:=fun j hj=>by
  have hne:id≠base+j:=fun e=>by
   have:=cR hj;rw [← e] at this
   exact this _ (bA.1 hoM)
  unfold fD at hj ⊢
  rw [cZ,if_neg hne];exact hj
 exact FM.close1 hoM (h _ (fun p hp=>by cases hp) (by have:=fre 0 (by simpa using hf);simpa using this) (fun j hj=>fre j (h8 j hj)))
end
section
variable {dl:Int}{sk dc:Lqq}

noncomputable abbrev xM:Code:=sub (cd Tryz.f58) [1,1,1,1,1,1,1,1,1,0,1,0,1,0,0]
noncomputable abbrev aIe:Code:=sub (cd Tryz.f58) [1,1,1,1,1,1,1,1,1,0,1,0]
noncomputable abbrev aQt:Code:=sub (cd Tryz.f58) [1,1,1,1,1,1,1,1,1,0,1,0,1]
theorem aCm:((0:Int) != (0:Int))=false:=by first | decide | simp
def fK(dl:Int)(sk dc:Lqq)(r:Int)(x:List Int):Int × Bool:=cF dl x (aB dc) (((aB sk).getD (bC (fun x=>decide (r=x)) (aK (aB sk) 0)).toNat []).getD 0 0) (((aB sk).getD (bC (fun x=>decide (r=x)) (aK (aB sk) 0)).toNat []).getD 1 0)
def mD(dl:Int)(sk:Lqq)(dc:Lqq)(num:Int)(r6:Int)  : St:=⟨fr 102 [(3,(.rp [(aA num)] 0)),(4,(.ptr 0 0)),(5,(.ptr 1 0)),(6,(.rp [(PV.rp (aH dl (aB sk) (aB dc)) 0)] 0)),(9,(.rp [(aA r6)] 0)),(10,(.rp [(aA (bC (fun x=>decide (r6=x)) (aK (aB sk) 0)))] 0)),(53,(.fn 182 [] [(.rp [(aG ((aN dl (aB dc)).filter fun n => !(n == num)))] 0)]))],[some (.box 4 [(pB false)]),some (.box 34 [(pI 0)])]⟩
def tV(dl:Int)(sk:Lqq)(dc:Lqq)(num:Int)(r6:Int):St:=⟨fr 102 [(3,(.rp [(aA num)] 0)),(4,(.ptr 0 0)),(5,(.ptr 1 0)),(6,(.rp [(PV.rp (aH dl (aB sk) (aB dc)) 0)] 0)),(9,(.rp [(aA r6)] 0)),(10,(.rp [(aA (bC (fun x=>decide (r6=x)) (aK (aB sk) 0)))] 0)),(53,(.fn 182 [] [(.rp [(aG ((aN dl (aB dc)).filter fun n => !(n == num)))] 0)]))],[some (.box 4 [(pB false)]),some (.box 34 [(pI 0)])]⟩
def aCn(dl:Int)(sk:Lqq)(dc:Lqq)(num:Int)(r6:Int):St:=⟨fr 102 [(3,(.rp [(aA num)] 0)),(4,(.ptr 0 0)),(5,(.ptr 1 0)),(6,(.rp [(PV.rp (aH dl (aB sk) (aB dc)) 0)] 0)),(9,(.rp [(aA r6)] 0)),(10,(.rp [(aA (bC (fun x=>decide (r6=x)) (aK (aB sk) 0)))] 0)),(53,(.fn 182 [] [(.rp [(aG ((aN dl (aB dc)).filter fun n => !(n == num)))] 0)]))],[some (.box 4 [(.kb true)]),some (.box 34 [(pI 0)])]⟩
theorem bTc{num:Int}(h0:cN dl sk dc)(h1:cA (aB dc))(h2:(aN dl (aB dc)).length≤1000)(h3:((aN dl (aB dc)).contains num)=false){base:Nat}:FV Tp 58 [(.p (.agg (dH dl sk dc))),(pI num)] base (.tup [(pB false),(pI 1)]) []:=by
 exact FV.fin Tryz.func58 rfl (o:=[.c (.tup [(.rp (aH dl (aB sk) (aB dc)) 0),(pI 0)]) [],bF,.g 1 ⟨[],[0,2,3],[4,1],[]⟩,.x (PV.rp (aH dl (aB sk) (aB dc)) 0),.c (.own 3) [(3,(.row 3 ((aN dl (aB dc)).length) ((aN dl (aB dc)).map aA)))],.x (aA num),.c (pB ((aN dl (aB dc)).contains num)) [],bT]) (l:=[_,FC Tp 52 [(.own 3),(pI num)] [(3,(.row 3 ((aN dl (aB dc)).length) ((aN dl (aB dc)).map aA)))] 4 (pB ((aN dl (aB dc)).contains num)) [],[(aA num)][0]? = some (aA num),_,[(PV.rp (aH dl (aB sk) (aB dc)) 0)][0]? = some (PV.rp (aH dl (aB sk) (aB dc)) 0),_,_]) (by kernel_rfl) (gc (cU h3) (gc (fv (pA (aN dl (aB dc)) num h2)) (gc rfl (gc (fk 3 (qR (dl:=dl) (sk:=(aB sk)) (dc:=(aB dc)) h1) rfl) (gc rfl (gc aCm (gc (fk 4 (kQ dl sk dc h0) rfl) gn)))))))
theorem bTd{num:Int}(h0:cN dl sk dc)(h1:cA (aB dc))(h2:(aN dl (aB dc)).length≤1000)(h3:((aN dl (aB dc)).contains num)=true)(h4:(8:Int)<(((aN dl (aB dc)).length:Nat):Int)){base:Nat}:FV Tp 58 [(.p (.agg (dH dl sk dc))),(pI num)] base (.tup [(pB false),(pI 10)]) []:=by
 exact FV.fin Tryz.func58 rfl (o:=[.c (.tup [(.rp (aH dl (aB sk) (aB dc)) 0),(pI 0)]) [],bF,.g 1 ⟨[],[0,2,3],[4,1],[]⟩,.x (PV.rp (aH dl (aB sk) (aB dc)) 0),.c (.own 3) [(3,(.row 3 ((aN dl (aB dc)).length) ((aN dl (aB dc)).map aA)))],.x (aA num),.c (pB ((aN dl (aB dc)).contains num)) [],bF,bT]) (l:=[_,_,FC Tp 52 [(.own 3),(pI num)] [(3,(.row 3 ((aN dl (aB dc)).length) ((aN dl (aB dc)).map aA)))] 4 (pB ((aN dl (aB dc)).contains num)) [],[(aA num)][0]? = some (aA num),_,[(PV.rp (aH dl (aB sk) (aB dc)) 0)][0]? = some (PV.rp (aH dl (aB sk) (aB dc)) 0),_,_]) (by kernel_rfl) (gc (bB h4) (gc (aW h3) (gc (fv (pA (aN dl (aB dc)) num h2)) (gc rfl (gc (fk 3 (qR (dl:=dl) (sk:=(aB sk)) (dc:=(aB dc)) h1) rfl) (gc rfl (gc aCm (gc (fk 4 (kQ dl sk dc h0) rfl) gn))))))))
theorem bTe{num y0 y1 y2 y3 y4 y5 r6:Int}(h0:cN dl sk dc)(h1:cA (aB dc))(h2:(aN dl (aB dc)).length≤1000)(h3:((aN dl (aB dc)).contains num)=true)(h4:(((aN dl (aB dc)).length:Nat):Int)≤8)(h5:cI .i64 (atF (aB dc).reverse) (.int .i64 num))(h6:(dR (atF (aB dc).reverse) (.int .i64 num))=true)(h7:fN (atF (aB dc).reverse) (.int .i64 num)=some (dcE y0 y1 y2 y3 y4 y5))(h8:bEx dl (aB sk) (aB dc) [y0,y1,y2,y3,y4,y5] r6)(h9:uni 2 (aB sk)∧(aB sk).length≤1000)(h10:(aK (aB sk) 0).length≤1000)(h11:(bC (fun x=>decide (r6=x)) (aK (aB sk) 0))<0){base:Nat}:FV Tp 58 [(.p (.agg (dH dl sk dc))),(pI num)] base (.tup [(pB false),(pI 0)]) []:=by
 exact FV.fin Tryz.func58 rfl (o:=[.c (.tup [(.rp (aH dl (aB sk) (aB dc)) 0),(pI 0)]) [],bF,.g 1 ⟨[],[0,2,3],[4,1],[]⟩,.x (PV.rp (aH dl (aB sk) (aB dc)) 0),.c (.own 3) [(3,(.row 3 ((aN dl (aB dc)).length) ((aN dl (aB dc)).map aA)))],.x (aA num),.c (pB ((aN dl (aB dc)).contains num)) [],bF,bF,.x (PV.rp (aH dl (aB sk) (aB dc)) 0),.x (PV.rp (aH dl (aB sk) (aB dc)) 0),.x (.mp (atF (aB dc).reverse)),.x (aA num),bT,.x (dcE y0 y1 y2 y3 y4 y5),.c (pI r6) [],.x (PV.rp (aH dl (aB sk) (aB dc)) 0),.x (.agg (dH dl (aB sk) (aB dc))),.c (.own 13) [(13,(.row 3 ((aK (aB sk) 0).length) ((aK (aB sk) 0).map aA)))],.c (pI (bC (fun x=>decide (r6=x)) (aK (aB sk) 0))) [],.g 2 ⟨[],[0,1,2,3,13],[12,29],[]⟩,.x (aA (bC (fun x=>decide (r6=x)) (aK (aB sk) 0))),bT]) (l:=[_,[(aA (bC (fun x=>decide (r6=x)) (aK (aB sk) 0)))][0]? = some (aA (bC (fun x=>decide (r6=x)) (aK (aB sk) 0))),FC Tp 126 [(.own 13),(pI r6)] [(13,(.row 3 ((aK (aB sk) 0).length) ((aK (aB sk) 0).map aA)))] 21 (pI (bC (fun x=>decide (r6=x)) (aK (aB sk) 0))) [],_,some (.agg (((aH dl (aB sk) (aB dc)).drop 0).take 3):PV)=some (.agg (dH dl (aB sk) (aB dc))),0+3≤(aH dl (aB sk) (aB dc)).length,[(PV.rp (aH dl (aB sk) (aB dc)) 0)][0]? = some (PV.rp (aH dl (aB sk) (aB dc)) 0),FC Tp 128 [(.rp (aH dl (aB sk) (aB dc)) 0),(.p (dcE y0 y1 y2 y3 y4 y5))] [] 4 (pI r6) [],_,_,_,[(aA num)][0]? = some (aA num),(aH dl (aB sk) (aB dc))[3]? = some (.mp (atF (aB dc).reverse)),[(PV.rp (aH dl (aB sk) (aB dc)) 0)][0]? = some (PV.rp (aH dl (aB sk) (aB dc)) 0),[(PV.rp (aH dl (aB sk) (aB dc)) 0)][0]? = some (PV.rp (aH dl (aB sk) (aB dc)) 0),_,_,FC Tp 52 [(.own 3),(pI num)] [(3,(.row 3 ((aN dl (aB dc)).length) ((aN dl (aB dc)).map aA)))] 4 (pB ((aN dl (aB dc)).contains num)) [],[(aA num)][0]? = some (aA num),_,[(PV.rp (aH dl (aB sk) (aB dc)) 0)][0]? = some (PV.rp (aH dl (aB sk) (aB dc)) 0),_,_]) (by kernel_rfl) (gc (bB h11) (gc rfl (gc (fv (aBo (aK (aB sk) 0) r6 h10)) (gc (fk 13 (nC dl (aB sk) (aB dc) h9) rfl) (gc rfl (gc (by first | decide | simp) (gc rfl (gc (FV.fc (h8 _) rfl) (gc h7 (gc h6 (gc h5 (gc rfl (gc rfl (gc rfl (gc rfl (gc (bO h4) (gc (aW h3) (gc (fv (pA (aN dl (aB dc)) num h2)) (gc rfl (gc (fk 3 (qR (dl:=dl) (sk:=(aB sk)) (dc:=(aB dc)) h1) rfl) (gc rfl (gc aCm (gc (fk 4 (kQ dl sk dc h0) rfl) gn)))))))))))))))))))))))
theorem bTf{num y0 y1 y2 y3 y4 y5 r6:Int}(h0:cN dl sk dc)(h1:cA (aB dc))(h2:(aN dl (aB dc)).length≤1000)(h3:((aN dl (aB dc)).contains num)=true)(h4:(((aN dl (aB dc)).length:Nat):Int)≤8)(h5:cI .i64 (atF (aB dc).reverse) (.int .i64 num))(h6:(dR (atF (aB dc).reverse) (.int .i64 num))=true)(h7:fN (atF (aB dc).reverse) (.int .i64 num)=some (dcE y0 y1 y2 y3 y4 y5))(h8:bEx dl (aB sk) (aB dc) [y0,y1,y2,y3,y4,y5] r6)(h9:uni 2 (aB sk)∧(aB sk).length≤1000)(h10:(aK (aB sk) 0).length≤1000)(h11:(0:Int)≤(bC (fun x=>decide (r6=x)) (aK (aB sk) 0)))(hl12:aC Tp 0 aIe (tV dl sk dc num r6) .normal (mD dl sk dc num r6 )){base:Nat}:FV Tp 58 [(.p (.agg (dH dl sk dc))),(pI num)] base (.tup [(pB false),(pI 0)]) []:=by
 exact FV.fin Tryz.func58 rfl (o:=[.c (.tup [(.rp (aH dl (aB sk) (aB dc)) 0),(pI 0)]) [],bF,.g 1 ⟨[],[0,2,3],[4,1],[]⟩,.x (PV.rp (aH dl (aB sk) (aB dc)) 0),.c (.own 3) [(3,(.row 3 ((aN dl (aB dc)).length) ((aN dl (aB dc)).map aA)))],.x (aA num),.c (pB ((aN dl (aB dc)).contains num)) [],bF,bF,.x (PV.rp (aH dl (aB sk) (aB dc)) 0),.x (PV.rp (aH dl (aB sk) (aB dc)) 0),.x (.mp (atF (aB dc).reverse)),.x (aA num),bT,.x (dcE y0 y1 y2 y3 y4 y5),.c (pI r6) [],.x (PV.rp (aH dl (aB sk) (aB dc)) 0),.x (.agg (dH dl (aB sk) (aB dc))),.c (.own 13) [(13,(.row 3 ((aK (aB sk) 0).length) ((aK (aB sk) 0).map aA)))],.c (pI (bC (fun x=>decide (r6=x)) (aK (aB sk) 0))) [],.g 2 ⟨[],[0,1,2,3,13],[12,29],[]⟩,.x (aA (bC (fun x=>decide (r6=x)) (aK (aB sk) 0))),bF,.c (.p (aG ((aN dl (aB dc)).filter fun n => !(n == num)))) [(3,.dead)],.c (.fn 182 [] [(.rp [(aG ((aN dl (aB dc)).filter fun n => !(n == num)))] 0)]) [],.k 1 ⟨(rng [(0,3),(7,2),(11,42),(54,48)]),[1,2],[],[]⟩ .normal (mD dl sk dc num r6 )]) (l:=[aC Tp 0 aIe (tV dl sk dc num r6) .normal (mD dl sk dc num r6 ),FC Tp 132 [(.p (aG ((aN dl (aB dc)).filter fun n => !(n == num))))] [] 5 (.fn 182 [] [(.rp [(aG ((aN dl (aB dc)).filter fun n => !(n == num)))] 0)]) [],FC Tp 54 [(.own 3),(.fn 133 [] [(.rp [(aA num)] 0)])] [(3,(.row 3 ((aN dl (aB dc)).length) ((aN dl (aB dc)).map aA)))] 5 (.p (aG ((aN dl (aB dc)).filter fun n => !(n == num)))) [(3,.dead)],_,[(aA (bC (fun x=>decide (r6=x)) (aK (aB sk) 0)))][0]? = some (aA (bC (fun x=>decide (r6=x)) (aK (aB sk) 0))),FC Tp 126 [(.own 13),(pI r6)] [(13,(.row 3 ((aK (aB sk) 0).length) ((aK (aB sk) 0).map aA)))] 21 (pI (bC (fun x=>decide (r6=x)) (aK (aB sk) 0))) [],_,some (.agg (((aH dl (aB sk) (aB dc)).drop 0).take 3):PV)=some (.agg (dH dl (aB sk) (aB dc))),0+3≤(aH dl (aB sk) (aB dc)).length,[(PV.rp (aH dl (aB sk) (aB dc)) 0)][0]? = some (PV.rp (aH dl (aB sk) (aB dc)) 0),FC Tp 128 [(.rp (aH dl (aB sk) (aB dc)) 0),(.p (dcE y0 y1 y2 y3 y4 y5))] [] 4 (pI r6) [],_,_,_,[(aA num)][0]? = some (aA num),(aH dl (aB sk) (aB dc))[3]? = some (.mp (atF (aB dc).reverse)),[(PV.rp (aH dl (aB sk) (aB dc)) 0)][0]? = some (PV.rp (aH dl (aB sk) (aB dc)) 0),[(PV.rp (aH dl (aB sk) (aB dc)) 0)][0]? = some (PV.rp (aH dl (aB sk) (aB dc)) 0),_,_,FC Tp 52 [(.own 3),(pI num)] [(3,(.row 3 ((aN dl (aB dc)).length) ((aN dl (aB dc)).map aA)))] 4 (pB ((aN dl (aB dc)).contains num)) [],[(aA num)][0]? = some (aA num),_,[(PV.rp (aH dl (aB sk) (aB dc)) 0)][0]? = some (PV.rp (aH dl (aB sk) (aB dc)) 0),_,_]) (by kernel_rfl) (gc hl12 (gc (FV.fc (aPr (q:=((aN dl (aB dc)).filter fun n => !(n == num)))) rfl) (gc (FMM.fc (ids:=[3]) (bEv (l:=(aN dl (aB dc))) (m:=num) h2 (fun _ _=>rfl)) (by kernel_rfl)) (gc (bO h11) (gc rfl (gc (fv (aBo (aK (aB sk) 0) r6 h10)) (gc (fk 13 (nC dl (aB sk) (aB dc) h9) rfl) (gc rfl (gc (by first | decide | simp) (gc rfl (gc (FV.fc (h8 _) rfl) (gc h7 (gc h6 (gc h5 (gc rfl (gc rfl (gc rfl (gc rfl (gc (bO h4) (gc (aW h3) (gc (fv (pA (aN dl (aB dc)) num h2)) (gc rfl (gc (fk 3 (qR (dl:=dl) (sk:=(aB sk)) (dc:=(aB dc)) h1) rfl) (gc rfl (gc aCm (gc (fk 4 (kQ dl sk dc h0) rfl) gn))))))))))))))))))))))))))
theorem bTg{num y0 y1 y2 y3 y4 y5 r6:Int}(h0:cN dl sk dc)(h1:cA (aB dc))(h2:(aN dl (aB dc)).length≤1000)(h3:((aN dl (aB dc)).contains num)=true)(h4:(((aN dl (aB dc)).length:Nat):Int)≤8)(h5:cI .i64 (atF (aB dc).reverse) (.int .i64 num))(h6:(dR (atF (aB dc).reverse) (.int .i64 num))=true)(h7:fN (atF (aB dc).reverse) (.int .i64 num)=some (dcE y0 y1 y2 y3 y4 y5))(h8:bEx dl (aB sk) (aB dc) [y0,y1,y2,y3,y4,y5] r6)(h9:uni 2 (aB sk)∧(aB sk).length≤1000)(h10:(aK (aB sk) 0).length≤1000)(h11:(0:Int)≤(bC (fun x=>decide (r6=x)) (aK (aB sk) 0)))(hl12:aC Tp 0 aIe (tV dl sk dc num r6) .ret (aCn dl sk dc num r6)){base:Nat}:FV Tp 58 [(.p (.agg (dH dl sk dc))),(pI num)] base (.tup [(pB true),(pI 0)]) []:=by
 exact FV.fin Tryz.func58 rfl (o:=[.c (.tup [(.rp (aH dl (aB sk) (aB dc)) 0),(pI 0)]) [],bF,.g 1 ⟨[],[0,2,3],[4,1],[]⟩,.x (PV.rp (aH dl (aB sk) (aB dc)) 0),.c (.own 3) [(3,(.row 3 ((aN dl (aB dc)).length) ((aN dl (aB dc)).map aA)))],.x (aA num),.c (pB ((aN dl (aB dc)).contains num)) [],bF,bF,.x (PV.rp (aH dl (aB sk) (aB dc)) 0),.x (PV.rp (aH dl (aB sk) (aB dc)) 0),.x (.mp (atF (aB dc).reverse)),.x (aA num),bT,.x (dcE y0 y1 y2 y3 y4 y5),.c (pI r6) [],.x (PV.rp (aH dl (aB sk) (aB dc)) 0),.x (.agg (dH dl (aB sk) (aB dc))),.c (.own 13) [(13,(.row 3 ((aK (aB sk) 0).length) ((aK (aB sk) 0).map aA)))],.c (pI (bC (fun x=>decide (r6=x)) (aK (aB sk) 0))) [],.g 2 ⟨[],[0,1,2,3,13],[12,29],[]⟩,.x (aA (bC (fun x=>decide (r6=x)) (aK (aB sk) 0))),bF,.c (.p (aG ((aN dl (aB dc)).filter fun n => !(n == num)))) [(3,.dead)],.c (.fn 182 [] [(.rp [(aG ((aN dl (aB dc)).filter fun n => !(n == num)))] 0)]) [],.k 1 ⟨(rng [(0,3),(7,2),(11,42),(54,48)]),[1,2],[],[]⟩ .ret (aCn dl sk dc num r6)]) (l:=[aC Tp 0 aIe (tV dl sk dc num r6) .ret (aCn dl sk dc num r6),FC Tp 132 [(.p (aG ((aN dl (aB dc)).filter fun n => !(n == num))))] [] 5 (.fn 182 [] [(.rp [(aG ((aN dl (aB dc)).filter fun n => !(n == num)))] 0)]) [],FC Tp 54 [(.own 3),(.fn 133 [] [(.rp [(aA num)] 0)])] [(3,(.row 3 ((aN dl (aB dc)).length) ((aN dl (aB dc)).map aA)))] 5 (.p (aG ((aN dl (aB dc)).filter fun n => !(n == num)))) [(3,.dead)],_,[(aA (bC (fun x=>decide (r6=x)) (aK (aB sk) 0)))][0]? = some (aA (bC (fun x=>decide (r6=x)) (aK (aB sk) 0))),FC Tp 126 [(.own 13),(pI r6)] [(13,(.row 3 ((aK (aB sk) 0).length) ((aK (aB sk) 0).map aA)))] 21 (pI (bC (fun x=>decide (r6=x)) (aK (aB sk) 0))) [],_,some (.agg (((aH dl (aB sk) (aB dc)).drop 0).take 3):PV)=some (.agg (dH dl (aB sk) (aB dc))),0+3≤(aH dl (aB sk) (aB dc)).length,[(PV.rp (aH dl (aB sk) (aB dc)) 0)][0]? = some (PV.rp (aH dl (aB sk) (aB dc)) 0),FC Tp 128 [(.rp (aH dl (aB sk) (aB dc)) 0),(.p (dcE y0 y1 y2 y3 y4 y5))] [] 4 (pI r6) [],_,_,_,[(aA num)][0]? = some (aA num),(aH dl (aB sk) (aB dc))[3]? = some (.mp (atF (aB dc).reverse)),[(PV.rp (aH dl (aB sk) (aB dc)) 0)][0]? = some (PV.rp (aH dl (aB sk) (aB dc)) 0),[(PV.rp (aH dl (aB sk) (aB dc)) 0)][0]? = some (PV.rp (aH dl (aB sk) (aB dc)) 0),_,_,FC Tp 52 [(.own 3),(pI num)] [(3,(.row 3 ((aN dl (aB dc)).length) ((aN dl (aB dc)).map aA)))] 4 (pB ((aN dl (aB dc)).contains num)) [],[(aA num)][0]? = some (aA num),_,[(PV.rp (aH dl (aB sk) (aB dc)) 0)][0]? = some (PV.rp (aH dl (aB sk) (aB dc)) 0),_,_]) (by kernel_rfl) (gc hl12 (gc (FV.fc (aPr (q:=((aN dl (aB dc)).filter fun n => !(n == num)))) rfl) (gc (FMM.fc (ids:=[3]) (bEv (l:=(aN dl (aB dc))) (m:=num) h2 (fun _ _=>rfl)) (by kernel_rfl)) (gc (bO h11) (gc rfl (gc (fv (aBo (aK (aB sk) 0) r6 h10)) (gc (fk 13 (nC dl (aB sk) (aB dc) h9) rfl) (gc rfl (gc (by first | decide | simp) (gc rfl (gc (FV.fc (h8 _) rfl) (gc h7 (gc h6 (gc h5 (gc rfl (gc rfl (gc rfl (gc rfl (gc (bO h4) (gc (aW h3) (gc (fv (pA (aN dl (aB dc)) num h2)) (gc rfl (gc (fk 3 (qR (dl:=dl) (sk:=(aB sk)) (dc:=(aB dc)) h1) rfl) (gc rfl (gc aCm (gc (fk 4 (kQ dl sk dc h0) rfl) gn))))))))))))))))))))))))))
def iA(dl:Int)(sk:Lqq)(dc:Lqq)(num:Int)(r6:Int)(x:List Int)  : St:=⟨fr 102 [(3,(.rp [(aA num)] 0)),(4,(.ptr 0 0)),(5,(.ptr 1 0)),(6,(.rp [(PV.rp (aH dl (aB sk) (aB dc)) 0)] 0)),(9,(.rp [(aA r6)] 0)),(10,(.rp [(aA (bC (fun x=>decide (r6=x)) (aK (aB sk) 0)))] 0)),(11,(.own 2)),(53,(.fn 182 [] [(.rp [(aG ((aN dl (aB dc)).filter fun n => !(n == num)))] 0)])),(54,(.own 2))],[some (.box 4 [(pB false)]),some (.box 34 [(pI 0)]),some (.row 3 x.length (x.map aA))]⟩
def aIf(dl:Int)(sk:Lqq)(dc:Lqq)(num:Int)(r6:Int)  : St:=⟨fr 102 [],[some (.box 4 [(.kb true)]),some (.box 34 [(pI 0)]),some .dead]⟩
theorem bAq{num r6:Int}{x:List Int}{y100 y101 n102:Int}{b103:Bool}{T104:Lqb}(hl0:aC Tp 3 xM (iA dl sk dc num r6 x ) .normal (cE (iA dl sk dc num r6 x ) [(12,(pI ((fK dl sk dc r6 x).1))),(13,(pB ((fK dl sk dc r6 x).2)))]))(h1:(aB sk)[(bC (fun x=>decide (r6=x)) (aK (aB sk) 0)).toNat]? = some [y100,y101])(h2:0≤(bC (fun x=>decide (r6=x)) (aK (aB sk) 0)))(h3:uni 2 (aB sk))(h4:[(aA num)].length=1*1∧x.length+1≤1000000)(h5:aDe dl (aB sk) (aB dc) (.sl (x.length+1) ((x.map aA)++[(aA num)])) [y100,y101] n102 b103 ([]:Lqb) T104)(h6:cX [(aA r6),(aA 0),(aA ((fK dl sk dc r6 x).1))] [(0,3,true),(1,3,true),(2,3,true)]=true∧cX [(aA r6),(aA 0),(aA n102)] [(0,3,true),(1,3,true),(2,3,true)]=true)(h7:(jN [(aA r6),(aA 0),(aA ((fK dl sk dc r6 x).1))] [(aA r6),(aA 0),(aA n102)] [(0,3,true),(1,3,true),(2,3,true)])=false):aC Tp 3 aQt (rfO (mD dl sk dc num r6 ) 54 11 x) .ret (aIf dl sk dc num r6 ):=by
 exact aC.fin (g:=⟨(rng [(0,102)]),[],[],[]⟩) (o:=[.k 2 ⟨(rng [(0,3),(7,2),(12,2),(16,37),(55,16)]),[],[],[]⟩ .normal (cE (iA dl sk dc num r6 x ) [(12,(pI ((fK dl sk dc r6 x).1))),(13,(pB ((fK dl sk dc r6 x).2)))]),.x (PV.rp (aH dl (aB sk) (aB dc)) 0),.x (PV.rp (aH dl (aB sk) (aB dc)) 0),.x (.sl ((aB sk).length) ((aB sk).flatten.map aA)),.x (aA (bC (fun x=>decide (r6=x)) (aK (aB sk) 0))),.x (.agg [(aA y100),(aA y101)]),.x (PV.rp (aH dl (aB sk) (aB dc)) 0),.x (aA num),.c (.agg (kVL 9 10 5 7 11 6)) [(4,.dead),(5,(vB0 dl (aB sk) (aB dc))),(6,(.box 33 [(.p (.sl (x.length+1) ((x.map aA)++[(aA num)])))])),(7,(.box 139 (kVL 9 10 5 7 11 6))),(8,(.mp (aF ([]:Lqb)) 0)),(9,(.box 207 [(.mp 8)])),(10,(vB5 dl (aB sk) (aB dc))),(11,(.box 209 [(.fn 153 [] [(.ptr 5 0),(.ptr 7 0)])]))],.c (.tup [(pI n102),(pB b103)]) [(5,(vB0 dl (aB sk) (aB dc))),(6,(.box 33 [(.p (.sl (x.length+1) ((x.map aA)++[(aA num)])))])),(7,(.box 139 (kVL 9 10 5 7 11 6))),(8,(.mp (aF T104) T104.length)),(9,(.box 207 [(.mp 8)])),(10,(vB5 dl (aB sk) (aB dc))),(11,(.box 209 [(.fn 153 [] [(.ptr 5 0),(.ptr 7 0)])]))],.x (aA r6),.x (aA r6),bT,bT,bT,bT]) (l:=[_,_,_,_,_,[(aA r6)][0]? = some (aA r6),[(aA r6)][0]? = some (aA r6),FC Tp 134 [(.rp (aH dl (aB sk) (aB dc)) 0),(.p (.agg [(aA y100),(aA y101)])),(.agg (kVL 9 10 5 7 11 6))] [(9,(.box 207 [(.mp 8)])),(10,(vB5 dl (aB sk) (aB dc))),(5,(vB0 dl (aB sk) (aB dc))),(7,(.box 139 (kVL 9 10 5 7 11 6))),(11,(.box 209 [(.fn 153 [] [(.ptr 5 0),(.ptr 7 0)])])),(6,(.box 33 [(.p (.sl (x.length+1) ((x.map aA)++[(aA num)])))])),(8,(.mp (aF ([]:Lqb)) 0))] 13 (.tup [(pI n102),(pB b103)]) [(5,(vB0 dl (aB sk) (aB dc))),(6,(.box 33 [(.p (.sl (x.length+1) ((x.map aA)++[(aA num)])))])),(7,(.box 139 (kVL 9 10 5 7 11 6))),(8,(.mp (aF T104) T104.length)),(9,(.box 207 [(.mp 8)])),(10,(vB5 dl (aB sk) (aB dc))),(11,(.box 209 [(.fn 153 [] [(.ptr 5 0),(.ptr 7 0)])]))],FC Tp 87 [(.rp (aH dl (aB sk) (aB dc)) 0),(.own 4)] [(4,(.row 3 (x.length+1) ((x.map aA)++[(aA num)])))] 5 (.agg (kVL 9 10 5 7 11 6)) [(4,.dead),(5,(vB0 dl (aB sk) (aB dc))),(6,(.box 33 [(.p (.sl (x.length+1) ((x.map aA)++[(aA num)])))])),(7,(.box 139 (kVL 9 10 5 7 11 6))),(8,(.mp (aF ([]:Lqb)) 0)),(9,(.box 207 [(.mp 8)])),(10,(vB5 dl (aB sk) (aB dc))),(11,(.box 209 [(.fn 153 [] [(.ptr 5 0),(.ptr 7 0)])]))],_,[(aA num)][0]? = some (aA num),[(PV.rp (aH dl (aB sk) (aB dc)) 0)][0]? = some (PV.rp (aH dl (aB sk) (aB dc)) 0),_,_,0≤(bC (fun x=>decide (r6=x)) (aK (aB sk) 0))∧(bC (fun x=>decide (r6=x)) (aK (aB sk) 0))<(((aB sk).length:Nat):Int)∧((bC (fun x=>decide (r6=x)) (aK (aB sk) 0)).toNat*2)<((aB sk).flatten.map aA).length,[(aA (bC (fun x=>decide (r6=x)) (aK (aB sk) 0)))][0]? = some (aA (bC (fun x=>decide (r6=x)) (aK (aB sk) 0))),(aH dl (aB sk) (aB dc))[1]? = some (.sl ((aB sk).length) ((aB sk).flatten.map aA)),[(PV.rp (aH dl (aB sk) (aB dc)) 0)][0]? = some (PV.rp (aH dl (aB sk) (aB dc)) 0),[(PV.rp (aH dl (aB sk) (aB dc)) 0)][0]? = some (PV.rp (aH dl (aB sk) (aB dc)) 0),aC Tp 3 xM (iA dl sk dc num r6 x ) .normal (cE (iA dl sk dc num r6 x ) [(12,(pI ((fK dl sk dc r6 x).1))),(13,(pB ((fK dl sk dc r6 x).2)))])]) (by kernel_rfl) (g4c (cU h7) (gc h6 (gc rfl (gc rfl (gc (FMM.fc (ids:=[5,6,7,8,9,10,11]) h5 (by kernel_rfl)) (gc (FC.close1 (args':=[(.rp (aH dl (aB sk) (aB dc)) 0),(.p (.sl (x.length+1) ((x.map aA)++[(aA num)])))]) (FMM.fcN (k:=7) rfl (ids:=[]) (pF (dl:=dl) (sk:=(aB sk)) (dc:=(aB dc)) (on:=(x.length+1)) (ol:=((x.map aA)++[(aA num)]))) (by kernel_rfl)) (by kernel_rfl)) (gc h4 (gc rfl (gc rfl (gc (aU (i:=(bC (fun x=>decide (r6=x)) (aK (aB sk) 0)).toNat) h3 h1) (gc (bD (i:=(bC (fun x=>decide (r6=x)) (aK (aB sk) 0)).toNat) h3 h1) (gc (bS (k:=2) (i:=(bC (fun x=>decide (r6=x)) (aK (aB sk) 0))) (by decide) h3 h2 h1) (gc rfl (gc rfl (gc rfl (gc rfl (gc hl0 gn)))))))))))))))))
theorem bAr{num r6:Int}{x:List Int}{y100 y101 n102:Int}{b103:Bool}{T104:Lqb}(hl0:aC Tp 3 xM (iA dl sk dc num r6 x ) .normal (cE (iA dl sk dc num r6 x ) [(12,(pI ((fK dl sk dc r6 x).1))),(13,(pB ((fK dl sk dc r6 x).2)))]))(h1:(aB sk)[(bC (fun x=>decide (r6=x)) (aK (aB sk) 0)).toNat]? = some [y100,y101])(h2:0≤(bC (fun x=>decide (r6=x)) (aK (aB sk) 0)))(h3:uni 2 (aB sk))(h4:[(aA num)].length=1*1∧x.length+1≤1000000)(h5:aDe dl (aB sk) (aB dc) (.sl (x.length+1) ((x.map aA)++[(aA num)])) [y100,y101] n102 b103 ([]:Lqb) T104)(h6:cX [(aA r6),(aA 0),(aA ((fK dl sk dc r6 x).1))] [(0,3,true),(1,3,true),(2,3,true)]=true∧cX [(aA r6),(aA 0),(aA n102)] [(0,3,true),(1,3,true),(2,3,true)]=true)(h7:(jN [(aA r6),(aA 0),(aA ((fK dl sk dc r6 x).1))] [(aA r6),(aA 0),(aA n102)] [(0,3,true),(1,3,true),(2,3,true)])=true)(h8:(((fK dl sk dc r6 x).2) == b103)=false):aC Tp 3 aQt (rfO (mD dl sk dc num r6 ) 54 11 x) .ret (aIf dl sk dc num r6 ):=by
 exact aC.fin (g:=⟨(rng [(0,102)]),[],[],[]⟩) (o:=[.k 2 ⟨(rng [(0,3),(7,2),(12,2),(16,37),(55,16)]),[],[],[]⟩ .normal (cE (iA dl sk dc num r6 x ) [(12,(pI ((fK dl sk dc r6 x).1))),(13,(pB ((fK dl sk dc r6 x).2)))]),.x (PV.rp (aH dl (aB sk) (aB dc)) 0),.x (PV.rp (aH dl (aB sk) (aB dc)) 0),.x (.sl ((aB sk).length) ((aB sk).flatten.map aA)),.x (aA (bC (fun x=>decide (r6=x)) (aK (aB sk) 0))),.x (.agg [(aA y100),(aA y101)]),.x (PV.rp (aH dl (aB sk) (aB dc)) 0),.x (aA num),.c (.agg (kVL 9 10 5 7 11 6)) [(4,.dead),(5,(vB0 dl (aB sk) (aB dc))),(6,(.box 33 [(.p (.sl (x.length+1) ((x.map aA)++[(aA num)])))])),(7,(.box 139 (kVL 9 10 5 7 11 6))),(8,(.mp (aF ([]:Lqb)) 0)),(9,(.box 207 [(.mp 8)])),(10,(vB5 dl (aB sk) (aB dc))),(11,(.box 209 [(.fn 153 [] [(.ptr 5 0),(.ptr 7 0)])]))],.c (.tup [(pI n102),(pB b103)]) [(5,(vB0 dl (aB sk) (aB dc))),(6,(.box 33 [(.p (.sl (x.length+1) ((x.map aA)++[(aA num)])))])),(7,(.box 139 (kVL 9 10 5 7 11 6))),(8,(.mp (aF T104) T104.length)),(9,(.box 207 [(.mp 8)])),(10,(vB5 dl (aB sk) (aB dc))),(11,(.box 209 [(.fn 153 [] [(.ptr 5 0),(.ptr 7 0)])]))],.x (aA r6),.x (aA r6),bF,bF,bF,bF,bT]) (l:=[_,_,_,_,_,_,[(aA r6)][0]? = some (aA r6),[(aA r6)][0]? = some (aA r6),FC Tp 134 [(.rp (aH dl (aB sk) (aB dc)) 0),(.p (.agg [(aA y100),(aA y101)])),(.agg (kVL 9 10 5 7 11 6))] [(9,(.box 207 [(.mp 8)])),(10,(vB5 dl (aB sk) (aB dc))),(5,(vB0 dl (aB sk) (aB dc))),(7,(.box 139 (kVL 9 10 5 7 11 6))),(11,(.box 209 [(.fn 153 [] [(.ptr 5 0),(.ptr 7 0)])])),(6,(.box 33 [(.p (.sl (x.length+1) ((x.map aA)++[(aA num)])))])),(8,(.mp (aF ([]:Lqb)) 0))] 13 (.tup [(pI n102),(pB b103)]) [(5,(vB0 dl (aB sk) (aB dc))),(6,(.box 33 [(.p (.sl (x.length+1) ((x.map aA)++[(aA num)])))])),(7,(.box 139 (kVL 9 10 5 7 11 6))),(8,(.mp (aF T104) T104.length)),(9,(.box 207 [(.mp 8)])),(10,(vB5 dl (aB sk) (aB dc))),(11,(.box 209 [(.fn 153 [] [(.ptr 5 0),(.ptr 7 0)])]))],FC Tp 87 [(.rp (aH dl (aB sk) (aB dc)) 0),(.own 4)] [(4,(.row 3 (x.length+1) ((x.map aA)++[(aA num)])))] 5 (.agg (kVL 9 10 5 7 11 6)) [(4,.dead),(5,(vB0 dl (aB sk) (aB dc))),(6,(.box 33 [(.p (.sl (x.length+1) ((x.map aA)++[(aA num)])))])),(7,(.box 139 (kVL 9 10 5 7 11 6))),(8,(.mp (aF ([]:Lqb)) 0)),(9,(.box 207 [(.mp 8)])),(10,(vB5 dl (aB sk) (aB dc))),(11,(.box 209 [(.fn 153 [] [(.ptr 5 0),(.ptr 7 0)])]))],_,[(aA num)][0]? = some (aA num),[(PV.rp (aH dl (aB sk) (aB dc)) 0)][0]? = some (PV.rp (aH dl (aB sk) (aB dc)) 0),_,_,0≤(bC (fun x=>decide (r6=x)) (aK (aB sk) 0))∧(bC (fun x=>decide (r6=x)) (aK (aB sk) 0))<(((aB sk).length:Nat):Int)∧((bC (fun x=>decide (r6=x)) (aK (aB sk) 0)).toNat*2)<((aB sk).flatten.map aA).length,[(aA (bC (fun x=>decide (r6=x)) (aK (aB sk) 0)))][0]? = some (aA (bC (fun x=>decide (r6=x)) (aK (aB sk) 0))),(aH dl (aB sk) (aB dc))[1]? = some (.sl ((aB sk).length) ((aB sk).flatten.map aA)),[(PV.rp (aH dl (aB sk) (aB dc)) 0)][0]? = some (PV.rp (aH dl (aB sk) (aB dc)) 0),[(PV.rp (aH dl (aB sk) (aB dc)) 0)][0]? = some (PV.rp (aH dl (aB sk) (aB dc)) 0),aC Tp 3 xM (iA dl sk dc num r6 x ) .normal (cE (iA dl sk dc num r6 x ) [(12,(pI ((fK dl sk dc r6 x).1))),(13,(pB ((fK dl sk dc r6 x).2)))])]) (by kernel_rfl) (gc (cU h8) (g4c (aW h7) (gc h6 (gc rfl (gc rfl (gc (FMM.fc (ids:=[5,6,7,8,9,10,11]) h5 (by kernel_rfl)) (gc (FC.close1 (args':=[(.rp (aH dl (aB sk) (aB dc)) 0),(.p (.sl (x.length+1) ((x.map aA)++[(aA num)])))]) (FMM.fcN (k:=7) rfl (ids:=[]) (pF (dl:=dl) (sk:=(aB sk)) (dc:=(aB dc)) (on:=(x.length+1)) (ol:=((x.map aA)++[(aA num)]))) (by kernel_rfl)) (by kernel_rfl)) (gc h4 (gc rfl (gc rfl (gc (aU (i:=(bC (fun x=>decide (r6=x)) (aK (aB sk) 0)).toNat) h3 h1) (gc (bD (i:=(bC (fun x=>decide (r6=x)) (aK (aB sk) 0)).toNat) h3 h1) (gc (bS (k:=2) (i:=(bC (fun x=>decide (r6=x)) (aK (aB sk) 0))) (by decide) h3 h2 h1) (gc rfl (gc rfl (gc rfl (gc rfl (gc hl0 gn))))))))))))))))))
def aQu(dl:Int)(sk:Lqq)(dc:Lqq)(num:Int)(r6:Int)  : St:=⟨fr 102 [(3,(.rp [(aA num)] 0)),(4,(.ptr 0 0)),(5,(.ptr 1 0)),(6,(.rp [(PV.rp (aH dl (aB sk) (aB dc)) 0)] 0)),(9,(.rp [(aA r6)] 0)),(10,(.rp [(aA (bC (fun x=>decide (r6=x)) (aK (aB sk) 0)))] 0)),(53,(.fn 182 [] [(.rp [(aG ((aN dl (aB dc)).filter fun n => !(n == num)))] 0)]))],[some (.box 4 [(pB false)]),some (.box 34 [(pI 0)]),some .dead]⟩
theorem bAs{num r6:Int}{x:List Int}{y100 y101 n102:Int}{b103:Bool}{T104:Lqb}(hl0:aC Tp 3 xM (iA dl sk dc num r6 x ) .normal (cE (iA dl sk dc num r6 x ) [(12,(pI ((fK dl sk dc r6 x).1))),(13,(pB ((fK dl sk dc r6 x).2)))]))(h1:(aB sk)[(bC (fun x=>decide (r6=x)) (aK (aB sk) 0)).toNat]? = some [y100,y101])(h2:0≤(bC (fun x=>decide (r6=x)) (aK (aB sk) 0)))(h3:uni 2 (aB sk))(h4:[(aA num)].length=1*1∧x.length+1≤1000000)(h5:aDe dl (aB sk) (aB dc) (.sl (x.length+1) ((x.map aA)++[(aA num)])) [y100,y101] n102 b103 ([]:Lqb) T104)(h6:cX [(aA r6),(aA 0),(aA ((fK dl sk dc r6 x).1))] [(0,3,true),(1,3,true),(2,3,true)]=true∧cX [(aA r6),(aA 0),(aA n102)] [(0,3,true),(1,3,true),(2,3,true)]=true)(h7:(jN [(aA r6),(aA 0),(aA ((fK dl sk dc r6 x).1))] [(aA r6),(aA 0),(aA n102)] [(0,3,true),(1,3,true),(2,3,true)])=true)(h8:(((fK dl sk dc r6 x).2) == b103)=true):aC Tp 3 aQt (rfO (mD dl sk dc num r6 ) 54 11 x) .normal (aQu dl sk dc num r6 ):=by
 exact aC.fin (g:=⟨(rng [(0,3),(7,2),(11,42),(54,48)]),[],[],[]⟩) (o:=[.k 2 ⟨(rng [(0,3),(7,2),(12,2),(16,37),(55,16)]),[],[],[]⟩ .normal (cE (iA dl sk dc num r6 x ) [(12,(pI ((fK dl sk dc r6 x).1))),(13,(pB ((fK dl sk dc r6 x).2)))]),.x (PV.rp (aH dl (aB sk) (aB dc)) 0),.x (PV.rp (aH dl (aB sk) (aB dc)) 0),.x (.sl ((aB sk).length) ((aB sk).flatten.map aA)),.x (aA (bC (fun x=>decide (r6=x)) (aK (aB sk) 0))),.x (.agg [(aA y100),(aA y101)]),.x (PV.rp (aH dl (aB sk) (aB dc)) 0),.x (aA num),.c (.agg (kVL 9 10 5 7 11 6)) [(4,.dead),(5,(vB0 dl (aB sk) (aB dc))),(6,(.box 33 [(.p (.sl (x.length+1) ((x.map aA)++[(aA num)])))])),(7,(.box 139 (kVL 9 10 5 7 11 6))),(8,(.mp (aF ([]:Lqb)) 0)),(9,(.box 207 [(.mp 8)])),(10,(vB5 dl (aB sk) (aB dc))),(11,(.box 209 [(.fn 153 [] [(.ptr 5 0),(.ptr 7 0)])]))],.c (.tup [(pI n102),(pB b103)]) [(5,(vB0 dl (aB sk) (aB dc))),(6,(.box 33 [(.p (.sl (x.length+1) ((x.map aA)++[(aA num)])))])),(7,(.box 139 (kVL 9 10 5 7 11 6))),(8,(.mp (aF T104) T104.length)),(9,(.box 207 [(.mp 8)])),(10,(vB5 dl (aB sk) (aB dc))),(11,(.box 209 [(.fn 153 [] [(.ptr 5 0),(.ptr 7 0)])]))],.x (aA r6),.x (aA r6),bF,bF,bF,bF,bF]) (l:=[_,_,_,_,_,_,[(aA r6)][0]? = some (aA r6),[(aA r6)][0]? = some (aA r6),FC Tp 134 [(.rp (aH dl (aB sk) (aB dc)) 0),(.p (.agg [(aA y100),(aA y101)])),(.agg (kVL 9 10 5 7 11 6))] [(9,(.box 207 [(.mp 8)])),(10,(vB5 dl (aB sk) (aB dc))),(5,(vB0 dl (aB sk) (aB dc))),(7,(.box 139 (kVL 9 10 5 7 11 6))),(11,(.box 209 [(.fn 153 [] [(.ptr 5 0),(.ptr 7 0)])])),(6,(.box 33 [(.p (.sl (x.length+1) ((x.map aA)++[(aA num)])))])),(8,(.mp (aF ([]:Lqb)) 0))] 13 (.tup [(pI n102),(pB b103)]) [(5,(vB0 dl (aB sk) (aB dc))),(6,(.box 33 [(.p (.sl (x.length+1) ((x.map aA)++[(aA num)])))])),(7,(.box 139 (kVL 9 10 5 7 11 6))),(8,(.mp (aF T104) T104.length)),(9,(.box 207 [(.mp 8)])),(10,(vB5 dl (aB sk) (aB dc))),(11,(.box 209 [(.fn 153 [] [(.ptr 5 0),(.ptr 7 0)])]))],FC Tp 87 [(.rp (aH dl (aB sk) (aB dc)) 0),(.own 4)] [(4,(.row 3 (x.length+1) ((x.map aA)++[(aA num)])))] 5 (.agg (kVL 9 10 5 7 11 6)) [(4,.dead),(5,(vB0 dl (aB sk) (aB dc))),(6,(.box 33 [(.p (.sl (x.length+1) ((x.map aA)++[(aA num)])))])),(7,(.box 139 (kVL 9 10 5 7 11 6))),(8,(.mp (aF ([]:Lqb)) 0)),(9,(.box 207 [(.mp 8)])),(10,(vB5 dl (aB sk) (aB dc))),(11,(.box 209 [(.fn 153 [] [(.ptr 5 0),(.ptr 7 0)])]))],_,[(aA num)][0]? = some (aA num),[(PV.rp (aH dl (aB sk) (aB dc)) 0)][0]? = some (PV.rp (aH dl (aB sk) (aB dc)) 0),_,_,0≤(bC (fun x=>decide (r6=x)) (aK (aB sk) 0))∧(bC (fun x=>decide (r6=x)) (aK (aB sk) 0))<(((aB sk).length:Nat):Int)∧((bC (fun x=>decide (r6=x)) (aK (aB sk) 0)).toNat*2)<((aB sk).flatten.map aA).length,[(aA (bC (fun x=>decide (r6=x)) (aK (aB sk) 0)))][0]? = some (aA (bC (fun x=>decide (r6=x)) (aK (aB sk) 0))),(aH dl (aB sk) (aB dc))[1]? = some (.sl ((aB sk).length) ((aB sk).flatten.map aA)),[(PV.rp (aH dl (aB sk) (aB dc)) 0)][0]? = some (PV.rp (aH dl (aB sk) (aB dc)) 0),[(PV.rp (aH dl (aB sk) (aB dc)) 0)][0]? = some (PV.rp (aH dl (aB sk) (aB dc)) 0),aC Tp 3 xM (iA dl sk dc num r6 x ) .normal (cE (iA dl sk dc num r6 x ) [(12,(pI ((fK dl sk dc r6 x).1))),(13,(pB ((fK dl sk dc r6 x).2)))])]) (by kernel_rfl) (gc (aW h8) (g4c (aW h7) (gc h6 (gc rfl (gc rfl (gc (FMM.fc (ids:=[5,6,7,8,9,10,11]) h5 (by kernel_rfl)) (gc (FC.close1 (args':=[(.rp (aH dl (aB sk) (aB dc)) 0),(.p (.sl (x.length+1) ((x.map aA)++[(aA num)])))]) (FMM.fcN (k:=7) rfl (ids:=[]) (pF (dl:=dl) (sk:=(aB sk)) (dc:=(aB dc)) (on:=(x.length+1)) (ol:=((x.map aA)++[(aA num)]))) (by kernel_rfl)) (by kernel_rfl)) (gc h4 (gc rfl (gc rfl (gc (aU (i:=(bC (fun x=>decide (r6=x)) (aK (aB sk) 0)).toNat) h3 h1) (gc (bD (i:=(bC (fun x=>decide (r6=x)) (aK (aB sk) 0)).toNat) h3 h1) (gc (bS (k:=2) (i:=(bC (fun x=>decide (r6=x)) (aK (aB sk) 0))) (by decide) h3 h2 h1) (gc rfl (gc rfl (gc rfl (gc rfl (gc hl0 gn))))))))))))))))))
end
section
variable {F:Fence} {n:Nat} {P:Program}
theorem aQs{o:Oper}{a:Act}{next next':Act→World→Prop}{Q Q':Exit→Act→World→Prop}{r:Result Next}(h:o.uponIn F n P a next Q r)
  (hn:∀ v d w',next (({ a with defers:=d }:Act).put o.dst v) w'→next' (({ a with defers:=d }:Act).put o.dst v) w') (hQ:∀ e a' w',e ≠ .normal→Q e a' w'→Q' e a' w') (hL:LetsOut Q→LetsOut Q'):o.uponIn F n P a next' Q' r:=by
 have hn':∀ v w',next (a.put o.dst v) w'→next' (a.put o.dst v) w':=fun v w'=>hn v a.defers w'
 cases r with
 | halt x w' =>
  cases x <;> first | exact hQ _ _ _ (by simp) h | exact h
 | ok nx w' =>
  cases nx with
  | value v=>exact hn' _ _ h
  | skip=>exact hn' _ _ h
  | defer d=>exact hn _ _ _ h
  | enter f us =>
   refine ⟨h.1,h.2.mono ?_⟩;intro e w'' he;cases e with
   | returned v=>exact hn' _ _ he
   | panicked c=>exact hQ _ _ _ (by simp) he
   | outgrown=>exact hL he
  | row r us=>exact ⟨h.1,h.2.mono fun v w'' he=>hn' _ _ he⟩
  | round l f tmps as1 bd =>
   refine ⟨h.1,h.2.mono ?_⟩;intro e w'' he;cases e with
   | returned v=>exact hn' _ _ he
   | panicked c=>exact hQ _ _ _ (by simp) he
   | outgrown=>exact hL he
  | _=>exact h
def Kps(ops:Array Oper)(a0 a:Act):Prop:=∀ i,(∀ o∈ops.toList,o.dst≠some i)→a.tmps.getD i undef=a0.tmps.getD i undef
theorem bAp{ops:Array Oper}{Q Q':Exit→Act→World→Prop}{i:Nat}{K K':Act→World→Prop}{a0 a:Act}{w:World}(h:wpOpIn F n P ops Q i K a w)(ha:Kps ops a0 a)(hK:∀ a' w',Kps ops a0 a'→K a' w'→K' a' w')
  (hQ:∀ e a' w',e ≠ .normal→Q e a' w'→Q' e a' w') (hL:LetsOut Q→LetsOut Q'):wpOpIn F n P ops Q' i K' a w:=by
 unfold wpOpIn at h ⊢
 split
 ·rename_i hi
  simp only [hi] at h
  exact hK _ _ ha h
 ·rename_i o hi
  simp only [hi] at h
  have hm:o∈ops.toList:=by
   obtain ⟨hl,he⟩:=lJ.1 hi;rw [← he];exact Array.mem_toList_iff.2 (Array.getElem_mem hl)
  have hput:∀ v (d:List Deferred),Kps ops a0 (({ a with defers:=d }:Act).put o.dst v):=fun v d i hd=>by
   rw [oC (a:={ a with defers:=d }) (hd o hm)]
   exact ha i hd
  split at h
  ·rename_i hw
   rw [if_pos hw];exact ⟨h.1,aQs h.2 (fun v d w' hn=>hK _ _ (hput v d) hn) hQ hL⟩
  ·rename_i hw
   rw [if_neg hw];exact ⟨h.1,hK _ _ (hput undef a.defers) h.2⟩
theorem aCl{md:Region.Mode}{ops:Array Oper}{Q:Exit→Act→World→Prop}{a0:Act}:∀ (fuel:Nat) (listed:Array Bool) (a:Act) (w:World),wpAnyIn F n P md ops Q fuel listed a w→Kps ops a0 a →
  wpAnyIn F n P md ops (fun e a' w'=>Q e a' w'∧(e = .normal→Kps ops a0 a')) fuel listed a w
 | 0,listed,a,w,h,ha=>⟨h.1,h.2,fun _=>ha⟩
 | fuel+1,listed,a,w,h,ha=>by
  refine ⟨fun h0=>⟨h.1 h0,fun _=>ha⟩,fun j hj => ?_⟩
  exact bAp (h.2 j hj) ha (fun a' w' hk h'=>aCl fuel _ a' w' h' hk) (fun e a' w' hne hq=>⟨hq,fun he=>absurd he hne⟩) (fun ⟨a',w',hq⟩=>⟨a',w',hq,fun he=>by cases he⟩)
end
section
section
variable {F:Fence} {n:Nat} {P:Program}
def bkD(ds:List Deferred)(a:Act):Act:={ a with defers:=a.defers++ds }
theorem aId(ds:List Deferred)(a:Act)(d:Option Nat)(v:Value):(bkD ds a).put d v=bkD ds (a.put d v):=by cases d <;> rfl
theorem aCk(ds:List Deferred)(a:Act):(bkD ds a).eval=a.eval:=by funext x;cases x <;> rfl
theorem bAn(ds:List Deferred){o:Oper}{a:Act}{next next':Act→World→Prop}{Q Q':Exit→Act→World→Prop}{r:Result Next}(h:o.uponIn F n P a next Q r)
  (hn:∀ a' w',next a' w'→next' (bkD ds a') w') (hQ:∀ e a' w',Q e a' w'→Q' e (bkD ds a') w') (hL:LetsOut Q→LetsOut Q'):o.uponIn F n P (bkD ds a) next' Q' r:=by
 have hv:∀ v w',next (a.put o.dst v) w'→next' ((bkD ds a).put o.dst v) w':=fun v w' h=>by rw [aId];exact hn _ _ h
 cases r with
 | halt x w' =>
  cases x <;> first | exact hQ _ _ _ h | exact h
 | ok nx w' =>
  cases nx with
  | value v=>exact hv _ _ h
  | skip=>exact hv _ _ h
  | defer d =>
   have:=hn _ _ h;rw [← aId] at this
   exact this
  | enter f us =>
   refine ⟨h.1,h.2.mono ?_⟩;intro e w'' he;cases e with
   | returned v=>exact hv _ _ he
   | panicked c=>exact hQ _ _ _ he
   | outgrown=>exact hL he
  | row r us=>exact ⟨h.1,h.2.mono fun v w'' he=>hv _ _ he⟩
  | round l f tmps as1 bd =>
   refine ⟨h.1,h.2.mono ?_⟩;intro e w'' he;cases e with
   | returned v=>exact hv _ _ he
   | panicked c=>exact hQ _ _ _ he
   | outgrown=>exact hL he
  | _=>exact h
theorem bLt(ds:List Deferred){ops:Array Oper}{Q Q':Exit→Act→World→Prop}{i:Nat}{K K':Act→World→Prop}{a:Act}{w:World}(h:wpOpIn F n P ops Q i K a w)(hK:∀ a' w',K a' w'→K' (bkD ds a') w')
  (hQ:∀ e a' w',Q e a' w'→Q' e (bkD ds a') w') (hL:LetsOut Q→LetsOut Q'):wpOpIn F n P ops Q' i K' (bkD ds a) w:=by
 unfold wpOpIn at h ⊢
 split
 ·rename_i hi
  simp only [hi] at h
  exact hK _ _ h
 ·rename_i o hi
  simp only [hi] at h
  have e1:(bkD ds a).tmps=a.tmps:=rfl;rw [e1]
  split at h
  ·rename_i hw
   rw [if_pos hw];refine ⟨by rw [aCk];exact h.1,?_⟩
   rw [aCk];exact bAn ds h.2 hK hQ hL
  ·rename_i hw
   rw [if_neg hw];exact ⟨by rw [aCk];exact h.1,by rw [aId];exact hK _ _ h.2⟩
theorem aLw(ds:List Deferred){md:Region.Mode}{ops:Array Oper}{Q Q':Exit→Act→World→Prop}(hQ:∀ e a' w',Q e a' w'→Q' e (bkD ds a') w')(hL:LetsOut Q→LetsOut Q'):∀ (fuel:Nat) (listed:Array Bool) (a:Act) (w:World),wpAnyIn F n P md ops Q fuel listed a w→wpAnyIn F n P md ops Q' fuel listed (bkD ds a) w
 | 0,listed,a,w,h=>⟨h.1,hQ _ _ _ h.2⟩
 | fuel+1,listed,a,w,h=>⟨fun h0=>hQ _ _ _ (h.1 h0),fun j hj=>bLt ds (h.2 j hj) (fun a' w' h'=>aLw ds hQ hL fuel _ a' w' h') hQ hL⟩
end
variable {P:Program} {T:TT} {E:Env}
theorem bAo(ds:List Deferred)(hT:∀ t i,T t=some i→cH P t=some i)(hE:lA P E)(hm:P.follows .mixedOrders=true){id:Nat}{ops:Array Oper}{st st':St}{s s':AS}(h:aIq P T E ops true st s=some (st',s'))(g:aZ s')
  (C0:Cx) (M0:Mem) (w0:World) (a:Act) (w:World) (hs:Sim P C0 M0 w0 st a w) (ro:Option Nat) (n:Nat):(Code.region id ops true).wpIn (Fen ro) n P (fun e' a' w'=>e'=Ex.normal.toExit∧∃ a2,a'=bkD ds a2∧Sim P C0 M0 w0 st' a2 w'∧Kps ops a a2) (bkD ds a) w:=by
 obtain ⟨_,s1,h1,k1⟩:=aD h;obtain ⟨e1,rfl⟩:=aE h1;obtain ⟨r,s2,h2,k2⟩:=aD k1;obtain ⟨_,s3,h3,k3⟩:=aD k2;obtain ⟨e3,rfl⟩:=aE h3;obtain ⟨rfl,rfl⟩:=aJ k3;obtain ⟨hB,_⟩:=bL e1;obtain ⟨hA,_⟩:=bL e3;obtain ⟨os,hfts,hlex⟩:=pZ ops.toList _ (fts:=r.1) (fin:=r.2) h2 g
 replace hB:=wC hB
 unfold Region.lexB at hB
 rw [kQ8] at hB
 have hlen:os.length=ops.toList.length:=by
  have:∀ {l:List Oper} {id:Nat} {st:St} {os:List uD} {fin:St},aIr P T E ops.toList id l st os fin→os.length=l.length:=by
   intro l
   induction l with
   | nil=>intro id st os fin h;cases h;rfl
   | cons o l ih=>intro id st os fin h;cases h with | cons _ _ _ _ q os _ h hr=>simp [ih hr]
  exact this hlex
 have key:nP P T E ops.toList st.m.length (fun k=>os.getD k (.any,[],none)) r.2 ops.toList.length (Array.replicate ops.size false) st:=by
  refine nP.lex ops.toList 0 _ st os (fun j=>by simp) (fun j q hj=>by simp [kQ4,hj]) (fun j hj=>absurd hj (aNw _)) (fun j oj hj hl => ?_) (fun i j _ hij hj => ?_) (by simpa using hB.2) (by simpa [ido] using hlex)
  ·exfalso
   rcases Nat.lt_or_ge j ops.size with h' | h'
   ·simp [h'] at hl
   ·simp [Nat.not_lt.2 h'] at hl
  have hj2:j<os.length:=by
   rw [hlen];obtain ⟨o,ho⟩:=Option.isSome_iff_exists.1 hj;exact (kQ2.1 ho).1
  have:=mK r.1 0 hA i j (zY os[i]) (zY os[j]) hij (by rw [hfts,gC,kQ0 (by omega)];rfl) (by rw [hfts,gC,kQ0 hj2];rfl)
  rw [gP,gP] at this
  simp only [kQ4,kQ0 hj2,kQ0 (show i<os.length by omega),Option.getD_some,Array.toArray_toList]
  exact this
 refine wpIn_region_any hm ?_;have:=nP.sound hT hE (C0:=C0) (M0:=M0) (w0:=w0) (ro:=ro) (n:=n) (Q:=fun e' a' w'=>e'=Ex.normal.toExit∧Sim P C0 M0 w0 r.2 a' w') (fun a' w' h'=>⟨rfl,h'⟩) _ _ _ a _ key (hs.drawn (w.drawn+1))
 have h2:=aCl (a0:=a) _ _ _ _ (by simpa using this) (fun _ _=>rfl)
 exact aLw ds (fun e a' w' h=>⟨h.1.1,a',rfl,h.1.2,h.2 h.1.1⟩) (fun ⟨a',w',h⟩=>by cases h.1.1) _ _ _ _ h2

end
section
def aCj(P:Program)(k:Nat)(c:Code)(st:St)(e:Ex)(st':St):Prop:=∀ (C0:Cx) (M0:Mem) (w0:World) (a:Act) (w:World),M0.length≤k→Sim P C0 M0 w0 st a w→∀ (ds:List Deferred) (ro:Option Nat) (n:Nat),c.wpIn (Fen ro) n P (fun e' a' w'=>e'=e.toExit∧∃ a2,a'=bkD ds a2∧Sim P C0 M0 w0 st' a2 w'∧(∀ i,wrR c i=false→a2.tmps.getD i undef=a.tmps.getD i undef)) (bkD ds a) w
noncomputable def bMi(c:Code)(st:St):Ask (Ex × St):=match c with
 | .region _ ops true=>do
  let st' ← aIq Tp tT EO ops true st
  pure (.normal,st')
 | _=>fail
theorem aCj.fin{k:Nat}{c:Code}{st st':St}{e:Ex}{g:Gh}{o:List OI}{l:List Prop}(h:aKi k g (bMi c st (asg o))=some (e,st',l,[]))(gd:aZ (out l)):aCj Tp k c st e st':=by
 unfold aKi at h
 split at h
 ·rename_i e1 st1 s hr
  split at h
  ·rename_i st2 hg
   simp only [Option.some.injEq,Prod.mk.injEq] at h
   obtain ⟨rfl,rfl,rfl,hs⟩:=h;unfold bMi at hr
   split at hr
   ·rename_i id ops
    obtain ⟨st3,s1,h1,k1⟩:=aD hr;obtain ⟨he,rfl⟩:=aJ k1;cases he;intro C0 M0 w0 a w hk hsm ds ro n;refine wpIn_mono (bAo ds aEo aEn mixed h1 (fun p hp=>gd p hp) C0 M0 w0 a w hsm ro n) ?_
    rintro e' a' w' ⟨rfl,a2,rfl,h',hkp⟩;exact ⟨rfl,a2,rfl,eT hk hg h',fun i hi=>hkp i fun o ho e=>by
     unfold wrR at hi
     have:=List.any_eq_false.1 hi o ho;rw [e] at this
     exact this (Nat.beq_refl i)⟩
   ·cases hr
  ·cases h
 ·cases h
end
section

theorem bTb{dl:Int}{sk dc:Lqq}{num r6:Int}{x:List Int}{y0 y1 n2:Int}{b3:Bool}{T4:Lqb}(h0:(aB sk)[(bC (fun x=>decide (r6=x)) (aK (aB sk) 0)).toNat]? = some [y0,y1])(h1:0≤(bC (fun x=>decide (r6=x)) (aK (aB sk) 0)))(h2:uni 2 (aB sk))(h3:aDe dl (aB sk) (aB dc) (aG x) [y0,y1] n2 b3 ([]:Lqb) T4):aCj Tp 0 (sub (cd Tryz.f58) [1,1,1,1,1,1,1,1,1,0,1,0,1,0,0]) ⟨fr 102 [(3,(.rp [(aA num)] 0)),(6,(.rp [(PV.rp (aH dl (aB sk) (aB dc)) 0)] 0)),(9,(.rp [(aA r6)] 0)),(10,(.rp [(aA (bC (fun x=>decide (r6=x)) (aK (aB sk) 0)))] 0)),(11,(.p (aG x)))],[]⟩ .normal ⟨fr 102 [(3,(.rp [(aA num)] 0)),(6,(.rp [(PV.rp (aH dl (aB sk) (aB dc)) 0)] 0)),(9,(.rp [(aA r6)] 0)),(10,(.rp [(aA (bC (fun x=>decide (r6=x)) (aK (aB sk) 0)))] 0)),(11,(.p (aG x))),(12,(pI n2)),(13,(pB b3))],[]⟩:=by
 exact aCj.fin (g:=⟨(rng [(0,3),(4,2),(7,2),(14,88)]),[],[],[]⟩) (o:=[.x (PV.rp (aH dl (aB sk) (aB dc)) 0),.x (PV.rp (aH dl (aB sk) (aB dc)) 0),.x (.sl ((aB sk).length) ((aB sk).flatten.map aA)),.x (aA (bC (fun x=>decide (r6=x)) (aK (aB sk) 0))),.x (.agg [(aA y0),(aA y1)]),.x (PV.rp (aH dl (aB sk) (aB dc)) 0),.c iG (vU dl (aB sk) (aB dc) (aG x) ([]:Lqb)),.c (.tup [(pI n2),(pB b3)]) (vU dl (aB sk) (aB dc) (aG x) T4)]) (l:=[FC Tp 134 [(.rp (aH dl (aB sk) (aB dc)) 0),(.p (.agg [(aA y0),(aA y1)])),iG] [(4,(.box 207 [(.mp 3)])),(5,(vB5 dl (aB sk) (aB dc))),(0,(vB0 dl (aB sk) (aB dc))),(2,vB2),(6,vB6),(1,(.box 33 [(.p (aG x))])),(3,(.mp (aF ([]:Lqb)) 0))] 8 (.tup [(pI n2),(pB b3)]) (vU dl (aB sk) (aB dc) (aG x) T4),FC Tp 87 [(.rp (aH dl (aB sk) (aB dc)) 0),(.p (aG x))] [] 0 iG (vU dl (aB sk) (aB dc) (aG x) ([]:Lqb)),[(PV.rp (aH dl (aB sk) (aB dc)) 0)][0]? = some (PV.rp (aH dl (aB sk) (aB dc)) 0),_,_,0≤(bC (fun x=>decide (r6=x)) (aK (aB sk) 0))∧(bC (fun x=>decide (r6=x)) (aK (aB sk) 0))<(((aB sk).length:Nat):Int)∧((bC (fun x=>decide (r6=x)) (aK (aB sk) 0)).toNat*2)<((aB sk).flatten.map aA).length,[(aA (bC (fun x=>decide (r6=x)) (aK (aB sk) 0)))][0]? = some (aA (bC (fun x=>decide (r6=x)) (aK (aB sk) 0))),(aH dl (aB sk) (aB dc))[1]? = some (.sl ((aB sk).length) ((aB sk).flatten.map aA)),[(PV.rp (aH dl (aB sk) (aB dc)) 0)][0]? = some (PV.rp (aH dl (aB sk) (aB dc)) 0),[(PV.rp (aH dl (aB sk) (aB dc)) 0)][0]? = some (PV.rp (aH dl (aB sk) (aB dc)) 0)]) (by kernel_rfl) (gc (FMM.fc (ids:=[0,1,2,3,4,5,6]) h3 (by kernel_rfl)) (gc (FMM.fcN (k:=7) rfl (ids:=[]) (pF (dl:=dl) (sk:=(aB sk)) (dc:=(aB dc)) (on:=x.length) (ol:=(x.map aA))) (by kernel_rfl)) (gc rfl (gc (aU (i:=(bC (fun x=>decide (r6=x)) (aK (aB sk) 0)).toNat) h2 h0) (gc (bD (i:=(bC (fun x=>decide (r6=x)) (aK (aB sk) 0)).toNat) h2 h0) (gc (bS (k:=2) (i:=(bC (fun x=>decide (r6=x)) (aK (aB sk) 0))) (by decide) h2 h1 h0) (gc rfl (gc rfl (gc rfl (gc rfl gn))))))))))
end
end KV
end Go.Proofs
section
namespace Go.Proofs
open Go.RowKit
namespace KV
theorem bFx{P:Program}{C:Cx}{st:St}{a:Act}{w:World}(hS:eI C st.m w st.t a.tmps)(hM:aR P C st.m w)(hp:fX st.m=true)(hn:aMp st.m) :
  Sim P (cxF fun _=>False) [] { w with heap := #[] } st { a with defers:=[] } w :=
 ⟨C,hS,hM,⟨rfl,rfl,rfl,Nat.zero_le _,fun b hb=>absurd hb (aNw _),fun _ _ h=>by simp at h,fun _ _ h=>by simp at h,fun _ _ h=>by simp at h,fun _ _ b _ _ _ => .inl (Nat.zero_le _),fun _ h=>h.elim,fun b _ => .inr (.inl (Nat.zero_le _))⟩,.nil rfl hn⟩
theorem bAm{P:Program}{C:Cx}{M:Mem}{W W':World}(hM:aR P C M W)(hg:W.grownBy W' none):aR P C M W'∧Fr C M W C M W':=by
 have hsame:∀ b,b<W.heap.size→W'.heap[b]? = W.heap[b]? := fun b hb=>hg.block b hb (fun e=>by cases e)
 have hL:Le C C M M W W':=⟨fun _ o h=>⟨o,h⟩,fun _ _ _ _ _ cs h=>⟨cs,h⟩,fun _ o h o' h' hl=>by rw [h] at h';cases h';exact ⟨hl,rfl,rfl⟩,fun _ h=>h,fun b hb=>hsame b (hM.Fs b hb)⟩
 refine ⟨⟨fun i ty n cs hm => ?_,fun i ty cs hm => ?_,fun i es cl hm => ?_,hM.inj,hM.nF,fun b hb=>kQ9 (hM.Fs b hb) hg.size,fun i o b ho hl hb=>kQ9 (hM.lt i o b ho hl hb) hg.size⟩,
  ⟨hg.os,hg.tape,hg.output,hg.size,fun b hb _=>hsame b hb,fun i o h=>⟨⟨o,h⟩,rfl,rfl⟩,fun _ _ _ _ _ cs h=>⟨cs,h⟩,fun _ o h o' h' hl=>by rw [h] at h';cases h';exact hl,fun i o b ho hl hb => .inr ⟨i,o,ho,hl,hb⟩,fun _ h=>h,fun _ h => .inl h⟩⟩
 ·rcases hM.row _ _ _ _ hm with h4 | ⟨b,arr,inf,q0,q1,q2,q3,q4,q5,q6,q7,q8⟩
  ·exact .inl h4
  ·exact .inr ⟨b,arr,inf,q0,(hsame b (lJ.1 q1).1).trans q1,q2,q3,q4,q5,q6,fun j hj=>(q7 j hj).mono hL.F hL.fz,q8⟩
 ·obtain ⟨b,arr,q0,q1,q2,q3,q4⟩:=hM.box _ _ _ hm
  exact ⟨b,arr,q0,(hsame b (lJ.1 q1).1).trans q1,q2,fun j hj=>(q3 j hj).mono hL,q4⟩
 ·obtain ⟨b,arr,q0,q1,q2,q3⟩:=hM.mp _ _ _ hm
  refine ⟨b,arr,q0,(hsame b (lJ.1 q1).1).trans q1,q2,fun j hj => ?_⟩
  obtain ⟨en,r1,r2,r3,r4⟩:=q3 j hj;exact ⟨en,r1,r2,r3,r4.mono hL.F hL.fz⟩
def bFy(t:List AV)(i:Nat):Bool:=match t[i]? with
 | some .any=>true
 | _=>false
theorem aTa{C:Cx}{M:Mem}{w:World}{v u:Value}(h:Rep C M w (.p (.v v)) u):u=v:=by
 cases h with
 | p _ _ h=>cases h;rfl
theorem bTa{P:Program}{k:Nat}{c:Code}{tA tB:List AV}{S:St}{g:Gh}{i1 i2:Nat}{v1 v2:Value}(hk:aCj P 0 c ⟨tA,[]⟩ .normal ⟨tB,[]⟩)(hg:gh 0 g S=some ⟨tA,[]⟩)(hn:fX S.m=true)
  (h1:tB[i1]? = some (.p (.v v1))) (h2:tB[i2]? = some (.p (.v v2))) (hne:i1≠i2) (hl:tB.length=S.t.length) (hall:((List.range S.t.length).all fun i => !wrR c i || Nat.beq i i1 || Nat.beq i i2 || bFy S.t i)=true) :
  aC P k c S .normal (cE S [(i1,.p (.v v1)),(i2,.p (.v v2))]):=by
 intro C0 M0 w0 a w hk0 hs ro _ n;obtain ⟨C,hS,hM,hF,hD⟩:=hs;obtain ⟨C1,hS1,hM1,_,_⟩:=eT (eA 0) hg (bFx hS hM hn (eF hn).2);have hs1:Sim P (C1.with []) [] w ⟨tA,[]⟩ { a with defers:=[] } w:=⟨C1,hS1,hM1,(Fr.refl _ _ _).based [],.nil rfl (eF (m:=[]) rfl).2⟩
 have:=hk (C1.with []) [] w _ w (eA 0) hs1 a.defers ro n
 refine wpIn_mono this ?_;rintro e' a' w' ⟨rfl,a2,rfl,⟨C2,hS2,hM2,hF2,⟨l2,d1,d2,d3⟩,_⟩,hkp⟩;have hg2:w.grownBy w' none:=aLm hF2;obtain ⟨hM3,hF3⟩:=bAm hM hg2;have hS3:=hS.le (hM.le hF3);refine ⟨rfl,C,⟨?_,fun i hi => ?_⟩,hM3,hF.trans hF3,?_⟩
 ·have e0:=hS2.size
  show a2.tmps.size=((S.t.set i1 _).set i2 _).length;rw [qP,qP];exact e0.trans hl
 ·have hi':i<S.t.length:=by
   have:i<((S.t.set i1 (.p (.v v1))).set i2 (.p (.v v2))).length:=hi
   rwa [qP,qP] at this
  have key:∀ x,((S.t.set i1 (.p (.v v1))).set i2 (.p (.v v2)))[i]? = some x→Rep C S.m w' x (a2.tmps.getD i undef):=by
   intro x hx
   by_cases e2:i2=i
   ·subst e2
    rw [bCk (by rw [qP];exact hi')] at hx
    cases hx;rw [aTa (hS2.at h2)]
    exact .p _ _ (.v _)
   rw [bGv e2] at hx
   by_cases e1:i1=i
   ·subst e1
    rw [bCk hi'] at hx
    cases hx;rw [aTa (hS2.at h1)]
    exact .p _ _ (.v _)
   rw [bGv e1] at hx
   have hc:=iD.1 hall i (wO.2 hi');cases hw:wrR c i with
   | false =>
    rw [hkp i hw];exact hS3.at hx
   | true =>
    have n1:Nat.beq i i1=false:=by
     cases h:Nat.beq i i1 with
     | false=>rfl
     | true=>exact absurd (Nat.eq_of_beq_eq_true h).symm e1
    have n2:Nat.beq i i2=false:=by
     cases h:Nat.beq i i2 with
     | false=>rfl
     | true=>exact absurd (Nat.eq_of_beq_eq_true h).symm e2
    rw [hw,n1,n2] at hc
    have hc:bFy S.t i=true:=hc;unfold bFy at hc
    rw [hx] at hc
    cases x <;> first | exact .any _ | cases hc
  exact key _ (kQ0 hi)
 ·obtain ⟨⟨l,e1,e2,e3⟩,hR⟩:=hD.fr hM .refl hF3
  obtain ⟨⟨l',e1',_,e3'⟩,_⟩:=hD;have hll:l=l':=by
   have:=e1.symm.trans e1';exact (List.map_inj_right (fun x y h=>by simpa [mark] using h)).1 this
  refine ⟨⟨l2++l,?_,?_,?_⟩,hR⟩
  ·show a2.defers++a.defers=_
   rw [d1,e1,iE]
  ·refine List.nodup_append.2 ⟨d2,e2,fun x hx y hy hxy => ?_⟩
   have:=(d3 x hx).2.1;have:=(lJ.1 (e3' y (hll ▸ hy)).1).1;subst hxy;omega
  ·intro D hD2
   rcases jR.1 hD2 with h | h
   ·exact ⟨(d3 D h).1,gQ hF.size (d3 D h).2.1,fun hf=>by
     have:=hM.Fs D hf;have:=(d3 D h).2.1;omega⟩
   ·exact e3 D h
end KV
end Go.Proofs
end
namespace Go.Proofs
namespace KV
section
variable {dl:Int}{sk dc:Lqq}
theorem bLp(l:List Int)(v:Int)(hl:l.length≤1000000){base:Nat}:FV Tp 126 [.p (aG l),.p (aA v)] base (pI (bC (fun x=>decide (v=x)) l)) []:=by
 rcases aI.find (P:=Tp) (k:=0) (b:=(sub (cd Tryz.f126) [1,0,1,0,0])) (fun i=>gK l v i) (fun i _=>cE (gK l v i) [(4,.p (aA (i:Int)))]) (gK l v l.length) .ret (.exit 0) (by simp) (by simp) (fun x=>decide (v=x)) l
  (fun i x hx hp=>aEv (by have:=bH hx;omega) hx (by simpa using hp) (aP (by have:=bH hx;omega)) rfl)
  (fun i x hx hp=>aEu (by have:=bH hx;omega) hx (by simpa using hp))
  (aEw (l:=l) (i:=l.length) (by omega)) with ⟨i,x,h1,h2,h3,h4⟩ | ⟨h1,h2,h3⟩
 ·rw [kE h2];exact bCv h4
 ·rw [kF h1];exact bCu h3
theorem bLq(l:List Int)(v:Int)(hl:l.length≤1000000){base:Nat}:FV Tp 52 [.p (aG l),.p (aA v)] base (pB (l.contains v)) []:=by
 rw [← vC];exact FV.fin Tryz.func52 rfl (o:=[.c (pI (bC (fun x=>decide (v=x)) l)) []]) (l:=[_]) (by kernel_rfl) (gc (fk 0 (bLp l v hl) rfl) gn)
theorem bLr{l:List Int}(hl:l.length≤1000000)(n:Int):rW (aG l) n (l.contains n):=fun base=>bLq l n hl
def aDj(dl:Int)(sk dc:Lqq)(num r6:Int)(x:List Int):Bool := !(((fK dl sk dc r6 x).1 == (fK dl sk dc r6 (x++[num])).1) && ((fK dl sk dc r6 x).2 == (fK dl sk dc r6 (x++[num])).2))
theorem bUg(r t t':Int):jN [aA r,aA 0,aA t] [aA r,aA 0,aA t'] [(0,3,true),(1,3,true),(2,3,true)]=(t == t'):=by
 rw [Bool.eq_iff_iff];simp [jN,uP]
theorem aSz{r6 y0 y1:Int}(h:(aB sk)[(bC (fun x=>decide (r6=x)) (aK (aB sk) 0)).toNat]? = some [y0,y1])(x:List Int):fK dl sk dc r6 x=cF dl x (aB dc) y0 y1:=by
 have e:(aB sk).getD (bC (fun x=>decide (r6=x)) (aK (aB sk) 0)).toNat []=[y0,y1]:=by
  rw [kQ4,h];rfl
 unfold fK;rw [e];rfl
theorem bFv{dl:Int}{sk dc:Lqq}{num r6:Int}{x:List Int}(hd:cA (aB dc))(hu:uni 2 (aB sk))(hs:∀ s∈aB sk,-1≤s.getD 1 0∧s.getD 1 0≤360000)(hx:x.length≤1000){y0 y1:Int}(h0:(aB sk)[(bC (fun x=>decide (r6=x)) (aK (aB sk) 0)).toNat]? = some [y0,y1])(h1:0≤(bC (fun x=>decide (r6=x)) (aK (aB sk) 0))) :
  aC Tp 3 (sub (cd Tryz.f58) [1,1,1,1,1,1,1,1,1,0,1,0,1,0,0]) (iA dl sk dc num r6 x) .normal (cE (iA dl sk dc num r6 x) [(12,(pI ((fK dl sk dc r6 x).1))),(13,(pB ((fK dl sk dc r6 x).2)))]):=by
 obtain ⟨T',_,hT⟩:=bDe (sk:=aB sk) hd (fun n=>aBs hx n) y0 y1 (hs _ (kQ5 h0)) (T:=[]) cP.nil
 rw [aSz h0];exact bTa (bTb (num:=num) h0 h1 hu hT) (g:=⟨(rng [(0,3),(4,2),(7,2),(12,90)]),[],[2],[]⟩) (by kernel_rfl) rfl (by rfl) (by rfl) (by decide) (by rfl) (by kernel_rfl)
theorem bAk{dl:Int}{sk dc:Lqq}{num r6:Int}{x:List Int}(hd:cA (aB dc))(hu:uni 2 (aB sk))(hs:∀ s∈aB sk,-1≤s.getD 1 0∧s.getD 1 0≤360000)(hx:x.length≤1000){y0 y1:Int}(h0:(aB sk)[(bC (fun x=>decide (r6=x)) (aK (aB sk) 0)).toNat]? = some [y0,y1])(h1:0≤(bC (fun x=>decide (r6=x)) (aK (aB sk) 0))) :
  (aDj dl sk dc num r6 x=false→aC Tp 3 (sub (cd Tryz.f58) [1,1,1,1,1,1,1,1,1,0,1,0,1]) (rfO (mD dl sk dc num r6) 54 11 x) .normal (aQu dl sk dc num r6)) ∧
  (aDj dl sk dc num r6 x=true→aC Tp 3 (sub (cd Tryz.f58) [1,1,1,1,1,1,1,1,1,0,1,0,1]) (rfO (mD dl sk dc num r6) 54 11 x) .ret (aIf dl sk dc num r6)):=by
 have hn:=bFv (dl:=dl) (num:=num) hd hu hs hx h0 h1;obtain ⟨T',_,hT⟩:=bDe (dl:=dl) (sk:=aB sk) hd (fun n=>bLr (l:=x++[num]) (by rw [mG];show x.length+1≤_;omega) n) y0 y1 (hs _ (kQ5 h0)) (T:=[]) cP.nil
 rw [← aSz h0] at hT
 have hov:aG (x++[num]) = .sl (x.length+1) (x.map aA++[aA num]):=by
  show PV.sl (x++[num]).length ((x++[num]).map aA)=_;rw [mG,iE];rfl
 rw [hov] at hT
 have hq:=bUg r6 (fK dl sk dc r6 x).1 (fK dl sk dc r6 (x++[num])).1;unfold aDj;cases ha:((fK dl sk dc r6 x).1 == (fK dl sk dc r6 (x++[num])).1) with
 | false =>
  refine ⟨fun h=>(by cases h),fun _ => ?_⟩
  rw [ha] at hq
  exact bAq hn h0 h1 hu ⟨rfl,by omega⟩ hT ⟨rfl,rfl⟩ hq
 | true =>
  rw [ha] at hq
  cases hb:((fK dl sk dc r6 x).2 == (fK dl sk dc r6 (x++[num])).2) with
  | false =>
   refine ⟨fun h=>(by cases h),fun _ => ?_⟩
   exact bAr hn h0 h1 hu ⟨rfl,by omega⟩ hT ⟨rfl,rfl⟩ hq hb
  | true =>
   refine ⟨fun _ => ?_,fun h=>(by cases h)⟩
   exact bAs hn h0 h1 hu ⟨rfl,by omega⟩ hT ⟨rfl,rfl⟩ hq hb
theorem bAl{num r6:Int}(hd:cA (aB dc))(hu:uni 2 (aB sk))(hs:∀ s∈aB sk,-1≤s.getD 1 0∧s.getD 1 0≤360000){y0 y1:Int}(h0:(aB sk)[(bC (fun x=>decide (r6=x)) (aK (aB sk) 0)).toNat]? = some [y0,y1])(h1:0≤(bC (fun x=>decide (r6=x)) (aK (aB sk) 0)))(ho:((aN dl (aB dc)).filter fun n => !(n == num)).length≤60) :
  ((jF ((aN dl (aB dc)).filter fun n => !(n == num))).any (aDj dl sk dc num r6)=false→aC Tp 0 (sub (cd Tryz.f58) [1,1,1,1,1,1,1,1,1,0,1,0]) (tV dl sk dc num r6) .normal (mD dl sk dc num r6)) ∧
  ((jF ((aN dl (aB dc)).filter fun n => !(n == num))).any (aDj dl sk dc num r6)=true→aC Tp 0 (sub (cd Tryz.f58) [1,1,1,1,1,1,1,1,1,0,1,0]) (tV dl sk dc num r6) .ret (aCn dl sk dc num r6)):=by
 have main:=aFd (P:=Tp) (k:=0) (kb:=3) (kk:=2) (g0:=⟨[],[],[],[]⟩) (g1:=⟨[],[],[],[]⟩) (gR:=⟨[],[],[],[]⟩) (tV dl sk dc num r6) (fun _=>mD dl sk dc num r6) (fun _ _=>aQu dl sk dc num r6) (fun _ _=>aIf dl sk dc num r6) (mD dl sk dc num r6).t (aCn dl sk dc num r6).m (fun _=>aDj dl sk dc num r6)
  (cc := sub (cd Tryz.f58) [1, 1, 1, 1, 1, 1, 1, 1, 1, 0, 1, 0]) (gi := 53) (p1 := 54) (d := 11) (id := 14) (ty := 33) (pos := "outcome.go:200") (body := sub (cd Tryz.f58) [1, 1, 1, 1, 1, 1, 1, 1, 1, 0, 1, 0, 1]) (by kernel_rfl)
  rfl (fun _=>rfl) (g := .fn 182 [] [.rp [aG ((aN dl (aB dc)).filter fun n => !(n == num))] 0]) (by rfl) (aFb _ ho) (fun args w=>rfl) (fun _=>rfl) (fun _=>rfl) (fun _ _=>rfl) (fun _ _=>rfl) rfl rfl (fun _=>by show 2<3;omega) (by kernel_rfl) (fun x=>rfl) (by show 2≤2;omega) rfl (by kernel_rfl) (fun pre l=>by kernel_rfl) (fun _ _ _=>by kernel_rfl) (fun pre l _ hx=>bAk hd hu hs hx h0 h1)
 refine ⟨fun h=>main.1 fun pre l hp => ?_,fun h=>main.2 ?_⟩
 ·have:=List.any_eq_false.1 h l (hp.subset (by simp))
  simpa using this
 ·obtain ⟨l,hl,hb⟩:=List.any_eq_true.1 h
  obtain ⟨s,t,e⟩:=List.append_of_mem hl;exact ⟨s,l,⟨t,by rw [e];simp⟩,hb⟩
def bFw(dl:Int)(sk dc:Lqq)(num:Int):Bool × Int :=
 if (aN dl (aB dc)).contains num=false then (false,1) else if 8<(aN dl (aB dc)).length then (false,10) else
 if bC (fun x=>decide (aLk (aB dc) num=x)) (aK (aB sk) 0)<0 then (false,0) else ((jF ((aN dl (aB dc)).filter fun n => !(n == num))).any (aDj dl sk dc num (aLk (aB dc) num)),0)
theorem bLs{α:Type}{p:α→Bool}{l:List α}(h:0≤bC p l):(bC p l).toNat<l.length:=by
 unfold bC at h ⊢
 cases e:l.findIdx? p with
 | none=>rw [e] at h;simp at h
 | some i =>
  obtain ⟨hi,_⟩:=List.findIdx?_eq_some_iff_getElem.1 e;simpa using hi
theorem bSz(h:cN dl sk dc)(num:Int){base:Nat}:FV Tp 58 [.p (.agg (dH dl sk dc)),.p (aA num)] base (.tup [.p (blP (bFw dl sk dc num).1),.p (aA (bFw dl sk dc num).2)]) []:=by
 have hd:=jU h;obtain ⟨hu,hl,hs,_⟩:=vK h;have hol:(aN dl (aB dc)).length≤1000:=by
  unfold aN;rw [kQ6];exact gQ (yY _ _) hd.len
 unfold bFw;cases hc:(aN dl (aB dc)).contains num with
 | false=>exact bTc h hd hol hc
 | true =>
  rw [if_neg (by simp)]
  by_cases h8:8<(aN dl (aB dc)).length
  ·rw [if_pos h8];exact bTd h hd hol hc (by omega)
  ·rw [if_neg h8]
   have hm:num∈aN dl (aB dc):=by simpa using hc
   have hm2:=hm;unfold aN at hm2
   obtain ⟨x,hx,rfl⟩:=dQ.1 hm2;have hx:=(wN.1 hx).1;have hr:=fY hd hx;have hsb:aLk (aB dc) (dN x)=vO (aB dc) x:=by unfold aLk;rw [aSu hd hx]
   obtain ⟨q1,q2⟩:=aQe hd hx;have hk:=vM hd (n:=dN x) (by unfold inR;omega)
   have hab:=lR hd x hx;rw [hsb];obtain ⟨a,b,c,d,e,f,rfl⟩:=len6 (hd.ud x hx);have hf:inR f:=by
    have:=(eX.1 (hd.rng _ hx));unfold inR;simp [dAb] at this hab ⊢;omega
   have hsbj:bEx dl (aB sk) (aB dc) [a,b,c,d,e,f] (vO (aB dc) [a,b,c,d,e,f]):=fun base=>bFi hd hf (.inl hx) hr.2
   have hcl:(aK (aB sk) 0).length≤1000:=by rw [vB];omega
   by_cases h0:bC (fun x=>decide (vO (aB dc) [a,b,c,d,e,f]=x)) (aK (aB sk) 0)<0
   ·rw [if_pos h0]
    exact bTe h hd hol hc (by omega) hk q1 q2 hsbj ⟨hu,by omega⟩ hcl h0
   ·rw [if_neg h0]
    have hi:=bLs (p:=fun x=>decide (vO (aB dc) [a,b,c,d,e,f]=x)) (l:=aK (aB sk) 0) (by omega)
    rw [vB] at hi
    obtain ⟨y0,y1,hy⟩:=at2 hu hi;have hrg:=bAl (dl:=dl) (num:=dN [a,b,c,d,e,f]) hd hu hs hy (by omega) (gQ (yY _ _) (by omega))
    cases hb:(jF ((aN dl (aB dc)).filter fun n => !(n == dN [a,b,c,d,e,f]))).any (aDj dl sk dc (dN [a,b,c,d,e,f]) (vO (aB dc) [a,b,c,d,e,f])) with
    | false=>exact bTf h hd hol hc (by omega) hk q1 q2 hsbj ⟨hu,by omega⟩ hcl (by omega) (hrg.1 hb)
    | true=>exact bTg h hd hol hc (by omega) hk q1 q2 hsbj ⟨hu,by omega⟩ hcl (by omega) (hrg.2 hb)
end
section

theorem aQq:((0:Int) == (0:Int))=true:=by first | decide | simp
theorem aQr:((0:Int) != (0:Int))=false:=by first | decide | simp
theorem aIc:((3:Int) != (3:Int))=false:=by first | decide | simp
theorem bSx:((15100:Int) == (15100:Int))=true:=by first | decide | simp
abbrev thD:List PV:=[(aA 1),(aA 0),(aA 0),(aA 1),(aA 300),(aA 0),(aA 2),(aA 7),(aA 10),(aA 0),(aA 0),(aA 1),(aA 3),(aA 9),(aA 40),(aA 0),(aA 0),(aA 2),(aA 4),(aA 5),(aA 50),(aA 0),(aA 0),(aA 3),(aA 5),(aA 6),(aA 60),(aA 0),(aA 100),(aA 1)]
abbrev thS:List PV:=[(aA 1),(aA 15000),(aA 2),(aA 15100),(aA 3),(aA 15200)]
abbrev mI:AV:=(.p (.agg [(aA 30),(.sl 3 thS),(.sl 2 [(aA 1),(aA 0),(aA 0),(aA 1),(aA 300),(aA 0),(aA 2),(aA 7),(aA 10),(aA 0),(aA 0),(aA 1)])]))
abbrev bFs:AV:=(.p (.agg [(aA 30),(.sl 3 thS),(.sl 3 [(aA 1),(aA 0),(aA 0),(aA 1),(aA 300),(aA 0),(aA 2),(aA 7),(aA 10),(aA 0),(aA 0),(aA 1),(aA 3),(aA 9),(aA 40),(aA 0),(aA 0),(aA 2)])]))
abbrev bFt:AV:=(.p (.agg [(aA 30),(.sl 3 thS),(.sl 4 [(aA 1),(aA 0),(aA 0),(aA 1),(aA 300),(aA 0),(aA 2),(aA 7),(aA 10),(aA 0),(aA 0),(aA 1),(aA 3),(aA 9),(aA 40),(aA 0),(aA 0),(aA 2),(aA 4),(aA 5),(aA 50),(aA 0),(aA 0),(aA 3)])]))
abbrev bFu:AV:=(.p (.agg [(aA 30),(.sl 3 thS),(.sl 5 [(aA 1),(aA 0),(aA 0),(aA 1),(aA 300),(aA 0),(aA 2),(aA 7),(aA 10),(aA 0),(aA 0),(aA 1),(aA 3),(aA 9),(aA 40),(aA 0),(aA 0),(aA 2),(aA 4),(aA 5),(aA 50),(aA 0),(aA 0),(aA 3),(aA 5),(aA 6),(aA 60),(aA 0),(aA 100),(aA 1)])]))
theorem bLi{r0c:List PV}(h0:0≤(0:Int)∧(0:Int)≤2∧(2:Int)≤5)(er0c:r0c=((thD.drop 0).take (2*(thD.length / 5)))){base:Nat}:FV Tp 88 [(pI 2)] base (.p (.agg [(aA 30),(.sl 3 [(aA 1),(aA 15000),(aA 2),(aA 15100),(aA 3),(aA 15200)]),(.sl 2 r0c)])) []:=by
 subst er0c;exact FV.frz (FMM.fin (k:=0) (g:=⟨[],[],[2,1],[]⟩) rfl Tryz.func88 rfl (o:=[.c (.p (dcE 1 0 0 1 300 0)) [],.c (.p (dcE 2 7 10 0 0 1)) [],.c (.p (dcE 3 9 40 0 0 2)) [],.c (.p (dcE 4 5 50 0 0 3)) [],.c (.p (dcE 5 6 60 0 100 1)) []]) (l:=[_,FC Tp 49 [(pI 5),(pI 6),(pI 1),(pI 60),(pI 100)] [] 1 (.p (dcE 5 6 60 0 100 1)) [],FC Tp 49 [(pI 4),(pI 5),(pI 3),(pI 50),(pI 0)] [] 1 (.p (dcE 4 5 50 0 0 3)) [],FC Tp 49 [(pI 3),(pI 9),(pI 2),(pI 40),(pI 0)] [] 1 (.p (dcE 3 9 40 0 0 2)) [],FC Tp 49 [(pI 2),(pI 7),(pI 1),(pI 10),(pI 0)] [] 1 (.p (dcE 2 7 10 0 0 1)) [],FC Tp 23 [(pI 1),(pI 1),(pI 300)] [] 1 (.p (dcE 1 0 0 1 300 0)) []]) (by kernel_rfl) (gc h0 (gc (FV.fc (iL (a:=(5:Int)) (b:=(6:Int)) (c:=(1:Int)) (d:=(60:Int)) (e:=(100:Int))) rfl) (gc (FV.fc (iL (a:=(4:Int)) (b:=(5:Int)) (c:=(3:Int)) (d:=(50:Int)) (e:=(0:Int))) rfl) (gc (FV.fc (iL (a:=(3:Int)) (b:=(9:Int)) (c:=(2:Int)) (d:=(40:Int)) (e:=(0:Int))) rfl) (gc (FV.fc (iL (a:=(2:Int)) (b:=(7:Int)) (c:=(1:Int)) (d:=(10:Int)) (e:=(0:Int))) rfl) (gc (FV.fc (aHp (a:=(1:Int)) (b:=(1:Int)) (c:=(300:Int))) rfl) gn))))))) (by kernel_rfl)
theorem bLj{r0c:List PV}(h0:0≤(0:Int)∧(0:Int)≤3∧(3:Int)≤5)(er0c:r0c=((thD.drop 0).take (3*(thD.length / 5)))){base:Nat}:FV Tp 88 [(pI 3)] base (.p (.agg [(aA 30),(.sl 3 [(aA 1),(aA 15000),(aA 2),(aA 15100),(aA 3),(aA 15200)]),(.sl 3 r0c)])) []:=by
 subst er0c;exact FV.frz (FMM.fin (k:=0) (g:=⟨[],[],[2,1],[]⟩) rfl Tryz.func88 rfl (o:=[.c (.p (dcE 1 0 0 1 300 0)) [],.c (.p (dcE 2 7 10 0 0 1)) [],.c (.p (dcE 3 9 40 0 0 2)) [],.c (.p (dcE 4 5 50 0 0 3)) [],.c (.p (dcE 5 6 60 0 100 1)) []]) (l:=[_,FC Tp 49 [(pI 5),(pI 6),(pI 1),(pI 60),(pI 100)] [] 1 (.p (dcE 5 6 60 0 100 1)) [],FC Tp 49 [(pI 4),(pI 5),(pI 3),(pI 50),(pI 0)] [] 1 (.p (dcE 4 5 50 0 0 3)) [],FC Tp 49 [(pI 3),(pI 9),(pI 2),(pI 40),(pI 0)] [] 1 (.p (dcE 3 9 40 0 0 2)) [],FC Tp 49 [(pI 2),(pI 7),(pI 1),(pI 10),(pI 0)] [] 1 (.p (dcE 2 7 10 0 0 1)) [],FC Tp 23 [(pI 1),(pI 1),(pI 300)] [] 1 (.p (dcE 1 0 0 1 300 0)) []]) (by kernel_rfl) (gc h0 (gc (FV.fc (iL (a:=(5:Int)) (b:=(6:Int)) (c:=(1:Int)) (d:=(60:Int)) (e:=(100:Int))) rfl) (gc (FV.fc (iL (a:=(4:Int)) (b:=(5:Int)) (c:=(3:Int)) (d:=(50:Int)) (e:=(0:Int))) rfl) (gc (FV.fc (iL (a:=(3:Int)) (b:=(9:Int)) (c:=(2:Int)) (d:=(40:Int)) (e:=(0:Int))) rfl) (gc (FV.fc (iL (a:=(2:Int)) (b:=(7:Int)) (c:=(1:Int)) (d:=(10:Int)) (e:=(0:Int))) rfl) (gc (FV.fc (aHp (a:=(1:Int)) (b:=(1:Int)) (c:=(300:Int))) rfl) gn))))))) (by kernel_rfl)
theorem bLk{r0c:List PV}(h0:0≤(0:Int)∧(0:Int)≤4∧(4:Int)≤5)(er0c:r0c=((thD.drop 0).take (4*(thD.length / 5)))){base:Nat}:FV Tp 88 [(pI 4)] base (.p (.agg [(aA 30),(.sl 3 [(aA 1),(aA 15000),(aA 2),(aA 15100),(aA 3),(aA 15200)]),(.sl 4 r0c)])) []:=by
 subst er0c;exact FV.frz (FMM.fin (k:=0) (g:=⟨[],[],[2,1],[]⟩) rfl Tryz.func88 rfl (o:=[.c (.p (dcE 1 0 0 1 300 0)) [],.c (.p (dcE 2 7 10 0 0 1)) [],.c (.p (dcE 3 9 40 0 0 2)) [],.c (.p (dcE 4 5 50 0 0 3)) [],.c (.p (dcE 5 6 60 0 100 1)) []]) (l:=[_,FC Tp 49 [(pI 5),(pI 6),(pI 1),(pI 60),(pI 100)] [] 1 (.p (dcE 5 6 60 0 100 1)) [],FC Tp 49 [(pI 4),(pI 5),(pI 3),(pI 50),(pI 0)] [] 1 (.p (dcE 4 5 50 0 0 3)) [],FC Tp 49 [(pI 3),(pI 9),(pI 2),(pI 40),(pI 0)] [] 1 (.p (dcE 3 9 40 0 0 2)) [],FC Tp 49 [(pI 2),(pI 7),(pI 1),(pI 10),(pI 0)] [] 1 (.p (dcE 2 7 10 0 0 1)) [],FC Tp 23 [(pI 1),(pI 1),(pI 300)] [] 1 (.p (dcE 1 0 0 1 300 0)) []]) (by kernel_rfl) (gc h0 (gc (FV.fc (iL (a:=(5:Int)) (b:=(6:Int)) (c:=(1:Int)) (d:=(60:Int)) (e:=(100:Int))) rfl) (gc (FV.fc (iL (a:=(4:Int)) (b:=(5:Int)) (c:=(3:Int)) (d:=(50:Int)) (e:=(0:Int))) rfl) (gc (FV.fc (iL (a:=(3:Int)) (b:=(9:Int)) (c:=(2:Int)) (d:=(40:Int)) (e:=(0:Int))) rfl) (gc (FV.fc (iL (a:=(2:Int)) (b:=(7:Int)) (c:=(1:Int)) (d:=(10:Int)) (e:=(0:Int))) rfl) (gc (FV.fc (aHp (a:=(1:Int)) (b:=(1:Int)) (c:=(300:Int))) rfl) gn))))))) (by kernel_rfl)
theorem bLl{r0c:List PV}(h0:0≤(0:Int)∧(0:Int)≤5∧(5:Int)≤5)(er0c:r0c=((thD.drop 0).take (5*(thD.length / 5)))){base:Nat}:FV Tp 88 [(pI 5)] base (.p (.agg [(aA 30),(.sl 3 [(aA 1),(aA 15000),(aA 2),(aA 15100),(aA 3),(aA 15200)]),(.sl 5 r0c)])) []:=by
 subst er0c;exact FV.frz (FMM.fin (k:=0) (g:=⟨[],[],[2,1],[]⟩) rfl Tryz.func88 rfl (o:=[.c (.p (dcE 1 0 0 1 300 0)) [],.c (.p (dcE 2 7 10 0 0 1)) [],.c (.p (dcE 3 9 40 0 0 2)) [],.c (.p (dcE 4 5 50 0 0 3)) [],.c (.p (dcE 5 6 60 0 100 1)) []]) (l:=[_,FC Tp 49 [(pI 5),(pI 6),(pI 1),(pI 60),(pI 100)] [] 1 (.p (dcE 5 6 60 0 100 1)) [],FC Tp 49 [(pI 4),(pI 5),(pI 3),(pI 50),(pI 0)] [] 1 (.p (dcE 4 5 50 0 0 3)) [],FC Tp 49 [(pI 3),(pI 9),(pI 2),(pI 40),(pI 0)] [] 1 (.p (dcE 3 9 40 0 0 2)) [],FC Tp 49 [(pI 2),(pI 7),(pI 1),(pI 10),(pI 0)] [] 1 (.p (dcE 2 7 10 0 0 1)) [],FC Tp 23 [(pI 1),(pI 1),(pI 300)] [] 1 (.p (dcE 1 0 0 1 300 0)) []]) (by kernel_rfl) (gc h0 (gc (FV.fc (iL (a:=(5:Int)) (b:=(6:Int)) (c:=(1:Int)) (d:=(60:Int)) (e:=(100:Int))) rfl) (gc (FV.fc (iL (a:=(4:Int)) (b:=(5:Int)) (c:=(3:Int)) (d:=(50:Int)) (e:=(0:Int))) rfl) (gc (FV.fc (iL (a:=(3:Int)) (b:=(9:Int)) (c:=(2:Int)) (d:=(40:Int)) (e:=(0:Int))) rfl) (gc (FV.fc (iL (a:=(2:Int)) (b:=(7:Int)) (c:=(1:Int)) (d:=(10:Int)) (e:=(0:Int))) rfl) (gc (FV.fc (aHp (a:=(1:Int)) (b:=(1:Int)) (c:=(300:Int))) rfl) gn))))))) (by kernel_rfl)
theorem vT{base:Nat}:FV Tp 88 [.p (aA 2)] base mI []:=bLi (by decide) rfl
theorem bLm{base:Nat}:FV Tp 88 [.p (aA 3)] base bFs []:=bLj (by decide) rfl
theorem bLn{base:Nat}:FV Tp 88 [.p (aA 4)] base bFt []:=bLk (by decide) rfl
theorem bLo{base:Nat}:FV Tp 88 [.p (aA 5)] base bFu []:=bLl (by decide) rfl
theorem bSy(h28_0:∀ base:Nat,FV Tp 28 [mI] base (.tup [(.own base),(pI 0)]) [(base,(.row 48 3 [(aA 2),(aA 1),(aA 15100),(aA 3),(aA 2),(aA 15200),(aA 1),(aA 3),(aA 15300)]))])(h21_1:∀ base:Nat,FV Tp 21 [mI,(.p (.sl 1 [(aA 2)]))] base (.tup [(.own base),(pI 0)]) [(base,(.row 48 3 [(aA 1),(aA 1),(aA 15000),(aA 2),(aA 2),(aA 15100),(aA 3),(aA 3),(aA 15200)]))])(h71_2:∀ base:Nat,FV Tp 71 [mI,(pI 1)] base (.tup [(.p (.sl 2 [(aA 1),(aA 3)])),(pB false),(pI 0)]) [])(h33_3:∀ base:Nat,FV Tp 33 [mI,(pI 2)] base (.tup [(.p (.sl 1 [(aA 2)])),(pI 0)]) [])(h51_4:∀ base:Nat,FV Tp 51 [(.p (.sl 3 [(aA 2),(aA 1),(aA 15100),(aA 3),(aA 2),(aA 15200),(aA 1),(aA 3),(aA 15300)])),(.p (.sl 3 [(aA 2),(aA 1),(aA 15100),(aA 3),(aA 2),(aA 15200),(aA 1),(aA 3),(aA 15300)]))] base (pB true) [])(h5:cX [(aA 1),(aA 1),(aA 15000)] [(0,3,true),(1,3,true),(2,3,true)]=true∧cX [(aA 1),(aA 1),(aA 15000)] [(0,3,true),(1,3,true),(2,3,true)]=true)(h6:(jN [(aA 1),(aA 1),(aA 15000)] [(aA 1),(aA 1),(aA 15000)] [(0,3,true),(1,3,true),(2,3,true)])=true)(h41_7:∀ base:Nat,FV Tp 41 [(.p (.sl 2 [(aA 1),(aA 3)])),(.p (.sl 2 [(aA 1),(aA 3)]))] base (pB true) [])(h41_8:∀ base:Nat,FV Tp 41 [(.p (.sl 1 [(aA 2)])),(.p (.sl 1 [(aA 2)]))] base (pB true) [])(h19_9:∀ base:Nat,FV Tp 19 [bFs] base (.tup [(.p (.sl 0 [])),(pI 0)]) [])(h19_10:∀ base:Nat,FV Tp 19 [bFt] base (.tup [(.p (.sl 1 [(aA 2)])),(pI 0)]) [])(h61_11:∀ base:Nat,FV Tp 61 [bFu,(pI 1)] base (.tup [(pI 15100),(pB false),(pI 0)]) [])(h58_12:∀ base:Nat,FV Tp 58 [mI,(pI 2)] base (.tup [(pB true),(pI 0)]) []){base:Nat}:FV Tp 26 [] base (pB true) []:=by
 exact FV.fin Tryz.func26 rfl (o:=[.c mI [],.c (.tup [(.own 0),(pI 0)]) [(0,(.row 48 3 [(aA 2),(aA 1),(aA 15100),(aA 3),(aA 2),(aA 15200),(aA 1),(aA 3),(aA 15300)]))],.c mI [],.c (.tup [(.own 2),(pI 0)]) [(1,.dead),(2,(.row 48 3 [(aA 1),(aA 1),(aA 15000),(aA 2),(aA 2),(aA 15100),(aA 3),(aA 3),(aA 15200)]))],.c mI [],.c (.tup [(.p (.sl 2 [(aA 1),(aA 3)])),(pB false),(pI 0)]) [],.c mI [],.c (.tup [(.p (.sl 1 [(aA 2)])),(pI 0)]) [],bF,bF,bF,bF,bF,bF,bF,bF,bF,bF,bF,bF,bF,bF,bF,.c (pB true) [],bF,bF,bF,bF,bF,bF,bF,bF,bF,.x (.agg [(aA 1),(aA 1),(aA 15000)]),bF,bF,bF,bF,bF,bF,.c (pB true) [],bF,bF,bF,bF,bF,.c (pB true) [],bF,bF,bF,.c bFs [],.c (.tup [(.p (.sl 0 [])),(pI 0)]) [],.c bFt [],.c (.tup [(.p (.sl 1 [(aA 2)])),(pI 0)]) [],.c bFu [],.c (.tup [(pI 15100),(pB false),(pI 0)]) [],.c mI [],.c (.tup [(pB true),(pI 0)]) [],bT,bT,bT,bT,bT,bT,bT,bT,bT,bT,bT,bT,bT,bT,bT,bT,.c (pB true) [],bT,bT,bT,bT,bT,bT]) (l:=[_,_,true=true,true=true,true=true,_,FC Tp 41 [(.p (.sl 1 [(aA 2)])),(.own 6)] [(6,(.row 3 1 [(aA 2)]))] 7 (pB true) [],_,_,_,_,_,_,_,_,_,_,_,_,_,_,_,_,FC Tp 58 [mI,(pI 2)] [] 6 (.tup [(pB true),(pI 0)]) [],FC Tp 88 [(pI 2)] [] 6 mI [],FC Tp 61 [bFu,(pI 1)] [] 6 (.tup [(pI 15100),(pB false),(pI 0)]) [],FC Tp 88 [(pI 5)] [] 6 bFu [],FC Tp 19 [bFt] [] 6 (.tup [(.p (.sl 1 [(aA 2)])),(pI 0)]) [],FC Tp 88 [(pI 4)] [] 6 bFt [],FC Tp 19 [bFs] [] 6 (.tup [(.p (.sl 0 [])),(pI 0)]) [],FC Tp 88 [(pI 3)] [] 6 bFs [],false=false,false=false,false=false,FC Tp 41 [(.p (.sl 1 [(aA 2)])),(.own 5)] [(5,(.row 3 1 [(aA 2)]))] 6 (pB true) [],false=false,false=false,false=false,_,_,FC Tp 41 [(.p (.sl 2 [(aA 1),(aA 3)])),(.own 4)] [(4,(.row 3 2 [(aA 1),(aA 3)]))] 5 (pB true) [],_,_,_,_,_,_,_,some (.agg (([(aA 1),(aA 1),(aA 15000),(aA 2),(aA 2),(aA 15100),(aA 3),(aA 3),(aA 15200)].drop 0).take 3):PV)=some (.agg [(aA 1),(aA 1),(aA 15000)]),0+3≤[(aA 1),(aA 1),(aA 15000),(aA 2),(aA 2),(aA 15100),(aA 3),(aA 3),(aA 15200)].length,_,0≤(0:Int)∧(0:Int)<3,_,_,false=false,false=false,false=false,false=false,_,_,FC Tp 51 [(.own 0),(.own 3)] [(0,(.row 48 3 [(aA 2),(aA 1),(aA 15100),(aA 3),(aA 2),(aA 15200),(aA 1),(aA 3),(aA 15300)])),(3,(.row 48 3 [(aA 2),(aA 1),(aA 15100),(aA 3),(aA 2),(aA 15200),(aA 1),(aA 3),(aA 15300)]))] 4 (pB true) [],_,_,_,_,_,_,_,_,_,_,_,_,_,_,_,FC Tp 33 [mI,(pI 2)] [] 3 (.tup [(.p (.sl 1 [(aA 2)])),(pI 0)]) [],FC Tp 88 [(pI 2)] [] 3 mI [],FC Tp 71 [mI,(pI 1)] [] 3 (.tup [(.p (.sl 2 [(aA 1),(aA 3)])),(pB false),(pI 0)]) [],FC Tp 88 [(pI 2)] [] 3 mI [],FC Tp 21 [mI,(.own 1)] [(1,(.row 3 1 [(aA 2)]))] 2 (.tup [(.own 2),(pI 0)]) [(1,.dead),(2,(.row 48 3 [(aA 1),(aA 1),(aA 15000),(aA 2),(aA 2),(aA 15100),(aA 3),(aA 3),(aA 15200)]))],FC Tp 88 [(pI 2)] [] 1 mI [],FC Tp 28 [mI] [] 0 (.tup [(.own 0),(pI 0)]) [(0,(.row 48 3 [(aA 2),(aA 1),(aA 15100),(aA 3),(aA 2),(aA 15200),(aA 1),(aA 3),(aA 15300)]))],FC Tp 88 [(pI 2)] [] 0 mI []]) (by kernel_rfl) (g2c bSx (gc rfl (gc rfl (gc rfl (gc aQq (gc (fv (h41_8 _)) (g8c aQq (g8c aQq (gc (FV.fc (h58_12 _) rfl) (gc (FV.fc vT (by kernel_rfl)) (gc (FV.fc (h61_11 _) rfl) (gc (FV.fc bLo (by kernel_rfl)) (gc (FV.fc (h19_10 _) rfl) (gc (FV.fc bLn (by kernel_rfl)) (gc (FV.fc (h19_9 _) rfl) (gc (FV.fc bLm (by kernel_rfl)) (gc rfl (gc rfl (gc rfl (gc (fv (h41_8 _)) (gc rfl (gc rfl (gc rfl (g2c (aW h6) (gc (fv (h41_7 _)) (g3c (aW h6) (gc aIc (gc h5 (g2c aIc (gc rfl (gc (by first | decide | simp) (gc aIc (gc (by first | decide | simp) (g2c aIc (gc rfl (gc rfl (gc rfl (gc rfl (g2c aQr (gc (fv (h51_4 _)) (g8c aQr (g7c aQr (gc (FV.fc (h33_3 _) rfl) (gc (FV.fc vT (by kernel_rfl)) (gc (FV.fc (h71_2 _) rfl) (gc (FV.fc vT (by kernel_rfl)) (gc (FV.close (ids:=[1]) (args':=[mI,(.p (.sl 1 [(aA 2)]))]) (h21_1 _) (by kernel_rfl)) (gc (FV.fc vT (by kernel_rfl)) (gc (FV.fc (h28_0 _) rfl) (gc (FV.fc vT (by kernel_rfl)) gn))))))))))))))))))))))))))))))))))))))))))))))))))
end
section
abbrev sB(s:List Int):Int:=s.getD 0 0
abbrev sT(s:List Int):Int:=s.getD 1 0
def dG(dl:Int)(oc:List Int)(dc sk:Lqq):Lqq:=(sk.filter fun s => !(cF dl oc dc (sB s) (sT s)).2).map fun s=>[sB s,0,(cF dl oc dc (sB s) (sT s)).1]
def fL(dl:Int)(oc:List Int)(dc sk:Lqq):Lqq:=(sk.filter fun s=>(cF dl oc dc (sB s) (sT s)).2).map fun s=>[sB s,-1,0]
def plN(A:Lqq)(t:Int):Int:=match A.getLast? with
 | some y=>if y.getD 2 0=t then y.getD 1 0 else (A.length:Int)+1
 | none=>(A.length:Int)+1
def plS(A:Lqq)(x:List Int):Lqq:=A++[[x.getD 0 0,plN A (x.getD 2 0),x.getD 2 0]]
def dY(l:Lqq):Lqq:=l.foldl plS []
def bX(dl:Int)(oc:List Int)(dc sk:Lqq):Lqq:=dY (isort (ltK 2) (dG dl oc dc sk))++fL dl oc dc sk

theorem bLu(A D:List PV)(a b c v:PV):(A++[a,b,c]++D).set (A.length+1) v=A++[a,v,c]++D:=by
 induction A with
 | nil=>rfl
 | cons x A ih=>simp
theorem zO{L:Lqq}{j:Nat}{a b c:Int}(hu:uni 3 L)(hj:L[j]? = some [a,b,c])(v:Int):(L.flatten.map aA).set (j*3+1) (aA v)=((L.set j [a,v,c]).flatten.map aA):=by
 obtain ⟨hlt,he⟩:=kQ2.1 hj;have h0:=uZ (k:=3) (i:=j) (x:=[a,b,c]) hu hlt rfl;have h1:=uZ (k:=3) (i:=j) (x:=[a,v,c]) hu hlt rfl;have hs:L.set j [a,b,c]=L:=by rw [← he];exact List.set_getElem_self hlt
 rw [hs] at h0
 rw [← h1];have hl:((L.flatten.map aA).take (j*3)).length=j*3:=by
  have:=bD hu hj;rw [lW];omega
 have:=bLu ((L.flatten.map aA).take (j*3)) ((L.flatten.map aA).drop (j*3+3)) (aA a) (aA b) (aA c) (aA v);rw [hl] at this
 conv=>lhs;rw [← h0]
 exact this
theorem bLv(A:Lqq)(x:List Int):(plS A x).length=A.length+1:=by simp [plS]
theorem aTb(l:Lqq):∀ A:Lqq,(l.foldl plS A).length=A.length+l.length:=by
 induction l with
 | nil=>intro A;simp
 | cons x l ih=>intro A;rw [oT,ih,bLv];simp;omega
theorem aIg(l:Lqq):∀ A:Lqq,uni 3 A→uni 3 (l.foldl plS A):=by
 induction l with
 | nil=>intro A h;exact h
 | cons x l ih =>
  intro A h;rw [oT];refine ih _ fun y hy => ?_
  unfold plS at hy
  rcases jR.1 hy with hy | hy
  ·exact h y hy
  ·rw [List.mem_singleton.1 hy];rfl
section
variable {dl:Int} {sk dc:Lqq} {oc:List Int} {ov:PV}
theorem aQv(l:Lqq)(hu:uni 3 l)(hl:l.length<1000)(p q:Lqq)(hp:(isort (ltK 2) p).length=l.length)(t:Lqb) :
  aI Tp 7 (sub (cd Tryz.f86) [1,1,1,1,0,1,0,0]) (fA dl sk dc ov p q t l.length (l.flatten.map aA) 0) (.exit 2) (fA dl sk dc ov p q t (dY l).length ((dY l).flatten.map aA) l.length):=by
 let St (j:Nat):Lqq:=(l.take j).foldl plS []++l.drop j
 have hlen:∀ j,j≤l.length→((l.take j).foldl plS []).length=j:=fun j hj=>by rw [aTb];simp;omega
 have hlS:∀ j,j≤l.length→(St j).length=l.length:=fun j hj=>by
  show (_++_:Lqq).length=_;rw [mG,hlen j hj,bCm];omega
 have huS:∀ j,uni 3 (St j):=fun j y hy=>by
  rcases jR.1 hy with hy | hy
  ·exact aIg _ [] (fun z hz=>by cases hz) y hy
  ·exact hu y (List.mem_of_mem_drop hy)
 have:=aI.count (P:=Tp) (k:=7) (b:=sub (cd Tryz.f86) [1,1,1,1,0,1,0,0]) (e := .exit 2) (R:=fA dl sk dc ov p q t (dY l).length ((dY l).flatten.map aA) l.length) l.length
  (fun j=>fA dl sk dc ov p q t (St j).length ((St j).flatten.map aA) j)
  (fun j hj=>by
   have hx:=hu _ (gO hj);obtain ⟨a,b,c,hx⟩:=len3 hx;have hA:=hlen j (by omega)
   have e1:(l.take (j+1)).foldl plS []=plS ((l.take j).foldl plS []) [a,b,c]:=by
    rw [List.take_add_one,kQ0 hj,hx];rw [aGp];rfl
   have hdr:l.drop j=[a,b,c]::l.drop (j+1):=by rw [aNs hj,hx]
   have g1:(St j)[j]? = some [a,b,c]:=by
    show ((l.take j).foldl plS []++l.drop j)[j]? = _;rw [tD (by omega),hA,aKh,hdr];rfl
   have hset:∀ v,(St j).set j [a,v,c]=(l.take j).foldl plS []++[a,v,c]::l.drop (j+1):=fun v=>by
    show ((l.take j).foldl plS []++l.drop j).set j [a,v,c]=_;rw [List.set_append_right _ _ (by omega),hA,aKh,hdr];rfl
   have hnext:St (j+1)=(St j).set j [a,plN ((l.take j).foldl plS []) c,c]:=by
    rw [hset];show (l.take (j+1)).foldl plS []++l.drop (j+1)=_;rw [e1];unfold plS;rw [List.append_assoc];rfl
   have hle:=bD (huS j) g1;have hpl:(j:Int)<((isort (ltK 2) p).length:Int):=by rw [hp];omega
   rw [hnext]
   rcases Nat.eq_zero_or_pos j with h0 | hpos
   ·have hn:plN ((l.take j).foldl plS []) c=(j:Int)+1:=by
     subst h0;rfl
    rw [hn];exact bAd (L:=St j) (L':=(St j).set j [a,((j+1:Nat):Int),c]) (by exact_mod_cast hpl) (aP (by omega)) g1 (by omega) (by omega) (by simp) (zO (huS j) g1 _).symm rfl
   ·have g2:∃ y0 y1 y2,((l.take j).foldl plS []).getLast? = some [y0,y1,y2]∧(St j)[((j:Int)-1).toNat]? = some [y0,y1,y2]:=by
     have hlt:j-1<((l.take j).foldl plS []).length:=by omega
     have h3:=aIg (l.take j) [] (fun z hz=>by cases hz) _ (gO hlt)
     obtain ⟨y0,y1,y2,hy⟩:=len3 h3;refine ⟨y0,y1,y2,?_,?_⟩
     ·rw [List.getLast?_eq_getElem?,hA,kQ0 hlt,hy]
     ·show ((l.take j).foldl plS []++l.drop j)[((j:Int)-1).toNat]? = _
      rw [show ((j:Int)-1).toNat=j-1 by omega,tE hlt,kQ0 hlt,hy]
    obtain ⟨y0,y1,y2,g3,g4⟩:=g2
    by_cases hc:c=y2
    ·have hn:plN ((l.take j).foldl plS []) c=y1:=by
      unfold plN;rw [g3];show (if y2=c then y1 else _)=y1
      rw [if_pos hc.symm]
     rw [hn];have hu1:uni 3 ((St j).set j [a,((j+1:Nat):Int),c]):=aRs (huS j) rfl;have g5:((St j).set j [a,((j+1:Nat):Int),c])[j]? = some [a,((j+1:Nat):Int),c]:=by
      rw [bCk (by rw [hlS j (by omega)];omega)]
     refine bAb (L:=St j) (L':=(St j).set j [a,y1,c]) (by exact_mod_cast hpl) (aP (by omega)) g1 (by omega) (by omega) (huS j) (by unfold inR;omega) g4 (by omega) hc (by rw [qP];omega) (by simp) ?_ rfl
     rw [zO (huS j) g1,zO hu1 g5,List.set_set]
    ·have hn:plN ((l.take j).foldl plS []) c=(j:Int)+1:=by
      unfold plN;rw [g3];show (if y2=c then y1 else _)=_
      rw [if_neg (fun h=>hc h.symm),hA]
     rw [hn];exact bAc (L:=St j) (L':=(St j).set j [a,((j+1:Nat):Int),c]) (by exact_mod_cast hpl) (aP (by omega)) g1 (by omega) (by omega) (huS j) (by unfold inR;omega) g4 (by omega) hc (by simp) (zO (huS j) g1 _).symm rfl)
  (by
   have e:St l.length=dY l:=by
    show (l.take l.length).foldl plS []++l.drop l.length=_;rw [List.take_length,List.drop_length,List.append_nil];rfl
   rw [e];exact bAe (by rw [hp];omega)) (by simp)
 exact this
theorem xN:(dG dl oc dc sk).length≤sk.length:=by
 unfold dG;rw [kQ6];exact yY _ _
theorem aCo:(fL dl oc dc sk).length≤sk.length:=by
 unfold fL;rw [kQ6];exact yY _ _
theorem aFm:uni 3 (dG dl oc dc sk):=fun y hy=>by
 obtain ⟨s,_,rfl⟩:=dQ.1 hy;rfl
theorem aCp:uni 3 (fL dl oc dc sk):=fun y hy=>by
 obtain ⟨s,_,rfl⟩:=dQ.1 hy;rfl
theorem pL(f:Nat)(l:Lqq):(isort (ltK f) l).length=l.length:=vR _ _
theorem bAt{k f:Nat}{l:Lqq}(h:uni k l):uni k (isort (ltK f) l):=fun y hy=>h y ((rU _ _ y).1 hy)
theorem aCq(l:Lqq):(dY l).length=l.length:=by unfold dY;rw [aTb];simp
theorem aQw(l:Lqq):uni 3 (dY l):=aIg l [] fun z hz=>by cases hz
theorem mE:uni 3 (bX dl oc dc sk):=fun y hy=>by
 rcases jR.1 hy with hy | hy
 ·exact aQw _ y hy
 ·exact aCp y hy
theorem aLx{α:Type}(p:α→Bool):∀ l:List α,(l.filter fun x => !p x).length+(l.filter p).length=l.length
 | []=>rfl
 | x::l=>by
  have:=aLx p l;cases h:p x <;> simp [h] <;> omega
theorem vV:(bX dl oc dc sk).length=sk.length:=by
 unfold bX dG fL;rw [mG,aCq,pL,kQ6,kQ6];exact aLx _ sk
theorem bUh(hd:cA dc)(hov:∀ n,rW ov n (oc.contains n))(hs:uni 2 sk)(hb:∀ x∈sk,skB x=true)(hl:sk.length<20){T:Lqb}(hT:cP dl oc dc T):∃ T',cP dl oc dc T'∧bSb dl sk dc ov (bX dl oc dc sk) T T':=by
 obtain ⟨acc,⟨h1,h2,h3⟩,h4⟩:=aI.ex (P:=Tp) (k:=7) (b:=sub (cd Tryz.f86) [1,1,0,1,0,0]) (e := .exit 0) (fun i (a:(Lqq × Lqq) × Lqb)=>iY dl sk dc ov a.1.1.length (a.1.1.flatten.map aA) a.1.2.length (a.1.2.flatten.map aA) i (aF a.2) a.2.length)
  (fun a=>iY dl sk dc ov a.1.1.length (a.1.1.flatten.map aA) a.1.2.length (a.1.2.flatten.map aA) sk.length (aF a.2) a.2.length)
  (fun i a=>cP dl oc dc a.2∧a.1.1=dG dl oc dc (sk.take i)∧a.1.2=fL dl oc dc (sk.take i)) (by simp) sk.length
  (fun i acc hi hI=>by
   obtain ⟨⟨p,q⟩,T1⟩:=acc;obtain ⟨h1,h2,h3⟩:=hI;dsimp only at h1 h2 h3
   have hm:=gO hi;obtain ⟨a,b,hy⟩:=len2 (hs _ hm);have hx:sk[i]? = some [a,b]:=by rw [kQ0 hi,hy]
   rw [hy] at hm
   have hr : -1≤b∧b≤360000:=by
    have:=hb _ hm;rw [bPe,kQ8] at this
    exact cD.1 this.2
   obtain ⟨T2,q1,q2⟩:=bDe (sk:=sk) hd hov a b hr h1;have hp:p.length≤20:=by rw [h2];have:=xN (dl:=dl) (oc:=oc) (dc:=dc) (sk:=sk.take i);rw [lW] at this;omega
   have hq:q.length≤20:=by rw [h3];have:=aCo (dl:=dl) (oc:=oc) (dc:=dc) (sk:=sk.take i);rw [lW] at this;omega
   have et:sk.take (i+1)=sk.take i++[[a,b]]:=by rw [List.take_add_one,hx];rfl
   rw [et];have e1:dG dl oc dc (sk.take i++[[a,b]])=p++if (cF dl oc dc a b).2 then [] else [[a,0,(cF dl oc dc a b).1]]:=by
    rw [h2];unfold dG;rw [uY,iE]
    congr 1
    show (List.filter _ [[a,b]]).map _=_;cases hq:(cF dl oc dc a b).2 <;> simp [hq]
   have e2:fL dl oc dc (sk.take i++[[a,b]])=q++if (cF dl oc dc a b).2 then [[a,-1,0]] else []:=by
    rw [h3];unfold fL;rw [uY,iE]
    congr 1
    show (List.filter _ [[a,b]]).map _=_;cases hq:(cF dl oc dc a b).2 <;> simp [hq]
   rw [e1,e2];cases hc:(cF dl oc dc a b).2 with
   | true =>
    rw [hc] at q2
    exact ⟨((p,q++[[a,-1,0]]),T2),⟨q1,by simp,by simp⟩,aZy (q:=q) (q':=q++[[a,-1,0]]) (by omega) hx hs q2 rfl ⟨rfl,by omega⟩ (aP (by omega)) (by simp) (by simp) rfl rfl rfl⟩
   | false =>
    rw [hc] at q2
    exact ⟨((p++[[a,0,(cF dl oc dc a b).1]],q),T2),⟨q1,by simp,by simp⟩,aZz (p:=p) (p':=p++[[a,0,(cF dl oc dc a b).1]]) (by omega) hx hs q2 rfl ⟨rfl,by omega⟩ (aP (by omega)) (by simp) (by simp) rfl rfl rfl⟩)
  (fun acc hI=>bAa (by omega)) (acc:=(([],[]),T)) ⟨hT,by simp [dG],by simp [fL]⟩
 obtain ⟨⟨p,q⟩,T1⟩:=acc;dsimp only at h1 h2 h3 h4
 rw [List.take_length] at h2 h3
 subst h2 h3;have hp:=xN (dl:=dl) (oc:=oc) (dc:=dc) (sk:=sk);have hq:=aCo (dl:=dl) (oc:=oc) (dc:=dc) (sk:=sk);have hP:=aQv (dl:=dl) (sk:=sk) (dc:=dc) (ov:=ov) (isort (ltK 2) (dG dl oc dc sk)) (bAt aFm) (by rw [pL];omega) (dG dl oc dc sk) (fL dl oc dc sk) rfl T1
 refine ⟨T1,h1,bSc (r0n:=(bX dl oc dc sk).length) (r0c:=(bX dl oc dc sk).flatten.map aA) h4 aFm (by omega) hP ⟨qQ aCp,by rw [aCq,pL];omega⟩ ?_ ?_⟩
 ·unfold bX;rw [mG]
 ·unfold bX;rw [aNv,iE]
end
theorem aTc{dl:Int}{sk dc:Lqq}(h:cN dl sk dc):∀ x∈aB sk,skB x=true:=fun x hx=>h.hsk x ((eE sk).mem_iff.1 hx)
theorem tW{dl:Int}{sk dc:Lqq}(h:cN dl sk dc)(hl:sk.length<20){base:Nat}:FV Tp 28 [.p (.agg (dH dl sk dc))] base (.tup [.own base,.p (aA 0)]) [(base,.row 48 (bX dl [] (aB dc) (aB sk)).length ((bX dl [] (aB dc) (aB sk)).flatten.map aA))]:=by
 obtain ⟨T',h1,h2⟩:=bUh (dl:=dl) (sk:=aB sk) (jU h) aHf (lQ h.us) (aTc h) (by rw [eP];exact hl) cP.nil
 exact bSd h h2
theorem aFn{dl:Int}{dc:Lqq}(hd:cA dc):(aN dl dc).length≤1000:=by
 unfold aN;rw [kQ6];have:=yY (lD dl dc) dc;have:=hd.len;omega
def vW(u:List Int):Bool:=(List.range u.length).all fun i=>i == 0 || decide (u.getD (i-1) 0<u.getD i 0)
theorem bFz{dl:Int}{sk dc:Lqq}(u:List Int)(hl:u.length≤1000):(vW u=true∧∃ i,aI Tp 0 (sub (cd Tryz.f21) [1,1,1,1,1,0,1,0,0]) (hZ dl sk dc u 1) (.exit 0) (hZ dl sk dc u i)) ∨
  (vW u=false∧∃ i,aI Tp 0 (sub (cd Tryz.f21) [1,1,1,1,1,0,1,0,0]) (hZ dl sk dc u 1) .ret (cE (hZ dl sk dc u i) [(4,.p cJ),(5,.p (aA 4))])):=by
 rcases Nat.lt_or_ge u.length 2 with h2 | h2
 ·refine .inl ⟨?_,1,.exit (aFf (by omega)) (by simp)⟩
  unfold vW;rw [iD];intro i hi;have:=wO.1 hi;have:i=0:=by omega
  subst this;rfl
 ·have hget:∀ i,i<u.length→u[i]? = some (u.getD i 0):=fun i hi=>by rw [kQ4,kQ0 hi];rfl
  have key:∀ d i,i+d=u.length→1≤i→(∀ j,j<i→(j == 0 || decide (u.getD (j-1) 0<u.getD j 0))=true) →
   (vW u=true∧∃ k,aI Tp 0 (sub (cd Tryz.f21) [1,1,1,1,1,0,1,0,0]) (hZ dl sk dc u (i:Int)) (.exit 0) (hZ dl sk dc u k)) ∨
   (vW u=false∧∃ k,aI Tp 0 (sub (cd Tryz.f21) [1,1,1,1,1,0,1,0,0]) (hZ dl sk dc u (i:Int)) .ret (cE (hZ dl sk dc u k) [(4,.p cJ),(5,.p (aA 4))])):=by
   intro d
   induction d with
   | zero =>
    intro i hi h1 hj;refine .inl ⟨?_,_,.exit (aFf (by omega)) (by simp)⟩
    unfold vW;rw [iD];intro j hjr;exact hj j (by have:=wO.1 hjr;omega)
   | succ d ih =>
    intro i hi h1 hj;have g1:u[((i:Nat):Int).toNat]? = some (u.getD i 0):=by rw [bGw];exact hget i (by omega)
    have g2:u[((i:Int)-1).toNat]? = some (u.getD (i-1) 0):=by rw [show ((i:Int)-1).toNat=i-1 by omega];exact hget (i-1) (by omega)
    by_cases hc:u.getD (i-1) 0<u.getD i 0
    ·have hst:=bAg (dl:=dl) (sk:=sk) (dc:=dc) (i:=(i:Int)) (i':=((i+1:Nat):Int)) (by omega) g1 (by omega) (by unfold inR;omega) g2 (by omega) hc (by unfold inR;omega) (by omega)
     rcases ih (i+1) (by omega) (by omega) (fun j hj2=>by
      rcases Nat.lt_or_ge j i with h3 | h3
      ·exact hj j h3
      ·obtain rfl:j=i:=by omega
       rw [decide_eq_true hc,Bool.or_true]) with ⟨q1,k,q2⟩ | ⟨q1,k,q2⟩
     ·exact .inl ⟨q1,k,.step hst q2⟩
     ·exact .inr ⟨q1,k,.step hst q2⟩
    ·refine .inr ⟨?_,_,.exit (bAf (i:=(i:Int)) (by omega) g1 (by omega) (by unfold inR;omega) g2 (by omega) (by omega)) (by simp)⟩
     cases hr:vW u with
     | false=>rfl
     | true =>
      unfold vW at hr
      have:=iD.1 hr i (wO.2 (by omega))
      rw [show (i == 0)=false by simp;omega,Bool.false_or] at this
      exact absurd (of_decide_eq_true this) hc
  have:=key (u.length-1) 1 (by omega) (by omega) (fun j hj=>by
   have:j=0:=by omega
   subst this;rfl)
  exact this
def bUi(dl:Int)(dc:Lqq)(u:List Int):Int:=if u.all (ocB (aN dl dc)) then (if vW u then 0 else 4) else 1
theorem bTh{dl:Int}{sk dc:Lqq}(h:cN dl sk dc)(hl:sk.length<20)(u:List Int)(hu:u.length≤1000)(he:bUi dl (aB dc) u=0){base:Nat}:FV Tp 21 [.p (.agg (dH dl sk dc)),.p (aG u)] base (.tup [.own base,.p (aA 0)]) [(base,.row 48 (bX dl u (aB dc) (aB sk)).length ((bX dl u (aB dc) (aB sk)).flatten.map aA))]:=by
 have hd:=jU h;unfold bUi at he
 cases ha:u.all (ocB (aN dl (aB dc))) with
 | false=>rw [ha] at he;simp at he
 | true =>
  rw [ha,if_pos rfl] at he
  rcases bFz (dl:=dl) (sk:=sk) (dc:=dc) u hu with ⟨q1,i,q2⟩ | ⟨q1,i,q2⟩
  ·obtain ⟨T',h1,h2⟩:=bUh (dl:=dl) (sk:=aB sk) hd (aBs hu) (lQ h.us) (aTc h) (by rw [eP];exact hl) cP.nil
   exact bSi h hd hu (fun _ _=>aFn hd) ha q2 h2
  ·rw [q1] at he;simp at he
end
end KV
end Go.Proofs
section
namespace Go.Proofs
namespace KL
def aQp(x:Int):List Int→List Int
 | []=>[x]
 | y::r=>if x≤y then x::y::r else y::aQp x r
def sortI:List Int→List Int
 | []=>[]
 | x::r=>aQp x (sortI r)
theorem xL(x:Int):∀ l,(aQp x l).Perm (x::l)
 | [] => .refl _
 | y::r=>by
  unfold aQp
  split
  ·exact .refl _
  ·exact ((xL x r).cons y).trans (List.Perm.swap x y r)
theorem aCi:∀ l,(sortI l).Perm l
 | [] => .refl _
 | x::r=>(xL x _).trans ((aCi r).cons x)
theorem yS(x:Int):∀ l,l.Pairwise (· ≤ ·)→(aQp x l).Pairwise (· ≤ ·)
 | [],_=>by simp [aQp]
 | y::r,h=>by
  obtain ⟨h1,h2⟩:=List.pairwise_cons.1 h;unfold aQp
  split
  ·rename_i hx
   exact List.pairwise_cons.2 ⟨fun z hz=>by
    rcases List.mem_cons.1 hz with rfl | hz
    ·exact hx
    ·have:=h1 z hz;omega,h⟩
  ·rename_i hx
   refine List.pairwise_cons.2 ⟨fun z hz => ?_,yS x r h2⟩
   rcases List.mem_cons.1 ((xL x r).mem_iff.1 hz) with rfl | hz
   ·omega
   ·exact h1 z hz
theorem vS:∀ l,(sortI l).Pairwise (· ≤ ·)
 | [] => .nil
 | x::r=>yS x _ (vS r)
theorem aFl:∀ (a b:List Int),a.Perm b→a.Pairwise (· ≤ ·)→b.Pairwise (· ≤ ·)→a=b
 | [],b,h,_,_=>(List.nil_perm.1 h).symm
 | x::r,[],h,_,_=>absurd h.length_eq (by simp)
 | x::r,y::t,h,ha,hb=>by
  obtain ⟨h1,h2⟩:=List.pairwise_cons.1 ha;obtain ⟨h3,h4⟩:=List.pairwise_cons.1 hb;have e:x=y:=by
   have m1:x∈y::t:=h.mem_iff.1 (List.mem_cons_self ..);have m2:y∈x::r:=h.mem_iff.2 (List.mem_cons_self ..)
   rcases List.mem_cons.1 m1 with e | m1
   ·exact e
   ·rcases List.mem_cons.1 m2 with e | m2
    ·exact e.symm
    ·have:=h1 y m2;have:=h3 x m1;omega
  subst e;rw [aFl r t (List.Perm.cons_inv h) h2 h4]
theorem mergeSort_eq(l:List Int):l.mergeSort leB=sortI l:=by
 refine aFl _ _ ((List.mergeSort_perm _ _).trans (aCi l).symm) ?_ (vS l);have:=List.pairwise_mergeSort (le:=leB) (fun a b c h1 h2=>by simp only [leB,decide_eq_true_eq] at *;omega) (fun a b=>by simp only [leB,Bool.or_eq_true,decide_eq_true_eq];omega) l
 exact this.imp (fun h=>by simpa [leB] using h)
end KL
namespace KV
abbrev sk3:List (List Int):=[[1,15000],[2,15100],[3,15200]]
abbrev dc2:List (List Int):=[[1,0,0,1,300,0],[2,7,10,0,0,1]]
abbrev dc3:List (List Int):=[[1,0,0,1,300,0],[2,7,10,0,0,1],[3,9,40,0,0,2]]
abbrev dc4:List (List Int):=[[1,0,0,1,300,0],[2,7,10,0,0,1],[3,9,40,0,0,2],[4,5,50,0,0,3]]
abbrev dc5:List (List Int):=[[1,0,0,1,300,0],[2,7,10,0,0,1],[3,9,40,0,0,2],[4,5,50,0,0,3],[5,6,60,0,100,1]]
theorem rD{l:List (List Int)}(h:l.Pairwise fun a b=>a.getD 0 0≤b.getD 0 0):aB l=l:=List.mergeSort_of_pairwise (h.imp fun h=>decide_eq_true h)
theorem aDi:aB sk3=sk3:=rD (by decide)
theorem srt2:aB dc2=dc2:=rD (by decide)
theorem srt3:aB dc3=dc3:=rD (by decide)
theorem srt4:aB dc4=dc4:=rD (by decide)
theorem srt5:aB dc5=dc5:=rD (by decide)
theorem rec2:cN 30 sk3 dc2:=⟨by unfold uni;decide,by unfold uni;decide,by decide,by decide,by decide,by decide,by decide,by decide,by decide,by decide,by decide⟩
theorem rec3:cN 30 sk3 dc3:=⟨by unfold uni;decide,by unfold uni;decide,by decide,by decide,by decide,by decide,by decide,by decide,by decide,by decide,by decide⟩
theorem rec4:cN 30 sk3 dc4:=⟨by unfold uni;decide,by unfold uni;decide,by decide,by decide,by decide,by decide,by decide,by decide,by decide,by decide,by decide⟩
theorem rec5:cN 30 sk3 dc5:=⟨by unfold uni;decide,by unfold uni;decide,by decide,by decide,by decide,by decide,by decide,by decide,by decide,by decide,by decide⟩
def bLh(al:List fM)(s:Nat)(c:List cL):List Int:=Lib.compact (KL.sortI (c.flatMap (chL al s)))
theorem aSy(al:List fM)(s:Nat)(c:List cL):lL al s c=bLh al s c:=by unfold lL bLh;rw [KL.mergeSort_eq]
def bFp(dl:Int)(sk dc:List (List Int))(f:Int)(i:Nat):Bool:=match (bI dl sk dc)[i]? with
 | some h=>aHq (bLh (bI dl sk dc) i h.1) (h.1.any fun x=>x.2.1) (h.1.any fun x => !x.2.1) f
 | none=>false
theorem bFq(dl:Int)(sk dc:List (List Int))(f:Int):yP dl sk dc f=bFp dl sk dc f:=by
 funext i
 unfold yP bFp
 split
 ·rename_i h e
  first | rw [e] | skip
  simp only [aSy]
 ·rename_i e
  first | rw [e] | rfl
theorem h28(base:Nat):FV Tryz.prog 28 [.p (.agg (dH 30 sk3 dc2))] base (.tup [.own base,.p (aA 0)]) [(base,.row 48 3 ([[2,1,15100],[3,2,15200],[1,3,15300]].flatten.map aA))]:=by
 have:=tW rec2 (by decide) (base:=base)
 rw [aDi,srt2,show bX 30 [] dc2 sk3=[[2,1,15100],[3,2,15200],[1,3,15300]] from by decide +kernel] at this
 exact this
theorem h21(base:Nat):FV Tryz.prog 21 [.p (.agg (dH 30 sk3 dc2)),.p (aG [2])] base (.tup [.own base,.p (aA 0)]) [(base,.row 48 3 ([[1,1,15000],[2,2,15100],[3,3,15200]].flatten.map aA))]:=by
 have:=bTh rec2 (by decide) [2] (by decide) (by rw [srt2];decide +kernel) (base:=base)
 rw [aDi,srt2,show bX 30 [2] dc2 sk3=[[1,1,15000],[2,2,15100],[3,3,15200]] from by decide +kernel] at this
 exact this
theorem open2:aN 30 dc2=[2]:=by decide +kernel
theorem h71(base:Nat):FV Tryz.prog 71 [.p (.agg (dH 30 sk3 dc2)),.p (aA 1)] base (.tup [.p (aG [1,3]),.p (blP false),.p (aA 0)]) []:=by
 have:=bQy rec2 (bib:=1) (i:=0) (s0:=1) (s1:=15000) (by rw [aDi];decide +kernel) (by rw [aDi];rfl) (by rw [srt2,open2];decide) (base:=base)
 rw [aDi,srt2,aSy,show bLh (bI 30 sk3 dc2) 0 (oB 30 dc2 1 15000 (tR 30 dc2 1)).1=[1,3] from by decide +kernel,show ((oB 30 dc2 1 15000 (tR 30 dc2 1)).1.any fun x=>x.2.1)=false from by decide +kernel] at this
 exact this
theorem h33(base:Nat):FV Tryz.prog 33 [.p (.agg (dH 30 sk3 dc2)),.p (aA 2)] base (.tup [.p (aG [2]),.p (aA 0)]) []:=by
 have:=bRa rec2 (f:=2) (by decide) (by rw [srt2,open2];decide) (base:=base)
 have e:aLf 30 sk3 dc2 2=[2]:=by
  unfold aLf;rw [bFq];decide +kernel
 rw [aDi,srt2,e] at this
 exact this
theorem h19a(base:Nat):FV Tryz.prog 19 [.p (.agg (dH 30 sk3 dc3))] base (.tup [.p (aG []),.p (aA 0)]) []:=by
 have:=xG rec3 (base:=base);rw [srt3,show aN 30 dc3=[] from by decide +kernel] at this
 exact this
theorem h19b(base:Nat):FV Tryz.prog 19 [.p (.agg (dH 30 sk3 dc4))] base (.tup [.p (aG [2]),.p (aA 0)]) []:=by
 have:=xG rec4 (base:=base);rw [srt4,show aN 30 dc4=[2] from by decide +kernel] at this
 exact this
theorem h61(base:Nat):FV Tryz.prog 61 [.p (.agg (dH 30 sk3 dc5)),.p (aA 1)] base (.tup [.p (aA 15100),.p (blP false),.p (aA 0)]) []:=by
 obtain ⟨T',_,hT⟩:=bDe (dl:=30) (sk:=aB sk3) (dc:=aB dc5) (jU rec5) aHf 1 15000 (by decide) (T:=[]) cP.nil
 have:=bQq rec5 (bib:=1) (i0:=0) (s1:=1) (s2:=15000) (by rw [aDi];decide +kernel) (by rw [aDi];rfl) hT (base:=base)
 rw [srt5,show cF 30 [] dc5 1 15000=(15100,false) from by decide +kernel] at this
 exact this
theorem h58(base:Nat):FV Tryz.prog 58 [.p (.agg (dH 30 sk3 dc2)),.p (aA 2)] base (.tup [.p (blP true),.p (aA 0)]) []:=by
 have:=bSz rec2 2 (base:=base);have hB:∀ r6,aDj 30 sk3 dc2 2 r6=fun x => !(((cF 30 x dc2 ((sk3.getD (bC (fun x=>decide (r6=x)) (aK sk3 0)).toNat []).getD 0 0) ((sk3.getD (bC (fun x=>decide (r6=x)) (aK sk3 0)).toNat []).getD 1 0)).1 == (cF 30 (x++[2]) dc2 ((sk3.getD (bC (fun x=>decide (r6=x)) (aK sk3 0)).toNat []).getD 0 0) ((sk3.getD (bC (fun x=>decide (r6=x)) (aK sk3 0)).toNat []).getD 1 0)).1) && ((cF 30 x dc2 ((sk3.getD (bC (fun x=>decide (r6=x)) (aK sk3 0)).toNat []).getD 0 0) ((sk3.getD (bC (fun x=>decide (r6=x)) (aK sk3 0)).toNat []).getD 1 0)).2 == (cF 30 (x++[2]) dc2 ((sk3.getD (bC (fun x=>decide (r6=x)) (aK sk3 0)).toNat []).getD 0 0) ((sk3.getD (bC (fun x=>decide (r6=x)) (aK sk3 0)).toNat []).getD 1 0)).2)):=fun r6=>by
  funext x
  unfold aDj fK;rw [aDi,srt2]
 have e:bFw 30 sk3 dc2 2=(true,0):=by
  unfold bFw;rw [aDi,srt2,hB];decide +kernel
 rw [e] at this
 exact this
theorem bFr{base:Nat}:FV Tryz.prog 26 [] base (.p (blP true)) [] :=
 bSy h28 h21 h71 h33 (fun base=>by
  have:=bQu [[2,1,15100],[3,2,15200],[1,3,15300]] [[2,1,15100],[3,2,15200],[1,3,15300]] (by unfold uni;decide) (by unfold uni;decide) (by decide) (base:=base)
  rw [decide_eq_true rfl] at this
  exact this) ⟨rfl,rfl⟩ (by decide) (fun base=>by
  have:=bEl [1,3] [1,3] (by decide) (base:=base)
  rw [decide_eq_true rfl] at this
  exact this) (fun base=>by
  have:=bEl [2] [2] (by decide) (base:=base)
  rw [decide_eq_true rfl] at this
  exact this) h19a h19b h61 h58
end KV
end Go.Proofs
end
namespace Go.Proofs
namespace KV
section

noncomputable abbrev tH:Code:=sub (cd Tryz.f4) [1,1,1,0,1,0,0]
noncomputable abbrev tI:Code:=sub (cd Tryz.f4) [1,1,1,1,0,1,0,0]
noncomputable abbrev wP:Code:=sub (cd Tryz.f4) [1,1,1,1,1,1,1,1,1,1,1,0,1,0,0]
noncomputable abbrev aNy:Code:=sub (cd Tryz.f4) [1,1,1,1,1,1,1,1,1,1,1,1,0,1,0,0]
theorem wQ:((0:Int) != (0:Int))=false:=by first | decide | simp
theorem bMx{dl:Int}{sk dc:Lqq}(h0:uni 2 sk)(h1:sk.length≤1000)(h2:uni 6 dc)(h3:dc.length≤1000):FMM Tp 27 [(.p (.agg (dH dl sk dc)))] [] (.agg [(pI dl),(.own 0),(.own 1)]) [some (.row 31 sk.length (sk.flatten.map aA)),some (.row 44 dc.length (dc.flatten.map aA))]:=by
 exact FMM.fin (k:=0) (g:=⟨[],[2,10],[],[]⟩) rfl Tryz.func27 rfl (o:=[.c (.own 2) [(2,(.row 31 sk.length (sk.flatten.map aA)))],.c (.own 10) [(10,(.row 44 dc.length (dc.flatten.map aA)))]]) (l:=[_,_]) (by kernel_rfl) (gc (fk 10 (bNo dc h2 h3) rfl) (gc (fk 2 (bNm sk h0 h1) rfl) gn))
theorem aGu(dl:Int)(sk dc:Lqq)(h0:uni 2 sk)(h1:sk.length≤1000)(h2:uni 6 dc)(h3:dc.length≤1000):FMM Tp 27 [.p (.agg (dH dl sk dc))] [] (.agg [.p (aA dl),.own 0,.own 1]) [some (.row 31 sk.length (sk.flatten.map aA)),some (.row 44 dc.length (dc.flatten.map aA))]:=bMx h0 h1 h2 h3
def fF(bb:Int)(sk0:Lqq)(dc1:Lqq)(i:Nat)(ltn:Nat)(ltc:List PV)(nmn:Nat)(nmc:List PV):St:=⟨fr 240 [(1,(.p (.v (.int .u16 bb)))),(4,(.kb false)),(5,(.ptr 0 0)),(6,(.ptr 5 0)),(7,(.ptr 6 0)),(35,(pI (sk0.length:Int))),(36,(pI (i:Int)))],[some (.box 26 [(pI 30),(.p (fS sk0)),(.p (fS dc1))]),some (.row 31 ltn ltc),some (.row 44 dc1.length (dc1.flatten.map aA)),some (.row 31 nmn nmc),some (.row 44 dc1.length (dc1.flatten.map aA)),some (.box 26 [(pI 30),(.own 1),(.own 2)]),some (.box 26 [(pI 30),(.own 3),(.own 4)])]⟩
def fG(bb:Int)(sk0:Lqq)(dc1:Lqq)(lt'5:Lqq)(nm'6:Lqq)(j:Nat)(ndn:Nat)(ndc:List PV):St:=⟨fr 240 [(1,(.p (.v (.int .u16 bb)))),(4,(.kb false)),(5,(.ptr 0 0)),(6,(.ptr 2 0)),(7,(.ptr 3 0)),(69,(pI (dc1.length:Int))),(70,(pI (j:Int)))],[some (.box 26 [(pI 30),(.p (fS sk0)),(.p (fS dc1))]),some (.row 44 ndn ndc),some (.box 26 [(pI 30),(.p (fS lt'5)),(.p (fS dc1))]),some (.box 26 [(pI 30),(.p (fS nm'6)),(.own 1)])]⟩
def fR(bb:Int)(sk0:Lqq)(dc1:Lqq)(lt'5:Lqq)(nm'6:Lqq)(nd'8:Lqq)(k:Nat):St:=⟨fr 240 [(1,(.p (.v (.int .u16 bb)))),(13,(.p (.sl ((bX (30:Int) [] (aB dc1) (aB lt'5)).length) ((bX (30:Int) [] (aB dc1) (aB lt'5)).flatten.map aA)))),(15,(.p (.sl ((bX (30:Int) [] (aB nd'8) (aB nm'6)).length) ((bX (30:Int) [] (aB nd'8) (aB nm'6)).flatten.map aA)))),(17,(.p (aG (aN (30:Int) (aB dc1))))),(19,(.p (aG (aN (30:Int) (aB nd'8))))),(176,(.p (.sl ((bX (30:Int) [] (aB dc1) (aB sk0)).length) ((bX (30:Int) [] (aB dc1) (aB sk0)).flatten.map aA)))),(177,(pI (((bX (30:Int) [] (aB dc1) (aB sk0)).length:Nat):Int))),(178,(pI (k:Int)))],[]⟩
def oY(dc1:Lqq)(nd'8:Lqq)(m:Nat):St:=⟨fr 240 [(19,(.p (aG (aN (30:Int) (aB nd'8))))),(224,(.p (aG (aN (30:Int) (aB dc1))))),(225,(pI (((aN (30:Int) (aB dc1)).length:Nat):Int))),(226,(pI (m:Int)))],[]⟩
theorem bMy{l1:List Int}{bb:Int}{sk0 dc1:Lqq}{m2 t3:Int}{i'4:Nat}{lt'5 nm'6:Lqq}{j'7:Nat}{nd'8:Lqq}{k'9 m'10:Nat}(h0:0≤(0:Int)∧(0:Int)≤900)(h1:1≤(6:Int)∧(6:Int)≤30)(h2:0≤(14:Int)∧(14:Int)≤40)(h3:aVo (6:Int) (14:Int) l1 (0:Int) (17:Int)=(sk0,dc1,m2,t3))(h4:uni 2 sk0)(h5:sk0.length≤1000)(h6:uni 6 dc1)(h7:dc1.length≤1000)(hl8:aI Tp 0 tH (fF bb sk0 dc1 0 sk0.length (sk0.flatten.map aA) sk0.length (sk0.flatten.map aA)) (.exit 0) (fF bb sk0 dc1 i'4 lt'5.length (lt'5.flatten.map aA) nm'6.length (nm'6.flatten.map aA)))(hl9:aI Tp 0 tI (fG bb sk0 dc1 lt'5 nm'6 0 dc1.length (dc1.flatten.map aA)) (.exit 2) (fG bb sk0 dc1 lt'5 nm'6 j'7 nd'8.length (nd'8.flatten.map aA)))(h10:cN (30:Int) sk0 dc1)(h11:sk0.length<20)(h12:cN (30:Int) lt'5 dc1)(h13:lt'5.length<20)(h14:cN (30:Int) nm'6 nd'8)(h15:nm'6.length<20)(h16:(((bX (30:Int) [] (aB dc1) (aB sk0)).length:Nat):Int)=(sk0.length:Int))(h17:(((bX (30:Int) [] (aB dc1) (aB lt'5)).length:Nat):Int)=(((bX (30:Int) [] (aB dc1) (aB sk0)).length:Nat):Int))(h18:(((bX (30:Int) [] (aB nd'8) (aB nm'6)).length:Nat):Int)=(((bX (30:Int) [] (aB dc1) (aB sk0)).length:Nat):Int))(h19:(((aN (30:Int) (aB dc1)).length:Nat):Int)=(((aN (30:Int) (aB nd'8)).length:Nat):Int))(hl20:aI Tp 0 wP (fR bb sk0 dc1 lt'5 nm'6 nd'8 0) (.exit 4) (fR bb sk0 dc1 lt'5 nm'6 nd'8 k'9))(hl21:aI Tp 0 aNy (oY dc1 nd'8 0) (.exit 6) (oY dc1 nd'8 m'10))(h22:∀ {base:Nat},FV Tp 26 [] base (pB true) []){base:Nat}:FV Tp 4 [(.p (.sl l1.length (l1.map aO))),(.p (.v (.int .u16 bb)))] base (pB true) []:=by
 exact FV.fin Tryz.func4 rfl (o:=[.c (.ptr 0 0) [(0,(.box 129 [(.p (.sl l1.length (l1.map aO))),(pI 0),(.p (.v (.int .u32 (17:Int))))]))],.c (.p (.agg (dH 30 sk0 dc1))) [(0,(.box 129 [(.p (.sl l1.length (l1.map aO))),(pI m2),(.p (.v (.int .u32 t3)))]))],.c (.agg [(pI 30),(.own 2),(.own 3)]) [(2,(.row 31 sk0.length (sk0.flatten.map aA))),(3,(.row 44 dc1.length (dc1.flatten.map aA)))],.c (.agg [(pI 30),(.own 10),(.own 11)]) [(10,(.row 31 sk0.length (sk0.flatten.map aA))),(11,(.row 44 dc1.length (dc1.flatten.map aA)))],.k 4 ⟨(rng [(0,1),(2,2),(8,1),(26,9),(37,30)]),[1,2,3,10,11,18,19],[],[]⟩ (.exit 0) (fF bb sk0 dc1 i'4 lt'5.length (lt'5.flatten.map aA) nm'6.length (nm'6.flatten.map aA)),.k 4 ⟨(rng [(0,1),(2,2),(8,3),(26,43),(71,33)]),[0,4,5,6],[3,1,2],[]⟩ (.exit 2) (fG bb sk0 dc1 lt'5 nm'6 j'7 nd'8.length (nd'8.flatten.map aA)),.c (.tup [(.own 4),(pI 0)]) [(4,(.row 48 ((bX (30:Int) [] (aB dc1) (aB sk0)).length) ((bX (30:Int) [] (aB dc1) (aB sk0)).flatten.map aA)))],.c (.tup [(.own 5),(pI 0)]) [(5,(.row 48 ((bX (30:Int) [] (aB dc1) (aB lt'5)).length) ((bX (30:Int) [] (aB dc1) (aB lt'5)).flatten.map aA)))],.g 1 ⟨[],[0,2,3,4,5],[1],[]⟩,.c (.tup [(.own 5),(pI 0)]) [(5,(.row 48 ((bX (30:Int) [] (aB nd'8) (aB nm'6)).length) ((bX (30:Int) [] (aB nd'8) (aB nm'6)).flatten.map aA)))],.c (.tup [(.p (aG (aN (30:Int) (aB dc1)))),(pI 0)]) [],.c (.tup [(.p (aG (aN (30:Int) (aB nd'8)))),(pI 0)]) [],bF,bF,bF,bF,bF,bF,bF,bF,bF,bF,bF,bF,bF,bF,bF,bF,bF,bF,bF,bF,bF,bF,bF,bF,bF,bF,bF,bF,bF,bF,bF,bF,bF,bF,bF,bF,bF,bF,.k 4 ⟨(rng [(0,1),(2,11),(14,1),(16,1),(18,1),(20,4),(26,150),(179,45)]),[],[3,4,5],[]⟩ (.exit 4) (fR bb sk0 dc1 lt'5 nm'6 nd'8 k'9),.k 4 ⟨(rng [(0,19),(20,204),(227,12)]),[],[],[]⟩ (.exit 6) (oY dc1 nd'8 m'10),.c (pB true) []]) (l:=[FC Tp 26 [] [] 0 (pB true) [],_,_,_,_,_,_,_,_,_,_,_,_,_,_,_,_,_,_,_,_,_,_,_,_,_,_,_,_,_,_,_,_,_,_,_,_,_,_,_,_,_,_,_,_,_,_,_,FC Tp 27 [(.p (.agg (dH 30 sk0 dc1)))] [] 10 (.agg [(pI 30),(.own 10),(.own 11)]) [(10,(.row 31 sk0.length (sk0.flatten.map aA))),(11,(.row 44 dc1.length (dc1.flatten.map aA)))],FC Tp 27 [(.p (.agg (dH 30 sk0 dc1)))] [] 2 (.agg [(pI 30),(.own 2),(.own 3)]) [(2,(.row 31 sk0.length (sk0.flatten.map aA))),(3,(.row 44 dc1.length (dc1.flatten.map aA)))],FC Tp 16 [(.ptr 0 0),(pI 6),(pI 14)] [(0,(.box 129 [(.p (.sl l1.length (l1.map aO))),(pI 0),(.p (.v (.int .u32 (17:Int))))]))] 1 (.p (.agg (dH 30 sk0 dc1))) [(0,(.box 129 [(.p (.sl l1.length (l1.map aO))),(pI m2),(.p (.v (.int .u32 t3)))]))],FC Tp 17 [(.p (.sl l1.length (l1.map aO)))] [] 0 (.ptr 0 0) [(0,(.box 129 [(.p (.sl l1.length (l1.map aO))),(pI 0),(.p (.v (.int .u32 (17:Int))))]))]]) (by kernel_rfl) (gc (FV.fc h22 (by kernel_rfl)) (gc hl21.code (gc hl20.code (gc (gM h19) (g6c (gM h18) (g6c (gM h17) (g6c (gM h16) (g8c wQ (g8c wQ (g3c wQ (gc (fk 6 (xG h14) rfl) (gc (fk 6 (xG h10) rfl) (gc (fk 5 (tW h14 h15) rfl) (gc (fk 5 (tW h12 h13) rfl) (gc (fk 4 (tW h10 h11) rfl) (gc hl9.code (gc hl8.code (gc (FMM.fcN (k:=2) rfl (ids:=[]) (aGu (30:Int) sk0 dc1 h4 h5 h6 h7) (by kernel_rfl)) (gc (FMM.fcN (k:=2) rfl (ids:=[]) (aGu (30:Int) sk0 dc1 h4 h5 h6 h7) (by kernel_rfl)) (gc (FMM.fc (ids:=[0]) (bCo (6:Int) (14:Int) l1 (0:Int) (17:Int) h0 h1 h2 h3) (by kernel_rfl)) (gc (FMM.fc (ids:=[]) (ofO l1) (by kernel_rfl)) gn)))))))))))))))))))))
theorem bMz{l1:List Int}{bb:Int}{sk0 dc1:Lqq}{m2 t3:Int}{i'4:Nat}{lt'5 nm'6:Lqq}{j'7:Nat}{nd'8:Lqq}{k'9:Nat}(h0:0≤(0:Int)∧(0:Int)≤900)(h1:1≤(6:Int)∧(6:Int)≤30)(h2:0≤(14:Int)∧(14:Int)≤40)(h3:aVo (6:Int) (14:Int) l1 (0:Int) (17:Int)=(sk0,dc1,m2,t3))(h4:uni 2 sk0)(h5:sk0.length≤1000)(h6:uni 6 dc1)(h7:dc1.length≤1000)(hl8:aI Tp 0 tH (fF bb sk0 dc1 0 sk0.length (sk0.flatten.map aA) sk0.length (sk0.flatten.map aA)) (.exit 0) (fF bb sk0 dc1 i'4 lt'5.length (lt'5.flatten.map aA) nm'6.length (nm'6.flatten.map aA)))(hl9:aI Tp 0 tI (fG bb sk0 dc1 lt'5 nm'6 0 dc1.length (dc1.flatten.map aA)) (.exit 2) (fG bb sk0 dc1 lt'5 nm'6 j'7 nd'8.length (nd'8.flatten.map aA)))(h10:cN (30:Int) sk0 dc1)(h11:sk0.length<20)(h12:cN (30:Int) lt'5 dc1)(h13:lt'5.length<20)(h14:cN (30:Int) nm'6 nd'8)(h15:nm'6.length<20)(h16:(((bX (30:Int) [] (aB dc1) (aB sk0)).length:Nat):Int)=(sk0.length:Int))(h17:(((bX (30:Int) [] (aB dc1) (aB lt'5)).length:Nat):Int)=(((bX (30:Int) [] (aB dc1) (aB sk0)).length:Nat):Int))(h18:(((bX (30:Int) [] (aB nd'8) (aB nm'6)).length:Nat):Int)=(((bX (30:Int) [] (aB dc1) (aB sk0)).length:Nat):Int))(h19:(((aN (30:Int) (aB dc1)).length:Nat):Int)=(((aN (30:Int) (aB nd'8)).length:Nat):Int))(hl20:aI Tp 0 wP (fR bb sk0 dc1 lt'5 nm'6 nd'8 0) .ret (cE (fR bb sk0 dc1 lt'5 nm'6 nd'8 k'9) [(4,(pB true))])){base:Nat}:FV Tp 4 [(.p (.sl l1.length (l1.map aO))),(.p (.v (.int .u16 bb)))] base (pB true) []:=by
 exact FV.fin Tryz.func4 rfl (o:=[.c (.ptr 0 0) [(0,(.box 129 [(.p (.sl l1.length (l1.map aO))),(pI 0),(.p (.v (.int .u32 (17:Int))))]))],.c (.p (.agg (dH 30 sk0 dc1))) [(0,(.box 129 [(.p (.sl l1.length (l1.map aO))),(pI m2),(.p (.v (.int .u32 t3)))]))],.c (.agg [(pI 30),(.own 2),(.own 3)]) [(2,(.row 31 sk0.length (sk0.flatten.map aA))),(3,(.row 44 dc1.length (dc1.flatten.map aA)))],.c (.agg [(pI 30),(.own 10),(.own 11)]) [(10,(.row 31 sk0.length (sk0.flatten.map aA))),(11,(.row 44 dc1.length (dc1.flatten.map aA)))],.k 4 ⟨(rng [(0,1),(2,2),(8,1),(26,9),(37,30)]),[1,2,3,10,11,18,19],[],[]⟩ (.exit 0) (fF bb sk0 dc1 i'4 lt'5.length (lt'5.flatten.map aA) nm'6.length (nm'6.flatten.map aA)),.k 4 ⟨(rng [(0,1),(2,2),(8,3),(26,43),(71,33)]),[0,4,5,6],[3,1,2],[]⟩ (.exit 2) (fG bb sk0 dc1 lt'5 nm'6 j'7 nd'8.length (nd'8.flatten.map aA)),.c (.tup [(.own 4),(pI 0)]) [(4,(.row 48 ((bX (30:Int) [] (aB dc1) (aB sk0)).length) ((bX (30:Int) [] (aB dc1) (aB sk0)).flatten.map aA)))],.c (.tup [(.own 5),(pI 0)]) [(5,(.row 48 ((bX (30:Int) [] (aB dc1) (aB lt'5)).length) ((bX (30:Int) [] (aB dc1) (aB lt'5)).flatten.map aA)))],.g 1 ⟨[],[0,2,3,4,5],[1],[]⟩,.c (.tup [(.own 5),(pI 0)]) [(5,(.row 48 ((bX (30:Int) [] (aB nd'8) (aB nm'6)).length) ((bX (30:Int) [] (aB nd'8) (aB nm'6)).flatten.map aA)))],.c (.tup [(.p (aG (aN (30:Int) (aB dc1)))),(pI 0)]) [],.c (.tup [(.p (aG (aN (30:Int) (aB nd'8)))),(pI 0)]) [],bF,bF,bF,bF,bF,bF,bF,bF,bF,bF,bF,bF,bF,bF,bF,bF,bF,bF,bF,bF,bF,bF,bF,bF,bF,bF,bF,bF,bF,bF,bF,bF,bF,bF,bF,bF,bF,bF,.k 4 ⟨(rng [(0,1),(2,11),(14,1),(16,1),(18,1),(20,4),(26,150),(179,45)]),[],[3,4,5],[]⟩ .ret (cE (fR bb sk0 dc1 lt'5 nm'6 nd'8 k'9) [(4,(pB true))])]) (l:=[_,_,_,_,_,_,_,_,_,_,_,_,_,_,_,_,_,_,_,_,_,_,_,_,_,_,_,_,_,_,_,_,_,_,_,_,_,_,_,_,_,_,_,_,_,_,FC Tp 27 [(.p (.agg (dH 30 sk0 dc1)))] [] 10 (.agg [(pI 30),(.own 10),(.own 11)]) [(10,(.row 31 sk0.length (sk0.flatten.map aA))),(11,(.row 44 dc1.length (dc1.flatten.map aA)))],FC Tp 27 [(.p (.agg (dH 30 sk0 dc1)))] [] 2 (.agg [(pI 30),(.own 2),(.own 3)]) [(2,(.row 31 sk0.length (sk0.flatten.map aA))),(3,(.row 44 dc1.length (dc1.flatten.map aA)))],FC Tp 16 [(.ptr 0 0),(pI 6),(pI 14)] [(0,(.box 129 [(.p (.sl l1.length (l1.map aO))),(pI 0),(.p (.v (.int .u32 (17:Int))))]))] 1 (.p (.agg (dH 30 sk0 dc1))) [(0,(.box 129 [(.p (.sl l1.length (l1.map aO))),(pI m2),(.p (.v (.int .u32 t3)))]))],FC Tp 17 [(.p (.sl l1.length (l1.map aO)))] [] 0 (.ptr 0 0) [(0,(.box 129 [(.p (.sl l1.length (l1.map aO))),(pI 0),(.p (.v (.int .u32 (17:Int))))]))]]) (by kernel_rfl) (gc hl20.code (gc (gM h19) (g6c (gM h18) (g6c (gM h17) (g6c (gM h16) (g8c wQ (g8c wQ (g3c wQ (gc (fk 6 (xG h14) rfl) (gc (fk 6 (xG h10) rfl) (gc (fk 5 (tW h14 h15) rfl) (gc (fk 5 (tW h12 h13) rfl) (gc (fk 4 (tW h10 h11) rfl) (gc hl9.code (gc hl8.code (gc (FMM.fcN (k:=2) rfl (ids:=[]) (aGu (30:Int) sk0 dc1 h4 h5 h6 h7) (by kernel_rfl)) (gc (FMM.fcN (k:=2) rfl (ids:=[]) (aGu (30:Int) sk0 dc1 h4 h5 h6 h7) (by kernel_rfl)) (gc (FMM.fc (ids:=[0]) (bCo (6:Int) (14:Int) l1 (0:Int) (17:Int) h0 h1 h2 h3) (by kernel_rfl)) (gc (FMM.fc (ids:=[]) (ofO l1) (by kernel_rfl)) gn)))))))))))))))))))
theorem aVd{bb:Int}{sk0 dc1:Lqq}{i:Nat}{lt nm:Lqq}{y100 y101 y102 y103:Int}{i':Nat}{lt' nm':Lqq}(h0:(i:Int)<(sk0.length:Int))(h1:lt[i]? = some [y100,y101])(h2:uni 2 lt)(h3:y101≠(-1:Int))(h4:inR bb)(h5:inR (y101+bb))(h6:((i*2)+1)<(lt.flatten.map aA).length)(h7:nm[i]? = some [y102,y103])(h8:uni 2 nm)(h9:inR (y102+100))(h10:(i*2)<(nm.flatten.map aA).length)(h11:inR (((i+1):Nat):Int))(ei':i'=(i+1))(elt'n:lt'.length=lt.length)(elt'c:lt'.flatten.map aA=((lt.flatten.map aA).set ((i*2)+1) (aA (y101+bb))))(enm'n:nm'.length=nm.length)(enm'c:nm'.flatten.map aA=((nm.flatten.map aA).set (i*2) (aA (y102+100)))):aC Tp 0 tH (fF bb sk0 dc1 i lt.length (lt.flatten.map aA) nm.length (nm.flatten.map aA)) .normal (fF bb sk0 dc1 i' lt'.length (lt'.flatten.map aA) nm'.length (nm'.flatten.map aA)):=by
 subst ei';have raw:aC Tp 0 tH (fF bb sk0 dc1 i lt.length (lt.flatten.map aA) nm.length (nm.flatten.map aA)) .normal (fF bb sk0 dc1 (i+1) lt.length ((lt.flatten.map aA).set ((i*2)+1) (aA (y101+bb))) nm.length ((nm.flatten.map aA).set (i*2) (aA (y102+100)))):=aC.fin (g:=⟨(rng [(0,1),(2,2),(8,1),(26,9),(37,30)]),[0,1,2,3,4,5,6],[],[]⟩) (o:=[bT,.x (aA y101),bT,.x (aA y101),.x (aA y102)]) (l:=[_,_,_,_,(nm.flatten.map aA)[(i*2)]? = some (aA y102),_,_,_,_,_,(lt.flatten.map aA)[((i*2)+1)]? = some (aA y101),_,_,(lt.flatten.map aA)[((i*2)+1)]? = some (aA y101),_,_]) (by kernel_rfl) (gc h11 (gc h10 (gc (cK (i:=(i:Int)) (kQ3 _) h7) (gc h9 (gc (dL (i:=i) (f:=0) h8 h7 rfl) (gc (cK (i:=(i:Int)) (kQ3 _) h7) (gc h6 (gc (cK (i:=(i:Int)) (kQ3 _) h1) (gc h5 (gc h4 (gc (dL (i:=i) (f:=1) h2 h1 rfl) (gc (cK (i:=(i:Int)) (kQ3 _) h1) (gc (nV h3) (gc (dL (i:=i) (f:=1) h2 h1 rfl) (gc (cK (i:=(i:Int)) (kQ3 _) h1) (gc (bB h0) gn))))))))))))))))
 exact raw.cast (by rw [elt'n,elt'c,enm'n,enm'c])
theorem aVe{bb:Int}{sk0 dc1:Lqq}{i:Nat}{lt nm:Lqq}{y100 y101 y102 y103:Int}{i':Nat}{nm':Lqq}(h0:(i:Int)<(sk0.length:Int))(h1:lt[i]? = some [y100,y101])(h2:uni 2 lt)(h3:y101=(-1:Int))(h4:nm[i]? = some [y102,y103])(h5:uni 2 nm)(h6:inR (y102+100))(h7:(i*2)<(nm.flatten.map aA).length)(h8:inR (((i+1):Nat):Int))(ei':i'=(i+1))(enm'n:nm'.length=nm.length)(enm'c:nm'.flatten.map aA=((nm.flatten.map aA).set (i*2) (aA (y102+100)))):aC Tp 0 tH (fF bb sk0 dc1 i lt.length (lt.flatten.map aA) nm.length (nm.flatten.map aA)) .normal (fF bb sk0 dc1 i' lt.length (lt.flatten.map aA) nm'.length (nm'.flatten.map aA)):=by
 subst ei';have raw:aC Tp 0 tH (fF bb sk0 dc1 i lt.length (lt.flatten.map aA) nm.length (nm.flatten.map aA)) .normal (fF bb sk0 dc1 (i+1) lt.length (lt.flatten.map aA) nm.length ((nm.flatten.map aA).set (i*2) (aA (y102+100)))):=aC.fin (g:=⟨(rng [(0,1),(2,2),(8,1),(26,9),(37,30)]),[0,1,2,3,4,5,6],[],[]⟩) (o:=[bT,.x (aA y101),bF,.x (aA y102)]) (l:=[_,_,_,_,(nm.flatten.map aA)[(i*2)]? = some (aA y102),_,_,(lt.flatten.map aA)[((i*2)+1)]? = some (aA y101),_,_]) (by kernel_rfl) (gc h8 (gc h7 (gc (cK (i:=(i:Int)) (kQ3 _) h4) (gc h6 (gc (dL (i:=i) (f:=0) h5 h4 rfl) (gc (cK (i:=(i:Int)) (kQ3 _) h4) (gc (gM h3) (gc (dL (i:=i) (f:=1) h2 h1 rfl) (gc (cK (i:=(i:Int)) (kQ3 _) h1) (gc (bB h0) gn))))))))))
 exact raw.cast (by rw [enm'n,enm'c])
theorem aVf{bb:Int}{sk0 dc1:Lqq}{i:Nat}{lt nm:Lqq}(h0:(sk0.length:Int)≤(i:Int)):aC Tp 0 tH (fF bb sk0 dc1 i lt.length (lt.flatten.map aA) nm.length (nm.flatten.map aA)) (.exit 0) (fF bb sk0 dc1 i lt.length (lt.flatten.map aA) nm.length (nm.flatten.map aA)):=by
 exact aC.fin (g:=⟨(rng [(0,1),(2,2),(8,1),(26,9),(37,30)]),[0,1,2,3,4,5,6],[],[]⟩) (o:=[bF]) (l:=[_]) (by kernel_rfl) (gc (bO h0) gn)
theorem aVg{bb:Int}{sk0 dc1 lt'5 nm'6:Lqq}{j:Nat}{nd:Lqq}{y200 y201 y202 y203 y204 y205:Int}{j':Nat}{nd':Lqq}(h0:(j:Int)<(dc1.length:Int))(h1:nd[j]? = some [y200,y201,y202,y203,y204,y205])(h2:uni 6 nd)(h3:inR (y200+500))(h4:(j*6)<(nd.flatten.map aA).length)(h5:y201≤4)(h6:inR (y203+100))(h7:((j*6)+3)<((nd.flatten.map aA).set (j*6) (aA (y200+500))).length)(h8:inR (((j+1):Nat):Int))(ej':j'=(j+1))(end'n:nd'.length=nd.length)(end'c:nd'.flatten.map aA=(((nd.flatten.map aA).set (j*6) (aA (y200+500))).set ((j*6)+3) (aA (y203+100)))):aC Tp 0 tI (fG bb sk0 dc1 lt'5 nm'6 j nd.length (nd.flatten.map aA)) .normal (fG bb sk0 dc1 lt'5 nm'6 j' nd'.length (nd'.flatten.map aA)):=by
 subst ej';have raw:aC Tp 0 tI (fG bb sk0 dc1 lt'5 nm'6 j nd.length (nd.flatten.map aA)) .normal (fG bb sk0 dc1 lt'5 nm'6 (j+1) nd.length (((nd.flatten.map aA).set (j*6) (aA (y200+500))).set ((j*6)+3) (aA (y203+100)))):=aC.fin (g:=⟨(rng [(0,1),(2,2),(8,3),(26,43),(71,33)]),[0,1,2,3],[],[]⟩) (o:=[bT,.x (aA y200),.x (aA y201),bT,.x (aA y203)]) (l:=[_,_,_,((nd.flatten.map aA).set (j*6) (aA (y200+500)))[((j*6)+3)]? = some (aA y203),_,((nd.flatten.map aA).set (j*6) (aA (y200+500)))[((j*6)+1)]? = some (aA y201),_,_,(nd.flatten.map aA)[(j*6)]? = some (aA y200),_,_]) (by kernel_rfl) (gc h8 (gc h7 (gc h6 (gc (pJ (by omega) (dL (i:=j) (f:=3) h2 h1 rfl)) (gc (aGr h5) (gc (pJ (by omega) (dL (i:=j) (f:=1) h2 h1 rfl)) (gc h4 (gc h3 (gc (dL (i:=j) (f:=0) h2 h1 rfl) (gc (cK (i:=(j:Int)) (kQ3 _) h1) (gc (bB h0) gn)))))))))))
 exact raw.cast (by rw [end'n,end'c])
theorem aVh{bb:Int}{sk0 dc1 lt'5 nm'6:Lqq}{j:Nat}{nd:Lqq}{y200 y201 y202 y203 y204 y205:Int}{j':Nat}{nd':Lqq}(h0:(j:Int)<(dc1.length:Int))(h1:nd[j]? = some [y200,y201,y202,y203,y204,y205])(h2:uni 6 nd)(h3:inR (y200+500))(h4:(j*6)<(nd.flatten.map aA).length)(h5:(4:Int)<y201)(h6:inR (y205+500))(h7:((j*6)+5)<((nd.flatten.map aA).set (j*6) (aA (y200+500))).length)(h8:inR (((j+1):Nat):Int))(ej':j'=(j+1))(end'n:nd'.length=nd.length)(end'c:nd'.flatten.map aA=(((nd.flatten.map aA).set (j*6) (aA (y200+500))).set ((j*6)+5) (aA (y205+500)))):aC Tp 0 tI (fG bb sk0 dc1 lt'5 nm'6 j nd.length (nd.flatten.map aA)) .normal (fG bb sk0 dc1 lt'5 nm'6 j' nd'.length (nd'.flatten.map aA)):=by
 subst ej';have raw:aC Tp 0 tI (fG bb sk0 dc1 lt'5 nm'6 j nd.length (nd.flatten.map aA)) .normal (fG bb sk0 dc1 lt'5 nm'6 (j+1) nd.length (((nd.flatten.map aA).set (j*6) (aA (y200+500))).set ((j*6)+5) (aA (y205+500)))):=aC.fin (g:=⟨(rng [(0,1),(2,2),(8,3),(26,43),(71,33)]),[0,1,2,3],[],[]⟩) (o:=[bT,.x (aA y200),.x (aA y201),bF,.x (aA y205)]) (l:=[_,_,_,((nd.flatten.map aA).set (j*6) (aA (y200+500)))[((j*6)+5)]? = some (aA y205),_,((nd.flatten.map aA).set (j*6) (aA (y200+500)))[((j*6)+1)]? = some (aA y201),_,_,(nd.flatten.map aA)[(j*6)]? = some (aA y200),_,_]) (by kernel_rfl) (gc h8 (gc h7 (gc h6 (gc (pJ (by omega) (dL (i:=j) (f:=5) h2 h1 rfl)) (gc (pP h5) (gc (pJ (by omega) (dL (i:=j) (f:=1) h2 h1 rfl)) (gc h4 (gc h3 (gc (dL (i:=j) (f:=0) h2 h1 rfl) (gc (cK (i:=(j:Int)) (kQ3 _) h1) (gc (bB h0) gn)))))))))))
 exact raw.cast (by rw [end'n,end'c])
theorem aVi{bb:Int}{sk0 dc1 lt'5 nm'6:Lqq}{j:Nat}{nd:Lqq}(h0:(dc1.length:Int)≤(j:Int)):aC Tp 0 tI (fG bb sk0 dc1 lt'5 nm'6 j nd.length (nd.flatten.map aA)) (.exit 2) (fG bb sk0 dc1 lt'5 nm'6 j nd.length (nd.flatten.map aA)):=by
 exact aC.fin (g:=⟨(rng [(0,1),(2,2),(8,3),(26,43),(71,33)]),[0,1,2,3],[],[]⟩) (o:=[bF]) (l:=[_]) (by kernel_rfl) (gc (bO h0) gn)
theorem aVj{bb:Int}{sk0 dc1 lt'5 nm'6 nd'8:Lqq}{k:Nat}{y300 y301 y302:Int}(h0:(k:Int)<(((bX (30:Int) [] (aB dc1) (aB sk0)).length:Nat):Int))(h1:(bX (30:Int) [] (aB dc1) (aB sk0))[k]? = some [y300,y301,y302])(h2:uni 3 (bX (30:Int) [] (aB dc1) (aB sk0)))(h3:y301≠(-1:Int))(h4:inR bb)(h5:inR (y302+bb))(h6:y302<1)(h7:∀ {base:Nat},FV Tp 26 [] base (pB true) []):aC Tp 0 wP (fR bb sk0 dc1 lt'5 nm'6 nd'8 k) .ret (cE (fR bb sk0 dc1 lt'5 nm'6 nd'8 k) [(4,(pB true))]):=by
 exact aC.fin (g:=⟨(rng [(0,1),(2,2),(5,8),(14,1),(16,1),(18,1),(20,4),(26,150),(179,45)]),[],[],[]⟩) (o:=[bT,.x (.agg [(aA y300),(aA y301),(aA y302)]),bT,bT,bT,bT,bT,bT,.c (pB true) []]) (l:=[FC Tp 26 [] [] 2 (pB true) [],_,_,_,_,_,_,_,_,_,_,0≤(k:Int)∧(k:Int)<(((bX (30:Int) [] (aB dc1) (aB sk0)).length:Nat):Int)∧(k*3)<((bX (30:Int) [] (aB dc1) (aB sk0)).flatten.map aA).length,_]) (by kernel_rfl) (gc (FV.fc h7 (by kernel_rfl)) (gc (nV h3) (g4c (bB h6) (gc h5 (gc h4 (gc (nV h3) (gc (aU (i:=k) h2 h1) (gc (bD (i:=k) h2 h1) (gc (bS (k:=3) (i:=(k:Int)) (by decide) h2 (kQ3 _) h1) (gc (bB h0) gn))))))))))
theorem aVk{bb:Int}{sk0 dc1 lt'5 nm'6 nd'8:Lqq}{k:Nat}{y300 y301 y302 y303 y304 y305 y306 y307 y308:Int}{k':Nat}(h0:(k:Int)<(((bX (30:Int) [] (aB dc1) (aB sk0)).length:Nat):Int))(h1:(bX (30:Int) [] (aB dc1) (aB sk0))[k]? = some [y300,y301,y302])(h2:uni 3 (bX (30:Int) [] (aB dc1) (aB sk0)))(h3:y301≠(-1:Int))(h4:inR bb)(h5:inR (y302+bb))(h6:(1:Int)≤y302)(h7:(bX (30:Int) [] (aB dc1) (aB lt'5))[k]? = some [y303,y304,y305])(h8:uni 3 (bX (30:Int) [] (aB dc1) (aB lt'5)))(h9:cX [(aA y303),(aA y304),(aA y305)] [(0,3,true),(1,3,true),(2,3,true)]=true∧cX [(aA y300),(aA y301),(aA (y302+bb))] [(0,3,true),(1,3,true),(2,3,true)]=true)(h10:(jN [(aA y303),(aA y304),(aA y305)] [(aA y300),(aA y301),(aA (y302+bb))] [(0,3,true),(1,3,true),(2,3,true)])=true)(h11:(bX (30:Int) [] (aB nd'8) (aB nm'6))[k]? = some [y306,y307,y308])(h12:uni 3 (bX (30:Int) [] (aB nd'8) (aB nm'6)))(h13:inR (y300+100))(h14:cX [(aA y306),(aA y307),(aA y308)] [(0,3,true),(1,3,true),(2,3,true)]=true∧cX [(aA (y300+100)),(aA y301),(aA y302)] [(0,3,true),(1,3,true),(2,3,true)]=true)(h15:(jN [(aA y306),(aA y307),(aA y308)] [(aA (y300+100)),(aA y301),(aA y302)] [(0,3,true),(1,3,true),(2,3,true)])=true)(h16:inR (((k+1):Nat):Int))(ek':k'=(k+1)):aC Tp 0 wP (fR bb sk0 dc1 lt'5 nm'6 nd'8 k) .normal (fR bb sk0 dc1 lt'5 nm'6 nd'8 k'):=by
 subst ek';exact aC.fin (g:=⟨(rng [(0,1),(2,11),(14,1),(16,1),(18,1),(20,4),(26,150),(179,45)]),[],[],[]⟩) (o:=[bT,.x (.agg [(aA y300),(aA y301),(aA y302)]),bT,bF,bF,bF,bF,.x (.agg [(aA y303),(aA y304),(aA y305)]),bF,bF,bF,bF,.x (.agg [(aA y306),(aA y307),(aA y308)]),bF,bF,bF,bF,bF,bF,bF,bF,bF,bF,bF]) (l:=[_,_,_,_,_,_,_,_,_,_,_,_,_,_,_,_,_,0≤(k:Int)∧(k:Int)<(((bX (30:Int) [] (aB nd'8) (aB nm'6)).length:Nat):Int)∧(k*3)<((bX (30:Int) [] (aB nd'8) (aB nm'6)).flatten.map aA).length,_,_,_,_,_,_,0≤(k:Int)∧(k:Int)<(((bX (30:Int) [] (aB dc1) (aB lt'5)).length:Nat):Int)∧(k*3)<((bX (30:Int) [] (aB dc1) (aB lt'5)).flatten.map aA).length,_,_,_,_,_,_,_,_,_,0≤(k:Int)∧(k:Int)<(((bX (30:Int) [] (aB dc1) (aB sk0)).length:Nat):Int)∧(k*3)<((bX (30:Int) [] (aB dc1) (aB sk0)).flatten.map aA).length,_]) (by kernel_rfl) (gc h16 (gc (aW h15) (gc (aW h10) (gc h14 (g6c (aW h10) (gc h13 (g3c (aW h10) (gc (aU (i:=k) h12 h11) (gc (bD (i:=k) h12 h11) (gc (aW h10) (gc (bS (k:=3) (i:=(k:Int)) (by decide) h12 (kQ3 _) h11) (g3c (aW h10) (gc h9 (gc (aU (i:=k) h8 h7) (gc (bD (i:=k) h8 h7) (gc (bS (k:=3) (i:=(k:Int)) (by decide) h8 (kQ3 _) h7) (g4c (bO h6) (gc h5 (gc h4 (gc (nV h3) (gc (aU (i:=k) h2 h1) (gc (bD (i:=k) h2 h1) (gc (bS (k:=3) (i:=(k:Int)) (by decide) h2 (kQ3 _) h1) (gc (bB h0) gn))))))))))))))))))))))))
theorem aVl{bb:Int}{sk0 dc1 lt'5 nm'6 nd'8:Lqq}{k:Nat}{y300 y301 y302 y303 y304 y305 y306 y307 y308:Int}{k':Nat}(h0:(k:Int)<(((bX (30:Int) [] (aB dc1) (aB sk0)).length:Nat):Int))(h1:(bX (30:Int) [] (aB dc1) (aB sk0))[k]? = some [y300,y301,y302])(h2:uni 3 (bX (30:Int) [] (aB dc1) (aB sk0)))(h3:y301=(-1:Int))(h4:y302<1)(h5:(bX (30:Int) [] (aB dc1) (aB lt'5))[k]? = some [y303,y304,y305])(h6:uni 3 (bX (30:Int) [] (aB dc1) (aB lt'5)))(h7:cX [(aA y303),(aA y304),(aA y305)] [(0,3,true),(1,3,true),(2,3,true)]=true∧cX [(aA y300),(aA y301),(aA y302)] [(0,3,true),(1,3,true),(2,3,true)]=true)(h8:(jN [(aA y303),(aA y304),(aA y305)] [(aA y300),(aA y301),(aA y302)] [(0,3,true),(1,3,true),(2,3,true)])=true)(h9:(bX (30:Int) [] (aB nd'8) (aB nm'6))[k]? = some [y306,y307,y308])(h10:uni 3 (bX (30:Int) [] (aB nd'8) (aB nm'6)))(h11:inR (y300+100))(h12:cX [(aA y306),(aA y307),(aA y308)] [(0,3,true),(1,3,true),(2,3,true)]=true∧cX [(aA (y300+100)),(aA y301),(aA y302)] [(0,3,true),(1,3,true),(2,3,true)]=true)(h13:(jN [(aA y306),(aA y307),(aA y308)] [(aA (y300+100)),(aA y301),(aA y302)] [(0,3,true),(1,3,true),(2,3,true)])=true)(h14:inR (((k+1):Nat):Int))(ek':k'=(k+1)):aC Tp 0 wP (fR bb sk0 dc1 lt'5 nm'6 nd'8 k) .normal (fR bb sk0 dc1 lt'5 nm'6 nd'8 k'):=by
 subst ek';exact aC.fin (g:=⟨(rng [(0,1),(2,11),(14,1),(16,1),(18,1),(20,4),(26,150),(179,45)]),[],[],[]⟩) (o:=[bT,.x (.agg [(aA y300),(aA y301),(aA y302)]),bF,bT,bT,bT,bT,bF,.x (.agg [(aA y303),(aA y304),(aA y305)]),bF,bF,bF,bF,.x (.agg [(aA y306),(aA y307),(aA y308)]),bF,bF,bF,bF,bF,bF,bF,bF,bF,bF,bF]) (l:=[_,_,_,_,_,_,_,_,_,_,_,_,_,_,_,_,_,0≤(k:Int)∧(k:Int)<(((bX (30:Int) [] (aB nd'8) (aB nm'6)).length:Nat):Int)∧(k*3)<((bX (30:Int) [] (aB nd'8) (aB nm'6)).flatten.map aA).length,_,_,_,_,_,_,0≤(k:Int)∧(k:Int)<(((bX (30:Int) [] (aB dc1) (aB lt'5)).length:Nat):Int)∧(k*3)<((bX (30:Int) [] (aB dc1) (aB lt'5)).flatten.map aA).length,_,_,_,_,_,_,_,_,0≤(k:Int)∧(k:Int)<(((bX (30:Int) [] (aB dc1) (aB sk0)).length:Nat):Int)∧(k*3)<((bX (30:Int) [] (aB dc1) (aB sk0)).flatten.map aA).length,_]) (by kernel_rfl) (gc h14 (gc (aW h13) (gc (aW h8) (gc h12 (g6c (aW h8) (gc h11 (g3c (aW h8) (gc (aU (i:=k) h10 h9) (gc (bD (i:=k) h10 h9) (gc (aW h8) (gc (bS (k:=3) (i:=(k:Int)) (by decide) h10 (kQ3 _) h9) (g3c (aW h8) (gc h7 (gc (aU (i:=k) h6 h5) (gc (bD (i:=k) h6 h5) (gc (bS (k:=3) (i:=(k:Int)) (by decide) h6 (kQ3 _) h5) (gc (gM h3) (g4c (bB h4) (gc (gM h3) (gc (aU (i:=k) h2 h1) (gc (bD (i:=k) h2 h1) (gc (bS (k:=3) (i:=(k:Int)) (by decide) h2 (kQ3 _) h1) (gc (bB h0) gn)))))))))))))))))))))))
theorem aNz{bb:Int}{sk0 dc1 lt'5 nm'6 nd'8:Lqq}{k:Nat}(h0:(((bX (30:Int) [] (aB dc1) (aB sk0)).length:Nat):Int)≤(k:Int)):aC Tp 0 wP (fR bb sk0 dc1 lt'5 nm'6 nd'8 k) (.exit 4) (fR bb sk0 dc1 lt'5 nm'6 nd'8 k):=by
 exact aC.fin (g:=⟨(rng [(0,1),(2,11),(14,1),(16,1),(18,1),(20,4),(26,150),(179,45)]),[],[],[]⟩) (o:=[bF]) (l:=[_]) (by kernel_rfl) (gc (bO h0) gn)
theorem aVm{dc1 nd'8:Lqq}{m:Nat}{x400 x401:Int}{m':Nat}(h0:(m:Int)<(((aN (30:Int) (aB dc1)).length:Nat):Int))(h1:(aN (30:Int) (aB dc1))[m]? = some x400)(h2:(aN (30:Int) (aB nd'8))[m]? = some x401)(h3:inR (x400+500))(h4:x401=(x400+500))(h5:inR (((m+1):Nat):Int))(em':m'=(m+1)):aC Tp 0 aNy (oY dc1 nd'8 m) .normal (oY dc1 nd'8 m'):=by
 subst em';exact aC.fin (g:=⟨(rng [(0,19),(20,204),(227,12)]),[],[],[]⟩) (o:=[bT,.x (aA x400),.x (aA x401),bF]) (l:=[_,_,_,_,_,_,_,_]) (by kernel_rfl) (gc h5 (gc (gM h4) (gc h3 (gc (atm aA h2) (gc (ixn aA h2) (gc (atm aA h1) (gc (ixn aA h1) (gc (bB h0) gn))))))))
theorem aVn{dc1 nd'8:Lqq}{m:Nat}(h0:(((aN (30:Int) (aB dc1)).length:Nat):Int)≤(m:Int)):aC Tp 0 aNy (oY dc1 nd'8 m) (.exit 6) (oY dc1 nd'8 m):=by
 exact aC.fin (g:=⟨(rng [(0,19),(20,204),(227,12)]),[],[],[]⟩) (o:=[bF]) (l:=[_]) (by kernel_rfl) (gc (bO h0) gn)
end
section

theorem bGe{α:Type}{Q:List α→Prop}(h0:Q [])(hs:∀ l x,Q l→Q (l++[x]))(l:List α):Q l:=by
 have key:∀ r:List α,Q r.reverse:=fun r=>by
  induction r with
  | nil=>exact h0
  | cons a r ih=>rw [List.reverse_cons];exact hs _ _ ih
 have:=key l.reverse
 rwa [List.reverse_reverse] at this
def pM(L:Lqq)(t:Int):Nat:=(L.filter fun x=>decide (x.getD 2 0<t)).length
theorem aFp(L:Lqq)(x:List Int)(t:Int):pM (L++[x]) t=pM L t+if x.getD 2 0<t then 1 else 0:=by
 unfold pM;rw [uY,mG]
 congr 1
 by_cases h:x.getD 2 0<t
 ·rw [if_pos h,List.filter_cons,if_pos (decide_eq_true h)];rfl
 ·rw [if_neg h,List.filter_cons,if_neg (by rw [decide_eq_false h];simp)];rfl
theorem bGf(L:Lqq):L.Pairwise (fun a b=>a.getD 2 0≤b.getD 2 0)→dY L=L.map fun x=>[x.getD 0 0,(pM L (x.getD 2 0):Int)+1,x.getD 2 0]:=by
 refine bGe (Q:=fun L=>L.Pairwise (fun a b=>a.getD 2 0≤b.getD 2 0)→dY L=L.map fun x=>[x.getD 0 0,(pM L (x.getD 2 0):Int)+1,x.getD 2 0]) (fun _=>rfl) (fun l x ih hp => ?_) L
 obtain ⟨h1,_,h3⟩:=List.pairwise_append.1 hp;have h4:∀ a∈l,a.getD 2 0≤x.getD 2 0:=fun a ha=>h3 a ha x (by simp)
 have e:dY (l++[x])=dY l++[[x.getD 0 0,plN (dY l) (x.getD 2 0),x.getD 2 0]]:=by
  unfold dY;rw [aGp];rfl
 rw [e,ih h1,iE]
 congr 1
 ·refine tF fun y hy => ?_
  rw [aFp,if_neg (by have:=h4 y hy;omega)];rfl
 ·have hx:pM (l++[x]) (x.getD 2 0)=pM l (x.getD 2 0):=by rw [aFp,if_neg (by omega)];rfl
  show [[x.getD 0 0,plN _ (x.getD 2 0),x.getD 2 0]]=[[x.getD 0 0,(pM (l++[x]) (x.getD 2 0):Int)+1,x.getD 2 0]];rw [hx]
  congr 3
  rcases List.eq_nil_or_concat l with rfl | ⟨m,y,rfl⟩
  ·rfl
  ·rw [List.concat_eq_append] at *
   unfold plN;rw [iE,gD,List.map_nil,List.getLast?_concat];show (if y.getD 2 0=x.getD 2 0 then (pM (m++[y]) (y.getD 2 0):Int)+1 else _)=_
   by_cases hc:y.getD 2 0=x.getD 2 0
   ·rw [if_pos hc,hc]
   ·rw [if_neg hc]
    have h5:=h4 y (by simp)
    have h6:pM (m++[y]) (x.getD 2 0)=(m++[y]).length:=by
     unfold pM;rw [List.filter_eq_self.2];intro a ha;refine decide_eq_true ?_
     rcases jR.1 ha with ha | ha
     ·have:=(List.pairwise_append.1 h1).2.2 a ha y (by simp)
      omega
     ·obtain rfl:a=y:=by simpa using ha
      omega
    rw [h6];simp
section
variable {dl:Int} {oc:List Int} {sk dc:Lqq}
end
end
section

theorem vX{k i f:Nat}{L:Lqq}{x:List Int}{y:Int}(h:uni k L)(hx:L[i]? = some x)(hf:f<k):(L.flatten.map aA).set (i*k+f) (aA y)=((L.set i (x.set f y)).flatten.map aA):=by
 have hi:=(kQ2.1 hx).1;have hxl:x.length=k:=h x (kQ5 hx);have e:L=L.take i++x::L.drop (i+1):=by
  conv=>lhs;rw [← aNt i L]
  congr 1
  rw [aNs hi]
  congr 1
  exact (kQ2.1 hx).2
 have hA:(L.take i).flatten.length=i*k:=by
  rw [mY (fun y hy=>h y (List.mem_of_mem_take hy)),lW]
  congr 1;omega
 have hset:L.set i (x.set f y)=L.take i++(x.set f y)::L.drop (i+1):=by
  rw [List.set_eq_take_append_cons_drop,if_pos hi]
 rw [hset,← List.map_set]
 congr 1
 conv=>lhs;rw [e]
 rw [aNv,rV,aNv,rV];rw [List.set_append_right _ _ (by omega),hA,Nat.add_sub_cancel_left,List.set_append_left _ _ (by omega)]
def upw(g:List Int→List Int)(l:Lqq)(i:Nat):Lqq:=(l.take i).map g++l.drop i
theorem kR(g:List Int→List Int)(l:Lqq)(i:Nat):(upw g l i).length=l.length:=by
 unfold upw;rw [mG,kQ6,lW,bCm];omega
theorem aIh(g:List Int→List Int){l:Lqq}{i:Nat}{x:List Int}(h:l[i]? = some x):(upw g l i)[i]? = some x:=by
 have hi:=(kQ2.1 h).1;have hl:((l.take i).map g).length=i:=by rw [kQ6,lW];omega
 unfold upw;rw [tD (by omega),hl,aKh,List.getElem?_drop,Nat.add_zero]
 exact h
theorem vY(g:List Int→List Int){l:Lqq}{i:Nat}{x:List Int}(h:l[i]? = some x):(upw g l i).set i (g x)=upw g l (i+1):=by
 have hi:=(kQ2.1 h).1;have hl:((l.take i).map g).length=i:=by rw [kQ6,lW];omega
 unfold upw;rw [List.set_append_right _ _ (by omega),hl,aKh,List.take_add_one,h,iE,List.append_assoc]
 congr 1
 have:l.drop i=x::l.drop (i+1):=by
  rw [aNs hi]
  congr 1
  exact (kQ2.1 h).2
 rw [this];rfl
theorem aIi{k:Nat}{g:List Int→List Int}{l:Lqq}(hu:uni k l)(hg:∀ x∈l,(g x).length=k)(i:Nat):uni k (upw g l i):=fun y hy=>by
 rcases jR.1 hy with hy | hy
 ·obtain ⟨x,hx,rfl⟩:=dQ.1 hy
  exact hg x (List.mem_of_mem_take hx)
 ·exact hu y (List.mem_of_mem_drop hy)
theorem aCr(g:List Int→List Int)(l:Lqq):upw g l 0=l:=by simp [upw]
theorem aIj(g:List Int→List Int)(l:Lqq):upw g l l.length=l.map g:=by simp [upw]

def mvL(a t:Int)(y:List Int):List Int:=[y.getD 0 0+a,y.getD 1 0,y.getD 2 0+t]
theorem bLw{α β:Type}{lt:α→α→Bool}{lt':β→β→Bool}{h:α→β}(hlt:∀ x y,lt' (h x) (h y)=lt x y)(A:List α)(x:α):ins lt' (A.map h) (h x)=(ins lt A x).map h:=by
 have e:iZ lt' (h x) (A.map h)=iZ lt x A:=by
  unfold iZ;rw [← List.map_reverse];generalize A.reverse=R
  induction R with
  | nil=>rfl
  | cons y R ih =>
   rw [gD,List.dropWhile_cons,List.dropWhile_cons,hlt];cases lt x y with
   | true=>simpa using ih
   | false=>simp
 unfold ins;rw [e,iE,gD,List.map_take,List.map_drop]
theorem bAu{α β:Type}{lt:α→α→Bool}{lt':β→β→Bool}{h:α→β}(hlt:∀ x y,lt' (h x) (h y)=lt x y)(l:List α):isort lt' (l.map h)=(isort lt l).map h:=by
 have key:∀ (l:List α) (A:List α),(l.map h).foldl (ins lt') (A.map h)=(l.foldl (ins lt) A).map h:=fun l=>by
  induction l with
  | nil=>intro A;rfl
  | cons x l ih=>intro A;rw [gD,oT,oT,bLw hlt,ih]
 exact key l []
theorem bTi(a t:Int)(x y:List Int):ltK 2 (mvL a t x) (mvL a t y)=ltK 2 x y:=by
 rw [aQf,aQf,decide_eq_decide];show x.getD 2 0+t<y.getD 2 0+t↔_;omega
theorem bTj(a t:Int)(A:Lqq)(x:List Int):plS (A.map (mvL a t)) (mvL a t x)=(plS A x).map (mvL a t):=by
 have e:plN (A.map (mvL a t)) (x.getD 2 0+t)=plN A (x.getD 2 0):=by
  unfold plN;rw [List.getLast?_map,kQ6];cases A.getLast? with
  | none=>rfl
  | some y =>
   show (if y.getD 2 0+t=x.getD 2 0+t then y.getD 1 0 else _)=(if y.getD 2 0=x.getD 2 0 then y.getD 1 0 else _)
   by_cases h:y.getD 2 0=x.getD 2 0
   ·rw [if_pos h,if_pos (by omega)]
   ·rw [if_neg h,if_neg (by omega)]
 unfold plS;rw [iE];show _++[[x.getD 0 0+a,plN (A.map (mvL a t)) (x.getD 2 0+t),x.getD 2 0+t]]=_;rw [e];rfl
theorem bAv(a t:Int)(l:Lqq):dY (l.map (mvL a t))=(dY l).map (mvL a t):=by
 have key:∀ (l A:Lqq),(l.map (mvL a t)).foldl plS (A.map (mvL a t))=(l.foldl plS A).map (mvL a t):=fun l=>by
  induction l with
  | nil=>intro A;rfl
  | cons x l ih=>intro A;rw [gD,oT,oT,bTj,ih]
 exact key l []
theorem aTd{dl:Int}{oc:List Int}{D D' S:Lqq}{g:List Int→List Int}{a t:Int}(hb:∀ s∈S,sB (g s)=sB s+a)
  (h:∀ s∈S,(cF dl oc D' (sB (g s)) (sT (g s))).2=(cF dl oc D (sB s) (sT s)).2∧((cF dl oc D (sB s) (sT s)).2=false→(cF dl oc D' (sB (g s)) (sT (g s))).1=(cF dl oc D (sB s) (sT s)).1+t)) :
  bX dl oc D' (S.map g)=(dY (isort (ltK 2) (dG dl oc D S))).map (mvL a t)++(fL dl oc D S).map (mvL a 0):=by
 have e1:dG dl oc D' (S.map g)=(dG dl oc D S).map (mvL a t):=by
  unfold dG;rw [List.filter_map,lK,lK];have:S.filter ((fun s => !(cF dl oc D' (sB s) (sT s)).2) ∘ g)=S.filter fun s => !(cF dl oc D (sB s) (sT s)).2:=List.filter_congr fun s hs=>by
   show (!(cF dl oc D' (sB (g s)) (sT (g s))).2)=_;rw [(h s hs).1]
  rw [this];refine tF fun s hs => ?_
  obtain ⟨m1,m2⟩:=wN.1 hs;show [sB (g s),0,(cF dl oc D' (sB (g s)) (sT (g s))).1]=[sB s+a,0,(cF dl oc D (sB s) (sT s)).1+t];rw [(h s m1).2 (by simpa using m2),hb s m1]
 have e2:fL dl oc D' (S.map g)=(fL dl oc D S).map (mvL a 0):=by
  unfold fL;rw [List.filter_map,lK,lK];have:S.filter ((fun s=>(cF dl oc D' (sB s) (sT s)).2) ∘ g)=S.filter fun s=>(cF dl oc D (sB s) (sT s)).2:=List.filter_congr fun s hs=>by
   show (cF dl oc D' (sB (g s)) (sT (g s))).2=_;rw [(h s hs).1]
  rw [this];refine tF fun s hs => ?_
  obtain ⟨m1,m2⟩:=wN.1 hs;show [sB (g s),-1,0]=[sB s+a,-1,0+0];rw [hb s m1];rfl
 unfold bX;rw [e1,e2,bAu (bTi a t),bAv]
theorem xO{g:List Int→List Int}{l:Lqq}{a:Int}(hn:(aK (l.map g) 0).Nodup)(hg:∀ x∈l,(g x).getD 0 0=x.getD 0 0+a):aB (l.map g)=(aB l).map g:=by
 refine (aBn hn ((eE l).map g) ?_).symm;rw [List.pairwise_map];exact (oZ l).imp_of_mem fun {x y} hx hy h=>by
  rw [hg x ((eE l).mem_iff.1 hx),hg y ((eE l).mem_iff.1 hy)];omega
theorem aFo{g:List Int→List Int}{l:Lqq}{a:Int}(hn:(aK l 0).Nodup)(hg:∀ x∈l,(g x).getD 0 0=x.getD 0 0+a):(aK (l.map g) 0).Nodup:=by
 unfold aK at hn ⊢
 rw [lK,List.Nodup,List.pairwise_map];rw [List.Nodup,List.pairwise_map] at hn
 exact hn.imp_of_mem fun {x y} hx hy h=>by
  show (g x).getD 0 0≠(g y).getD 0 0;rw [hg x hx,hg y hy];omega

theorem bLx(k t m v:Int)(h:k=1∨k≠1):byI k (t+v) m=byI k t m+v:=by
 unfold byI
 repeat' split
 all_goals omega
theorem tX{dl:Int}{oc:List Int}{D:Lqq}{b v:Int}:∀ (l:Lqq) (o:Bool) (t:Int),l.foldl (nW dl oc D b) (o,t+v)=((l.foldl (nW dl oc D b) (o,t)).1,(l.foldl (nW dl oc D b) (o,t)).2+v)
 | [],o,t=>rfl
 | x::l,o,t=>by
  rw [oT,oT];unfold nW;dsimp only
  by_cases h:aHa dl oc D b x=true
  ·rw [if_pos h,if_pos h,bLx _ _ _ _ (by omega)]
   exact tX l _ _
  ·rw [if_neg h,if_neg h]
   exact tX l _ _
theorem xP{dl:Int}{oc:List Int}{D:Lqq}{b:Int}:∀ (l:Lqq) (t:Int),(l.foldl (nW dl oc D b) (true,t)).1=true
 | [],t=>rfl
 | x::l,t=>by
  rw [oT];unfold nW;dsimp only
  by_cases h:aHa dl oc D b x=true
  ·rw [if_pos h];simp only [Bool.true_or];exact xP l _
  ·rw [if_neg h];exact xP l _
def cM(v:Int)(x:List Int):List Int:=[x.getD 0 0,if x.getD 1 0 = -1 then -1 else x.getD 1 0+v]
theorem bAw{dl:Int}{oc:List Int}{D:Lqq}{v:Int}{s:List Int}(hv:0≤v)(ht : -1≤sT s)(h1:(cF dl oc D (sB s) (sT s)).2=false→1≤(cF dl oc D (sB s) (sT s)).1) :
  (cF dl oc D (sB (cM v s)) (sT (cM v s))).2=(cF dl oc D (sB s) (sT s)).2∧((cF dl oc D (sB s) (sT s)).2=false→(cF dl oc D (sB (cM v s)) (sT (cM v s))).1=(cF dl oc D (sB s) (sT s)).1+v):=by
 have eb:sB (cM v s)=sB s:=rfl;rw [eb]
 by_cases h:sT s = -1
 ·have et:sT (cM v s) = -1:=by
   show (if sT s = -1 then (-1:Int) else _) = -1
   rw [if_pos h]
  rw [et,h];have hg:(tO dl oc D (sB s) (-1)).1=true:=xP D (-1);unfold cF;rw [if_pos hg];simp
 ·have et:sT (cM v s)=sT s+v:=by
   show (if sT s = -1 then (-1:Int) else _)=_
   rw [if_neg h]
  rw [et];have e1:(sT s == -1)=false:=by simpa using h
  have e2:(sT s+v == -1)=false:=by
   have:¬ sT s+v = -1:=by omega
   simpa using this
  have hF:tO dl oc D (sB s) (sT s+v)=((tO dl oc D (sB s) (sT s)).1,(tO dl oc D (sB s) (sT s)).2+v):=by
   unfold tO;rw [e1,e2];exact tX D false (sT s)
  unfold cF at h1 ⊢
  rw [hF];cases ho:(tO dl oc D (sB s) (sT s)).1 with
  | true=>simp
  | false =>
   rw [ho] at h1
   simp only [Bool.false_eq_true,if_false,true_implies] at h1 ⊢
   exact ⟨trivial,by omega⟩

def bJ(x:List Int):List Int:=if dK x≤4 then [dN x+500,dK x,dMi x,dB x+100,dMu x,dAb x] else [dN x+500,dK x,dMi x,dB x,dMu x,dAb x+500]
theorem yT(x:List Int):dN (bJ x)=dN x+500:=by unfold bJ;split <;> rfl
theorem pT(x:List Int):dK (bJ x)=dK x:=by unfold bJ;split <;> rfl
theorem bGa(x:List Int):dMi (bJ x)=dMi x:=by unfold bJ;split <;> rfl
theorem bGb(x:List Int):dMu (bJ x)=dMu x:=by unfold bJ;split <;> rfl
theorem aTe(x:List Int):(bJ x).length=6:=by unfold bJ;split <;> rfl
def tY(s:DS):DS:=⟨bJ s.x,s.cnt,s.upd,s.rul.map bJ,s.chg.map bJ,s.much⟩
def vZ(x:List Int):Prop:=1≤dN x∧(dK x≤4→dAb x=0)
theorem bTk{x y:List Int}(hx:vZ x)(hy:vZ y):(dAb (bJ x) == dN (bJ y))=(dAb x == dN y):=by
 rw [yT,Bool.eq_iff_iff,beq_iff_eq,beq_iff_eq];have:=hx.2;have:=hy.1;unfold bJ
 split
 ·rename_i h
  have:=hx.2 h;show dAb x=dN y+500↔_;omega
 ·show dAb x+500=dN y+500↔_
  omega
theorem bAx{t:List DS}{y:List Int}(ht:∀ s∈t,vZ s.x)(hy:vZ y):eZ (t.map tY) (dN (bJ y))=(eZ t (dN y)).map tY:=by
 unfold eZ;rw [← List.map_reverse,List.filter_map]
 congr 1
 refine List.filter_congr fun s hs => ?_
 exact bTk (ht s (yZ.1 hs)) hy
theorem bLy{dl:Int}{t:List DS}{y:List Int}(ht:∀ s∈t,vZ s.x)(hy:vZ y):mkS dl [] (bJ y) (t.map tY)=tY (mkS dl [] y t):=by
 have ea:=bAx ht hy;have eh:∀ s:DS,yK (bJ y) (tY s)=yK y s:=fun s=>by
  unfold yK sJ;show ((dK (bJ s.x) == 5 || (dK (bJ s.x) == 7 && !cG (dK (bJ y)))) && s.cnt && (dK (bJ s.x) == 5 || s.upd))=_
  rw [pT,pT]
 have e1:((eZ t (dN y)).map tY).any (yK (bJ y))=(eZ t (dN y)).any (yK y):=by
  rw [List.any_map]
  congr 1
  funext s
  exact eh s
 have e2:((eZ t (dN y)).map tY).find? (fun s=>cG (dK s.x) && s.cnt)=((eZ t (dN y)).find? fun s=>cG (dK s.x) && s.cnt).map tY:=by
  rw [List.find?_map]
  congr 2
  funext s
  show (cG (dK (bJ s.x)) && s.cnt)=_;rw [pT]
 have e3:((eZ t (dN y)).map tY).find? (fun s=>dK s.x == 6 && s.cnt)=((eZ t (dN y)).find? fun s=>dK s.x == 6 && s.cnt).map tY:=by
  rw [List.find?_map]
  congr 2
  funext s
  show (dK (bJ s.x) == 6 && s.cnt)=_;rw [pT]
 have el:kV dl (bJ y)=kV dl y:=by unfold kV;rw [pT,bGa]
 unfold mkS;rw [ea,e1,e2,e3,el,bGb];unfold tY;dsimp only
 congr 1
 ·cases (eZ t (dN y)).find? fun s=>cG (dK s.x) && s.cnt with
  | none=>rfl
  | some s=>show (dK (bJ s.x) == 8)=(dK s.x == 8);rw [pT]
 ·rw [Option.map_map,Option.map_map];rfl
 ·rw [Option.map_map,Option.map_map];rfl
 ·cases (eZ t (dN y)).find? fun s=>dK s.x == 6 && s.cnt <;> rfl
theorem aLy{dl:Int}:∀ {D:Lqq},(∀ x∈D,vZ x)→gF dl [] (D.map bJ)=(gF dl [] D).map tY
 | [],_=>rfl
 | y::D,h=>by
  have ih:=aLy (dl:=dl) (D:=D) fun x hx=>h x (kQ7 _ hx)
  rw [gD,gF,gF,gD,ih,bLy (fun s hs => ?_) (h y (jW ..))]
  have:s.x∈(gF dl [] D).map (·.x):=dQ.2 ⟨s,hs,rfl⟩
  rw [aBx] at this
  exact h _ (kQ7 _ this)
theorem bUj{D:Lqq}(h:cA D):∀ x∈D,vZ x:=fun x hx=>by
 refine ⟨(eX.1 (h.rng x hx)).1.1,fun hk => ?_⟩
 have:=h.ord x hx;unfold orB at this
 rw [if_pos hk] at this
 simpa using this
theorem aTf{dl:Int}{D:Lqq}(h:cA D){y:List Int}(hy:y∈D):stF dl [] (D.map bJ) (bJ y)=tY (stF dl [] D y):=by
 have hn:(aK D 0).Nodup:=by
  unfold aK;rw [List.Nodup,List.pairwise_map];exact h.up.imp fun {a b} h=>by
   have h2:a.getD 0 0<b.getD 0 0:=h;omega
 have hx:∃ s∈gF dl [] D,s.x=y:=by
  rw [← aBx dl [] D] at hy
  obtain ⟨s,h1,h2⟩:=dQ.1 hy;exact ⟨s,h1,h2⟩
 unfold stF;rw [aLy (bUj h),List.find?_map];have e:(gF dl [] D).find? ((fun s=>s.x == bJ y) ∘ tY)=(gF dl [] D).find? fun s=>s.x == y:=by
  have hm:∀ s∈gF dl [] D,((fun s:DS=>s.x == bJ y) ∘ tY) s=(s.x == y):=fun s hs=>by
   have hs':s.x∈D:=by
    have:s.x∈(gF dl [] D).map (·.x):=dQ.2 ⟨s,hs,rfl⟩
    rwa [aBx] at this
   show (bJ s.x == bJ y)=(s.x == y);rw [Bool.eq_iff_iff,beq_iff_eq,beq_iff_eq];refine ⟨fun e=>aRt hn hs' hy ?_,fun e=>by rw [e]⟩
   have:=congrArg dN e;rw [yT,yT] at this
   have h2:dN s.x=dN y:=by omega
   exact h2
  generalize gF dl [] D=T at hm
  clear hx
  induction T with
  | nil=>rfl
  | cons s T ih=>rw [List.find?_cons,List.find?_cons,hm s (jW ..),ih fun z hz=>hm z (kQ7 _ hz)]
 rw [e];have:((gF dl [] D).find? fun s=>s.x == y).isSome=true:=by
  rw [List.find?_isSome];obtain ⟨s,h1,h2⟩:=hx;exact ⟨s,h1,by rw [h2];exact beq_self_eq_true y⟩
 obtain ⟨s,hs⟩:=Option.isSome_iff_exists.1 this;rw [hs];rfl
theorem bGc{dl:Int}{D:Lqq}(h:cA D)(b t:Int):tO dl [] (D.map bJ) (b+100) t=tO dl [] D b t:=by
 unfold tO;rw [List.foldl_map];have key:∀ (l:Lqq) (a:Bool × Int),(∀ x∈l,x∈D)→l.foldl (fun a x=>nW dl [] (D.map bJ) (b+100) a (bJ x)) a=l.foldl (nW dl [] D b) a:=fun l=>by
  induction l with
  | nil=>intro a _;rfl
  | cons x l ih =>
   intro a hl;have hx:=hl x (jW ..);have e:nW dl [] (D.map bJ) (b+100) a (bJ x)=nW dl [] D b a x:=by
    unfold nW aHa dX aDf nX;rw [aTf h hx,pT]
    by_cases hk:dK x≤4
    ·have hb:(dB (bJ x) == b+100)=(dB x == b):=by
      unfold bJ;rw [if_pos hk,Bool.eq_iff_iff,beq_iff_eq,beq_iff_eq];show dB x+100=b+100↔_;omega
     rw [hb];rfl
    ·rw [decide_eq_false hk];simp
   rw [oT,oT,e,ih _ fun y hy=>hl y (kQ7 _ hy)]
 exact key D _ fun _ hx=>hx
theorem bGd{dl:Int}{D:Lqq}(h:cA D)(b t:Int):cF dl [] (D.map bJ) (b+100) t=cF dl [] D b t:=by
 unfold cF;rw [bGc h]
theorem bAy{dl:Int}{D:Lqq}(h:cA D):aN dl (D.map bJ)=(aN dl D).map (· + 500):=by
 unfold aN;rw [List.filter_map,lK,lK];have:D.filter (lD dl (D.map bJ) ∘ bJ)=D.filter (lD dl D):=List.filter_congr fun x hx=>by
  show lD dl (D.map bJ) (bJ x)=_;unfold lD dX rX;rw [aTf h hx,pT];show (gE (dK x) && ((stF dl [] D x).cnt && ((stF dl [] D x).rul.map bJ).isNone))=_;rw [Option.isNone_map]
 rw [this];refine tF fun x _ => ?_
 exact yT x
def cY(x:List Int):List Int:=[x.getD 0 0+100,x.getD 1 0]
end
section
theorem bCn(g:List Int→List Int){l:Lqq}{i:Nat}{x:List Int}(h:l[i]? = some x)(hg:g x=x):upw g l (i+1)=upw g l i:=by
 rw [← vY g h,hg];have:=aIh g h;obtain ⟨h1,h2⟩:=kQ2.1 this
 conv=>lhs;rw [← h2]
 exact List.set_getElem_self h1
theorem aGt{dl:Int}{oc:List Int}{D:Lqq}{b:Int}(hd:cA D):∀ (l:Lqq) (o:Bool) (t:Int),(∀ x∈l,x∈D)→(l.foldl (nW dl oc D b) (o,t)).2≤t+43200000*(l.length:Int)
 | [],o,t,_=>by simp
 | x::l,o,t,h=>by
  have hm:=aRz (dl:=dl) (oc:=oc) hd (h x (jW ..));have hl:=fun y hy=>h y (kQ7 _ hy)
  rw [oT,tG];unfold nW;dsimp only
  by_cases hh:aHa dl oc D b x=true
  ·rw [if_pos hh]
   have ih:=aGt (dl:=dl) (oc:=oc) (b:=b) hd l (o || dK x == 3) (byI (dK x) t (nX dl oc D x)) hl
   unfold nW at ih
   have:byI (dK x) t (nX dl oc D x)≤t+43200000:=by unfold byI;repeat' split <;> omega
   omega
  ·rw [if_neg hh]
   have ih:=aGt (dl:=dl) (oc:=oc) (b:=b) hd l o t hl;unfold nW at ih
   omega
theorem bHa{dl:Int}{oc:List Int}{D:Lqq}{b t:Int}(hd:cA D)(ht:t≤360000):0≤(cF dl oc D b t).1∧(cF dl oc D b t).1≤100000000000:=by
 have h:=aGt (dl:=dl) (oc:=oc) (b:=b) hd D (t == -1) t fun _ h=>h
 have hl:=hd.len;have h2:(tO dl oc D b t).2≤t+43200000*(D.length:Int):=h;unfold cF
 split
 ·exact ⟨by simp,by simp⟩
 ·show 0≤max 0 (tO dl oc D b t).2∧max 0 (tO dl oc D b t).2≤100000000000
  omega
theorem cN.later{sk dc:Lqq}{v:Int}(h:cN 30 sk dc)(hv:0≤v∧v≤65535)(ht:∀ x∈sk,x.getD 1 0≤16000):cN 30 (sk.map (cM v)) dc:=by
 have hc:aK (sk.map (cM v)) 0=aK sk 0:=by
  unfold aK;rw [lK];rfl
 refine ⟨fun x hx => ?_,h.ud,by rw [kQ6];exact h.len,h.len2,h.hdl,fun x hx => ?_,h.hdc,by rw [hc];exact h.ns,h.nd,fun x hx => ?_,h.ord⟩
 ·obtain ⟨y,_,rfl⟩:=dQ.1 hx;rfl
 ·obtain ⟨y,hy,rfl⟩:=dQ.1 hx
  have h1:=iU.1 (h.hsk y hy);have h2:=ht y hy;refine iU.2 ⟨h1.1,?_⟩;show -1≤(if y.getD 1 0 = -1 then (-1:Int) else y.getD 1 0+v)∧(if y.getD 1 0 = -1 then (-1:Int) else y.getD 1 0+v)≤360000
  split <;> omega
 ·have:=h.inb x hx
  unfold inB at this ⊢
  rw [hc];exact this
theorem cN.named{sk dc:Lqq}(h:cN 30 sk dc)(hb:∀ x∈sk,x.getD 0 0≤88)(hn:∀ x∈dc,x.getD 0 0≤80):cN 30 (sk.map cY) (dc.map bJ):=by
 have hab:∀ x∈dc,vZ x:=fun x hx=>by
  refine ⟨(eX.1 (h.hdc x hx)).1.1,fun hk => ?_⟩
  have:=h.ord x hx;unfold orB at this
  rw [if_pos hk] at this
  simpa using this
 refine ⟨fun x hx => ?_,fun x hx => ?_,by rw [kQ6];exact h.len,by rw [kQ6];exact h.len2,h.hdl,fun x hx => ?_,fun x hx => ?_,aFo (a:=100) h.ns fun x _=>rfl,aFo (a:=500) h.nd fun x _=>yT x,fun x hx => ?_,fun x hx => ?_⟩
 ·obtain ⟨y,_,rfl⟩:=dQ.1 hx;rfl
 ·obtain ⟨y,_,rfl⟩:=dQ.1 hx;exact aTe y
 ·obtain ⟨y,hy,rfl⟩:=dQ.1 hx
  have h1:=iU.1 (h.hsk y hy);have h2:=hb y hy;refine iU.2 ⟨?_,h1.2⟩;show 1≤y.getD 0 0+100∧y.getD 0 0+100≤999;omega
 ·obtain ⟨y,hy,rfl⟩:=dQ.1 hx
  have h1:=eX.1 (h.hdc y hy);have h2:=hn y hy;refine eX.2 ⟨?_,?_,?_,?_⟩
  ·show 1≤dN (bJ y)∧dN (bJ y)≤9999
   rw [yT];show 1≤y.getD 0 0+500∧y.getD 0 0+500≤9999;omega
  ·show 0≤dK (bJ y)∧dK (bJ y)≤9
   rw [pT];exact h1.2.1
  ·show 0≤dMi (bJ y)∧dMi (bJ y)≤10000
   rw [bGa];exact h1.2.2.1
  ·show 0≤dMu (bJ y)∧dMu (bJ y)≤lB (dK (bJ y))
   rw [pT,bGb];exact h1.2.2.2
 ·obtain ⟨y,hy,rfl⟩:=dQ.1 hx
  have h1:=h.inb y hy;unfold inB at h1 ⊢
  show (if dK (bJ y)≤4 then (aK (sk.map cY) 0).contains (dB (bJ y)) else dB (bJ y) == 0)=true
  rw [pT]
  by_cases hk:dK y≤4
  ·rw [if_pos hk] at h1 ⊢
   rw [List.contains_iff_mem] at h1 ⊢
   obtain ⟨z,hz,e⟩:=dQ.1 h1;refine dQ.2 ⟨cY z,dQ.2 ⟨z,hz,rfl⟩,?_⟩;have e:z.getD 0 0=dB y:=e;unfold bJ;rw [if_pos hk];show z.getD 0 0+100=dB y+100;omega
  ·rw [if_neg hk] at h1 ⊢
   unfold bJ;rw [if_neg hk];exact h1
 ·obtain ⟨y,hy,rfl⟩:=dQ.1 hx
  have h1:=h.ord y hy;unfold orB at h1 ⊢
  show (if dK (bJ y)≤4 then dAb (bJ y) == 0 else within (dAb (bJ y)) 1 (dN (bJ y)-1))=true
  rw [pT,yT]
  by_cases hk:dK y≤4
  ·rw [if_pos hk] at h1 ⊢
   unfold bJ;rw [if_pos hk];exact h1
  ·rw [if_neg hk] at h1 ⊢
   have h2:=cD.1 h1;unfold bJ;rw [if_neg hk];refine cD.2 ?_;show 1≤dAb y+500∧dAb y+500≤dN y+500-1;have h3:1≤dAb y∧dAb y≤dN y-1:=h2;omega
theorem bMu{bb:Int}{sk0 dc1:Lqq}(hu:uni 2 sk0)(hl:sk0.length≤1000)(hv:0≤bb∧bb≤65535)(ht:∀ x∈sk0,x.getD 0 0≤88∧x.getD 1 0≤16000)(hb:∀ x∈sk0,skB x=true) :
  aI Tp 0 (sub (cd Tryz.f4) [1,1,1,0,1,0,0]) (fF bb sk0 dc1 0 sk0.length (sk0.flatten.map aA) sk0.length (sk0.flatten.map aA)) (.exit 0) (fF bb sk0 dc1 sk0.length (sk0.map (cM bb)).length ((sk0.map (cM bb)).flatten.map aA) (sk0.map cY).length ((sk0.map cY).flatten.map aA)):=by
 have h:=aI.count (P:=Tp) (k:=0) (b:=sub (cd Tryz.f4) [1,1,1,0,1,0,0]) (e := .exit 0) (R:=fF bb sk0 dc1 sk0.length (upw (cM bb) sk0 sk0.length).length ((upw (cM bb) sk0 sk0.length).flatten.map aA) (upw cY sk0 sk0.length).length ((upw cY sk0 sk0.length).flatten.map aA)) sk0.length
  (fun i=>fF bb sk0 dc1 i (upw (cM bb) sk0 i).length ((upw (cM bb) sk0 i).flatten.map aA) (upw cY sk0 i).length ((upw cY sk0 i).flatten.map aA))
  (fun i hi=>by
   have hm:=gO hi;obtain ⟨a,t,hy⟩:=len2 (hu _ hm);have hx:sk0[i]? = some [a,t]:=by rw [kQ0 hi,hy]
   rw [hy] at hm
   have b1:=ht _ hm;have b2:=iU.1 (hb _ hm);have b1':a≤88∧t≤16000:=b1;have b2':(1≤a∧a≤999) ∧ -1≤t∧t≤360000:=b2;have u1:uni 2 (upw (cM bb) sk0 i):=aIi hu (fun x _=>rfl) i
   have u2:uni 2 (upw cY sk0 i):=aIi hu (fun x _=>rfl) i
   have g1:=aIh (cM bb) hx;have g2:=aIh cY hx;have l1:=bD u1 g1;have l2:=bD u2 g2;have en:(upw cY sk0 (i+1)).flatten.map aA=((upw cY sk0 i).flatten.map aA).set (i*2) (aA (a+100)):=by
    rw [← vY cY hx];exact (vX (f:=0) (y:=a+100) u2 g2 (by omega)).symm
   by_cases h1:t = -1
   ·have es:upw (cM bb) sk0 (i+1)=upw (cM bb) sk0 i:=bCn _ hx (by
     show [a,if t = -1 then (-1:Int) else t+bb]=[a,t]
     rw [if_pos h1,h1])
    rw [es];exact aVe (nm':=upw cY sk0 (i+1)) (by omega) g1 u1 h1 g2 u2 (by unfold inR;omega) (by omega) (aP (by omega)) rfl (by rw [kR,kR]) en
   ·have el:(upw (cM bb) sk0 (i+1)).flatten.map aA=((upw (cM bb) sk0 i).flatten.map aA).set (i*2+1) (aA (t+bb)):=by
     rw [← vY (cM bb) hx];have e:cM bb [a,t]=[a,t+bb]:=by
      show [a,if t = -1 then (-1:Int) else t+bb]=_
      rw [if_neg h1]
     rw [e];exact (vX (f:=1) (y:=t+bb) u1 g1 (by omega)).symm
    exact aVd (lt':=upw (cM bb) sk0 (i+1)) (nm':=upw cY sk0 (i+1)) (by omega) g1 u1 h1 (by unfold inR;omega) (by unfold inR;omega) (by omega) g2 u2 (by unfold inR;omega) (by omega) (aP (by omega)) rfl (by rw [kR,kR]) el (by rw [kR,kR]) en)
  (aVf (by omega)) (by simp)
 rw [aCr,aCr,aIj,aIj] at h
 exact h
theorem bMv{bb:Int}{sk0 dc1 L N:Lqq}(hu:uni 6 dc1)(hl:dc1.length≤1000)(hd:∀ x∈dc1,dcB x=true∧x.getD 0 0≤80)(hbib:∀ x∈dc1,-1000000≤x.getD 3 0∧x.getD 3 0≤1000000)(hab:∀ x∈dc1,-1000000≤x.getD 5 0∧x.getD 5 0≤1000000) :
  aI Tp 0 (sub (cd Tryz.f4) [1,1,1,1,0,1,0,0]) (fG bb sk0 dc1 L N 0 dc1.length (dc1.flatten.map aA)) (.exit 2) (fG bb sk0 dc1 L N dc1.length (dc1.map bJ).length ((dc1.map bJ).flatten.map aA)):=by
 have h:=aI.count (P:=Tp) (k:=0) (b:=sub (cd Tryz.f4) [1,1,1,1,0,1,0,0]) (e := .exit 2) (R:=fG bb sk0 dc1 L N dc1.length (upw bJ dc1 dc1.length).length ((upw bJ dc1 dc1.length).flatten.map aA)) dc1.length
  (fun j=>fG bb sk0 dc1 L N j (upw bJ dc1 j).length ((upw bJ dc1 j).flatten.map aA))
  (fun j hj=>by
   have hm:=gO hj;obtain ⟨n,k,mi,b,mu,ab,hy⟩:=len6 (hu _ hm);have hx:dc1[j]? = some [n,k,mi,b,mu,ab]:=by rw [kQ0 hj,hy]
   rw [hy] at hm
   obtain ⟨q1,q2⟩:=hd _ hm;have q1:=(eX.1 q1).1;have q1':1≤n∧n≤9999:=q1;have q3 : -1000000≤b∧b≤1000000:=hbib _ hm;have q4 : -1000000≤ab∧ab≤1000000:=hab _ hm;have u:uni 6 (upw bJ dc1 j):=aIi hu (fun x _=>aTe x) j
   have g:=aIh bJ hx;have l:=bD u g;have hlt:=(kQ2.1 g).1;have s1:=vX (f:=0) (y:=n+500) u g (by omega)
   have u':uni 6 ((upw bJ dc1 j).set j [n+500,k,mi,b,mu,ab]):=fun y hy=>by
    rcases List.mem_or_eq_of_mem_set hy with q | rfl
    ·exact u y q
    ·rfl
   have g':((upw bJ dc1 j).set j [n+500,k,mi,b,mu,ab])[j]? = some [n+500,k,mi,b,mu,ab]:=bCk hlt;have s1':((upw bJ dc1 j).flatten.map aA).set (j*6) (aA (n+500))=((upw bJ dc1 j).set j [n+500,k,mi,b,mu,ab]).flatten.map aA:=s1
   by_cases hk:k≤4
   ·have s2:=vX (f:=3) (y:=b+100) u' g' (by omega)
    have en:(upw bJ dc1 (j+1)).flatten.map aA=(((upw bJ dc1 j).flatten.map aA).set (j*6) (aA (n+500))).set (j*6+3) (aA (b+100)):=by
     rw [← vY bJ hx,s1',s2,List.set_set]
     congr 3
     unfold bJ;rw [if_pos (show dK [n,k,mi,b,mu,ab]≤4 from hk)];rfl
    exact aVg (nd':=upw bJ dc1 (j+1)) (by omega) g u (by unfold inR;omega) (by omega) hk (by unfold inR;omega) (by rw [qP];omega) (aP (by omega)) rfl (by rw [kR,kR]) en
   ·have s2:=vX (f:=5) (y:=ab+500) u' g' (by omega)
    have en:(upw bJ dc1 (j+1)).flatten.map aA=(((upw bJ dc1 j).flatten.map aA).set (j*6) (aA (n+500))).set (j*6+5) (aA (ab+500)):=by
     rw [← vY bJ hx,s1',s2,List.set_set]
     congr 3
     unfold bJ;rw [if_neg (show ¬ dK [n,k,mi,b,mu,ab]≤4 from hk)];rfl
    exact aVh (nd':=upw bJ dc1 (j+1)) (by omega) g u (by unfold inR;omega) (by omega) (by omega) (by unfold inR;omega) (by rw [qP];omega) (aP (by omega)) rfl (by rw [kR,kR]) en)
  (aVi (by omega)) (by simp)
 rw [aCr,aIj] at h
 exact h
theorem aVc{bb:Int}{sk0 dc1:Lqq}(hr:cN 30 sk0 dc1)(hsl:sk0.length<20)(hv:0≤bb∧bb≤65535)(ht:∀ x∈sk0,x.getD 0 0≤88∧x.getD 1 0≤16000)(hA:∀ {base:Nat},FV Tp 26 [] base (.p (blP true)) [])
  (e1:aB (sk0.map (cM bb))=(aB sk0).map (cM bb)) (e2:aB (sk0.map cY)=(aB sk0).map cY) (e3:aB (dc1.map bJ)=(aB dc1).map bJ) :
  (∃ k,aI Tp 0 (sub (cd Tryz.f4) [1,1,1,1,1,1,1,1,1,1,1,0,1,0,0]) (fR bb sk0 dc1 (sk0.map (cM bb)) (sk0.map cY) (dc1.map bJ) 0) (.exit 4) (fR bb sk0 dc1 (sk0.map (cM bb)) (sk0.map cY) (dc1.map bJ) k)) ∨
  (∃ k,aI Tp 0 (sub (cd Tryz.f4) [1,1,1,1,1,1,1,1,1,1,1,0,1,0,0]) (fR bb sk0 dc1 (sk0.map (cM bb)) (sk0.map cY) (dc1.map bJ) 0) .ret (cE (fR bb sk0 dc1 (sk0.map (cM bb)) (sk0.map cY) (dc1.map bJ) k) [(4,(.p (blP true)))])):=by
 have hd:=jU hr;have hlen:=hr.len;have hsk:∀ s∈aB sk0,s∈sk0:=fun s hs=>(eE sk0).mem_iff.1 hs
 have s1:=aIb (f:=fun x:List Int=>x.getD 2 0) (fun x y=>aQf 2 x y) (dG 30 [] (aB dc1) (aB sk0))
 have hpl:=bGf _ s1;have hIlen:(isort (ltK 2) (dG 30 [] (aB dc1) (aB sk0))).length≤30:=by
  rw [pL];have:=xN (dl:=30) (oc:=[]) (dc:=aB dc1) (sk:=aB sk0);rw [eP] at this
  omega
 have hImem:∀ x∈isort (ltK 2) (dG 30 [] (aB dc1) (aB sk0)),∃ s∈aB sk0,(cF 30 [] (aB dc1) (sB s) (sT s)).2=false∧x=[sB s,0,(cF 30 [] (aB dc1) (sB s) (sT s)).1]:=fun x hx=>by
  have hx':=(rU _ _ x).1 hx;unfold dG at hx'
  obtain ⟨s,hs',rfl⟩:=dQ.1 hx';obtain ⟨m1,m2⟩:=wN.1 hs';exact ⟨s,m1,by simpa using m2,rfl⟩
 have bd:∀ s∈aB sk0,0≤(cF 30 [] (aB dc1) (sB s) (sT s)).1∧(cF 30 [] (aB dc1) (sB s) (sT s)).1≤100000000000:=fun s hs=>bHa hd (by
  have:=(ht s (hsk s hs)).2;show s.getD 1 0≤360000;omega)
 have eR:bX 30 [] (aB dc1) (aB sk0)=dY (isort (ltK 2) (dG 30 [] (aB dc1) (aB sk0)))++fL 30 [] (aB dc1) (aB sk0):=rfl;have hRl:(bX 30 [] (aB dc1) (aB sk0)).length≤30:=by rw [vV,eP];omega
 by_cases hall:∀ s∈aB sk0,(cF 30 [] (aB dc1) (sB s) (sT s)).2=false→1≤(cF 30 [] (aB dc1) (sB s) (sT s)).1
 ·refine .inl ⟨(bX 30 [] (aB dc1) (aB sk0)).length,?_⟩
  have eL:bX 30 [] (aB dc1) (aB (sk0.map (cM bb)))=(dY (isort (ltK 2) (dG 30 [] (aB dc1) (aB sk0)))).map (mvL 0 bb)++(fL 30 [] (aB dc1) (aB sk0)).map (mvL 0 0):=by
   rw [e1];refine aTd (fun s _=>by show s.getD 0 0=s.getD 0 0+0;omega) fun s hs=>bAw hv.1 ?_ (hall s hs)
   have:=(iU.1 (hr.hsk s (hsk s hs))).2.1;exact this
  have eN:bX 30 [] (aB (dc1.map bJ)) (aB (sk0.map cY))=(dY (isort (ltK 2) (dG 30 [] (aB dc1) (aB sk0)))).map (mvL 100 0)++(fL 30 [] (aB dc1) (aB sk0)).map (mvL 100 0):=by
   rw [e2,e3];refine aTd (fun s _=>rfl) fun s hs => ?_
   have:cF 30 [] ((aB dc1).map bJ) (sB (cY s)) (sT (cY s))=cF 30 [] (aB dc1) (sB s) (sT s):=bGd hd (sB s) (sT s);rw [this];exact ⟨rfl,fun _=>by omega⟩
  refine aI.count (P:=Tp) (k:=0) (bX 30 [] (aB dc1) (aB sk0)).length (fun k=>fR bb sk0 dc1 (sk0.map (cM bb)) (sk0.map cY) (dc1.map bJ) k) (fun k hk => ?_) (aNz (by omega)) (by simp)
  have hin:inR (((k+1):Nat):Int):=aP (by omega)
  rcases Nat.lt_or_ge k (dY (isort (ltK 2) (dG 30 [] (aB dc1) (aB sk0)))).length with hc | hc
  ·obtain ⟨x,hx1,hx2⟩:∃ x∈isort (ltK 2) (dG 30 [] (aB dc1) (aB sk0)),(dY (isort (ltK 2) (dG 30 [] (aB dc1) (aB sk0))))[k]? = some [x.getD 0 0,(pM (isort (ltK 2) (dG 30 [] (aB dc1) (aB sk0))) (x.getD 2 0):Int)+1,x.getD 2 0]:=by
    rw [hpl];rw [hpl,kQ6] at hc
    exact ⟨_,gO hc,by rw [gC,kQ0 hc];rfl⟩
   obtain ⟨s,m1,m2,rfl⟩:=hImem x hx1;have b1:=bd s m1;have b2:=hall s m1 m2;have b3:=(iU.1 (hr.hsk s (hsk s m1))).1;have hcn:pM (isort (ltK 2) (dG 30 [] (aB dc1) (aB sk0))) (cF 30 [] (aB dc1) (sB s) (sT s)).1≤30:=gQ (yY _ _) hIlen;have hx2':(dY (isort (ltK 2) (dG 30 [] (aB dc1) (aB sk0))))[k]? = some [sB s,(pM (isort (ltK 2) (dG 30 [] (aB dc1) (aB sk0))) (cF 30 [] (aB dc1) (sB s) (sT s)).1:Int)+1,(cF 30 [] (aB dc1) (sB s) (sT s)).1]:=hx2;have hg:(bX 30 [] (aB dc1) (aB sk0))[k]? = some [sB s,(pM (isort (ltK 2) (dG 30 [] (aB dc1) (aB sk0))) (cF 30 [] (aB dc1) (sB s) (sT s)).1:Int)+1,(cF 30 [] (aB dc1) (sB s) (sT s)).1]:=by
    rw [eR,tE hc];exact hx2'
   have hgL:(bX 30 [] (aB dc1) (aB (sk0.map (cM bb))))[k]? = some [sB s,(pM (isort (ltK 2) (dG 30 [] (aB dc1) (aB sk0))) (cF 30 [] (aB dc1) (sB s) (sT s)).1:Int)+1,(cF 30 [] (aB dc1) (sB s) (sT s)).1+bb]:=by
    rw [eL,tE (by rw [kQ6];exact hc),gC,hx2']
    show some [sB s+0,_,_]=_;rw [Int.add_zero];rfl
   have hgN:(bX 30 [] (aB (dc1.map bJ)) (aB (sk0.map cY)))[k]? = some [sB s+100,(pM (isort (ltK 2) (dG 30 [] (aB dc1) (aB sk0))) (cF 30 [] (aB dc1) (sB s) (sT s)).1:Int)+1,(cF 30 [] (aB dc1) (sB s) (sT s)).1]:=by
    rw [eN,tE (by rw [kQ6];exact hc),gC,hx2']
    show some [sB s+100,_,(cF 30 [] (aB dc1) (sB s) (sT s)).1+0]=_;rw [Int.add_zero];rfl
   have b3':1≤sB s∧sB s≤999:=b3;exact aVk (by omega) hg mE (by omega) (by unfold inR;omega) (by unfold inR;omega) b2 hgL mE ⟨rfl,rfl⟩ (by simp [jN,uP]) hgN mE (by unfold inR;omega) ⟨rfl,rfl⟩ (by simp [jN,uP]) hin rfl
  ·have hlt:k-(dY (isort (ltK 2) (dG 30 [] (aB dc1) (aB sk0)))).length<(fL 30 [] (aB dc1) (aB sk0)).length:=by
    rw [eR,mG] at hk
    omega
   obtain ⟨b,hb⟩:∃ s∈aB sk0,(fL 30 [] (aB dc1) (aB sk0))[k-(dY (isort (ltK 2) (dG 30 [] (aB dc1) (aB sk0)))).length]? = some [sB s,-1,0]:=by
    have hm:=gO hlt;have e:=kQ0 hlt;unfold fL at hm
    obtain ⟨s,hs',he⟩:=dQ.1 hm;refine ⟨s,(wN.1 hs').1,?_⟩;rw [e];exact congrArg some he.symm
   obtain ⟨m1,hb⟩:=hb;have b3:=(iU.1 (hr.hsk b (hsk b m1))).1;have b3':1≤sB b∧sB b≤999:=b3;have hg:(bX 30 [] (aB dc1) (aB sk0))[k]? = some [sB b,-1,0]:=by
    rw [eR,tD hc];exact hb
   have hgL:(bX 30 [] (aB dc1) (aB (sk0.map (cM bb))))[k]? = some [sB b,-1,0]:=by
    rw [eL,tD (by rw [kQ6];exact hc),kQ6,gC,hb]
    show some [sB b+0,-1,0+0]=_;rw [Int.add_zero];rfl
   have hgN:(bX 30 [] (aB (dc1.map bJ)) (aB (sk0.map cY)))[k]? = some [sB b+100,-1,0]:=by
    rw [eN,tD (by rw [kQ6];exact hc),kQ6,gC,hb]
    rfl
   exact aVl (by omega) hg mE rfl (by omega) hgL mE ⟨rfl,rfl⟩ (by simp [jN,uP]) hgN mE (by unfold inR;omega) ⟨rfl,rfl⟩ (by simp [jN,uP]) hin rfl
 ·have hall':∃ s∈aB sk0,(cF 30 [] (aB dc1) (sB s) (sT s)).2=false∧(cF 30 [] (aB dc1) (sB s) (sT s)).1<1:=by
   apply Classical.byContradiction;intro hn;exact hall fun s hs h1=>by
    by_cases h2:1≤(cF 30 [] (aB dc1) (sB s) (sT s)).1
    ·exact h2
    ·exact absurd ⟨s,hs,h1,by omega⟩ hn
  obtain ⟨s,hs,h1,h2⟩:=hall';have hm:[sB s,0,(cF 30 [] (aB dc1) (sB s) (sT s)).1]∈isort (ltK 2) (dG 30 [] (aB dc1) (aB sk0)):=by
   rw [rU];unfold dG;exact dQ.2 ⟨s,wN.2 ⟨hs,by rw [h1];rfl⟩,rfl⟩
  obtain ⟨y,hy1,hy2,hy3⟩:∃ y∈isort (ltK 2) (dG 30 [] (aB dc1) (aB sk0)),y.getD 2 0<1∧(isort (ltK 2) (dG 30 [] (aB dc1) (aB sk0)))[0]? = some y:=by
   cases hI:isort (ltK 2) (dG 30 [] (aB dc1) (aB sk0)) with
   | nil=>rw [hI] at hm;cases hm
   | cons y R =>
    refine ⟨y,jW ..,?_,rfl⟩;rw [hI] at hm s1
    rcases jG.1 hm with e | hm
    ·rw [← e];exact h2
    ·have:=(List.pairwise_cons.1 s1).1 _ hm
     have this:y.getD 2 0≤(cF 30 [] (aB dc1) (sB s) (sT s)).1:=this;omega
  obtain ⟨s',m1,m2,rfl⟩:=hImem y hy1;have b1:=bd s' m1;have hy2':(cF 30 [] (aB dc1) (sB s') (sT s')).1<1:=hy2;have hg:(bX 30 [] (aB dc1) (aB sk0))[0]? = some [sB s',(pM (isort (ltK 2) (dG 30 [] (aB dc1) (aB sk0))) (cF 30 [] (aB dc1) (sB s') (sT s')).1:Int)+1,(cF 30 [] (aB dc1) (sB s') (sT s')).1]:=by
   have h0:(dY (isort (ltK 2) (dG 30 [] (aB dc1) (aB sk0))))[0]? = some [sB s',(pM (isort (ltK 2) (dG 30 [] (aB dc1) (aB sk0))) (cF 30 [] (aB dc1) (sB s') (sT s')).1:Int)+1,(cF 30 [] (aB dc1) (sB s') (sT s')).1]:=by
    rw [hpl,gC,hy3];rfl
   rw [eR,tE (kQ2.1 h0).1];exact h0
  have hlt:=(kQ2.1 hg).1;exact .inr ⟨0,.exit (aVj (by omega) hg mE (by omega) (by unfold inR;omega) (by unfold inR;omega) hy2' hA) (by simp)⟩
theorem bMw(hA:∀ {base:Nat},FV Tp 26 [] base (.p (blP true)) [])(l1:List Int)(bb:Int)(hv:0≤bb∧bb≤65535){base:Nat}:FV Tp 4 [.p (.sl l1.length (l1.map aO)),.p (.v (.int .u16 bb))] base (.p (blP true)) []:=by
 have M:=aKk (ns:=6) (nd:=14) (l:=l1) (nx:=0) (st:=17) (by decide) (by decide) (by decide)
 rcases hmd:aVo 6 14 l1 0 17 with ⟨sk0,dc1,m2,t3⟩
 rw [hmd] at M
 obtain ⟨hr,hl6,hl14,_,_,_,hn,hs,_⟩:=M;dsimp only at hr hl6 hl14 hn hs
 have hlen:=hr.len;have hlen2:=hr.len2;have hr1:cN 30 (sk0.map (cM bb)) dc1:=hr.later hv fun x hx=>(hs x hx).2
 have hr2:cN 30 (sk0.map cY) (dc1.map bJ):=hr.named (fun x hx=>(hs x hx).1) hn
 have e1:aB (sk0.map (cM bb))=(aB sk0).map (cM bb):=xO (a:=0) hr1.ns fun x _=>by show x.getD 0 0=x.getD 0 0+0;omega
 have e2:aB (sk0.map cY)=(aB sk0).map cY:=xO (a:=100) hr2.ns fun x _=>rfl
 have e3:aB (dc1.map bJ)=(aB dc1).map bJ:=xO (a:=500) hr2.nd fun x _=>yT x
 have hd:=jU hr;have hL0:=bMu (bb:=bb) (dc1:=dc1) hr.us (by omega) hv hs hr.hsk
 have hbib:∀ x∈dc1,(-1000000≤x.getD 3 0∧x.getD 3 0≤1000000) ∧ -1000000≤x.getD 5 0∧x.getD 5 0≤1000000:=fun x hx=>by
  have h1:=hr.inb x hx;have h2:=hr.ord x hx;have h3:=(eX.1 (hr.hdc x hx)).1;unfold inB at h1
  unfold orB at h2
  by_cases hk:x.getD 1 0≤4
  ·rw [if_pos hk] at h1 h2
   rw [List.contains_iff_mem] at h1
   obtain ⟨z,hz,e⟩:=aGx h1;have:=(iU.1 (hr.hsk z hz)).1;have h2':x.getD 5 0=0:=by simpa using h2
   omega
  ·rw [if_neg hk] at h1 h2
   have h1':x.getD 3 0=0:=by simpa using h1
   have:=cD.1 h2;omega
 have hL1:=bMv (bb:=bb) (sk0:=sk0) (L:=sk0.map (cM bb)) (N:=sk0.map cY) hr.ud (by omega) (fun x hx=>⟨hr.hdc x hx,hn x hx⟩) (fun x hx=>(hbib x hx).1) (fun x hx=>(hbib x hx).2)
 have r1:(bX 30 [] (aB dc1) (aB sk0)).length=sk0.length:=by rw [vV,eP]
 have r2:(bX 30 [] (aB dc1) (aB (sk0.map (cM bb)))).length=sk0.length:=by rw [vV,eP,kQ6]
 have r3:(bX 30 [] (aB (dc1.map bJ)) (aB (sk0.map cY))).length=sk0.length:=by rw [vV,eP,kQ6]
 have r4:aN 30 (aB (dc1.map bJ))=(aN 30 (aB dc1)).map (· + 500):=by rw [e3,bAy hd]
 have hol:=aFn (dl:=30) hd;have hob:∀ n∈aN 30 (aB dc1),1≤n∧n≤9999:=fun n hn=>by
  unfold aN at hn
  obtain ⟨x,hx,rfl⟩:=dQ.1 hn;exact (eX.1 (hd.rng x (wN.1 hx).1)).1
 rcases aVc hr (by omega) hv hs hA e1 e2 e3 with ⟨k,hk⟩ | ⟨k,hk⟩
 ·have hL3:=aI.count (P:=Tp) (k:=0) (b:=sub (cd Tryz.f4) [1,1,1,1,1,1,1,1,1,1,1,1,0,1,0,0]) (e := .exit 6) (R:=oY dc1 (dc1.map bJ) (aN 30 (aB dc1)).length) (aN 30 (aB dc1)).length (fun m=>oY dc1 (dc1.map bJ) m)
   (fun m hm=>by
    have hx:(aN 30 (aB dc1))[m]? = some (aN 30 (aB dc1))[m]:=kQ0 hm;have hb:=hob _ (gO hm);have hy:(aN 30 (aB (dc1.map bJ)))[m]? = some ((aN 30 (aB dc1))[m]+500):=by rw [r4,gC,hx];rfl
    exact aVm (by omega) hx hy (by unfold inR;omega) rfl (aP (by omega)) rfl)
   (aVn (by omega)) (by simp)
  exact bMy (by omega) (by omega) (by omega) hmd hr.us (by omega) hr.ud (by omega) hL0 hL1 hr (by omega) hr1 (by rw [kQ6];omega) hr2 (by rw [kQ6];omega) (by rw [r1]) (by rw [r1,r2]) (by rw [r1,r3]) (by rw [r4,kQ6]) hk hL3 hA
 ·exact bMz (by omega) (by omega) (by omega) hmd hr.us (by omega) hr.ud (by omega) hL0 hL1 hr (by omega) hr1 (by rw [kQ6];omega) hr2 (by rw [kQ6];omega) (by rw [r1]) (by rw [r1,r2]) (by rw [r1,r3]) (by rw [r4,kQ6]) hk
end
end KV
end Go.Proofs
