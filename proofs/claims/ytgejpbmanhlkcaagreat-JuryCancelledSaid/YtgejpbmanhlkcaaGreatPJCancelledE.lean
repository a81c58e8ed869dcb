/- Parts of the proof of JCancelled: laws of walks, contracts of functions, plain models. No condition. -/
import Derived.Sort.OwnSortedInts
import Derived.Lib.OwnBridge
import Derived.OneCell
import Derived.Test.YtgejpbmanhlkcaaGreatPJCancelledD
set_option linter.unusedVariables false
set_option linter.unusedSimpArgs false
set_option maxRecDepth 100000
section
namespace Go.Proofs
open Go.RowKit Go.Lib Go.Sort
namespace KL
def OwnI(w:World)(base:Nat)(v:Value)(l:List Int):Prop:=w.ownsRow base 3 1 v l.length (l.map (Value.int .i64))

def leB:Int→Int→Bool:=fun x y=>decide (x≤y)

theorem bFa(base:Nat)(v:Value)(l:List Int)(w:World)(hv:OwnI w base v l)(hlen:l.length≤1000000) :
  Calls Tryz.prog 57 #[v] w fun e w'=>e = .returned (.tuple #[])∧OwnI w' base v (l.mergeSort leB)∧w.grownBy w' v.ownBlock:=by
 have hown:=hv
 rcases hv.2 with ⟨rfl,h0⟩ | ⟨g,cap,cur,rfl,hb,hg,hn,hm,hs,ht⟩
 ·have:l=[]:=List.eq_nil_of_length_eq_zero h0
  subst this;refine (Tryz.slices_Sort_int_none none 0 w).mono ?_;rintro e w' ⟨rfl,rfl⟩;exact ⟨rfl,by simpa using hown,World.grownBy.refl _ _⟩
 ·have hlt:=lt_of_block hg
  refine (Tryz.slices_Sort_int g 0 cap l w (holds_of_blockI hg (by simpa using ht)) hlt (by omega)).mono ?_
  rintro e w' ⟨rfl,n,os,rfl⟩;refine ⟨rfl,?_,grownBy_sortedI _⟩;have hl:(l.mergeSort leB).length=l.length:=List.length_mergeSort l;unfold OwnI;rw [hl];exact ownsRow_sortedI hl hb hg hn hm hs

end KL
open KL
namespace KV
open Go.Shelf
variable {P:Program} {C:Cx} {M:Mem} {w w':World}
abbrev oZ(l:List Int):AO := .row 3 l.length (l.map aA)
theorem bFb{F:Nat→Prop}{cur:Array Value}{l:List Int}(hle:l.length≤cur.size)(h:∀ j (hj:j<(l.map aA).length),cM F w (l.map aA)[j] (cur.getD j undef)):cur.toList.take l.length=l.map (Value.int .i64):=by
 apply List.ext_getElem
 ·simp;omega
 ·intro i h1 h2
  have hi:i<l.length:=by simpa using h2
  have:=h i (by simpa using hi)
  rw [List.getElem_map] at this
  rw [List.getElem_map,List.getElem_take];cases hx:cur.getD i undef with
  | int k z =>
   rw [hx] at this
   cases this;rw [Array.getD_eq_getD_getElem?,Array.getElem?_eq_getElem (by omega)] at hx
   simpa using hx
  | _=>rw [hx] at this;cases this
theorem aLh(F:Nat→Prop){cur:Array Value}{l:List Int}(h:cur.toList.take l.length=l.map (Value.int .i64)):(∀ j (hj:j<(l.map aA).length),cM F w (l.map aA)[j] (cur.getD j undef))∧∀ j,j<(l.map aA).length→(cur.getD j undef).oneCell'=true:=by
 have key:∀ j (hj:j<l.length),cur.getD j undef = .int .i64 l[j]:=fun j hj=>by
  have h1:=congrArg (fun x=>x[j]?) h
  simp only [List.getElem?_take,hj,if_true,List.getElem?_map,List.getElem?_eq_getElem hj,Option.map_some,Array.getElem?_toList] at h1
  rw [Array.getD_eq_getD_getElem?,h1];rfl
 refine ⟨fun j hj => ?_,fun j hj => ?_⟩
 ·have hj':j<l.length:=by simpa using hj
  rw [List.getElem_map,key j hj'];exact .v _
 ·rw [key j (by simpa using hj)];rfl

theorem size3:∃ i,Tryz.prog.info? 3=some i∧i.size=1:=rL (show (Tryz.prog.info? 3).map (fun i=>i.size)=some 1 by kernel_rfl)
theorem bFc{id:Nat}{l:List Int}{u:Value}(hM:aR Tryz.prog C M w)(ho:M[id]? = some (some (oZ l)))(h:Rep C M w (.own id) u):OwnI w 0 u l:=by
 refine ⟨by simp,?_⟩
 cases h with
 | own _ _ h0 ha hr =>
  rcases hr _ _ _ ho with ⟨rfl,_,hn⟩ | ⟨b,rfl,hb⟩
  ·exact .inl ⟨rfl,hn⟩
  ·rcases hM.row _ _ _ _ ho with ⟨hn',_⟩ | ⟨b',arr,inf,hb',q1,q2,q3,q4,q5,q6,q7,q8⟩
   ·rw [hb] at hn';cases hn'
   ·rw [hb] at hb';cases hb'
    obtain ⟨i,hi,hs⟩:=size3;rw [hi] at q2;cases q2
    exact .inr ⟨b,_,arr,rfl,Nat.zero_le _,q1,q5,q6,by rw [q3,hs],by rw [Nat.mul_one];exact bFb (by rw [q3,hs];omega) q7⟩

theorem aFd{l l':List Int}{u u':Value}{d:Bool}(hM:aR Tryz.prog C [some (oZ l)] w)(h:Rep C [some (oZ l)] w (.own 0) u)(hown:OwnI w' 0 u' l')(hg:w.grownBy w' u.ownBlock)
  (hb:u'.ownBlock=u.ownBlock) (hd:d=false→u'=u∧l'.length=l.length) :
  ∃ C',Fr C [some (oZ l)] w C' (if d then [some .dead,some (oZ l')] else [some (oZ l')]) w'∧aR Tryz.prog C' (if d then [some .dead,some (oZ l')] else [some (oZ l')]) w'∧Rep C' (if d then [some .dead,some (oZ l')] else [some (oZ l')]) w' (.own (if d then 1 else 0)) u':=by
 have at0:∀ (id:Nat) (o:AO),([some (oZ l)]:Mem)[id]? = some (some o)→id=0∧o=oZ l:=fun id o h=>by
  cases id with
  | zero=>simp at h;exact ⟨rfl,h.symm⟩
  | succ i=>simp at h
 have hblk:∀ b,C.ι 0=some b→u.ownBlock=some b∧∃ cap,u = .slice (some ⟨b,0,none⟩) l.length cap∧cap=C.κ 0:=fun b hb0=>by
  cases h with
  | own _ _ h0 ha hr =>
   rcases hr _ _ _ rfl with ⟨_,hn,_⟩ | ⟨b',rfl,hb'⟩
   ·rw [hb0] at hn;cases hn
   ·rw [hb0] at hb';cases hb';exact ⟨rfl,_,rfl,rfl⟩
 have hnb:C.ι 0=none→u = .slice none 0 0:=fun hn=>by
  cases h with
  | own _ _ h0 ha hr =>
   rcases hr _ _ _ rfl with ⟨hu,_,_⟩ | ⟨b',rfl,hb'⟩
   ·exact hu
   ·rw [hn] at hb';cases hb'
 have hkeep:∀ b,b<w.heap.size→(∀ (id:Nat) (o:AO),([some (oZ l)]:Mem)[id]? = some (some o)→o.live=true→C.ι id≠some b)→w'.heap[b]? = w.heap[b]? := fun b hb1 hn=>by
  refine hg.block b hb1 fun he => ?_
  cases hι:C.ι 0 with
  | none=>rw [hnb hι] at he;cases he
  | some b' =>
   rw [(hblk b' hι).1] at he;cases he
   exact hn 0 _ rfl rfl hι
 have hFz:∀ b,C.F b→w'.heap[b]? = w.heap[b]? := fun b hf=>hkeep b (hM.Fs b hf) fun id o hm hl he=>hM.nF id o b hm hl he hf
 cases d with
 | false =>
  obtain ⟨rfl,hlen⟩:=hd rfl;simp only [Bool.false_eq_true,if_false];have at1:∀ (id:Nat) (o:AO),([some (oZ l')]:Mem)[id]? = some (some o)→id=0∧o=oZ l':=fun id o h=>by
   cases id with
   | zero=>simp at h;exact ⟨rfl,h.symm⟩
   | succ i=>simp at h
  have hblk':∀ b,C.ι 0=some b→∃ cur,w'.heap[b]? = some (.cells cur 3 (0,0))∧l'.length≤C.κ 0∧C.κ 0≤maxLen∧cur.size=C.κ 0∧cur.toList.take l'.length=l'.map (Value.int .i64):=fun b hι=>by
   obtain ⟨_,cap,hu,hc⟩:=hblk b hι
   rcases hown.2 with ⟨he,_⟩ | ⟨g,cap',cur,hv,_,hh,r1,r2,r3,r4⟩
   ·rw [hu] at he;cases he
   ·rw [hu] at hv
    obtain ⟨e1,_,e3⟩:=Value.slice.inj hv;cases e1;subst e3;subst hc;exact ⟨cur,hh,r1,r2,by omega,by simpa using r4⟩
  refine ⟨C,⟨hg.os,hg.tape,hg.output,hg.size,hkeep,fun id o hm => ?_,fun id o hm ty n cs hx => ?_,fun id o hm o' hx hl => ?_,fun id o b hm hl hb => ?_,fun _ h=>h,fun _ h => .inl h⟩,
   ⟨fun id ty n cs hm => ?_,fun id ty cs hm => ?_,fun id es cl hm => ?_,fun id id' o o' b h1 _ h2 _ _ _ => ?_,fun id o b hm hl hb => ?_,fun b hb=>Nat.lt_of_lt_of_le (hM.Fs b hb) hg.size,fun id o b hm hl hb => ?_⟩,?_⟩
  ·obtain ⟨rfl,rfl⟩:=at0 id o hm
   exact ⟨⟨_,rfl⟩,rfl,rfl⟩
  ·obtain ⟨rfl,rfl⟩:=at0 id o hm
   obtain ⟨_,he⟩:=at1 _ _ hx;cases he;exact ⟨l.map aA,by rw [hlen];rfl⟩
  ·obtain ⟨rfl,rfl⟩:=at0 id o hm
   rfl
  ·obtain ⟨rfl,rfl⟩:=at1 id o hm
   exact .inr ⟨0,_,rfl,rfl,hb⟩
  ·obtain ⟨rfl,he⟩:=at1 id _ hm
   cases he;cases hι:C.ι 0 with
   | none =>
    have:=hnb hι
    rcases hown.2 with ⟨_,h0⟩ | ⟨g,cap',cur,hv,_⟩
    ·have:l'=[]:=List.eq_nil_of_length_eq_zero h0
     subst this;exact .inl ⟨rfl,rfl,rfl⟩
    ·rw [this] at hv;cases hv
   | some b =>
    obtain ⟨cur,q1,q2,q3,q4,q5⟩:=hblk' b hι;obtain ⟨i,hi,hs⟩:=size3;obtain ⟨r1,r2⟩:=aLh (w:=w') C.F q5;exact .inr ⟨b,cur,i,rfl,q1,hi,by rw [hs,q4,Nat.mul_one],by simp [hs],q2,q3,r1,r2⟩
  ·obtain ⟨_,he⟩:=at1 id _ hm;cases he
  ·obtain ⟨_,he⟩:=at1 id _ hm;cases he
  ·obtain ⟨rfl,_⟩:=at1 id _ h1
   obtain ⟨rfl,_⟩:=at1 id' _ h2;rfl
  ·obtain ⟨rfl,_⟩:=at1 id _ hm
   exact hM.nF 0 _ b rfl rfl hb
  ·obtain ⟨rfl,_⟩:=at1 id _ hm
   exact Nat.lt_of_lt_of_le (hM.lt 0 _ b rfl rfl hb) hg.size
  ·cases h with
   | own _ _ h0 ha hr =>
    refine .own 0 _ h0 ⟨_,rfl⟩ fun ty n cs hx => ?_
    obtain ⟨_,he⟩:=at1 0 _ hx;cases he
    rcases hr _ _ _ rfl with ⟨q1,q2,q3⟩ | ⟨b,q1,q2⟩
    ·exact .inl ⟨q1,q2,by omega⟩
    ·exact .inr ⟨b,by rw [q1,hlen],q2⟩
 | true =>
  simp only [if_true]
  let cap':Nat:=match u' with | .slice _ _ c=>c | _=>0
  have at1:∀ (id:Nat) (o:AO),([some .dead,some (oZ l')]:Mem)[id]? = some (some o)→(id=0∧o = .dead)∨(id=1∧o=oZ l'):=fun id o h=>by
   match id,h with
   | 0,h=>simp at h;exact .inl ⟨rfl,h.symm⟩
   | 1,h=>simp at h;exact .inr ⟨rfl,h.symm⟩
   | i+2,h=>simp at h
  refine ⟨{ ι:=fun i=>if i=1 then u'.ownBlock else C.ι i,κ:=fun i=>if i=1 then cap' else C.κ i,F:=C.F },⟨hg.os,hg.tape,hg.output,hg.size,hkeep,fun id o hm => ?_,fun id o hm ty n cs hx => ?_,fun id o hm o' hx hl => ?_,fun id o b hm hl hbb => ?_,fun _ h=>h,fun _ h => .inl h⟩,
   ⟨fun id ty n cs hm => ?_,fun id ty cs hm => ?_,fun id es cl hm => ?_,fun id id' o o' b h1 l1 h2 l2 _ _ => ?_,fun id o b hm hl hbb => ?_,fun b hb=>Nat.lt_of_lt_of_le (hM.Fs b hb) hg.size,fun id o b hm hl hbb => ?_⟩,?_⟩
  ·obtain ⟨rfl,rfl⟩:=at0 id o hm
   exact ⟨⟨_,rfl⟩,rfl,rfl⟩
  ·obtain ⟨rfl,rfl⟩:=at0 id o hm
   rcases at1 _ _ hx with ⟨_,he⟩ | ⟨he,_⟩
   ·cases he
   ·cases he
  ·obtain ⟨rfl,rfl⟩:=at0 id o hm
   rfl
  ·rcases at1 id o hm with ⟨rfl,rfl⟩ | ⟨rfl,rfl⟩
   ·cases hl
   ·simp only [if_true] at hbb
    rw [hb] at hbb
    cases hι:C.ι 0 with
    | none=>rw [hnb hι] at hbb;cases hbb
    | some b' =>
     rw [(hblk b' hι).1] at hbb;cases hbb
     exact .inr ⟨0,_,rfl,rfl,hι⟩
  ·rcases at1 id _ hm with ⟨_,he⟩ | ⟨rfl,he⟩
   ·cases he
   ·cases he
    simp only [if_true]
    rcases hown.2 with ⟨rfl,h0⟩ | ⟨g,cp,cur,rfl,_,hh,r1,r2,r3,r4⟩
    ·have:l'=[]:=List.eq_nil_of_length_eq_zero h0
     subst this;exact .inl ⟨rfl,rfl,rfl⟩
    ·obtain ⟨i,hi,hs⟩:=size3
     obtain ⟨q1,q2⟩:=aLh (w:=w') C.F (by simpa using r4)
     exact .inr ⟨g,cur,i,rfl,hh,hi,by rw [hs];exact r3,by simp [hs],r1,r2,q1,q2⟩
  ·rcases at1 id _ hm with ⟨_,he⟩ | ⟨_,he⟩ <;> cases he
  ·rcases at1 id _ hm with ⟨_,he⟩ | ⟨_,he⟩ <;> cases he
  ·rcases at1 id _ h1 with ⟨_,rfl⟩ | ⟨rfl,_⟩
   ·cases l1
   ·rcases at1 id' _ h2 with ⟨_,rfl⟩ | ⟨rfl,_⟩
    ·cases l2
    ·rfl
  ·rcases at1 id _ hm with ⟨_,rfl⟩ | ⟨rfl,_⟩
   ·cases hl
   ·simp only [if_true] at hbb
    rw [hb] at hbb
    cases hι:C.ι 0 with
    | none=>rw [hnb hι] at hbb;cases hbb
    | some b' =>
     rw [(hblk b' hι).1] at hbb;cases hbb
     exact hM.nF 0 _ _ rfl rfl hι
  ·rcases at1 id _ hm with ⟨_,rfl⟩ | ⟨rfl,_⟩
   ·cases hl
   ·simp only [if_true] at hbb
    rw [hb] at hbb
    cases hι:C.ι 0 with
    | none=>rw [hnb hι] at hbb;cases hbb
    | some b' =>
     rw [(hblk b' hι).1] at hbb;cases hbb
     exact Nat.lt_of_lt_of_le (hM.lt 0 _ _ rfl rfl hι) hg.size
  ·have h0:u'.oneCell'=true:=by
    rcases hown.2 with ⟨rfl,_⟩ | ⟨g,cp,cur,rfl,_⟩ <;> rfl
   refine .own 1 _ h0 ⟨_,rfl⟩ fun ty n cs hx => ?_
   rcases at1 _ _ hx with ⟨he,_⟩ | ⟨_,he⟩
   ·cases he
   ·cases he
    simp only [if_true]
    rcases hown.2 with ⟨rfl,h9⟩ | ⟨g,cp,cur,rfl,_⟩
    ·exact .inl ⟨rfl,rfl,h9⟩
    ·exact .inr ⟨g,rfl,rfl⟩

theorem bFd(l:List Int)(hl:l.length≤1000000):FMM Tryz.prog 57 [.own 0] [some (oZ l)] (.tup []) [some (oZ (l.mergeSort leB))]:=fun C w us hus hM n=>by
 obtain ⟨u,rfl,hu⟩:=uP hus;refine (callsIn_wide.2 (bFa 0 u l w (bFc hM rfl hu) hl)).mono ?_;rintro e w' ⟨rfl,h1,h2⟩;obtain ⟨C',f,m,_⟩:=aFd (d:=false) hM hu h1 h2 rfl (fun _=>⟨rfl,List.length_mergeSort l⟩)
 exact ⟨_,rfl,C',f,m,.tup [] #[] rfl (fun i h=>by simp at h)⟩
theorem aBx(l:List Int):(Lib.compact l).length≤l.length:=by
 unfold Lib.compact Lib.compactUpTo;rw [List.length_map];exact Nat.le_trans (List.length_filter_le _ _) (by simp)
theorem aLi(base:Nat)(v:Value)(l:List Int)(w:World)(hv:KL.OwnI w base v l)(hlen:l.length≤1000000) :
  Calls Tryz.prog 186 #[v] w fun e w'=>∃ p' n' cap',e = .returned (.slice p' n' cap')∧n'=(Lib.compact l).length∧KL.OwnI w' base (.slice p' n' cap') (Lib.compact l)∧w.grownBy w' v.ownBlock∧((Value.slice p' n' cap').ownBlock=v.ownBlock):=by
 have hown:=hv
 rcases hv.2 with ⟨rfl,h0⟩ | ⟨b,cap,cur,rfl,hb,hg,hn,hm,hs,ht⟩
 ·have:l=[]:=List.eq_nil_of_length_eq_zero h0
  subst this;refine (Tryz.slices_Compact_int_empty none 0 w).mono ?_;rintro e w' ⟨rfl,rfl⟩;exact ⟨_,_,_,rfl,rfl,hown,World.grownBy.refl _ _,rfl⟩
 ·refine (Tryz.slices_Compact_int b 0 cap l w (holds_of_blockI hg (by simpa using ht)) (by omega) (by simpa using hn)).mono ?_
  rintro e w' ⟨rfl,q,rfl⟩;have hfl:=aBx l;refine ⟨_,_,_,rfl,rfl,?_,?_,rfl⟩
  ·have:=ownsRow_putRow (enc:=Value.int .i64) (q:=q) (k:=(Lib.compact l).length) (ys:=Lib.compact l++List.replicate (l.length-(Lib.compact l).length) 0) hown (by simp;omega) hfl
   unfold KL.OwnI;simpa using this
  ·exact grownBy_sortedI (os := #[]) (n:=q) (g:=b) (w:=w) ((Lib.compact l++List.replicate (l.length-(Lib.compact l).length) 0).toArray)
theorem aLj(l:List Int)(hl:l.length≤1000000):FMM Tryz.prog 186 [.own 0] [some (.row 3 l.length (l.map aA))] (.own 1) [some .dead,some (.row 3 (Lib.compact l).length ((Lib.compact l).map aA))]:=fun C w us hus hM n=>by
 obtain ⟨u,rfl,hu⟩:=uP hus;refine (callsIn_wide.2 (aLi 0 u l w (bFc hM rfl hu) hl)).mono ?_;rintro e w' ⟨p',n',cap',rfl,h0,h1,h2,h3⟩;obtain ⟨C',f,m,r⟩:=aFd (d:=true) hM hu h1 h2 h3 (fun h=>by cases h)
 exact ⟨_,rfl,C',f,m,r⟩
end KV
end Go.Proofs
end
namespace Go.Proofs
namespace KV
section

noncomputable abbrev qV:Code:=sub (cd Tryz.f142) [1,1,0,1,0,0]
noncomputable abbrev wM:Code:=sub (cd Tryz.f141) [1,0,1,0,0]
noncomputable abbrev wN:Code:=sub (cd Tryz.f141) [1,0,1,0,0,1,1,0,0,1,1,1,1,1,0,0]
theorem aHj:0≤(0:Int)∧(0:Int)<2:=by first | decide | simp
theorem aHk:0≤(1:Int)∧(1:Int)<2:=by first | decide | simp
def gO(al:List fC)(s:Nat)(t:Int)(few:Nat)(many:Nat)(i:Nat):St:=⟨fr 39 [(1,(pI (s:Int))),(2,(pI t)),(6,(pI 0)),(7,(pI 0)),(8,(pI (few:Int))),(9,(pI (many:Int))),(12,(.p (.sl al.length ((al.map hpE).flatten)))),(13,(pI (al.length:Int))),(14,(pI (i:Int)))],[]⟩
theorem bRg{al:List fC}{s:Nat}{t:Int}{few'0 many'1 i'2:Nat}(hl0:aM Tp 0 qV (gO al s t 0 0 0) (.exit 0) (gO al s t few'0 many'1 i'2)){base:Nat}:FV Tp 142 [(.p (.sl al.length ((al.map hpE).flatten))),(pI (s:Int)),(pI t)] base (.tup [(pI (few'0:Int)),(pI (many'1:Int))]) []:=by
 exact FV.fin Tryz.func142 rfl (o:=[.k 8 ⟨(rng [(0,1),(3,3),(10,2),(15,22)]),[],[],[]⟩ (.exit 0) (gO al s t few'0 many'1 i'2)]) (l:=[_]) (by kernel_rfl) (gc hl0.code gn)
theorem aYj{al:List fC}{s:Nat}{t:Int}{few many i:Nat}{c100:List cL}{mn101 mx102:Int}{i':Nat}(h0:(i:Int)<(al.length:Int))(h1:al[i]? = some (c100,mn101,mx102))(h2:(i:Int)=(s:Int))(h3:inR (((i+1):Nat):Int))(ei':i'=(i+1)):aC Tp 0 qV (gO al s t few many i) .normal (gO al s t few many i'):=by
 subst ei';exact aC.fin (g:=⟨(rng [(0,1),(3,3),(10,2),(15,22)]),[],[],[]⟩) (o:=[bT,.x (.agg [(.sl c100.length ((c100.map chE).flatten)),(aA mn101),(aA mx102)]),bT]) (l:=[_,_,some (.agg ((((al.map hpE).flatten).drop (i*3)).take 3):PV)=some (.agg [(.sl c100.length ((c100.map chE).flatten)),(aA mn101),(aA mx102)]),(i*3)+3≤((al.map hpE).flatten).length,0≤(i:Int)∧(i:Int)<(al.length:Int)∧(i*3)<((al.map hpE).flatten).length,_]) (by kernel_rfl) (gc h3 (gc (eR h2) (gc (lV (E:=hpE) (i:=i) (k:=3) (fun _=>rfl) h1 rfl) (gc (tH (E:=hpE) (i:=i) (k:=3) (fun _=>rfl) h1) (gc (qX (E:=hpE) (k:=3) (i:=(i:Int)) (fun _=>rfl) (by decide) (kQ3 _) h1) (gc (bD h0) gn))))))
theorem aYk{al:List fC}{s:Nat}{t:Int}{few many i:Nat}{c100:List cL}{mn101 mx102:Int}{few' many' i':Nat}(h0:(i:Int)<(al.length:Int))(h1:al[i]? = some (c100,mn101,mx102))(h2:(i:Int)≠(s:Int))(h3:mx102<t)(h4:inR (((few+1):Nat):Int))(h5:mn101<t)(h6:inR (((many+1):Nat):Int))(h7:inR (((i+1):Nat):Int))(efew':few'=(few+1))(emany':many'=(many+1))(ei':i'=(i+1)):aC Tp 0 qV (gO al s t few many i) .normal (gO al s t few' many' i'):=by
 subst efew' emany' ei';exact aC.fin (g:=⟨(rng [(0,1),(3,3),(10,2),(15,22)]),[],[],[]⟩) (o:=[bT,.x (.agg [(.sl c100.length ((c100.map chE).flatten)),(aA mn101),(aA mx102)]),bF,bT,bT]) (l:=[_,_,_,_,_,_,_,_,some (.agg ((((al.map hpE).flatten).drop (i*3)).take 3):PV)=some (.agg [(.sl c100.length ((c100.map chE).flatten)),(aA mn101),(aA mx102)]),(i*3)+3≤((al.map hpE).flatten).length,0≤(i:Int)∧(i:Int)<(al.length:Int)∧(i*3)<((al.map hpE).flatten).length,_]) (by kernel_rfl) (gc h7 (gc h6 (gc (bD h5) (gc aHj (gc h4 (gc (bD h3) (gc aHk (gc (bR h2) (gc (lV (E:=hpE) (i:=i) (k:=3) (fun _=>rfl) h1 rfl) (gc (tH (E:=hpE) (i:=i) (k:=3) (fun _=>rfl) h1) (gc (qX (E:=hpE) (k:=3) (i:=(i:Int)) (fun _=>rfl) (by decide) (kQ3 _) h1) (gc (bD h0) gn))))))))))))
theorem aYl{al:List fC}{s:Nat}{t:Int}{few many i:Nat}{c100:List cL}{mn101 mx102:Int}{few' i':Nat}(h0:(i:Int)<(al.length:Int))(h1:al[i]? = some (c100,mn101,mx102))(h2:(i:Int)≠(s:Int))(h3:mx102<t)(h4:inR (((few+1):Nat):Int))(h5:t≤mn101)(h6:inR (((i+1):Nat):Int))(efew':few'=(few+1))(ei':i'=(i+1)):aC Tp 0 qV (gO al s t few many i) .normal (gO al s t few' many i'):=by
 subst efew' ei';exact aC.fin (g:=⟨(rng [(0,1),(3,3),(10,2),(15,22)]),[],[],[]⟩) (o:=[bT,.x (.agg [(.sl c100.length ((c100.map chE).flatten)),(aA mn101),(aA mx102)]),bF,bT,bF]) (l:=[_,_,_,_,_,_,_,some (.agg ((((al.map hpE).flatten).drop (i*3)).take 3):PV)=some (.agg [(.sl c100.length ((c100.map chE).flatten)),(aA mn101),(aA mx102)]),(i*3)+3≤((al.map hpE).flatten).length,0≤(i:Int)∧(i:Int)<(al.length:Int)∧(i*3)<((al.map hpE).flatten).length,_]) (by kernel_rfl) (gc h6 (gc (bU h5) (gc aHj (gc h4 (gc (bD h3) (gc aHk (gc (bR h2) (gc (lV (E:=hpE) (i:=i) (k:=3) (fun _=>rfl) h1 rfl) (gc (tH (E:=hpE) (i:=i) (k:=3) (fun _=>rfl) h1) (gc (qX (E:=hpE) (k:=3) (i:=(i:Int)) (fun _=>rfl) (by decide) (kQ3 _) h1) (gc (bD h0) gn)))))))))))
theorem aYm{al:List fC}{s:Nat}{t:Int}{few many i:Nat}{c100:List cL}{mn101 mx102:Int}{many' i':Nat}(h0:(i:Int)<(al.length:Int))(h1:al[i]? = some (c100,mn101,mx102))(h2:(i:Int)≠(s:Int))(h3:t≤mx102)(h4:mn101<t)(h5:inR (((many+1):Nat):Int))(h6:inR (((i+1):Nat):Int))(emany':many'=(many+1))(ei':i'=(i+1)):aC Tp 0 qV (gO al s t few many i) .normal (gO al s t few many' i'):=by
 subst emany' ei';exact aC.fin (g:=⟨(rng [(0,1),(3,3),(10,2),(15,22)]),[],[],[]⟩) (o:=[bT,.x (.agg [(.sl c100.length ((c100.map chE).flatten)),(aA mn101),(aA mx102)]),bF,bF,bT]) (l:=[_,_,_,_,_,_,_,some (.agg ((((al.map hpE).flatten).drop (i*3)).take 3):PV)=some (.agg [(.sl c100.length ((c100.map chE).flatten)),(aA mn101),(aA mx102)]),(i*3)+3≤((al.map hpE).flatten).length,0≤(i:Int)∧(i:Int)<(al.length:Int)∧(i*3)<((al.map hpE).flatten).length,_]) (by kernel_rfl) (gc h6 (gc h5 (gc (bD h4) (gc aHj (gc (bU h3) (gc aHk (gc (bR h2) (gc (lV (E:=hpE) (i:=i) (k:=3) (fun _=>rfl) h1 rfl) (gc (tH (E:=hpE) (i:=i) (k:=3) (fun _=>rfl) h1) (gc (qX (E:=hpE) (k:=3) (i:=(i:Int)) (fun _=>rfl) (by decide) (kQ3 _) h1) (gc (bD h0) gn)))))))))))
theorem aYn{al:List fC}{s:Nat}{t:Int}{few many i:Nat}{c100:List cL}{mn101 mx102:Int}{i':Nat}(h0:(i:Int)<(al.length:Int))(h1:al[i]? = some (c100,mn101,mx102))(h2:(i:Int)≠(s:Int))(h3:t≤mx102)(h4:t≤mn101)(h5:inR (((i+1):Nat):Int))(ei':i'=(i+1)):aC Tp 0 qV (gO al s t few many i) .normal (gO al s t few many i'):=by
 subst ei';exact aC.fin (g:=⟨(rng [(0,1),(3,3),(10,2),(15,22)]),[],[],[]⟩) (o:=[bT,.x (.agg [(.sl c100.length ((c100.map chE).flatten)),(aA mn101),(aA mx102)]),bF,bF,bF]) (l:=[_,_,_,_,_,_,some (.agg ((((al.map hpE).flatten).drop (i*3)).take 3):PV)=some (.agg [(.sl c100.length ((c100.map chE).flatten)),(aA mn101),(aA mx102)]),(i*3)+3≤((al.map hpE).flatten).length,0≤(i:Int)∧(i:Int)<(al.length:Int)∧(i*3)<((al.map hpE).flatten).length,_]) (by kernel_rfl) (gc h5 (gc (bU h4) (gc aHj (gc (bU h3) (gc aHk (gc (bR h2) (gc (lV (E:=hpE) (i:=i) (k:=3) (fun _=>rfl) h1 rfl) (gc (tH (E:=hpE) (i:=i) (k:=3) (fun _=>rfl) h1) (gc (qX (E:=hpE) (k:=3) (i:=(i:Int)) (fun _=>rfl) (by decide) (kQ3 _) h1) (gc (bD h0) gn))))))))))
theorem aYo{al:List fC}{s:Nat}{t:Int}{few many i:Nat}(h0:(al.length:Int)≤(i:Int)):aC Tp 0 qV (gO al s t few many i) (.exit 0) (gO al s t few many i):=by
 exact aC.fin (g:=⟨(rng [(0,1),(3,3),(10,2),(15,22)]),[],[],[]⟩) (o:=[bF]) (l:=[_]) (by kernel_rfl) (gc (bU h0) gn)
def iI(al:List fC)(s:Nat)(t:Int):Nat→Nat × Nat
 | 0=>(0,0)
 | i+1=>match al[i]? with
  | some h=>if i=s then iI al s t i else ((if h.2.2<t then (iI al s t i).1+1 else (iI al s t i).1),(if h.2.1<t then (iI al s t i).2+1 else (iI al s t i).2))
  | none=>iI al s t i
abbrev cX(al:List fC)(s:Nat)(t:Int):Nat × Nat:=iI al s t al.length
theorem nR(al:List fC)(s:Nat)(t:Int):∀ i,(iI al s t i).1≤i∧(iI al s t i).2≤i
 | 0=>⟨dR _,dR _⟩
 | i+1=>by
  have:=nR al s t i;unfold iI
  split
  ·split
   ·omega
   ·dsimp only
    split <;> split <;> omega
  ·omega
theorem bRh(al:List fC)(s:Nat)(t:Int)(hl:al.length≤1000){base:Nat}:FV Tp 142 [.p (.sl al.length (al.map hpE).flatten),.p (aA s),.p (aA t)] base (.tup [.p (aA ((cX al s t).1:Nat)),.p (aA ((cX al s t).2:Nat))]) []:=by
 obtain ⟨a,hI,hL⟩:=aM.ex (P:=Tp) (k:=0) (b:=qV) (e := .exit 0) (fun i (a:Nat × Nat)=>gO al s t a.1 a.2 i) (fun a=>gO al s t a.1 a.2 al.length) (fun i a=>a=iI al s t i) (by simp) al.length
  (fun i a hi ha=>by
   obtain ⟨⟨c,mn,mx⟩,hx⟩:∃ x,al[i]? = some x:=⟨_,kQ0 hi⟩;have hle:=nR al s t i;refine ⟨_,rfl,?_⟩;subst ha;have e:iI al s t (i+1)=if i=s then iI al s t i else ((if mx<t then (iI al s t i).1+1 else (iI al s t i).1),(if mn<t then (iI al s t i).2+1 else (iI al s t i).2)):=by
    conv=>lhs;unfold iI
    rw [hx]
   rw [e]
   by_cases his:i=s
   ·rw [if_pos his];exact aYj (by omega) hx (by omega) (aP (by omega)) rfl
   ·rw [if_neg his]
    by_cases h1:mx<t <;> by_cases h2:mn<t
    ·rw [if_pos h1,if_pos h2];exact aYk (by omega) hx (by omega) h1 (aP (by omega)) h2 (aP (by omega)) (aP (by omega)) rfl rfl rfl
    ·rw [if_pos h1,if_neg h2];exact aYl (by omega) hx (by omega) h1 (aP (by omega)) (by omega) (aP (by omega)) rfl rfl
    ·rw [if_neg h1,if_pos h2];exact aYm (by omega) hx (by omega) (by omega) h2 (aP (by omega)) (aP (by omega)) rfl rfl
    ·rw [if_neg h1,if_neg h2];exact aYn (by omega) hx (by omega) (by omega) (by omega) (aP (by omega)) rfl)
  (fun a _=>aYo (by omega)) (acc:=(0,0)) rfl
 subst hI;exact bRg hL
def kE(al:List fC)(s:Nat)(c0:List cL)(on:Nat)(oc:List PV)(ou:Bool)(inn:Bool)(i:Nat):St:=⟨fr 51 [(0,(.p (.sl al.length ((al.map hpE).flatten)))),(1,(pI (s:Int))),(4,(.own 0)),(5,(pB ou)),(6,(pB inn)),(16,(.p (.sl c0.length ((c0.map chE).flatten)))),(17,(pI (c0.length:Int))),(18,(pI (i:Int)))],[some (.row 3 on oc)]⟩
theorem bRi{al:List fC}{s:Nat}{c0:List cL}{mn1 mx2:Int}{o'3:List Int}{ou'4 inn'5:Bool}{i'6:Nat}(h0:al[s]? = some (c0,mn1,mx2))(hl1:aM Tp 0 wM (kE al s c0 0 [] false false 0) (.exit 0) (kE al s c0 o'3.length (o'3.map aA) ou'4 inn'5 i'6))(h2:o'3.length≤1000000)(h3:(o'3.mergeSort KL.leB).length≤1000000){base:Nat}:FV Tp 141 [(.p (.sl al.length ((al.map hpE).flatten))),(pI (s:Int))] base (.tup [(.p (aH (Lib.compact (o'3.mergeSort KL.leB)))),(pB ou'4),(pB inn'5)]) []:=by
 exact FV.frz (FMM.fin (k:=0) (g:=⟨[],[],[1],[]⟩) rfl Tryz.func141 rfl (o:=[.x (.sl c0.length ((c0.map chE).flatten)),.k 1 ⟨(rng [(2,2),(7,9),(19,26),(46,1)]),[0],[],[(4,3),(5,0),(6,0)]⟩ (.exit 0) (kE al s c0 o'3.length (o'3.map aA) ou'4 inn'5 i'6),.c (.tup []) [(0,(.row 3 ((o'3.mergeSort KL.leB).length) ((o'3.mergeSort KL.leB).map aA)))],.c (.own 1) [(0,.dead),(1,(.row 3 ((Lib.compact (o'3.mergeSort KL.leB)).length) ((Lib.compact (o'3.mergeSort KL.leB)).map aA)))]]) (l:=[FC Tp 186 [(.own 0)] [(0,(.row 3 ((o'3.mergeSort KL.leB).length) ((o'3.mergeSort KL.leB).map aA)))] 1 (.own 1) [(0,.dead),(1,(.row 3 ((Lib.compact (o'3.mergeSort KL.leB)).length) ((Lib.compact (o'3.mergeSort KL.leB)).map aA)))],FC Tp 57 [(.own 0)] [(0,(.row 3 o'3.length (o'3.map aA)))] 1 (.tup []) [(0,(.row 3 ((o'3.mergeSort KL.leB).length) ((o'3.mergeSort KL.leB).map aA)))],_,((al.map hpE).flatten)[(s*3)]? = some (.sl c0.length ((c0.map chE).flatten)),0≤(s:Int)∧(s:Int)<(al.length:Int)∧(s*3)<((al.map hpE).flatten).length]) (by kernel_rfl) (gc (FMM.fc (ids:=[0]) (aLj (o'3.mergeSort KL.leB) h3) (by kernel_rfl)) (gc (FMM.fc (ids:=[0]) (bFd o'3 h2) (by kernel_rfl)) (gc hl1.code (gc (aZz (E:=hpE) (i:=s) (f:=0) (k:=3) (fun _=>rfl) h0 rfl) (gc (qX (E:=hpE) (k:=3) (i:=(s:Int)) (fun _=>rfl) (by decide) (kQ3 _) h0) gn)))))) (by kernel_rfl)
def kF(al:List fC)(s:Nat)(c0:List cL)(ou:Bool)(i:Nat)(t100:Int)(b101:Bool)(q102:List Int)(on:Nat)(oc:List PV)(n:Nat):St:=⟨fr 51 [(0,(.p (.sl al.length ((al.map hpE).flatten)))),(1,(pI (s:Int))),(4,(.own 0)),(5,(pB ou)),(6,(.kb true)),(8,(.ptr 1 0)),(9,(pI (((cX al s t100).1:Nat):Int))),(10,(pI (((cX al s t100).2:Nat):Int))),(11,(pI (n:Int))),(16,(.p (.sl c0.length ((c0.map chE).flatten)))),(17,(pI (c0.length:Int))),(18,(pI (i:Int))),(19,(pB (decide ((i:Int)<(c0.length:Int))))),(20,(.rp ((c0.map chE).flatten) (i*3))),(21,(.p (.agg [(aA t100),(blP b101),(aH q102)]))),(22,(.ptr 1 1)),(23,(pB b101)),(24,(.tup [(pI (((cX al s t100).1:Nat):Int)),(pI (((cX al s t100).2:Nat):Int))])),(25,(.p (.sl al.length ((al.map hpE).flatten)))),(26,(pI (s:Int))),(27,(.ptr 1 0)),(28,(pI t100)),(29,(.tup [(pI (((cX al s t100).1:Nat):Int)),(pI (((cX al s t100).2:Nat):Int))])),(30,(pI (((cX al s t100).1:Nat):Int))),(31,(pI (((cX al s t100).2:Nat):Int))),(32,(pI (((cX al s t100).1:Nat):Int))),(33,(pI ((((cX al s t100).1+1):Nat):Int)))],[some (.row 3 on oc),some (.box 197 [(pI t100),(pB b101),(.p (aH q102))])]⟩
theorem aYp{al:List fC}{s:Nat}{c0:List cL}{o:List Int}{ou inn:Bool}{i:Nat}{t100:Int}{b101:Bool}{q102:List Int}{i':Nat}(h0:(i:Int)<(c0.length:Int))(h1:c0[i]? = some (t100,b101,q102))(h2:b101=true)(h3:inR (((i+1):Nat):Int))(ei':i'=(i+1)):aC Tp 0 wM (kE al s c0 o.length (o.map aA) ou inn i) .normal (kE al s c0 o.length (o.map aA) true inn i'):=by
 subst ei';exact aC.fin (g:=⟨(rng [(2,2),(7,9),(19,26),(46,1)]),[0],[],[(5,0)]⟩) (o:=[bT,.x (.agg [(aA t100),(blP b101),(aH q102)]),bT]) (l:=[_,_,some (.agg ((((c0.map chE).flatten).drop (i*3)).take 3):PV)=some (.agg [(aA t100),(blP b101),(aH q102)]),(i*3)+3≤((c0.map chE).flatten).length,0≤(i:Int)∧(i:Int)<(c0.length:Int)∧(i*3)<((c0.map chE).flatten).length,_]) (by kernel_rfl) (gc h3 (gc h2 (gc (lV (E:=chE) (i:=i) (k:=3) (fun _=>rfl) h1 rfl) (gc (tH (E:=chE) (i:=i) (k:=3) (fun _=>rfl) h1) (gc (qX (E:=chE) (k:=3) (i:=(i:Int)) (fun _=>rfl) (by decide) (kQ3 _) h1) (gc (bD h0) gn))))))
theorem aYq{al:List fC}{s:Nat}{c0:List cL}{o:List Int}{ou inn:Bool}{i:Nat}{t100:Int}{b101:Bool}{q102 o'103:List Int}{n'104:Nat}{o':List Int}{i':Nat}(h0:(i:Int)<(c0.length:Int))(h1:c0[i]? = some (t100,b101,q102))(h2:b101=false)(h3:al.length≤1000)(h4:inR ((((cX al s t100).1+1):Nat):Int))(hl5:aM Tp 0 wN (kF al s c0 ou i t100 b101 q102 o.length (o.map aA) ((cX al s t100).1+1)) (.exit 2) (kF al s c0 ou i t100 b101 q102 o'103.length (o'103.map aA) n'104))(h6:inR (((i+1):Nat):Int))(eo'n:o'.length=o'103.length)(eo'c:o'.map aA=(o'103.map aA))(ei':i'=(i+1)):aC Tp 0 wM (kE al s c0 o.length (o.map aA) ou inn i) .normal (kE al s c0 o'.length (o'.map aA) ou true i'):=by
 subst ei';have raw:aC Tp 0 wM (kE al s c0 o.length (o.map aA) ou inn i) .normal (kE al s c0 o'103.length (o'103.map aA) ou true (i+1)):=aC.fin (g:=⟨(rng [(2,2),(7,9),(19,26),(46,1)]),[0],[],[(6,0)]⟩) (o:=[bT,.x (.agg [(aA t100),(blP b101),(aH q102)]),bF,.c (.tup [(pI (((cX al s t100).1:Nat):Int)),(pI (((cX al s t100).2:Nat):Int))]) [],.k 3 ⟨(rng [(2,2),(7,1),(12,4),(34,10),(46,1)]),[0,1],[],[]⟩ (.exit 2) (kF al s c0 ou i t100 b101 q102 o'103.length (o'103.map aA) n'104)]) (l:=[_,_,_,_,_,some (.agg ((((c0.map chE).flatten).drop (i*3)).take 3):PV)=some (.agg [(aA t100),(blP b101),(aH q102)]),(i*3)+3≤((c0.map chE).flatten).length,0≤(i:Int)∧(i:Int)<(c0.length:Int)∧(i*3)<((c0.map chE).flatten).length,_]) (by kernel_rfl) (gc h6 (gc hl5.code (gc h4 (gc (fk 2 (bRh al s t100 h3) rfl) (gc h2 (gc (lV (E:=chE) (i:=i) (k:=3) (fun _=>rfl) h1 rfl) (gc (tH (E:=chE) (i:=i) (k:=3) (fun _=>rfl) h1) (gc (qX (E:=chE) (k:=3) (i:=(i:Int)) (fun _=>rfl) (by decide) (kQ3 _) h1) (gc (bD h0) gn)))))))))
 exact raw.cast (by rw [eo'n,eo'c])
theorem aYr{al:List fC}{s:Nat}{c0:List cL}{o:List Int}{ou inn:Bool}{i:Nat}(h0:(c0.length:Int)≤(i:Int)):aC Tp 0 wM (kE al s c0 o.length (o.map aA) ou inn i) (.exit 0) (kE al s c0 o.length (o.map aA) ou inn i):=by
 exact aC.fin (g:=⟨(rng [(2,2),(7,9),(19,26),(46,1)]),[0],[],[]⟩) (o:=[bF]) (l:=[_]) (by kernel_rfl) (gc (bU h0) gn)
theorem aYs{al:List fC}{s:Nat}{c0:List cL}{ou:Bool}{i:Nat}{t100:Int}{b101:Bool}{q102 o:List Int}{n:Nat}{o':List Int}{n':Nat}(h0:inR ((((cX al s t100).2+1):Nat):Int))(h1:(n:Int)≤((((cX al s t100).2+1):Nat):Int))(h2:[(aA (n:Int))].length=1*1∧o.length+1≤1000000)(h3:inR (((n+1):Nat):Int))(eo'n:o'.length=(o.length+1))(eo'c:o'.map aA=((o.map aA)++[(aA (n:Int))]))(en':n'=(n+1)):aC Tp 0 wN (kF al s c0 ou i t100 b101 q102 o.length (o.map aA) n) .normal (kF al s c0 ou i t100 b101 q102 o'.length (o'.map aA) n'):=by
 subst en';have raw:aC Tp 0 wN (kF al s c0 ou i t100 b101 q102 o.length (o.map aA) n) .normal (kF al s c0 ou i t100 b101 q102 (o.length+1) ((o.map aA)++[(aA (n:Int))]) (n+1)):=aC.fin (g:=⟨(rng [(2,2),(7,1),(12,4),(34,10),(46,1)]),[3,1],[],[]⟩) (o:=[bT]) (l:=[_,_,_,_]) (by kernel_rfl) (gc h3 (gc h2 (gc (aJw h1) (gc h0 gn))))
 exact raw.cast (by rw [eo'n,eo'c])
theorem aYt{al:List fC}{s:Nat}{c0:List cL}{ou:Bool}{i:Nat}{t100:Int}{b101:Bool}{q102 o:List Int}{n:Nat}(h0:inR ((((cX al s t100).2+1):Nat):Int))(h1:((((cX al s t100).2+1):Nat):Int)<(n:Int)):aC Tp 0 wN (kF al s c0 ou i t100 b101 q102 o.length (o.map aA) n) (.exit 2) (kF al s c0 ou i t100 b101 q102 o.length (o.map aA) n):=by
 exact aC.fin (g:=⟨(rng [(2,2),(7,1),(12,4),(34,10),(46,1)]),[0,1],[],[]⟩) (o:=[bF]) (l:=[_,_]) (by kernel_rfl) (gc (qK h1) (gc h0 gn))
def aKx(few many:Nat):List Int:=(List.range (many+1-few)).map fun j=>((few+1+j:Nat):Int)
def chL(al:List fC)(s:Nat)(c:cL):List Int:=if c.2.1 then [] else aKx (cX al s c.1).1 (cX al s c.1).2
def lD(al:List fC)(s:Nat)(c:List cL):List Int:=Lib.compact ((c.flatMap (chL al s)).mergeSort KL.leB)
theorem bEh{a b:Nat}(h:b≤1000):(aKx a b).length≤1001:=by unfold aKx;simp;omega
theorem bJs(al:List fC)(hal:al.length≤1000)(s:Nat)(c:cL):(chL al s c).length≤1001:=by
 unfold chL
 split
 ·simp
 ·exact bEh (by have:(cX al s c.1).2≤al.length:=(nR al s c.1 al.length).2;omega)
theorem aHl{al:List fC}(hal:al.length≤1000)(s:Nat):∀ c:List cL,(c.flatMap (chL al s)).length≤c.length*1001
 | []=>by simp
 | x::c=>by
  rw [List.flatMap_cons,lO,uL];have:=bJs al hal s x;have:=aHl hal s c;omega
theorem bRj{al:List fC}(hal:al.length≤1000)(s:Nat)(c0:List cL)(ou:Bool)(i:Nat)(t:Int)(b:Bool)(q o:List Int)(ho:o.length≤900000) :
  ∃ n',aM Tp 0 wN (kF al s c0 ou i t b q o.length (o.map aA) ((cX al s t).1+1)) (.exit 2) (kF al s c0 ou i t b q (o++aKx (cX al s t).1 (cX al s t).2).length ((o++aKx (cX al s t).1 (cX al s t).2).map aA) n'):=by
 have h1:(cX al s t).1≤al.length:=(nR al s t al.length).1;have h2:(cX al s t).2≤al.length:=(nR al s t al.length).2;obtain ⟨x,hI,hL⟩:=aM.ex (P:=Tp) (k:=0) (b:=wN) (e := .exit 2) (fun j (x:List Int)=>kF al s c0 ou i t b q x.length (x.map aA) ((cX al s t).1+1+j)) (fun x=>kF al s c0 ou i t b q x.length (x.map aA) ((cX al s t).1+1+((cX al s t).2+1-(cX al s t).1)))
  (fun j x=>x=o++(List.range j).map fun j=>(((cX al s t).1+1+j:Nat):Int)) (by simp) ((cX al s t).2+1-(cX al s t).1)
  (fun j x hj hx=>by
   have hlen:x.length=o.length+j:=by rw [hx];simp
   refine ⟨x++[(((cX al s t).1+1+j:Nat):Int)],?_,aYs (aP (by omega)) (by omega) ⟨rfl,by omega⟩ (aP (by omega)) (by simp) (by simp) rfl⟩
   rw [hx,List.range_succ];simp)
  (fun x _=>aYt (aP (by omega)) (by omega)) (acc:=o) (by simp)
 rw [show o++aKx (cX al s t).1 (cX al s t).2=x from hI.symm]
 exact ⟨_,hL⟩
theorem aPi{al:List fC}(hal:al.length≤1000){s:Nat}{c:List cL}{mn mx:Int}(hx:al[s]? = some (c,mn,mx))(hc:c.length≤256){base:Nat} :
  FV Tp 141 [.p (.sl al.length (al.map hpE).flatten),.p (aA s)] base (.tup [.p (aH (lD al s c)),.p (blP (c.any fun x=>x.2.1)),.p (blP (c.any fun x => !x.2.1))]) []:=by
 obtain ⟨a,⟨hI,hJ,hK⟩,hL⟩:=aM.ex (P:=Tp) (k:=0) (b:=wM) (e := .exit 0) (fun i (a:List Int × Bool × Bool)=>kE al s c a.1.length (a.1.map aA) a.2.1 a.2.2 i) (fun a=>kE al s c a.1.length (a.1.map aA) a.2.1 a.2.2 c.length)
  (fun i a=>a.1=(c.take i).flatMap (chL al s)∧a.2.1=((c.take i).any fun x=>x.2.1)∧a.2.2=((c.take i).any fun x => !x.2.1)) (by simp) c.length
  (fun i a hi ha=>by
   obtain ⟨ha1,ha2,ha3⟩:=ha;obtain ⟨⟨t,b,q⟩,hx⟩:∃ x,c[i]? = some x:=⟨_,kQ0 hi⟩;have hlen:a.1.length≤256*1001:=by
    rw [ha1];have:=aHl hal s (c.take i);rw [lC] at this
    have:min i c.length≤256:=by omega
    omega
   have e1:c.take (i+1)=c.take i++[(t,b,q)]:=by rw [List.take_add_one,hx];rfl
   cases b with
   | true=>exact ⟨(a.1,true,a.2.2),⟨by rw [ha1,e1];simp [chL],by rw [e1];simp,by rw [ha3,e1];simp⟩,aYp (by omega) hx rfl (aP (by omega)) rfl⟩
   | false =>
    have h1:(cX al s t).1≤al.length:=(nR al s t al.length).1;obtain ⟨n',hl⟩:=bRj hal s c a.2.1 i t false q a.1 (by omega)
    exact ⟨(a.1++aKx (cX al s t).1 (cX al s t).2,a.2.1,true),⟨by rw [ha1,e1];simp [chL],by rw [ha2,e1];simp,by rw [e1];simp⟩,aYq (by omega) hx rfl hal (aP (by omega)) hl (aP (by omega)) rfl rfl rfl⟩)
  (fun a _=>aYr (by omega)) (acc:=([],false,false)) (by simp)
 rw [List.take_length] at hI hJ hK
 have hb:=aHl hal s c;have:=bRi (s:=s) hx hL (by rw [hI];omega) (by rw [List.length_mergeSort,hI];omega) (base:=base)
 rw [hI,hJ,hK] at this
 exact this
end
section
variable {dl:Int}{sk dc:Lqq}

theorem bEg:((0:Int) != (0:Int))=false:=by first | decide | simp
def qU(l:Lqq)(x0:Int)(x1:Int)(i:Nat):St:=⟨fr 19 [(0,(.p (fS l))),(3,(.ptr 0 0)),(7,(pI (l.length:Int))),(8,(pI (i:Int)))],[some (.box 31 [(pI x0),(pI x1)])]⟩
theorem bRc{l:Lqq}{x0 x1:Int}{i'0:Nat}(hl0:aM Tp 0 (sub (cd Tryz.f185) [1,0,1,0,0]) (qU l x0 x1 0) .ret (cH (qU l x0 x1 i'0) [(4,(pI (i'0:Int)))])){base:Nat}:FV Tp 185 [(.p (fS l)),(.p (.agg [(aA x0),(aA x1)]))] base (pI (i'0:Int)) []:=by
 exact FV.fin Tryz.func185 rfl (o:=[.k 6 ⟨(rng [(1,2),(4,3),(9,10)]),[0],[],[]⟩ .ret (cH (qU l x0 x1 i'0) [(4,(pI (i'0:Int)))])]) (l:=[_]) (by kernel_rfl) (gc hl0.code gn)
theorem aYh{l:Lqq}{x0 x1:Int}{i:Nat}{y100 y101:Int}(h0:(i:Int)<(l.length:Int))(h1:l[i]? = some [y100,y101])(h2:uni 2 l)(h3:dY [(aA x0),(aA x1)] [(0,3,true),(1,3,true)]=true∧dY [(aA y100),(aA y101)] [(0,3,true),(1,3,true)]=true)(h4:(mP [(aA x0),(aA x1)] [(aA y100),(aA y101)] [(0,3,true),(1,3,true)])=true):aC Tp 0 (sub (cd Tryz.f185) [1,0,1,0,0]) (qU l x0 x1 i) .ret (cH (qU l x0 x1 i) [(4,(pI (i:Int)))]):=by
 exact aC.fin (g:=⟨(rng [(1,2),(5,2),(9,10)]),[0],[],[]⟩) (o:=[bT,.x (.agg [(aA y100),(aA y101)]),bT]) (l:=[_,_,_,_,0≤(i:Int)∧(i:Int)<(l.length:Int)∧(i*2)<(l.flatten.map aA).length,_]) (by kernel_rfl) (gc h4 (gc h3 (gc (aV (i:=i) h2 h1) (gc (bG (i:=i) h2 h1) (gc (bZ (k:=2) (i:=(i:Int)) (by decide) h2 (kQ3 _) h1) (gc (bD h0) gn))))))
theorem aYi{l:Lqq}{x0 x1:Int}{i:Nat}{y100 y101:Int}{i':Nat}(h0:(i:Int)<(l.length:Int))(h1:l[i]? = some [y100,y101])(h2:uni 2 l)(h3:dY [(aA x0),(aA x1)] [(0,3,true),(1,3,true)]=true∧dY [(aA y100),(aA y101)] [(0,3,true),(1,3,true)]=true)(h4:(mP [(aA x0),(aA x1)] [(aA y100),(aA y101)] [(0,3,true),(1,3,true)])=false)(h5:inR (((i+1):Nat):Int))(ei':i'=(i+1)):aC Tp 0 (sub (cd Tryz.f185) [1,0,1,0,0]) (qU l x0 x1 i) .normal (qU l x0 x1 i'):=by
 subst ei';exact aC.fin (g:=⟨(rng [(1,2),(4,3),(9,10)]),[0],[],[]⟩) (o:=[bT,.x (.agg [(aA y100),(aA y101)]),bF]) (l:=[_,_,_,_,_,0≤(i:Int)∧(i:Int)<(l.length:Int)∧(i*2)<(l.flatten.map aA).length,_]) (by kernel_rfl) (gc h5 (gc h4 (gc h3 (gc (aV (i:=i) h2 h1) (gc (bG (i:=i) h2 h1) (gc (bZ (k:=2) (i:=(i:Int)) (by decide) h2 (kQ3 _) h1) (gc (bD h0) gn)))))))
theorem bRd{l:Lqq}(hu:uni 2 l)(hn:(aL l 0).Nodup)(hl:l.length≤1000){i:Nat}{x0 x1:Int}(hi:l[i]? = some [x0,x1]){base:Nat}:FV Tp 185 [.p (fS l),.p (.agg [aA x0,aA x1])] base (pI (i:Int)) []:=by
 have hlt:=bE hi;refine bRc (i'0:=i) ?_;have hne:∀ j,j<i→∃ y0 y1,l[j]? = some [y0,y1]∧y0≠x0:=fun j hj=>by
  obtain ⟨y0,y1,hy⟩:=at2 hu (i:=j) (by omega)
  refine ⟨y0,y1,hy,fun e => ?_⟩
  have e1:(aL l 0)[j]? = some y0:=by unfold aL;rw [iM,hy];rfl
  have e2:(aL l 0)[i]? = some x0:=by unfold aL;rw [iM,hi];rfl
  obtain ⟨hj1,hj2⟩:=kQ2.1 e1;obtain ⟨hi1,hi2⟩:=kQ2.1 e2;have:=List.pairwise_iff_getElem.1 hn j i hj1 hi1 hj;rw [hj2,hi2] at this
  exact this e
 exact aM.until (P:=Tp) i (fun j=>qU l x0 x1 j) i (dR _)
  (fun j hj=>by
   obtain ⟨y0,y1,hy,hn⟩:=hne j hj;exact aYi (by omega) hy hu ⟨rfl,rfl⟩ (by simp [mP,aCp];exact fun h=>absurd h.symm hn) (aP (by omega)) rfl)
  (aYh (by omega) hi hu ⟨rfl,rfl⟩ (by simp [mP,aCp])) (by simp)
theorem uZ(h:bO dl sk dc):uni 2 (aB sk)∧(aB sk).length≤30∧(∀ s∈aB sk,-1≤s.getD 1 0∧s.getD 1 0≤360000)∧(aL (aB sk) 0).Nodup:=by
 have hp:=dJ sk;refine ⟨lI h.us,by rw [fY];exact h.len.2,fun s hs=>(aGq.1 (h.hsk s (hp.mem_iff.1 hs))).2,?_⟩
 unfold aL;exact (hp.map _).nodup_iff.2 h.ns
theorem aSh(h:bO dl sk dc)(ho:(aS dl (aB dc)).length≤8){base:Nat}:FV Tp 161 [pK dl (aB sk) (aB dc)] base (.tup [.own base,.p (aA 0)]) [(base,.row 195 (bK dl (aB sk) (aB dc)).length ((bK dl (aB sk) (aB dc)).map hpE).flatten)]:=by
 obtain ⟨h1,h2,h3,_⟩:=uZ h;exact bRl (eZ h) h1 (by omega) h3 ho
theorem bJr(h:bO dl sk dc){i:Nat}{x0 x1:Int}(hi:(aB sk)[i]? = some [x0,x1]){base:Nat}:FV Tp 185 [.p (fS (aB sk)),.p (.agg [aA x0,aA x1])] base (pI (i:Int)) []:=by
 obtain ⟨h1,h2,_,h4⟩:=uZ h;exact bRd h1 h4 (by omega) hi
theorem bRe{bib:Int}{i0:Nat}{s1 s2:Int}(h0:bO dl sk dc)(h1:bEv (aB sk) bib=(i0:Int))(h2:(aB sk)[i0]? = some [s1,s2])(h3:(aS dl (aB dc)).length≤8){base:Nat}:FV Tp 140 [(.p (.agg (bP dl sk dc))),(pI bib)] base (.tup [(.p (.sl ((bK dl (aB sk) (aB dc)).length) (((bK dl (aB sk) (aB dc)).map hpE).flatten))),(pI (i0:Int)),(pI 0)]) []:=by
 exact FV.frz (FMM.fin (k:=0) (g:=⟨[],[],[2],[]⟩) rfl Tryz.func140 rfl (o:=[.c (.tup [(.rp (aI dl (aB sk) (aB dc)) 0),(.p (.agg [(aA s1),(aA s2)])),(pI 0)]) [],bF,.c (.tup [(.own 2),(pI 0)]) [(2,(.row 195 ((bK dl (aB sk) (aB dc)).length) (((bK dl (aB sk) (aB dc)).map hpE).flatten)))],.x (.sl ((aB sk).length) ((aB sk).flatten.map aA)),.c (pI (i0:Int)) []]) (l:=[_,(aI dl (aB sk) (aB dc))[1]? = some (.sl ((aB sk).length) ((aB sk).flatten.map aA)),_,_,_]) (by kernel_rfl) (gc (fk 3 (bJr h0 h2) rfl) (gc rfl (gc (fk 2 (aSh h0 h3) rfl) (gc bEg (gc (fk 1 (bEw h0 h1 h2) rfl) gn)))))) (by kernel_rfl)
theorem bRf{bib:Int}{i0:Nat}{s1 s2:Int}{c3:List cL}{mn4 mx5:Int}{r0:Bool}(h0:bO dl sk dc)(h1:bEv (aB sk) bib=(i0:Int))(h2:(aB sk)[i0]? = some [s1,s2])(h3:(aS dl (aB dc)).length≤8)(h4:(bK dl (aB sk) (aB dc))[i0]? = some (c3,mn4,mx5))(h5:(bK dl (aB sk) (aB dc)).length≤1000)(h6:c3.length≤256)(er0:r0=(c3.any fun x=>x.2.1)){base:Nat}:FV Tp 71 [(.p (.agg (bP dl sk dc))),(pI bib)] base (.tup [(.p (aH (lD (bK dl (aB sk) (aB dc)) i0 c3))),(pB r0),(pI 0)]) []:=by
 subst er0;exact FV.fin Tryz.func71 rfl (o:=[.c (.tup [(.p (.sl ((bK dl (aB sk) (aB dc)).length) (((bK dl (aB sk) (aB dc)).map hpE).flatten))),(pI (i0:Int)),(pI 0)]) [],bF,.c (.tup [(.p (aH (lD (bK dl (aB sk) (aB dc)) i0 c3))),(pB (c3.any fun x=>x.2.1)),(pB (c3.any fun x => !x.2.1))]) []]) (l:=[_,_,FC Tp 140 [(.p (.agg (bP dl sk dc))),(pI bib)] [] 1 (.tup [(.p (.sl ((bK dl (aB sk) (aB dc)).length) (((bK dl (aB sk) (aB dc)).map hpE).flatten))),(pI (i0:Int)),(pI 0)]) []]) (by kernel_rfl) (gc (fk 1 (aPi h5 h4 h6) rfl) (gc bEg (gc (FV.fc (bRe h0 h1 h2 h3) rfl) gn)))
end
section
variable {dl:Int}{sk dc:Lqq}

noncomputable abbrev aBt:Code:=sub (cd Tryz.f93) [1,1,1,1,1,1,1,0,1,0,0]
theorem bEe:((0:Int) != (0:Int))=false:=by first | decide | simp
theorem bQx{l:List Int}{a b:Bool}{f x0:Int}{r0:Bool}(h0:b=true)(h1:a=false)(h2:inR ((l.length:Int)-1))(h3:l[((l.length:Int)-1).toNat]? = some x0)(h4:0≤((l.length:Int)-1))(er0:r0=(decide (x0≤f))){base:Nat}:FV Tp 95 [(.p (aH l)),(pB a),(pB b),(.rp [(aA f)] 0)] base (pB r0) []:=by
 subst er0;exact FV.fin Tryz.func95 rfl (o:=[bT,bT,bT,bT,bT,bT,bT,bT,bT,.x (aA x0),bT,.x (aA f),bT,bT]) (l:=[_,_,[(aA f)][0]? = some (aA f),_,(l.map aA)[(((l.length:Int)-1).toNat*1)]? = some (aA x0),_,_,_,_,_,_,_,_,_,_,_]) (by kernel_rfl) (g2c (cQ h1) (gc rfl (gc (cQ h1) (gc (oM (i:=((l.length:Int)-1).toNat) h3) (gc (cQ h1) (gc (oN (g:=aA) h4 h3) (gc (cQ h1) (gc h2 (g4c (cQ h1) (g3c h0 gn))))))))))
theorem bQy{l:List Int}{a b:Bool}{f:Int}(h0:b=true)(h1:a=true){base:Nat}:FV Tp 95 [(.p (aH l)),(pB a),(pB b),(.rp [(aA f)] 0)] base (pB false) []:=by
 exact FV.fin Tryz.func95 rfl (o:=[bT,bT,bT,bF,bF,bF,bF,bF,bF,bF,bF,bF]) (l:=[_,_,_,_,_,_,_,_,_,_,_,_]) (by kernel_rfl) (g8c (aX h1) (gc (aX h1) (g3c h0 gn)))
theorem bQz{l:List Int}{a b:Bool}{f:Int}(h0:b=false){base:Nat}:FV Tp 95 [(.p (aH l)),(pB a),(pB b),(.rp [(aA f)] 0)] base (pB false) []:=by
 exact FV.fin Tryz.func95 rfl (o:=[bF,bF,bF]) (l:=[_,_,_]) (by kernel_rfl) (g3c h0 gn)
def aHi(l:List Int)(a b:Bool)(f:Int):Bool:=b && (!a && decide (l.getD (l.length-1) 0≤f))
theorem bEf(l:List Int)(a b:Bool)(f:Int)(hl:l.length≤1000000)(hb:b=true→l≠[]){base:Nat}:FV Tp 95 [.p (aH l),.p (blP a),.p (blP b),.rp [aA f] 0] base (pB (aHi l a b f)) []:=by
 cases b with
 | false=>exact bQz rfl
 | true =>
  cases a with
  | true=>exact bQy rfl rfl
  | false =>
   have h0:=hb rfl;have h1:0<l.length:=List.length_pos_iff.2 h0;have h2:l[l.length-1]? = some (l.getD (l.length-1) 0):=by rw [kQ4,kQ0 (by omega)];rfl
   have e:((l.length:Int)-1).toNat=l.length-1:=by omega
   exact bQx (x0:=l.getD (l.length-1) 0) rfl rfl (by unfold inR;omega) (by rw [e];exact h2) (by omega) (by unfold aHi;simp)
def kD(dl:Int)(sk:Lqq)(dc:Lqq)(fi:Int)(on:Nat)(oc:List PV)(i:Nat):St:=⟨fr 58 [(2,(.fn 95 [] [(.rp [(aA fi)] 0)])),(6,(.p bX)),(7,(pI 0)),(10,(.p (.sl ((bK dl (aB sk) (aB dc)).length) (((bK dl (aB sk) (aB dc)).map hpE).flatten)))),(11,(.own 0)),(36,(.p (.sl ((aB sk).length) ((aB sk).flatten.map aA)))),(37,(pI (((aB sk).length:Nat):Int))),(38,(pI (i:Int)))],[some (.row 3 on oc)]⟩
theorem bRa{fi:Int}{o'0:List Int}{i'1:Nat}(h0:bO dl sk dc)(h1:(1:Int)≤fi)(h2:(aS dl (aB dc)).length≤8)(hl3:aM Tp 0 aBt (kD dl sk dc fi 0 [] 0) (.exit 0) (kD dl sk dc fi o'0.length (o'0.map aA) i'1)){base:Nat}:FV Tp 93 [(.p (.agg (bP dl sk dc))),(pI fi),(.fn 95 [] [(.rp [(aA fi)] 0)])] base (.tup [(.p (aH o'0)),(pI 0)]) []:=by
 exact FV.frz (FMM.fin (k:=0) (g:=⟨[],[],[0],[]⟩) rfl Tryz.func93 rfl (o:=[.c (.tup [(.rp (aI dl (aB sk) (aB dc)) 0),(pI 0)]) [],bF,bF,.c (.tup [(.own 1),(pI 0)]) [(1,(.row 195 ((bK dl (aB sk) (aB dc)).length) (((bK dl (aB sk) (aB dc)).map hpE).flatten)))],bF,.g 1 ⟨[],[0],[1],[]⟩,.x (.sl ((aB sk).length) ((aB sk).flatten.map aA)),.k 1 ⟨(rng [(0,2),(3,3),(8,2),(12,24),(39,18)]),[1],[],[(11,3)]⟩ (.exit 0) (kD dl sk dc fi o'0.length (o'0.map aA) i'1)]) (l:=[_,(aI dl (aB sk) (aB dc))[1]? = some (.sl ((aB sk).length) ((aB sk).flatten.map aA)),_,_,_,_,_]) (by kernel_rfl) (gc hl3.code (gc rfl (gc bEe (gc (fk 1 (aSh h0 h2) rfl) (gc (bU h1) (gc bEe (gc (fk 1 (jN dl sk dc h0) rfl) gn)))))))) (by kernel_rfl)
theorem aYe{fi:Int}{o:List Int}{i:Nat}{y100 y101:Int}{c102:List cL}{mn103 mx104:Int}{o':List Int}{i':Nat}(h0:(i:Int)<(((aB sk).length:Nat):Int))(h1:(aB sk)[i]? = some [y100,y101])(h2:uni 2 (aB sk))(h3:(bK dl (aB sk) (aB dc))[i]? = some (c102,mn103,mx104))(h4:(bK dl (aB sk) (aB dc)).length≤1000)(h5:c102.length≤256)(h6:(lD (bK dl (aB sk) (aB dc)) i c102).length≤1000000)(h7:(c102.any fun x => !x.2.1)=true→(lD (bK dl (aB sk) (aB dc)) i c102)≠[])(h8:(aHi (lD (bK dl (aB sk) (aB dc)) i c102) (c102.any fun x=>x.2.1) (c102.any fun x => !x.2.1) fi)=true)(h9:[(aA y100)].length=1*1∧o.length+1≤1000000)(h10:inR (((i+1):Nat):Int))(eo'n:o'.length=(o.length+1))(eo'c:o'.map aA=((o.map aA)++[(aA y100)]))(ei':i'=(i+1)):aC Tp 0 aBt (kD dl sk dc fi o.length (o.map aA) i) .normal (kD dl sk dc fi o'.length (o'.map aA) i'):=by
 subst ei';have raw:aC Tp 0 aBt (kD dl sk dc fi o.length (o.map aA) i) .normal (kD dl sk dc fi (o.length+1) ((o.map aA)++[(aA y100)]) (i+1)):=aC.fin (g:=⟨(rng [(0,2),(3,3),(8,2),(12,24),(39,18)]),[3],[],[]⟩) (o:=[bT,.x (.agg [(aA y100),(aA y101)]),.c (.tup [(.p (aH (lD (bK dl (aB sk) (aB dc)) i c102))),(pB (c102.any fun x=>x.2.1)),(pB (c102.any fun x => !x.2.1))]) [],.c (pB (aHi (lD (bK dl (aB sk) (aB dc)) i c102) (c102.any fun x=>x.2.1) (c102.any fun x => !x.2.1) fi)) [],bT]) (l:=[_,_,_,_,_,_,_,0≤(i:Int)∧(i:Int)<(((aB sk).length:Nat):Int)∧(i*2)<((aB sk).flatten.map aA).length,_]) (by kernel_rfl) (gc h10 (gc h9 (gc h8 (gc (fk 2 (bEf (lD (bK dl (aB sk) (aB dc)) i c102) (c102.any fun x=>x.2.1) (c102.any fun x => !x.2.1) fi h6 h7) rfl) (gc (fk 2 (aPi h4 h3 h5) rfl) (gc (aV (i:=i) h2 h1) (gc (bG (i:=i) h2 h1) (gc (bZ (k:=2) (i:=(i:Int)) (by decide) h2 (kQ3 _) h1) (gc (bD h0) gn)))))))))
 exact raw.cast (by rw [eo'n,eo'c])
theorem aYf{fi:Int}{o:List Int}{i:Nat}{y100 y101:Int}{c102:List cL}{mn103 mx104:Int}{i':Nat}(h0:(i:Int)<(((aB sk).length:Nat):Int))(h1:(aB sk)[i]? = some [y100,y101])(h2:uni 2 (aB sk))(h3:(bK dl (aB sk) (aB dc))[i]? = some (c102,mn103,mx104))(h4:(bK dl (aB sk) (aB dc)).length≤1000)(h5:c102.length≤256)(h6:(lD (bK dl (aB sk) (aB dc)) i c102).length≤1000000)(h7:(c102.any fun x => !x.2.1)=true→(lD (bK dl (aB sk) (aB dc)) i c102)≠[])(h8:(aHi (lD (bK dl (aB sk) (aB dc)) i c102) (c102.any fun x=>x.2.1) (c102.any fun x => !x.2.1) fi)=false)(h9:inR (((i+1):Nat):Int))(ei':i'=(i+1)):aC Tp 0 aBt (kD dl sk dc fi o.length (o.map aA) i) .normal (kD dl sk dc fi o.length (o.map aA) i'):=by
 subst ei';exact aC.fin (g:=⟨(rng [(0,2),(3,3),(8,2),(12,24),(39,18)]),[0],[],[]⟩) (o:=[bT,.x (.agg [(aA y100),(aA y101)]),.c (.tup [(.p (aH (lD (bK dl (aB sk) (aB dc)) i c102))),(pB (c102.any fun x=>x.2.1)),(pB (c102.any fun x => !x.2.1))]) [],.c (pB (aHi (lD (bK dl (aB sk) (aB dc)) i c102) (c102.any fun x=>x.2.1) (c102.any fun x => !x.2.1) fi)) [],bF]) (l:=[_,_,_,_,_,_,0≤(i:Int)∧(i:Int)<(((aB sk).length:Nat):Int)∧(i*2)<((aB sk).flatten.map aA).length,_]) (by kernel_rfl) (gc h9 (gc h8 (gc (fk 2 (bEf (lD (bK dl (aB sk) (aB dc)) i c102) (c102.any fun x=>x.2.1) (c102.any fun x => !x.2.1) fi h6 h7) rfl) (gc (fk 2 (aPi h4 h3 h5) rfl) (gc (aV (i:=i) h2 h1) (gc (bG (i:=i) h2 h1) (gc (bZ (k:=2) (i:=(i:Int)) (by decide) h2 (kQ3 _) h1) (gc (bD h0) gn))))))))
theorem aYg{fi:Int}{o:List Int}{i:Nat}(h0:(((aB sk).length:Nat):Int)≤(i:Int)):aC Tp 0 aBt (kD dl sk dc fi o.length (o.map aA) i) (.exit 0) (kD dl sk dc fi o.length (o.map aA) i):=by
 exact aC.fin (g:=⟨(rng [(0,2),(3,3),(8,2),(12,24),(39,18)]),[0],[],[]⟩) (o:=[bF]) (l:=[_]) (by kernel_rfl) (gc (bU h0) gn)
abbrev bTx(dl:Int)(sk dc:Lqq)(fi:Int)(o:List Int)(e:Int):Prop:=∀ base:Nat,FV Tp 93 [.p (.agg (bP dl sk dc)),.p (aA fi),.fn 95 [] [.rp [aA fi] 0]] base (.tup [.p (aH o),.p (aA e)]) []
theorem bRb{fi e0:Int}{o1:List Int}(h0:bTx dl sk dc fi o1 e0){base:Nat}:FV Tp 33 [(.p (.agg (bP dl sk dc))),(pI fi)] base (.tup [(.p (aH o1)),(pI e0)]) []:=by
 exact FV.fin Tryz.func33 rfl (o:=[.g 3 ⟨[],[0],[1],[]⟩,.x (aA fi),.c (.tup [(.p (aH o1)),(pI e0)]) []]) (l:=[FC Tp 93 [(.p (.agg (bP dl sk dc))),(pI fi),(.fn 95 [] [(.rp [(aA fi)] 0)])] [] 1 (.tup [(.p (aH o1)),(pI e0)]) [],[(aA fi)][0]? = some (aA fi)]) (by kernel_rfl) (gc (FV.fc (h0 _) rfl) (gc rfl gn))
end
end KV
end Go.Proofs
section
namespace Go.Proofs
open Go.RowKit Go.Lib
namespace KV
theorem bJo(o:List Int):iY o≠[]:=fun h=>by
 have:=vA o;rw [h] at this
 have:=Nat.two_pow_pos o.length;simp at *
 omega
theorem bEb(l:List cL):∀ m,l.foldl (fun m x=>if x.1<m then x.1 else m) m≤m∧∀ x∈l,l.foldl (fun m x=>if x.1<m then x.1 else m) m≤x.1:=by
 induction l with
 | nil=>intro m;exact ⟨uN _,fun x h=>by cases h⟩
 | cons a l ih =>
  intro m;rw [uM];obtain ⟨h1,h2⟩:=ih (if a.1<m then a.1 else m)
  have ha:(if a.1<m then a.1 else m)≤m∧(if a.1<m then a.1 else m)≤a.1:=by split <;> omega
  exact ⟨by omega,fun x hx=>by
   rcases fB.1 hx with rfl | hx
   ·omega
   ·exact h2 x hx⟩
theorem bEc(l:List cL):∀ m,m≤l.foldl (fun m x=>if x.1 > m then x.1 else m) m∧∀ x∈l,x.1≤l.foldl (fun m x=>if x.1 > m then x.1 else m) m:=by
 induction l with
 | nil=>intro m;exact ⟨uN _,fun x h=>by cases h⟩
 | cons a l ih =>
  intro m;rw [uM];obtain ⟨h1,h2⟩:=ih (if a.1 > m then a.1 else m)
  have ha:m≤(if a.1 > m then a.1 else m)∧a.1≤(if a.1 > m then a.1 else m):=by split <;> omega
  exact ⟨by omega,fun x hx=>by
   rcases fB.1 hx with rfl | hx
   ·omega
   ·exact h2 x hx⟩
theorem bJp{l:List cL}(h:l≠[]):mnM l≤mxM l:=by
 obtain ⟨x,hx⟩:=List.exists_mem_of_ne_nil l h;exact Int.le_trans ((bEb l far).2 x hx) ((bEc l 0).2 x hx)
theorem bJq(dl:Int)(dc:Lqq)(s0 s1:Int)(o:List Int):(nS dl dc s0 s1 o).2.1≤(nS dl dc s0 s1 o).2.2:=bJp fun h=>bJo o (List.map_eq_nil_iff.1 h)
theorem aEs(dl:Int)(sk dc:Lqq):(bK dl sk dc).length=sk.length:=by unfold bK;simp
theorem aKu{dl:Int}{sk dc:Lqq}{i:Nat}{s:List Int}(h:sk[i]? = some s):(bK dl sk dc)[i]? = some (nS dl dc (s.getD 0 0) (s.getD 1 0) (tF dl dc (s.getD 0 0))):=by
 unfold bK;rw [iM,h];rfl
theorem aKv{dl:Int}{dc:Lqq}{s0 s1:Int}(b:Int)(ho:(aS dl dc).length≤8):(nS dl dc s0 s1 (tF dl dc b)).1.length≤256:=by
 show ((iY (tF dl dc b)).map _).length≤256;rw [eP,vA];have:=bEi dl dc b;exact gI (Nat.pow_le_pow_right (by omega) (show (tF dl dc b).length≤8 by omega)) (by decide)
theorem aSf{al:List fC}(h:∀ x∈al,x.2.1≤x.2.2)(s:Nat)(t:Int):∀ i,(iI al s t i).1≤(iI al s t i).2
 | 0=>dR _
 | i+1=>by
  have ih:=aSf h s t i;unfold iI
  split
  ·rename_i x hx
   have:=h x (kQ5 hx)
   split
   ·exact ih
   ·dsimp only
    split <;> split <;> omega
  ·exact ih
theorem aPh{l:List Int}(h:l≠[]):Lib.compact l≠[]:=fun e=>by
 have:(Lib.compact l).length=0:=by rw [e];rfl
 unfold Lib.compact Lib.compactUpTo at this
 rw [eP] at this
 have h0:0∈(List.range l.length).filter (Lib.keeps l.toArray):=aAt.2 ⟨vZ.2 (List.length_pos_iff.2 h),Lib.keeps_lt_one _ 0 (by omega)⟩
 rw [aCs this] at h0
 cases h0
theorem bEd{al:List fC}(h:∀ x∈al,x.2.1≤x.2.2)(s:Nat){c:List cL}(hc:(c.any fun x => !x.2.1)=true):lD al s c≠[]:=by
 unfold lD;refine aPh fun e => ?_
 have e2:c.flatMap (chL al s)=[]:=by
  have:=List.length_mergeSort (le:=KL.leB) (c.flatMap (chL al s));rw [e] at this
  exact aCs this.symm
 obtain ⟨x,hx,hn⟩:=List.any_eq_true.1 hc;have h1:chL al s x=[]:=List.flatMap_eq_nil_iff.1 e2 x hx;have hf:x.2.1=false:=by simpa using hn
 unfold chL aKx at h1
 rw [hf] at h1
 have:=congrArg List.length h1;have hl:=aSf h s x.1 al.length;simp at this
 have h3:(cX al s x.1).1≤(cX al s x.1).2:=hl;omega
theorem aSg{al:List fC}(hal:al.length≤1000)(s:Nat){c:List cL}(hc:c.length≤256):(lD al s c).length≤1000000:=by
 unfold lD;refine gI (aBx _) ?_;rw [List.length_mergeSort];have:=aHl hal s c;omega
theorem aKw(dl:Int)(sk dc:Lqq):∀ x∈bK dl sk dc,x.2.1≤x.2.2:=fun x hx=>by
 obtain ⟨s,_,rfl⟩:=eQ.1 hx;exact bJq ..
end KV
end Go.Proofs
end
namespace Go.Proofs
namespace KV
section
def xX(dl:Int)(sk dc:Lqq)(f:Int)(i:Nat):Bool:=match (bK dl sk dc)[i]? with
 | some h=>aHi (lD (bK dl sk dc) i h.1) (h.1.any fun x=>x.2.1) (h.1.any fun x => !x.2.1) f
 | none=>false
def aKt(dl:Int)(sk dc:Lqq)(f:Int):List Int:=((List.range sk.length).filter (xX dl sk dc f)).map fun i=>(sk.getD i []).getD 0 0
theorem bQu{dl:Int}{sk dc:Lqq}(h:bO dl sk dc){bib:Int}{i:Nat}{s0 s1:Int}(hp:bEv (aB sk) bib=(i:Int))(hs:(aB sk)[i]? = some [s0,s1])(ho:(aS dl (aB dc)).length≤8){base:Nat} :
  FV Tp 71 [.p (.agg (bP dl sk dc)),.p (aA bib)] base (.tup [.p (aH (lD (bK dl (aB sk) (aB dc)) i (nS dl (aB dc) s0 s1 (tF dl (aB dc) s0)).1)),.p (blP ((nS dl (aB dc) s0 s1 (tF dl (aB dc) s0)).1.any fun x=>x.2.1)),.p (aA 0)]) []:=by
 obtain ⟨_,h2,_,_⟩:=uZ h;exact bRf h hp hs ho (aKu hs) (by rw [aEs];omega) (aKv s0 ho) rfl
theorem bQv{dl:Int}{sk dc:Lqq}(h:bO dl sk dc){f:Int}(hf:1≤f)(ho:(aS dl (aB dc)).length≤8):bTx dl sk dc f (aKt dl (aB sk) (aB dc) f) 0:=fun base=>by
 obtain ⟨h1,h2,_,_⟩:=uZ h;obtain ⟨o,hI,hL⟩:=aM.ex (P:=Tp) (k:=0) (b:=sub (cd Tryz.f93) [1,1,1,1,1,1,1,0,1,0,0]) (e := .exit 0) (fun i (o:List Int)=>kD dl sk dc f o.length (o.map aA) i) (fun o=>kD dl sk dc f o.length (o.map aA) (aB sk).length)
  (fun i o=>o=((List.range i).filter (xX dl (aB sk) (aB dc) f)).map fun i=>((aB sk).getD i []).getD 0 0) (by simp) (aB sk).length
  (fun i o hi hoE=>by
   obtain ⟨y0,y1,hy⟩:=at2 h1 hi;have hat:=aKu (dl:=dl) (dc:=aB dc) hy;have hlen:o.length≤i:=by
    rw [hoE,eP];have:=vX (xX dl (aB sk) (aB dc) f) (List.range i);simpa using this
   have hmb:xX dl (aB sk) (aB dc) f i=aHi (lD (bK dl (aB sk) (aB dc)) i (nS dl (aB dc) y0 y1 (tF dl (aB dc) y0)).1) ((nS dl (aB dc) y0 y1 (tF dl (aB dc) y0)).1.any fun x=>x.2.1) ((nS dl (aB dc) y0 y1 (tF dl (aB dc) y0)).1.any fun x => !x.2.1) f:=by
    unfold xX;rw [hat];rfl
   have hal:(bK dl (aB sk) (aB dc)).length≤1000:=by rw [aEs];omega
   have hc:=aKv (s0:=y0) (s1:=y1) y0 ho;have hg:((aB sk).getD i []).getD 0 0=y0:=by simp [kQ4,hy]
   cases hb:xX dl (aB sk) (aB dc) f i with
   | true =>
    refine ⟨o++[y0],?_,aYe (by omega) hy h1 hat hal hc (aSg hal i hc) (fun hn=>bEd (aKw _ _ _) i hn) (by rw [← hb,hmb];rfl) ⟨rfl,by omega⟩ (aP (by omega)) (by simp) (by simp) rfl⟩
    rw [hoE,List.range_succ,oJ,iB];simp only [List.filter_cons,hb,if_true,List.filter_nil,iN,List.map_nil,hg]
   | false =>
    refine ⟨o,?_,aYf (by omega) hy h1 hat hal hc (aSg hal i hc) (fun hn=>bEd (aKw _ _ _) i hn) (by rw [← hb,hmb];rfl) (aP (by omega)) rfl⟩
    rw [hoE,List.range_succ,oJ,iB];simp [List.filter_cons,hb])
  (fun o _=>aYg (by omega)) (acc:=[]) (by simp)
 have e:o=aKt dl (aB sk) (aB dc) f:=hI;rw [← e];exact bRa h hf ho hL
theorem bQw{dl:Int}{sk dc:Lqq}(h:bO dl sk dc){f:Int}(hf:1≤f)(ho:(aS dl (aB dc)).length≤8){base:Nat}:FV Tp 33 [.p (.agg (bP dl sk dc)),.p (aA f)] base (.tup [.p (aH (aKt dl (aB sk) (aB dc) f)),.p (aA 0)]) []:=bRb (bQv h hf ho)
end
section

noncomputable abbrev wK:Code:=sub (cd Tryz.f51) [1,1,0,1,0,0]
noncomputable abbrev wL:Code:=sub (cd Tryz.f41) [1,1,0,1,0,0]
theorem bQn{dl:Int}{sk dc:Lqq}{bib:Int}{i0:Nat}{s1 s2 n3:Int}{b4:Bool}{T5:Lqb}(h0:bO dl sk dc)(h1:bEv (aB sk) bib=(i0:Int))(h2:(aB sk)[i0]? = some [s1,s2])(h3:aCw dl (aB sk) (aB dc) bX [s1,s2] n3 b4 ([]:Lqb) T5){base:Nat}:FV Tp 61 [(.p (.agg (bP dl sk dc))),(pI bib)] base (.tup [(pI n3),(pB b4),(pI 0)]) []:=by
 exact FV.fin Tryz.func61 rfl (o:=[.c (.tup [(.rp (aI dl (aB sk) (aB dc)) 0),(.p (.agg [(aA s1),(aA s2)])),(pI 0)]) [],bF,.c (.agg (kVL 6 7 2 4 8 3)) [(2,(vB0 dl (aB sk) (aB dc))),(3,(.box 33 [(.p bX)])),(4,(.box 139 (kVL 6 7 2 4 8 3))),(5,(.mp (aF ([]:Lqb)) 0)),(6,(.box 207 [(.mp 5)])),(7,(vB5 dl (aB sk) (aB dc))),(8,(.box 209 [(.fn 153 [] [(.ptr 2 0),(.ptr 4 0)])]))],.c (.tup [(pI n3),(pB b4)]) [(2,(vB0 dl (aB sk) (aB dc))),(3,(.box 33 [(.p bX)])),(4,(.box 139 (kVL 6 7 2 4 8 3))),(5,(.mp (aF T5) T5.length)),(6,(.box 207 [(.mp 5)])),(7,(vB5 dl (aB sk) (aB dc))),(8,(.box 209 [(.fn 153 [] [(.ptr 2 0),(.ptr 4 0)])]))]]) (l:=[FC Tp 134 [(.rp (aI dl (aB sk) (aB dc)) 0),(.p (.agg [(aA s1),(aA s2)])),(.agg (kVL 6 7 2 4 8 3))] [(6,(.box 207 [(.mp 5)])),(7,(vB5 dl (aB sk) (aB dc))),(2,(vB0 dl (aB sk) (aB dc))),(4,(.box 139 (kVL 6 7 2 4 8 3))),(8,(.box 209 [(.fn 153 [] [(.ptr 2 0),(.ptr 4 0)])])),(3,(.box 33 [(.p bX)])),(5,(.mp (aF ([]:Lqb)) 0))] 10 (.tup [(pI n3),(pB b4)]) [(2,(vB0 dl (aB sk) (aB dc))),(3,(.box 33 [(.p bX)])),(4,(.box 139 (kVL 6 7 2 4 8 3))),(5,(.mp (aF T5) T5.length)),(6,(.box 207 [(.mp 5)])),(7,(vB5 dl (aB sk) (aB dc))),(8,(.box 209 [(.fn 153 [] [(.ptr 2 0),(.ptr 4 0)])]))],FC Tp 87 [(.rp (aI dl (aB sk) (aB dc)) 0),(.p bX)] [] 2 (.agg (kVL 6 7 2 4 8 3)) [(2,(vB0 dl (aB sk) (aB dc))),(3,(.box 33 [(.p bX)])),(4,(.box 139 (kVL 6 7 2 4 8 3))),(5,(.mp (aF ([]:Lqb)) 0)),(6,(.box 207 [(.mp 5)])),(7,(vB5 dl (aB sk) (aB dc))),(8,(.box 209 [(.fn 153 [] [(.ptr 2 0),(.ptr 4 0)])]))],((0:Int) != (0:Int))=false,_]) (by kernel_rfl) (gc (FMM.fc (ids:=[2,3,4,5,6,7,8]) h3 (by kernel_rfl)) (gc (FMM.fcN (k:=7) rfl (ids:=[]) (yT (dl:=dl) (sk:=(aB sk)) (dc:=(aB dc))) (by kernel_rfl)) (gc (by first | decide | simp) (gc (fk 1 (bEw h0 h1 h2) rfl) gn))))
def iP(a:Lqq)(b:Lqq)(i:Nat):St:=⟨fr 26 [(0,(.p (fS a))),(1,(.p (fS b))),(12,(pI (a.length:Int))),(13,(pI (i:Int)))],[]⟩
theorem bQo{a b:Lqq}(h0:(a.length:Int)≠(b.length:Int)){base:Nat}:FV Tp 51 [(.p (fS a)),(.p (fS b))] base (pB false) []:=by
 exact FV.fin Tryz.func51 rfl (o:=[bT]) (l:=[_]) (by kernel_rfl) (gc (uO h0) gn)
theorem bQp{a b:Lqq}{i'0:Nat}(h0:(a.length:Int)=(b.length:Int))(hl1:aM Tp 0 wK (iP a b 0) (.exit 0) (iP a b i'0)){base:Nat}:FV Tp 51 [(.p (fS a)),(.p (fS b))] base (pB true) []:=by
 exact FV.fin Tryz.func51 rfl (o:=[bF,.k 4 ⟨(rng [(2,10),(14,12)]),[],[],[]⟩ (.exit 0) (iP a b i'0)]) (l:=[_,_]) (by kernel_rfl) (gc hl1.code (gc (pF h0) gn))
theorem bQq{a b:Lqq}{i'0:Nat}(h0:(a.length:Int)=(b.length:Int))(hl1:aM Tp 0 wK (iP a b 0) .ret (cH (iP a b i'0) [(4,(.kb false))])){base:Nat}:FV Tp 51 [(.p (fS a)),(.p (fS b))] base (pB false) []:=by
 exact FV.fin Tryz.func51 rfl (o:=[bF,.k 4 ⟨(rng [(2,10),(14,12)]),[],[],[]⟩ .ret (cH (iP a b i'0) [(4,(.kb false))])]) (l:=[_,_]) (by kernel_rfl) (gc hl1.code (gc (pF h0) gn))
theorem aXy{a b:Lqq}{i:Nat}{y100 y101 y102 y103 y104 y105:Int}(h0:(i:Int)<(a.length:Int))(h1:a[i]? = some [y100,y101,y102])(h2:uni 3 a)(h3:b[i]? = some [y103,y104,y105])(h4:uni 3 b)(h5:dY [(aA y100),(aA y101),(aA y102)] [(0,3,true),(1,3,true),(2,3,true)]=true∧dY [(aA y103),(aA y104),(aA y105)] [(0,3,true),(1,3,true),(2,3,true)]=true)(h6:(mP [(aA y100),(aA y101),(aA y102)] [(aA y103),(aA y104),(aA y105)] [(0,3,true),(1,3,true),(2,3,true)])=false):aC Tp 0 wK (iP a b i) .ret (cH (iP a b i) [(4,(.kb false))]):=by
 exact aC.fin (g:=⟨(rng [(2,2),(5,7),(14,12)]),[],[],[]⟩) (o:=[bT,.x (.agg [(aA y100),(aA y101),(aA y102)]),.x (.agg [(aA y103),(aA y104),(aA y105)]),bT]) (l:=[_,_,_,_,0≤(i:Int)∧(i:Int)<(b.length:Int)∧(i*3)<(b.flatten.map aA).length,_,_,0≤(i:Int)∧(i:Int)<(a.length:Int)∧(i*3)<(a.flatten.map aA).length,_]) (by kernel_rfl) (gc (cQ h6) (gc h5 (gc (aV (i:=i) h4 h3) (gc (bG (i:=i) h4 h3) (gc (bZ (k:=3) (i:=(i:Int)) (by decide) h4 (kQ3 _) h3) (gc (aV (i:=i) h2 h1) (gc (bG (i:=i) h2 h1) (gc (bZ (k:=3) (i:=(i:Int)) (by decide) h2 (kQ3 _) h1) (gc (bD h0) gn)))))))))
theorem aXz{a b:Lqq}{i:Nat}{y100 y101 y102 y103 y104 y105:Int}{i':Nat}(h0:(i:Int)<(a.length:Int))(h1:a[i]? = some [y100,y101,y102])(h2:uni 3 a)(h3:b[i]? = some [y103,y104,y105])(h4:uni 3 b)(h5:dY [(aA y100),(aA y101),(aA y102)] [(0,3,true),(1,3,true),(2,3,true)]=true∧dY [(aA y103),(aA y104),(aA y105)] [(0,3,true),(1,3,true),(2,3,true)]=true)(h6:(mP [(aA y100),(aA y101),(aA y102)] [(aA y103),(aA y104),(aA y105)] [(0,3,true),(1,3,true),(2,3,true)])=true)(h7:inR (((i+1):Nat):Int))(ei':i'=(i+1)):aC Tp 0 wK (iP a b i) .normal (iP a b i'):=by
 subst ei';exact aC.fin (g:=⟨(rng [(2,10),(14,12)]),[],[],[]⟩) (o:=[bT,.x (.agg [(aA y100),(aA y101),(aA y102)]),.x (.agg [(aA y103),(aA y104),(aA y105)]),bF]) (l:=[_,_,_,_,_,0≤(i:Int)∧(i:Int)<(b.length:Int)∧(i*3)<(b.flatten.map aA).length,_,_,0≤(i:Int)∧(i:Int)<(a.length:Int)∧(i*3)<(a.flatten.map aA).length,_]) (by kernel_rfl) (gc h7 (gc (aX h6) (gc h5 (gc (aV (i:=i) h4 h3) (gc (bG (i:=i) h4 h3) (gc (bZ (k:=3) (i:=(i:Int)) (by decide) h4 (kQ3 _) h3) (gc (aV (i:=i) h2 h1) (gc (bG (i:=i) h2 h1) (gc (bZ (k:=3) (i:=(i:Int)) (by decide) h2 (kQ3 _) h1) (gc (bD h0) gn))))))))))
theorem aYa{a b:Lqq}{i:Nat}(h0:(a.length:Int)≤(i:Int)):aC Tp 0 wK (iP a b i) (.exit 0) (iP a b i):=by
 exact aC.fin (g:=⟨(rng [(2,10),(14,12)]),[],[],[]⟩) (o:=[bF]) (l:=[_]) (by kernel_rfl) (gc (bU h0) gn)
theorem qT(a b:Lqq)(ha:uni 3 a)(hb:uni 3 b)(hl:a.length≤1000){base:Nat}:FV Tp 51 [.p (fS a),.p (fS b)] base (pB (decide (a=b))) []:=by
 by_cases hlen:a.length=b.length
 ·have eqx:∀ i,i<a.length→∃ x y,a[i]? = some x∧b[i]? = some y∧x.length=3∧y.length=3:=fun i hi =>
   ⟨a[i],b[i],kQ0 hi,kQ0 (by omega),ha _ (iA hi),hb _ (iA (by omega))⟩
  rcases aM.find (P:=Tp) (k:=0) (b:=wK) (fun i=>iP a b i) (fun i _=>cH (iP a b i) [(4,.kb false)]) (iP a b a.length) .ret (.exit 0) (by simp) (by simp) (fun j=>decide (a.getD j []≠b.getD j [])) (List.range a.length)
   (fun i x hx hp=>by
    have hi:i<a.length:=by have:=bE hx;simpa using this
    obtain ⟨y,z,hy,hz,ly,lz⟩:=eqx i hi;obtain ⟨a,b,c,rfl⟩:=len3 ly;obtain ⟨a',b',c',rfl⟩:=len3 lz;have hxi:x=i:=by rw [aNj hi] at hx;exact (Option.some.inj hx).symm
    subst hxi;have he:=of_decide_eq_false hp;simp only [kQ4,hy,hz,Option.getD_some,ne_eq,Classical.not_not] at he
    cases he;exact aXz (by omega) hy ha hz hb ⟨rfl,rfl⟩ (by simp [mP,aCp]) (aP (by omega)) rfl)
   (fun i x hx hp=>by
    have hi:i<a.length:=by have:=bE hx;simpa using this
    obtain ⟨y,z,hy,hz,ly,lz⟩:=eqx i hi;obtain ⟨a,b,c,rfl⟩:=len3 ly;obtain ⟨a',b',c',rfl⟩:=len3 lz;have hxi:x=i:=by rw [aNj hi] at hx;exact (Option.some.inj hx).symm
    subst hxi;have he:=of_decide_eq_true hp;simp only [kQ4,hy,hz,Option.getD_some] at he
    exact aXy (by omega) hy ha hz hb ⟨rfl,rfl⟩ (by
     rw [Bool.eq_false_iff];intro h;simp [mP,aCp] at h
     exact he (by simp [h])))
   (by rw [List.length_range];exact aYa (by omega)) with ⟨i,x,h1,h2,h3,h4⟩ | ⟨h1,h2,h3⟩
  ·have hi:i<a.length:=by have:=bE h1;simpa using this
   have hxi:x=i:=by rw [aNj hi] at h1;exact (Option.some.inj h1).symm
   have he:=of_decide_eq_true h3;rw [decide_eq_false (fun e=>he (by rw [e]))]
   exact bQq (by omega) h4
  ·have hall:∀ i,i<a.length→a.getD i []=b.getD i []:=fun i hi=>by
    have:=List.any_eq_false.1 h2 i (vZ.2 hi);simpa using this
   have e:a=b:=by
    apply List.ext_getElem hlen;intro i h1 h2;have:=hall i h1;simpa [kQ4,kQ0 h1,kQ0 h2] using this
   rw [decide_eq_true e];exact bQp (by omega) h3
 ·rw [decide_eq_false (fun e=>hlen (by rw [e]))]
  exact bQo (by omega)
def iQ(a:List Int)(b:List Int)(i:Nat):St:=⟨fr 26 [(0,(.p (aH a))),(1,(.p (aH b))),(12,(pI (a.length:Int))),(13,(pI (i:Int)))],[]⟩
theorem bQr{a b:List Int}(h0:(a.length:Int)≠(b.length:Int)){base:Nat}:FV Tp 41 [(.p (aH a)),(.p (aH b))] base (pB false) []:=by
 exact FV.fin Tryz.func41 rfl (o:=[bT]) (l:=[_]) (by kernel_rfl) (gc (uO h0) gn)
theorem bQs{a b:List Int}{i'0:Nat}(h0:(a.length:Int)=(b.length:Int))(hl1:aM Tp 0 wL (iQ a b 0) (.exit 0) (iQ a b i'0)){base:Nat}:FV Tp 41 [(.p (aH a)),(.p (aH b))] base (pB true) []:=by
 exact FV.fin Tryz.func41 rfl (o:=[bF,.k 4 ⟨(rng [(2,10),(14,12)]),[],[],[]⟩ (.exit 0) (iQ a b i'0)]) (l:=[_,_]) (by kernel_rfl) (gc hl1.code (gc (pF h0) gn))
theorem bQt{a b:List Int}{i'0:Nat}(h0:(a.length:Int)=(b.length:Int))(hl1:aM Tp 0 wL (iQ a b 0) .ret (cH (iQ a b i'0) [(4,(.kb false))])){base:Nat}:FV Tp 41 [(.p (aH a)),(.p (aH b))] base (pB false) []:=by
 exact FV.fin Tryz.func41 rfl (o:=[bF,.k 4 ⟨(rng [(2,10),(14,12)]),[],[],[]⟩ .ret (cH (iQ a b i'0) [(4,(.kb false))])]) (l:=[_,_]) (by kernel_rfl) (gc hl1.code (gc (pF h0) gn))
theorem aYb{a b:List Int}{i:Nat}{x100 x101:Int}(h0:(i:Int)<(a.length:Int))(h1:a[i]? = some x100)(h2:b[i]? = some x101)(h3:x100≠x101):aC Tp 0 wL (iQ a b i) .ret (cH (iQ a b i) [(4,(.kb false))]):=by
 exact aC.fin (g:=⟨(rng [(2,2),(5,7),(14,12)]),[],[],[]⟩) (o:=[bT,.x (aA x100),.x (aA x101),bT]) (l:=[_,_,_,_,_,_]) (by kernel_rfl) (gc (uO h3) (gc (atm aA h2) (gc (ixn aA h2) (gc (atm aA h1) (gc (ixn aA h1) (gc (bD h0) gn))))))
theorem aYc{a b:List Int}{i:Nat}{x100 x101:Int}{i':Nat}(h0:(i:Int)<(a.length:Int))(h1:a[i]? = some x100)(h2:b[i]? = some x101)(h3:x100=x101)(h4:inR (((i+1):Nat):Int))(ei':i'=(i+1)):aC Tp 0 wL (iQ a b i) .normal (iQ a b i'):=by
 subst ei';exact aC.fin (g:=⟨(rng [(2,10),(14,12)]),[],[],[]⟩) (o:=[bT,.x (aA x100),.x (aA x101),bF]) (l:=[_,_,_,_,_,_,_]) (by kernel_rfl) (gc h4 (gc (pF h3) (gc (atm aA h2) (gc (ixn aA h2) (gc (atm aA h1) (gc (ixn aA h1) (gc (bD h0) gn)))))))
theorem aYd{a b:List Int}{i:Nat}(h0:(a.length:Int)≤(i:Int)):aC Tp 0 wL (iQ a b i) (.exit 0) (iQ a b i):=by
 exact aC.fin (g:=⟨(rng [(2,10),(14,12)]),[],[],[]⟩) (o:=[bF]) (l:=[_]) (by kernel_rfl) (gc (bU h0) gn)
theorem bEa(a b:List Int)(hl:a.length≤1000){base:Nat}:FV Tp 41 [.p (aH a),.p (aH b)] base (pB (decide (a=b))) []:=by
 by_cases hlen:a.length=b.length
 ·rcases aM.find (P:=Tp) (k:=0) (b:=wL) (fun i=>iQ a b i) (fun i _=>cH (iQ a b i) [(4,.kb false)]) (iQ a b a.length) .ret (.exit 0) (by simp) (by simp) (fun j=>decide (a.getD j 0≠b.getD j 0)) (List.range a.length)
   (fun i x hx hp=>by
    have hi:i<a.length:=by have:=bE hx;simpa using this
    have hxi:x=i:=by rw [aNj hi] at hx;exact (Option.some.inj hx).symm
    subst hxi;have h1:a[x]? = some (a.getD x 0):=by rw [kQ4,kQ0 hi];rfl
    have h2:b[x]? = some (b.getD x 0):=by rw [kQ4,kQ0 (by omega)];rfl
    have he:=of_decide_eq_false hp;exact aYc (by omega) h1 h2 (Classical.not_not.1 he) (aP (by omega)) rfl)
   (fun i x hx hp=>by
    have hi:i<a.length:=by have:=bE hx;simpa using this
    have hxi:x=i:=by rw [aNj hi] at hx;exact (Option.some.inj hx).symm
    subst hxi;have h1:a[x]? = some (a.getD x 0):=by rw [kQ4,kQ0 hi];rfl
    have h2:b[x]? = some (b.getD x 0):=by rw [kQ4,kQ0 (by omega)];rfl
    exact aYb (by omega) h1 h2 (of_decide_eq_true hp))
   (by rw [List.length_range];exact aYd (by omega)) with ⟨i,x,h1,h2,h3,h4⟩ | ⟨h1,h2,h3⟩
  ·have he:=of_decide_eq_true h3
   rw [decide_eq_false (fun e=>he (by rw [e]))]
   exact bQt (by omega) h4
  ·have hall:∀ i,i<a.length→a.getD i 0=b.getD i 0:=fun i hi=>by
    have:=List.any_eq_false.1 h2 i (vZ.2 hi);simpa using this
   have e:a=b:=by
    apply List.ext_getElem hlen;intro i h1 h2;have:=hall i h1
    rwa [kQ4,kQ4,kQ0 h1,kQ0 h2] at this
   rw [decide_eq_true e];exact bQs (by omega) h3
 ·rw [decide_eq_false (fun e=>hlen (by rw [e]))]
  exact bQr (by omega)
theorem aHh{a b c:Int}{base:Nat}:FV Tp 23 [(pI a),(pI b),(pI c)] base (.p (dcE a 0 0 b c 0)) []:=by
 exact FV.fin Tryz.func23 rfl (o:=[]) (l:=[]) (by kernel_rfl) (gn)
theorem gN{a b c d e:Int}{base:Nat}:FV Tp 49 [(pI a),(pI b),(pI c),(pI d),(pI e)] base (.p (dcE a b d 0 e c)) []:=by
 exact FV.fin Tryz.func49 rfl (o:=[]) (l:=[]) (by kernel_rfl) (gn)
end
section
theorem ofO(l:List Int):FMM Tp 17 [.p (.sl l.length (l.map aO))] [] (.ptr 0 0) [some (jK l 0 17)]:=bTl
def bMw(ns nd:Int)(l:List Int)(nx st:Int)(r:Lqq × Lqq × Int × Int):Prop :=
 bO 30 r.1 r.2.1∧(r.1.length:Int)≤ns∧(r.2.1.length:Int)≤nd∧(0≤r.2.2.1∧r.2.2.1≤4000)∧(r.1.Pairwise fun a b=>a.getD 0 0<b.getD 0 0)∧(r.2.1.Pairwise fun a b=>a.getD 0 0<b.getD 0 0)∧(∀ x∈r.2.1,x.getD 0 0≤80)∧(∀ x∈r.1,x.getD 0 0≤88∧x.getD 1 0≤16000) ∧
  FMM Tp 16 [.ptr 0 0,.p (aA ns),.p (aA nd)] [some (jK l nx st)] (.p (.agg (bP 30 r.1 r.2.1))) [some (jK l r.2.2.1 r.2.2.2)]
open Classical in
noncomputable def aNq(ns nd:Int)(l:List Int)(nx st:Int):Lqq × Lqq × Int × Int:=if h:∃ r,bMw ns nd l nx st r then Classical.choose h else ([],[],0,0)
theorem aJy{ns nd:Int}{l:List Int}{nx st:Int}(hns:1≤ns∧ns≤30)(hnd:0≤nd∧nd≤40)(hnx:0≤nx∧nx≤900):bMw ns nd l nx st (aNq ns nd l nx st):=by
 obtain ⟨sk,dc,mx,tt,h⟩:=bMz (ns:=ns) (nd:=nd) (l:=l) (nx:=nx) (st:=st) hns hnd hnx;have hex:∃ r,bMw ns nd l nx st r:=⟨(sk,dc,mx,tt),h⟩;unfold aNq;rw [dif_pos hex];exact Classical.choose_spec hex
theorem aNr{sk dc:Lqq}{nx' st':Int}(ns nd:Int)(l:List Int)(nx st:Int)(h:0≤nx∧nx≤900)(hs:1≤ns∧ns≤30)(hd:0≤nd∧nd≤40)(e:aNq ns nd l nx st=(sk,dc,nx',st')):FMM Tp 16 [.ptr 0 0,.p (aA ns),.p (aA nd)] [some (jK l nx st)] (.p (.agg (bP 30 sk dc))) [some (jK l nx' st')]:=by
 have:=(aJy (l:=l) (st:=st) hs hd h).2.2.2.2.2.2.2.2;rw [e] at this
 exact this
end
section

def oR(dc:Lqq)(n:Int)(i:Nat):St:=⟨fr 20 [(2,(pI 0)),(3,(pI n)),(7,(.p (fS dc))),(8,(pI (dc.length:Int))),(9,(pI (i:Int)))],[]⟩
theorem bMu{dl:Int}{sk dc:Lqq}{n'0:Int}{i'1:Nat}{r0:Int}(hl0:aM Tp 0 (sub (cd Tryz.f18) [1,1,0,1,0,0]) (oR dc (0:Int) 0) (.exit 0) (oR dc n'0 i'1))(h1:inR (n'0+(1:Int)))(er0:r0=(n'0+(1:Int))){base:Nat}:FV Tp 18 [(.p (.agg (bP dl sk dc)))] base (pI r0) []:=by
 subst er0;exact FV.fin Tryz.func18 rfl (o:=[.k 8 ⟨(rng [(0,2),(4,3),(10,8)]),[],[],[]⟩ (.exit 0) (oR dc n'0 i'1)]) (l:=[_,_]) (by kernel_rfl) (gc h1 (gc hl0.code gn))
theorem aUz{dc:Lqq}{n:Int}{i:Nat}{y100 y101 y102 y103 y104 y105 n':Int}{i':Nat}(h0:(i:Int)<(dc.length:Int))(h1:dc[i]? = some [y100,y101,y102,y103,y104,y105])(h2:uni 6 dc)(h3:inR (((i+1):Nat):Int))(en':n'=(if y100 > n then y100 else n))(ei':i'=(i+1)):aC Tp 0 (sub (cd Tryz.f18) [1,1,0,1,0,0]) (oR dc n i) .normal (oR dc n' i'):=by
 subst en' ei';exact aC.fin (g:=⟨(rng [(0,2),(4,3),(10,8)]),[],[],[]⟩) (o:=[bT,.x (dcE y100 y101 y102 y103 y104 y105)]) (l:=[_,_,_,0≤(i:Int)∧(i:Int)<(dc.length:Int)∧(i*6)<(dc.flatten.map aA).length,_]) (by kernel_rfl) (gc h3 (gc (aV (i:=i) h2 h1) (gc (bG (i:=i) h2 h1) (gc (bZ (k:=6) (i:=(i:Int)) (by decide) h2 (kQ3 _) h1) (gc (bD h0) gn)))))
theorem aVa{dc:Lqq}{n:Int}{i:Nat}(h0:(dc.length:Int)≤(i:Int)):aC Tp 0 (sub (cd Tryz.f18) [1,1,0,1,0,0]) (oR dc n i) (.exit 0) (oR dc n i):=by
 exact aC.fin (g:=⟨(rng [(0,2),(4,3),(10,8)]),[],[],[]⟩) (o:=[bF]) (l:=[_]) (by kernel_rfl) (gc (bU h0) gn)
theorem bMv{dl:Int}{sk dc mo:Lqq}{r0n:Nat}{r0c:List PV}(h0:uni 2 sk)(h1:sk.length≤1000)(h2:uni 6 dc)(h3:dc.length≤1000)(h4:(mo.flatten.map aA).length=mo.length*6∧dc.length+mo.length≤1000000)(er0n:r0n=(dc.length+mo.length))(er0c:r0c=((dc.flatten.map aA)++(mo.flatten.map aA))){base:Nat}:FV Tp 24 [(.p (.agg (bP dl sk dc))),(.p (fS mo))] base (.p (.agg [(aA dl),(fS sk),(.sl r0n r0c)])) []:=by
 subst er0n er0c;exact FV.frz (FMM.fin (k:=0) (g:=⟨[],[],[4],[]⟩) rfl Tryz.func24 rfl (o:=[.c (.agg [(pI dl),(.p (fS sk)),(.own 2)]) [(2,(.row 44 dc.length (dc.flatten.map aA)))]]) (l:=[_,FC Tp 27 [(.p (.agg (bP dl sk dc)))] [] 2 (.agg [(pI dl),(.p (fS sk)),(.own 2)]) [(2,(.row 44 dc.length (dc.flatten.map aA)))]]) (by kernel_rfl) (gc h4 (gc (FMM.fc (ids:=[]) (bCs dl sk dc h0 h1 h2 h3) (by kernel_rfl)) gn))) (by kernel_rfl)
end
section
def aE(dc:Lqq):Int:=dc.foldl (fun n x=>if x.getD 0 0 > n then x.getD 0 0 else n) 0+1
theorem aUy(dc:Lqq):∀ (n b:Int),n≤b→(∀ x∈dc,x.getD 0 0≤b)→n≤dc.foldl (fun n x=>if x.getD 0 0 > n then x.getD 0 0 else n) n∧dc.foldl (fun n x=>if x.getD 0 0 > n then x.getD 0 0 else n) n≤b∧∀ x∈dc,x.getD 0 0≤dc.foldl (fun n x=>if x.getD 0 0 > n then x.getD 0 0 else n) n:=by
 induction dc with
 | nil=>exact fun n b h _=>⟨uN _,h,fun x hx=>by cases hx⟩
 | cons y r ih =>
  intro n b h hb;have h1:=hb y (iZ ..);rw [uM];obtain ⟨q1,q2,q3⟩:=ih (if y.getD 0 0 > n then y.getD 0 0 else n) b (by split <;> omega) (fun x hx=>hb x (kQ6 _ hx))
  have hy:n≤(if y.getD 0 0 > n then y.getD 0 0 else n)∧y.getD 0 0≤(if y.getD 0 0 > n then y.getD 0 0 else n):=by split <;> omega
  refine ⟨by omega,q2,fun x hx => ?_⟩
  rcases fB.1 hx with rfl | hx
  ·omega
  ·exact q3 x hx
theorem aAz{dc:Lqq}{b:Int}(h0:0≤b)(hb:∀ x∈dc,x.getD 0 0≤b):1≤aE dc∧aE dc≤b+1∧∀ x∈dc,x.getD 0 0<aE dc:=by
 obtain ⟨q1,q2,q3⟩:=aUy dc 0 b h0 hb;unfold aE;exact ⟨by omega,by omega,fun x hx=>by have:=q3 x hx;omega⟩
theorem bCd(dl:Int)(sk dc:Lqq)(hu:uni 6 dc)(hl:dc.length≤1000)(hb:∀ x∈dc,x.getD 0 0≤9999){base:Nat}:FV Tp 18 [.p (.agg (bP dl sk dc))] base (.p (aA (aE dc))) []:=by
 have hn:=aAz (by omega) hb
 refine bMu (aM.range (P:=Tp) (k:=0) (e := .exit 0) (fun i n=>oR dc n i) (fun n=>oR dc n dc.length) (fun n x=>if x.getD 0 0 > n then x.getD 0 0 else n) (fun _ _=>True) (by simp) dc trivial
  (fun i x acc hx _ => ?_) (fun acc _=>aVa (by omega))) (by unfold aE at hn;unfold inR;omega) rfl
 obtain ⟨a,b,c,d,e,f,rfl⟩:=len6 (hu _ (kQ5 hx));have:=bE hx;exact ⟨trivial,aUz (by omega) hx hu (aP (by omega)) rfl rfl⟩
theorem wB(dl:Int)(sk dc mo:Lqq)(h0:uni 2 sk)(h1:sk.length≤1000)(h2:uni 6 dc)(h3:dc.length≤1000)(h4:uni 6 mo)(h5:mo.length≤1000){base:Nat}:FV Tp 24 [.p (.agg (bP dl sk dc)),.p (.sl mo.length (mo.flatten.map aA))] base (.p (.agg (bP dl sk (dc++mo)))) [] :=
 bMv h0 h1 h2 h3 ⟨lQ h4,by omega⟩ (by rw [lO]) (by rw [aUr,iB])
end
section

noncomputable abbrev aAx:Code:=sub (cd Tryz.f77) [1,0,1,0,0]
noncomputable abbrev aAy:Code:=sub (cd Tryz.f124) [1,1,1,0,1,0,0]
theorem bMr{a b c d e f num:Int}{r0:Bool}(er0:r0=(a == num)){base:Nat}:FV Tp 125 [(.p (dcE a b c d e f)),(.rp [(aA num)] 0)] base (pB r0) []:=by
 subst er0;exact FV.fin Tryz.func125 rfl (o:=[.x (aA num)]) (l:=[[(aA num)][0]? = some (aA num)]) (by kernel_rfl) (gc rfl gn)
theorem aGn(a b c d e f num:Int){base:Nat}:FV Tp 125 [.p (dcE a b c d e f),.rp [aA num] 0] base (pB (a == num)) []:=bMr rfl
def fH(l:Lqq)(num:Int)(i:Nat):St:=⟨fr 19 [(0,(.own 0)),(1,(.fn 125 [] [(.rp [(aA num)] 0)])),(7,(pI (l.length:Int))),(8,(pI (i:Int)))],[some (.row 44 l.length (l.flatten.map aA))]⟩
theorem bGq{l:Lqq}{num:Int}{i'0:Nat}(hl0:aM Tp 1 aAx (fH l num 0) (.exit 0) (fH l num i'0)):FMM Tp 77 [(.own 0),(.fn 125 [] [(.rp [(aA num)] 0)])] [some (.row 44 l.length (l.flatten.map aA))] (pI (-1:Int)) [some (.row 44 l.length (l.flatten.map aA))]:=by
 exact FMM.fin (k:=1) (g:=⟨[],[],[],[]⟩) rfl Tryz.func77 rfl (o:=[.k 6 ⟨(rng [(2,5),(9,10)]),[],[],[]⟩ (.exit 0) (fH l num i'0)]) (l:=[_]) (by kernel_rfl) (gc hl0.code gn)
theorem bGr{l:Lqq}{num:Int}{i'0:Nat}(hl0:aM Tp 1 aAx (fH l num 0) .ret (cH (fH l num i'0) [(4,(pI (i'0:Int)))])):FMM Tp 77 [(.own 0),(.fn 125 [] [(.rp [(aA num)] 0)])] [some (.row 44 l.length (l.flatten.map aA))] (pI (i'0:Int)) [some (.row 44 l.length (l.flatten.map aA))]:=by
 exact FMM.fin (k:=1) (g:=⟨[],[],[],[]⟩) rfl Tryz.func77 rfl (o:=[.k 6 ⟨(rng [(2,5),(9,10)]),[],[],[]⟩ .ret (cH (fH l num i'0) [(4,(pI (i'0:Int)))])]) (l:=[_]) (by kernel_rfl) (gc hl0.code gn)
theorem aNn{l:Lqq}{num:Int}{i:Nat}{y100 y101 y102 y103 y104 y105:Int}(h0:(i:Int)<(l.length:Int))(h1:l[i]? = some [y100,y101,y102,y103,y104,y105])(h2:uni 6 l)(h3:(y100 == num)=true):aC Tp 1 aAx (fH l num i) .ret (cH (fH l num i) [(4,(pI (i:Int)))]):=by
 exact aC.fin (g:=⟨(rng [(2,2),(5,2),(9,10)]),[],[],[]⟩) (o:=[bT,.x (dcE y100 y101 y102 y103 y104 y105),.c (pB (y100 == num)) [],bT]) (l:=[_,_,_,_,_,_]) (by kernel_rfl) (gc h3 (gc (fk 1 (aGn y100 y101 y102 y103 y104 y105 num) rfl) (gc (aV (i:=i) h2 h1) (gc (bG (i:=i) h2 h1) (gc (cU (i:=(i:Int)) (kQ3 _) h1) (gc (bD h0) gn))))))
theorem aNo{l:Lqq}{num:Int}{i:Nat}{y100 y101 y102 y103 y104 y105:Int}{i':Nat}(h0:(i:Int)<(l.length:Int))(h1:l[i]? = some [y100,y101,y102,y103,y104,y105])(h2:uni 6 l)(h3:(y100 == num)=false)(h4:inR (((i+1):Nat):Int))(ei':i'=(i+1)):aC Tp 1 aAx (fH l num i) .normal (fH l num i'):=by
 subst ei';exact aC.fin (g:=⟨(rng [(2,5),(9,10)]),[],[],[]⟩) (o:=[bT,.x (dcE y100 y101 y102 y103 y104 y105),.c (pB (y100 == num)) [],bF]) (l:=[_,_,_,_,_,_,_]) (by kernel_rfl) (gc h4 (gc h3 (gc (fk 1 (aGn y100 y101 y102 y103 y104 y105 num) rfl) (gc (aV (i:=i) h2 h1) (gc (bG (i:=i) h2 h1) (gc (cU (i:=(i:Int)) (kQ3 _) h1) (gc (bD h0) gn)))))))
theorem aNp{l:Lqq}{num:Int}{i:Nat}(h0:(l.length:Int)≤(i:Int)):aC Tp 1 aAx (fH l num i) (.exit 0) (fH l num i):=by
 exact aC.fin (g:=⟨(rng [(2,5),(9,10)]),[],[],[]⟩) (o:=[bF]) (l:=[_]) (by kernel_rfl) (gc (bU h0) gn)
abbrev bGs(l:Lqq)(num i:Int):Prop:=FMM Tp 77 [.own 0,(.fn 125 [] [(.rp [(aA num)] 0)])] [some (.row 44 l.length (l.flatten.map aA))] (pI i) [some (.row 44 l.length (l.flatten.map aA))]
def jZ(num:Int)(cn:Nat)(cc:List PV)(i:Nat)(j:Nat):St:=⟨fr 42 [(0,(.own 0)),(1,(.fn 125 [] [(.rp [(aA num)] 0)])),(4,(.p bX)),(5,(pI (i:Int))),(6,(pI (j:Int)))],[some (.row 44 cn cc)]⟩
theorem bMs{l:Lqq}{num:Int}{i0:Nat}{c'1:Lqq}{i'2 j'3:Nat}{r0c:List PV}(h0:bGs l num (i0:Int))(h1:(i0:Int)≠(-1:Int))(h2:inR (((i0+1):Nat):Int))(hl3:aM Tp 1 aAy (jZ num l.length (l.flatten.map aA) i0 (i0+1)) (.exit 0) (jZ num c'1.length (c'1.flatten.map aA) i'2 j'3))(h4:0≤(i'2:Int)∧(i'2:Int)≤(c'1.length:Int)∧(c'1.length:Int)≤(c'1.length:Int))(h5:(i'2*6)+(c'1.length-i'2)*6≤(c'1.flatten.map aA).length)(h6:0≤(0:Int)∧(0:Int)≤(i'2:Int)∧(i'2:Int)≤(c'1.length:Int))(er0c:r0c=((((c'1.flatten.map aA).take (i'2*6)++(List.replicate (c'1.length-i'2) (List.map PV.v [(.int .i64 0),(.int .i64 0),(.int .i64 0),(.int .i64 0),(.int .i64 0),(.int .i64 0)])).flatten++(c'1.flatten.map aA).drop ((i'2*6)+(c'1.length-i'2)*6)).drop 0).take (i'2*(((c'1.flatten.map aA).take (i'2*6)++(List.replicate (c'1.length-i'2) (List.map PV.v [(.int .i64 0),(.int .i64 0),(.int .i64 0),(.int .i64 0),(.int .i64 0),(.int .i64 0)])).flatten++(c'1.flatten.map aA).drop ((i'2*6)+(c'1.length-i'2)*6)).length / c'1.length)))):FMM Tp 124 [(.own 0),(.fn 125 [] [(.rp [(aA num)] 0)])] [some (.row 44 l.length (l.flatten.map aA))] (.p (.sl i'2 r0c)) [some .dead]:=by
 subst er0c;exact FMM.fin (k:=1) (g:=⟨[],[],[0],[]⟩) rfl Tryz.func124 rfl (o:=[.c (pI (i0:Int)) [(0,(.row 44 l.length (l.flatten.map aA)))],bF,.k 4 ⟨(rng [(2,2),(7,29)]),[],[],[]⟩ (.exit 0) (jZ num c'1.length (c'1.flatten.map aA) i'2 j'3)]) (l:=[_,_,_,_,_,_,FC Tp 77 [(.own 0),(.fn 125 [] [(.rp [(aA num)] 0)])] [(0,(.row 44 l.length (l.flatten.map aA)))] 1 (pI (i0:Int)) [(0,(.row 44 l.length (l.flatten.map aA)))]]) (by kernel_rfl) (gc h6 (gc h5 (gc h4 (gc hl3.code (gc h2 (gc (bR h1) (gc (FMM.fc (ids:=[0]) h0 (by kernel_rfl)) gn)))))))
theorem bMt{l:Lqq}{num:Int}(h0:bGs l num (-1:Int)):FMM Tp 124 [(.own 0),(.fn 125 [] [(.rp [(aA num)] 0)])] [some (.row 44 l.length (l.flatten.map aA))] (.p (fS l)) [some .dead]:=by
 exact FMM.fin (k:=1) (g:=⟨[],[],[0],[]⟩) rfl Tryz.func124 rfl (o:=[.c (pI (-1:Int)) [(0,(.row 44 l.length (l.flatten.map aA)))],bT]) (l:=[((-1:Int) == (-1:Int))=true,FC Tp 77 [(.own 0),(.fn 125 [] [(.rp [(aA num)] 0)])] [(0,(.row 44 l.length (l.flatten.map aA)))] 1 (pI (-1:Int)) [(0,(.row 44 l.length (l.flatten.map aA)))]]) (by kernel_rfl) (gc (by first | decide | simp) (gc (FMM.fc (ids:=[0]) h0 (by kernel_rfl)) gn))
theorem aUv{num:Int}{c:Lqq}{i j:Nat}{y100 y101 y102 y103 y104 y105 y106 y107 y108 y109 y110 y111:Int}{c':Lqq}{i' j':Nat}(h0:(j:Int)<(c.length:Int))(h1:c[j]? = some [y100,y101,y102,y103,y104,y105])(h2:uni 6 c)(h3:(y100 == num)=false)(h4:c[i]? = some [y106,y107,y108,y109,y110,y111])(h5:[(aA y100),(aA y101),(aA y102),(aA y103),(aA y104),(aA y105)].length=6∧(i*6)+6≤(c.flatten.map aA).length)(h6:inR (((i+1):Nat):Int))(h7:inR (((j+1):Nat):Int))(ec'n:c'.length=c.length)(ec'c:c'.flatten.map aA=((c.flatten.map aA).take (i*6)++[(aA y100),(aA y101),(aA y102),(aA y103),(aA y104),(aA y105)]++(c.flatten.map aA).drop ((i*6)+6)))(ei':i'=(i+1))(ej':j'=(j+1)):aC Tp 1 aAy (jZ num c.length (c.flatten.map aA) i j) .normal (jZ num c'.length (c'.flatten.map aA) i' j'):=by
 subst ei' ej';have raw:aC Tp 1 aAy (jZ num c.length (c.flatten.map aA) i j) .normal (jZ num c.length ((c.flatten.map aA).take (i*6)++[(aA y100),(aA y101),(aA y102),(aA y103),(aA y104),(aA y105)]++(c.flatten.map aA).drop ((i*6)+6)) (i+1) (j+1)):=aC.fin (g:=⟨(rng [(2,2),(7,29)]),[],[],[]⟩) (o:=[bT,.x (dcE y100 y101 y102 y103 y104 y105),.c (pB (y100 == num)) [],bT]) (l:=[_,_,_,_,_,_,_,_,_,_]) (by kernel_rfl) (gc h7 (gc h6 (gc h5 (gc (cU (i:=(i:Int)) (kQ3 _) h4) (gc (cQ h3) (gc (fk 2 (aGn y100 y101 y102 y103 y104 y105 num) rfl) (gc (aV (i:=j) h2 h1) (gc (bG (i:=j) h2 h1) (gc (cU (i:=(j:Int)) (kQ3 _) h1) (gc (bD h0) gn))))))))))
 exact raw.cast (by rw [ec'n,ec'c])
theorem aUw{num:Int}{c:Lqq}{i j:Nat}{y100 y101 y102 y103 y104 y105:Int}{j':Nat}(h0:(j:Int)<(c.length:Int))(h1:c[j]? = some [y100,y101,y102,y103,y104,y105])(h2:uni 6 c)(h3:(y100 == num)=true)(h4:inR (((j+1):Nat):Int))(ej':j'=(j+1)):aC Tp 1 aAy (jZ num c.length (c.flatten.map aA) i j) .normal (jZ num c.length (c.flatten.map aA) i j'):=by
 subst ej';exact aC.fin (g:=⟨(rng [(2,2),(7,29)]),[],[],[]⟩) (o:=[bT,.x (dcE y100 y101 y102 y103 y104 y105),.c (pB (y100 == num)) [],bF]) (l:=[_,_,_,_,_,_,_]) (by kernel_rfl) (gc h4 (gc (aX h3) (gc (fk 2 (aGn y100 y101 y102 y103 y104 y105 num) rfl) (gc (aV (i:=j) h2 h1) (gc (bG (i:=j) h2 h1) (gc (cU (i:=(j:Int)) (kQ3 _) h1) (gc (bD h0) gn)))))))
theorem aUx{num:Int}{c:Lqq}{i j:Nat}(h0:(c.length:Int)≤(j:Int)):aC Tp 1 aAy (jZ num c.length (c.flatten.map aA) i j) (.exit 0) (jZ num c.length (c.flatten.map aA) i j):=by
 exact aC.fin (g:=⟨(rng [(2,2),(7,29)]),[],[],[]⟩) (o:=[bF]) (l:=[_]) (by kernel_rfl) (gc (bU h0) gn)
end
section
def dU(l:Lqq)(num:Int):Lqq:=l.filter fun x => !(x.getD 0 0 == num)
structure aCv (p:List Int→Bool) (l:Lqq) (j:Nat) (x:Lqq × Nat):Prop where
 len:x.1.length=l.length
 le:x.2<j
 kept:x.1.take x.2=(l.take j).filter fun n => !p n
 rest:x.1.drop j=l.drop j
theorem aCv.skip{p:List Int→Bool}{l:Lqq}{j:Nat}{x:Lqq × Nat}(h:aCv p l j x)(hj:j<l.length){n:List Int}(hn:x.1[j]? = some n)(hp:p n=true):aCv p l (j+1) x:=by
 have hl:l[j]? = some n:=by
  have:=congrArg (·[0]?) h.rest
  simp only [List.getElem?_drop,Nat.add_zero] at this
  rw [← this];exact hn
 refine ⟨h.len,by have:=h.le;omega,?_,?_⟩
 ·rw [h.kept,List.take_add_one,hl]
  simp [oJ,hp]
 ·rw [← List.drop_drop,h.rest,List.drop_drop]
theorem aCv.keep{p:List Int→Bool}{l:Lqq}{j:Nat}{x:Lqq × Nat}(h:aCv p l j x)(hj:j<l.length){n:List Int}(hn:x.1[j]? = some n)(hp:p n=false):aCv p l (j+1) (x.1.set x.2 n,x.2+1):=by
 have hl:l[j]? = some n:=by
  have:=congrArg (·[0]?) h.rest
  simp only [List.getElem?_drop,Nat.add_zero] at this
  rw [← this];exact hn
 have hle:=h.le;have hlen:=h.len;refine ⟨by simp [h.len],by simpa using hle,?_,?_⟩
 ·show (x.1.set x.2 n).take (x.2+1)=_
  rw [List.take_add_one,List.take_set_of_le (dR _),h.kept,bBz (by omega),List.take_add_one,hl]
  simp [oJ,hp]
 ·show (x.1.set x.2 n).drop (j+1)=_
  rw [List.drop_set_of_lt (by omega),← List.drop_drop,h.rest,List.drop_drop]
theorem aCv.start{p:List Int→Bool}{l:Lqq}{i:Nat}{n:List Int}(hi:l[i]? = some n)(hp:p n=true)(hb:∀ m∈l.take i,p m=false):aCv p l (i+1) (l,i):=by
 refine ⟨rfl,Nat.lt_succ_self _,?_,rfl⟩;show l.take i=_;rw [List.take_add_one,hi];simp only [oJ];rw [List.filter_eq_self.2 fun m hm=>by simp [hb m hm]]
 simp [hp]
theorem aGm{p:List Int→Bool}{l:Lqq}{i:Nat}(h:l.findIdx? p=some i):∀ m∈l.take i,p m=false:=fun m hm=>by
 obtain ⟨hi,h1,h2⟩:=List.findIdx?_eq_some_iff_getElem.1 h;obtain ⟨j,hj,rfl⟩:=List.getElem_of_mem hm;rw [List.getElem_take];rw [lC] at hj
 have:=h2 j (by omega)
 simpa using this
theorem bGp{l:Lqq}{num:Int}(hu:uni 6 l)(hl:l.length≤1000) :
  (∃ i n,l[i]? = some n∧l.findIdx? (fun x=>x.getD 0 0 == num)=some i∧(n.getD 0 0 == num)=true∧bGs l num (i:Int))∨(l.any (fun x=>x.getD 0 0 == num)=false∧bGs l num (-1)):=by
 rcases aM.find (P:=Tp) (k:=1) (b:=(sub (cd Tryz.f77) [1,0,1,0,0])) (fun i=>fH l num i) (fun i _=>cH (fH l num i) [(4,.p (aA (i:Int)))]) (fH l num l.length) .ret (.exit 0) (by simp) (by simp) (fun x=>x.getD 0 0 == num) l
  (fun i x hx hq=>by
   obtain ⟨a,b,c,d,e,f,rfl⟩:=len6 (hu _ (kQ5 hx));exact aNo (by have:=bE hx;omega) hx hu hq (aP (by have:=bE hx;omega)) rfl)
  (fun i x hx hq=>by
   obtain ⟨a,b,c,d,e,f,rfl⟩:=len6 (hu _ (kQ5 hx));exact aNn (by have:=bE hx;omega) hx hu hq)
  (aNp (by omega)) with ⟨i,x,h1,h2,h3,h4⟩ | ⟨h1,h2,h3⟩
 ·exact .inl ⟨i,x,h1,h2,h3,bGr h4⟩
 ·exact .inr ⟨h2,bGq h3⟩
theorem bMq(l:Lqq)(num:Int)(hu:uni 6 l)(hl:l.length≤1000) :
  FMM Tp 124 [.own 0,.fn 125 [] [.rp [aA num] 0]] [some (.row 44 l.length (l.flatten.map aA))] (.p (.sl (dU l num).length ((dU l num).flatten.map aA))) [some .dead]:=by
 rcases bGp (num:=num) hu hl with ⟨i,n,h1,h2,h3,h4⟩ | ⟨h1,h2⟩
 ·have hi:=bE h1
  obtain ⟨d,hm⟩:∃ d,i+1+d=l.length:=⟨l.length-(i+1),by omega⟩
  obtain ⟨⟨c,k⟩,hI,hL⟩:=aM.ex (P:=Tp) (k:=1) (b:=(sub (cd Tryz.f124) [1,1,1,0,1,0,0])) (e := .exit 0) (fun j (x:Lqq × Nat)=>jZ num x.1.length (x.1.flatten.map aA) x.2 (i+1+j)) (fun x=>jZ num x.1.length (x.1.flatten.map aA) x.2 l.length)
   (fun j x=>aCv (fun x=>x.getD 0 0 == num) l (i+1+j) x∧uni 6 x.1) (by simp) d
   (fun j x hj hx=>by
    obtain ⟨hI,hs⟩:=hx;have hlt:i+1+j<x.1.length:=by rw [hI.len];omega
    have hle:=hI.le;have hlen:=hI.len;obtain ⟨y,hy⟩:∃ y,x.1[i+1+j]? = some y:=⟨_,kQ0 hlt⟩;obtain ⟨y0,y1,y2,y3,y4,y5,rfl⟩:=len6 (hs y (kQ5 hy));cases hq:(y0 == num) with
    | true=>exact ⟨x,⟨hI.skip (by omega) hy hq,hs⟩,aUw (by omega) hy hs hq (aP (by omega)) rfl⟩
    | false =>
     obtain ⟨z,hz⟩:∃ z,x.1[x.2]? = some z:=⟨_,kQ0 (by omega)⟩
     obtain ⟨z0,z1,z2,z3,z4,z5,rfl⟩:=len6 (hs z (kQ5 hz));have hle2:=bG hs hz;refine ⟨_,⟨hI.keep (by omega) hy hq,fun n hn => ?_⟩,aUv (c:=x.1) (c':=x.1.set x.2 [y0,y1,y2,y3,y4,y5]) (by omega) hy hs hq hz ⟨rfl,hle2⟩ (aP (by omega)) (aP (by omega)) (by simp) (qJ hs (by omega) rfl).symm rfl rfl⟩
     rcases List.mem_or_eq_of_mem_set hn with h | rfl
     ·exact hs n h
     ·rfl)
   (fun x hx=>by
    have:=aUx (num:=num) (c:=x.1) (i:=x.2) (j:=l.length) (by rw [hx.1.len];omega)
    rw [show i+1+d=l.length from hm];exact this)
   (acc:=(l,i)) ⟨aCv.start h1 h3 (aGm h2),hu⟩
  obtain ⟨hI,hs⟩:=hI;have hlen:=hI.len;have hle:=hI.le;have hk:=hI.kept;simp only [hm,List.take_length] at hlen hle hk
  have hcl:(c.flatten.map aA).length=c.length*6:=lQ hs;have hk6:k*6≤c.length*6:=Nat.mul_le_mul_right _ (by omega)
  have hsum:k*6+(c.length-k)*6=c.length*6:=by rw [← Nat.add_mul];congr 1;omega
  have fin:=bMs (l:=l) (c'1:=c) (i'2:=k) (j'3:=l.length) (r0c:=(c.take k).flatten.map aA) h4 (by omega) (aP (by omega)) hL ⟨by omega,by omega,by omega⟩ (by rw [hcl];omega) ⟨by omega,by omega,by omega⟩ (by
   have hz:((List.replicate (c.length-k) (List.map PV.v [(.int .i64 0),(.int .i64 0),(.int .i64 0),(.int .i64 0),(.int .i64 0),(.int .i64 0)])).flatten).length=(c.length-k)*6:=by
    rw [List.length_flatten];simp
   have hL2:(((c.flatten.map aA).take (k*6))++(List.replicate (c.length-k) (List.map PV.v [(.int .i64 0),(.int .i64 0),(.int .i64 0),(.int .i64 0),(.int .i64 0),(.int .i64 0)])).flatten++(c.flatten.map aA).drop (k*6+(c.length-k)*6)).length=c.length*6:=by
    rw [lO,lO,hz,lC,bCb,hcl];omega
   rw [List.drop_zero,hL2,Nat.mul_comm c.length 6,Nat.mul_div_cancel _ (by omega:0<c.length),List.append_assoc,List.take_append_of_le_length (by rw [lC,hcl];omega),List.take_take,Nat.min_self,← List.map_take,aGk _ hs])
  have hk':c.take k=dU l num:=hk;rw [← hk'];have e:(c.take k).length=k:=by rw [lC,Nat.min_eq_left (by omega)]
  rw [e];exact fin
 ·have:dU l num=l:=List.filter_eq_self.2 fun n hn=>by
   have:=List.any_eq_false.1 h1 n hn;simpa using this
  rw [this];exact bMt h2
end
section
variable {P:Program}
theorem FC.close1{f base id ty n:Nat}{cs:List PV}{args args':List AV}{y:AV}{L:Upd}(h:FC P f args' [] base y L)(ha:fzL id n cs args=args'):FC P f args [(id,.row ty n cs)] base y ((id,.dead)::L):=fun M hb hf h8=>by
 have hoM:=hb _ (iZ ..);subst ha;have fre:∀ j,eV M (base+j)=true→eV (aY M id (some .dead)) (base+j)=true:=fun j hj=>by
  have hne:id≠base+j:=fun e=>by
   have:=cP hj;rw [← e] at this
   exact this _ (bB.1 hoM)
  unfold eV at hj ⊢
  rw [cY,if_neg hne];exact hj
 exact FM.close1 hoM (h _ (fun p hp=>by cases hp) (by have:=fre 0 (by simpa using hf);simpa using this) (fun j hj=>fre j (h8 j hj)))
end
section
variable {dl:Int}{sk dc:Lqq}

noncomputable abbrev wW:Code:=sub (cd Tryz.f58) [1,1,1,1,1,1,1,1,1,0,1,0,1,0,0]
noncomputable abbrev aHv:Code:=sub (cd Tryz.f58) [1,1,1,1,1,1,1,1,1,0,1,0]
noncomputable abbrev aQl:Code:=sub (cd Tryz.f58) [1,1,1,1,1,1,1,1,1,0,1,0,1]
theorem aCc:((0:Int) != (0:Int))=false:=by first | decide | simp
def fA(dl:Int)(sk dc:Lqq)(r:Int)(x:List Int):Int × Bool:=kB dl x (aB dc) (((aB sk).getD (bC (fun x=>decide (r=x)) (aL (aB sk) 0)).toNat []).getD 0 0) (((aB sk).getD (bC (fun x=>decide (r=x)) (aL (aB sk) 0)).toNat []).getD 1 0)
def lW(dl:Int)(sk:Lqq)(dc:Lqq)(num:Int)(r6:Int)  : St:=⟨fr 102 [(3,(.rp [(aA num)] 0)),(4,(.ptr 0 0)),(5,(.ptr 1 0)),(6,(.rp [(PV.rp (aI dl (aB sk) (aB dc)) 0)] 0)),(9,(.rp [(aA r6)] 0)),(10,(.rp [(aA (bC (fun x=>decide (r6=x)) (aL (aB sk) 0)))] 0)),(53,(.fn 182 [] [(.rp [(aH ((aS dl (aB dc)).filter fun n => !(n == num)))] 0)]))],[some (.box 4 [(pB false)]),some (.box 34 [(pI 0)])]⟩
def tI(dl:Int)(sk:Lqq)(dc:Lqq)(num:Int)(r6:Int):St:=⟨fr 102 [(3,(.rp [(aA num)] 0)),(4,(.ptr 0 0)),(5,(.ptr 1 0)),(6,(.rp [(PV.rp (aI dl (aB sk) (aB dc)) 0)] 0)),(9,(.rp [(aA r6)] 0)),(10,(.rp [(aA (bC (fun x=>decide (r6=x)) (aL (aB sk) 0)))] 0)),(53,(.fn 182 [] [(.rp [(aH ((aS dl (aB dc)).filter fun n => !(n == num)))] 0)]))],[some (.box 4 [(pB false)]),some (.box 34 [(pI 0)])]⟩
def aCd(dl:Int)(sk:Lqq)(dc:Lqq)(num:Int)(r6:Int):St:=⟨fr 102 [(3,(.rp [(aA num)] 0)),(4,(.ptr 0 0)),(5,(.ptr 1 0)),(6,(.rp [(PV.rp (aI dl (aB sk) (aB dc)) 0)] 0)),(9,(.rp [(aA r6)] 0)),(10,(.rp [(aA (bC (fun x=>decide (r6=x)) (aL (aB sk) 0)))] 0)),(53,(.fn 182 [] [(.rp [(aH ((aS dl (aB dc)).filter fun n => !(n == num)))] 0)]))],[some (.box 4 [(.kb true)]),some (.box 34 [(pI 0)])]⟩
theorem bTa{num:Int}(h0:bO dl sk dc)(h1:cE (aB dc))(h2:(aS dl (aB dc)).length≤1000)(h3:((aS dl (aB dc)).contains num)=false){base:Nat}:FV Tp 58 [(.p (.agg (bP dl sk dc))),(pI num)] base (.tup [(pB false),(pI 1)]) []:=by
 exact FV.fin Tryz.func58 rfl (o:=[.c (.tup [(.rp (aI dl (aB sk) (aB dc)) 0),(pI 0)]) [],bF,.g 1 ⟨[],[0,2,3],[4,1],[]⟩,.x (PV.rp (aI dl (aB sk) (aB dc)) 0),.c (.own 3) [(3,(.row 3 ((aS dl (aB dc)).length) ((aS dl (aB dc)).map aA)))],.x (aA num),.c (pB ((aS dl (aB dc)).contains num)) [],bT]) (l:=[_,FC Tp 52 [(.own 3),(pI num)] [(3,(.row 3 ((aS dl (aB dc)).length) ((aS dl (aB dc)).map aA)))] 4 (pB ((aS dl (aB dc)).contains num)) [],[(aA num)][0]? = some (aA num),_,[(PV.rp (aI dl (aB sk) (aB dc)) 0)][0]? = some (PV.rp (aI dl (aB sk) (aB dc)) 0),_,_]) (by kernel_rfl) (gc (cQ h3) (gc (fv (mU (aS dl (aB dc)) num h2)) (gc rfl (gc (fk 3 (qL (dl:=dl) (sk:=(aB sk)) (dc:=(aB dc)) h1) rfl) (gc rfl (gc aCc (gc (fk 4 (jN dl sk dc h0) rfl) gn)))))))
theorem bTb{num:Int}(h0:bO dl sk dc)(h1:cE (aB dc))(h2:(aS dl (aB dc)).length≤1000)(h3:((aS dl (aB dc)).contains num)=true)(h4:(8:Int)<(((aS dl (aB dc)).length:Nat):Int)){base:Nat}:FV Tp 58 [(.p (.agg (bP dl sk dc))),(pI num)] base (.tup [(pB false),(pI 10)]) []:=by
 exact FV.fin Tryz.func58 rfl (o:=[.c (.tup [(.rp (aI dl (aB sk) (aB dc)) 0),(pI 0)]) [],bF,.g 1 ⟨[],[0,2,3],[4,1],[]⟩,.x (PV.rp (aI dl (aB sk) (aB dc)) 0),.c (.own 3) [(3,(.row 3 ((aS dl (aB dc)).length) ((aS dl (aB dc)).map aA)))],.x (aA num),.c (pB ((aS dl (aB dc)).contains num)) [],bF,bT]) (l:=[_,_,FC Tp 52 [(.own 3),(pI num)] [(3,(.row 3 ((aS dl (aB dc)).length) ((aS dl (aB dc)).map aA)))] 4 (pB ((aS dl (aB dc)).contains num)) [],[(aA num)][0]? = some (aA num),_,[(PV.rp (aI dl (aB sk) (aB dc)) 0)][0]? = some (PV.rp (aI dl (aB sk) (aB dc)) 0),_,_]) (by kernel_rfl) (gc (bD h4) (gc (aX h3) (gc (fv (mU (aS dl (aB dc)) num h2)) (gc rfl (gc (fk 3 (qL (dl:=dl) (sk:=(aB sk)) (dc:=(aB dc)) h1) rfl) (gc rfl (gc aCc (gc (fk 4 (jN dl sk dc h0) rfl) gn))))))))
theorem bTc{num y0 y1 y2 y3 y4 y5 r6:Int}(h0:bO dl sk dc)(h1:cE (aB dc))(h2:(aS dl (aB dc)).length≤1000)(h3:((aS dl (aB dc)).contains num)=true)(h4:(((aS dl (aB dc)).length:Nat):Int)≤8)(h5:cJ .i64 (atF (aB dc).reverse) (.int .i64 num))(h6:(dL (atF (aB dc).reverse) (.int .i64 num))=true)(h7:fD (atF (aB dc).reverse) (.int .i64 num)=some (dcE y0 y1 y2 y3 y4 y5))(h8:bEm dl (aB sk) (aB dc) [y0,y1,y2,y3,y4,y5] r6)(h9:uni 2 (aB sk)∧(aB sk).length≤1000)(h10:(aL (aB sk) 0).length≤1000)(h11:(bC (fun x=>decide (r6=x)) (aL (aB sk) 0))<0){base:Nat}:FV Tp 58 [(.p (.agg (bP dl sk dc))),(pI num)] base (.tup [(pB false),(pI 0)]) []:=by
 exact FV.fin Tryz.func58 rfl (o:=[.c (.tup [(.rp (aI dl (aB sk) (aB dc)) 0),(pI 0)]) [],bF,.g 1 ⟨[],[0,2,3],[4,1],[]⟩,.x (PV.rp (aI dl (aB sk) (aB dc)) 0),.c (.own 3) [(3,(.row 3 ((aS dl (aB dc)).length) ((aS dl (aB dc)).map aA)))],.x (aA num),.c (pB ((aS dl (aB dc)).contains num)) [],bF,bF,.x (PV.rp (aI dl (aB sk) (aB dc)) 0),.x (PV.rp (aI dl (aB sk) (aB dc)) 0),.x (.mp (atF (aB dc).reverse)),.x (aA num),bT,.x (dcE y0 y1 y2 y3 y4 y5),.c (pI r6) [],.x (PV.rp (aI dl (aB sk) (aB dc)) 0),.x (.agg (bP dl (aB sk) (aB dc))),.c (.own 13) [(13,(.row 3 ((aL (aB sk) 0).length) ((aL (aB sk) 0).map aA)))],.c (pI (bC (fun x=>decide (r6=x)) (aL (aB sk) 0))) [],.g 2 ⟨[],[0,1,2,3,13],[12,29],[]⟩,.x (aA (bC (fun x=>decide (r6=x)) (aL (aB sk) 0))),bT]) (l:=[_,[(aA (bC (fun x=>decide (r6=x)) (aL (aB sk) 0)))][0]? = some (aA (bC (fun x=>decide (r6=x)) (aL (aB sk) 0))),FC Tp 126 [(.own 13),(pI r6)] [(13,(.row 3 ((aL (aB sk) 0).length) ((aL (aB sk) 0).map aA)))] 21 (pI (bC (fun x=>decide (r6=x)) (aL (aB sk) 0))) [],_,some (.agg (((aI dl (aB sk) (aB dc)).drop 0).take 3):PV)=some (.agg (bP dl (aB sk) (aB dc))),0+3≤(aI dl (aB sk) (aB dc)).length,[(PV.rp (aI dl (aB sk) (aB dc)) 0)][0]? = some (PV.rp (aI dl (aB sk) (aB dc)) 0),FC Tp 128 [(.rp (aI dl (aB sk) (aB dc)) 0),(.p (dcE y0 y1 y2 y3 y4 y5))] [] 4 (pI r6) [],_,_,_,[(aA num)][0]? = some (aA num),(aI dl (aB sk) (aB dc))[3]? = some (.mp (atF (aB dc).reverse)),[(PV.rp (aI dl (aB sk) (aB dc)) 0)][0]? = some (PV.rp (aI dl (aB sk) (aB dc)) 0),[(PV.rp (aI dl (aB sk) (aB dc)) 0)][0]? = some (PV.rp (aI dl (aB sk) (aB dc)) 0),_,_,FC Tp 52 [(.own 3),(pI num)] [(3,(.row 3 ((aS dl (aB dc)).length) ((aS dl (aB dc)).map aA)))] 4 (pB ((aS dl (aB dc)).contains num)) [],[(aA num)][0]? = some (aA num),_,[(PV.rp (aI dl (aB sk) (aB dc)) 0)][0]? = some (PV.rp (aI dl (aB sk) (aB dc)) 0),_,_]) (by kernel_rfl) (gc (bD h11) (gc rfl (gc (fv (aBd (aL (aB sk) 0) r6 h10)) (gc (fk 13 (mV dl (aB sk) (aB dc) h9) rfl) (gc rfl (gc (by first | decide | simp) (gc rfl (gc (FV.fc (h8 _) rfl) (gc h7 (gc h6 (gc h5 (gc rfl (gc rfl (gc rfl (gc rfl (gc (bU h4) (gc (aX h3) (gc (fv (mU (aS dl (aB dc)) num h2)) (gc rfl (gc (fk 3 (qL (dl:=dl) (sk:=(aB sk)) (dc:=(aB dc)) h1) rfl) (gc rfl (gc aCc (gc (fk 4 (jN dl sk dc h0) rfl) gn)))))))))))))))))))))))
theorem bTd{num y0 y1 y2 y3 y4 y5 r6:Int}(h0:bO dl sk dc)(h1:cE (aB dc))(h2:(aS dl (aB dc)).length≤1000)(h3:((aS dl (aB dc)).contains num)=true)(h4:(((aS dl (aB dc)).length:Nat):Int)≤8)(h5:cJ .i64 (atF (aB dc).reverse) (.int .i64 num))(h6:(dL (atF (aB dc).reverse) (.int .i64 num))=true)(h7:fD (atF (aB dc).reverse) (.int .i64 num)=some (dcE y0 y1 y2 y3 y4 y5))(h8:bEm dl (aB sk) (aB dc) [y0,y1,y2,y3,y4,y5] r6)(h9:uni 2 (aB sk)∧(aB sk).length≤1000)(h10:(aL (aB sk) 0).length≤1000)(h11:(0:Int)≤(bC (fun x=>decide (r6=x)) (aL (aB sk) 0)))(hl12:aC Tp 0 aHv (tI dl sk dc num r6) .normal (lW dl sk dc num r6 )){base:Nat}:FV Tp 58 [(.p (.agg (bP dl sk dc))),(pI num)] base (.tup [(pB false),(pI 0)]) []:=by
 exact FV.fin Tryz.func58 rfl (o:=[.c (.tup [(.rp (aI dl (aB sk) (aB dc)) 0),(pI 0)]) [],bF,.g 1 ⟨[],[0,2,3],[4,1],[]⟩,.x (PV.rp (aI dl (aB sk) (aB dc)) 0),.c (.own 3) [(3,(.row 3 ((aS dl (aB dc)).length) ((aS dl (aB dc)).map aA)))],.x (aA num),.c (pB ((aS dl (aB dc)).contains num)) [],bF,bF,.x (PV.rp (aI dl (aB sk) (aB dc)) 0),.x (PV.rp (aI dl (aB sk) (aB dc)) 0),.x (.mp (atF (aB dc).reverse)),.x (aA num),bT,.x (dcE y0 y1 y2 y3 y4 y5),.c (pI r6) [],.x (PV.rp (aI dl (aB sk) (aB dc)) 0),.x (.agg (bP dl (aB sk) (aB dc))),.c (.own 13) [(13,(.row 3 ((aL (aB sk) 0).length) ((aL (aB sk) 0).map aA)))],.c (pI (bC (fun x=>decide (r6=x)) (aL (aB sk) 0))) [],.g 2 ⟨[],[0,1,2,3,13],[12,29],[]⟩,.x (aA (bC (fun x=>decide (r6=x)) (aL (aB sk) 0))),bF,.c (.p (aH ((aS dl (aB dc)).filter fun n => !(n == num)))) [(3,.dead)],.c (.fn 182 [] [(.rp [(aH ((aS dl (aB dc)).filter fun n => !(n == num)))] 0)]) [],.k 1 ⟨(rng [(0,3),(7,2),(11,42),(54,48)]),[1,2],[],[]⟩ .normal (lW dl sk dc num r6 )]) (l:=[aC Tp 0 aHv (tI dl sk dc num r6) .normal (lW dl sk dc num r6 ),FC Tp 132 [(.p (aH ((aS dl (aB dc)).filter fun n => !(n == num))))] [] 5 (.fn 182 [] [(.rp [(aH ((aS dl (aB dc)).filter fun n => !(n == num)))] 0)]) [],FC Tp 54 [(.own 3),(.fn 133 [] [(.rp [(aA num)] 0)])] [(3,(.row 3 ((aS dl (aB dc)).length) ((aS dl (aB dc)).map aA)))] 5 (.p (aH ((aS dl (aB dc)).filter fun n => !(n == num)))) [(3,.dead)],_,[(aA (bC (fun x=>decide (r6=x)) (aL (aB sk) 0)))][0]? = some (aA (bC (fun x=>decide (r6=x)) (aL (aB sk) 0))),FC Tp 126 [(.own 13),(pI r6)] [(13,(.row 3 ((aL (aB sk) 0).length) ((aL (aB sk) 0).map aA)))] 21 (pI (bC (fun x=>decide (r6=x)) (aL (aB sk) 0))) [],_,some (.agg (((aI dl (aB sk) (aB dc)).drop 0).take 3):PV)=some (.agg (bP dl (aB sk) (aB dc))),0+3≤(aI dl (aB sk) (aB dc)).length,[(PV.rp (aI dl (aB sk) (aB dc)) 0)][0]? = some (PV.rp (aI dl (aB sk) (aB dc)) 0),FC Tp 128 [(.rp (aI dl (aB sk) (aB dc)) 0),(.p (dcE y0 y1 y2 y3 y4 y5))] [] 4 (pI r6) [],_,_,_,[(aA num)][0]? = some (aA num),(aI dl (aB sk) (aB dc))[3]? = some (.mp (atF (aB dc).reverse)),[(PV.rp (aI dl (aB sk) (aB dc)) 0)][0]? = some (PV.rp (aI dl (aB sk) (aB dc)) 0),[(PV.rp (aI dl (aB sk) (aB dc)) 0)][0]? = some (PV.rp (aI dl (aB sk) (aB dc)) 0),_,_,FC Tp 52 [(.own 3),(pI num)] [(3,(.row 3 ((aS dl (aB dc)).length) ((aS dl (aB dc)).map aA)))] 4 (pB ((aS dl (aB dc)).contains num)) [],[(aA num)][0]? = some (aA num),_,[(PV.rp (aI dl (aB sk) (aB dc)) 0)][0]? = some (PV.rp (aI dl (aB sk) (aB dc)) 0),_,_]) (by kernel_rfl) (gc hl12 (gc (FV.fc (aPk (q:=((aS dl (aB dc)).filter fun n => !(n == num)))) rfl) (gc (FMM.fc (ids:=[3]) (bEk (l:=(aS dl (aB dc))) (m:=num) h2 (fun _ _=>rfl)) (by kernel_rfl)) (gc (bU h11) (gc rfl (gc (fv (aBd (aL (aB sk) 0) r6 h10)) (gc (fk 13 (mV dl (aB sk) (aB dc) h9) rfl) (gc rfl (gc (by first | decide | simp) (gc rfl (gc (FV.fc (h8 _) rfl) (gc h7 (gc h6 (gc h5 (gc rfl (gc rfl (gc rfl (gc rfl (gc (bU h4) (gc (aX h3) (gc (fv (mU (aS dl (aB dc)) num h2)) (gc rfl (gc (fk 3 (qL (dl:=dl) (sk:=(aB sk)) (dc:=(aB dc)) h1) rfl) (gc rfl (gc aCc (gc (fk 4 (jN dl sk dc h0) rfl) gn))))))))))))))))))))))))))
theorem bTe{num y0 y1 y2 y3 y4 y5 r6:Int}(h0:bO dl sk dc)(h1:cE (aB dc))(h2:(aS dl (aB dc)).length≤1000)(h3:((aS dl (aB dc)).contains num)=true)(h4:(((aS dl (aB dc)).length:Nat):Int)≤8)(h5:cJ .i64 (atF (aB dc).reverse) (.int .i64 num))(h6:(dL (atF (aB dc).reverse) (.int .i64 num))=true)(h7:fD (atF (aB dc).reverse) (.int .i64 num)=some (dcE y0 y1 y2 y3 y4 y5))(h8:bEm dl (aB sk) (aB dc) [y0,y1,y2,y3,y4,y5] r6)(h9:uni 2 (aB sk)∧(aB sk).length≤1000)(h10:(aL (aB sk) 0).length≤1000)(h11:(0:Int)≤(bC (fun x=>decide (r6=x)) (aL (aB sk) 0)))(hl12:aC Tp 0 aHv (tI dl sk dc num r6) .ret (aCd dl sk dc num r6)){base:Nat}:FV Tp 58 [(.p (.agg (bP dl sk dc))),(pI num)] base (.tup [(pB true),(pI 0)]) []:=by
 exact FV.fin Tryz.func58 rfl (o:=[.c (.tup [(.rp (aI dl (aB sk) (aB dc)) 0),(pI 0)]) [],bF,.g 1 ⟨[],[0,2,3],[4,1],[]⟩,.x (PV.rp (aI dl (aB sk) (aB dc)) 0),.c (.own 3) [(3,(.row 3 ((aS dl (aB dc)).length) ((aS dl (aB dc)).map aA)))],.x (aA num),.c (pB ((aS dl (aB dc)).contains num)) [],bF,bF,.x (PV.rp (aI dl (aB sk) (aB dc)) 0),.x (PV.rp (aI dl (aB sk) (aB dc)) 0),.x (.mp (atF (aB dc).reverse)),.x (aA num),bT,.x (dcE y0 y1 y2 y3 y4 y5),.c (pI r6) [],.x (PV.rp (aI dl (aB sk) (aB dc)) 0),.x (.agg (bP dl (aB sk) (aB dc))),.c (.own 13) [(13,(.row 3 ((aL (aB sk) 0).length) ((aL (aB sk) 0).map aA)))],.c (pI (bC (fun x=>decide (r6=x)) (aL (aB sk) 0))) [],.g 2 ⟨[],[0,1,2,3,13],[12,29],[]⟩,.x (aA (bC (fun x=>decide (r6=x)) (aL (aB sk) 0))),bF,.c (.p (aH ((aS dl (aB dc)).filter fun n => !(n == num)))) [(3,.dead)],.c (.fn 182 [] [(.rp [(aH ((aS dl (aB dc)).filter fun n => !(n == num)))] 0)]) [],.k 1 ⟨(rng [(0,3),(7,2),(11,42),(54,48)]),[1,2],[],[]⟩ .ret (aCd dl sk dc num r6)]) (l:=[aC Tp 0 aHv (tI dl sk dc num r6) .ret (aCd dl sk dc num r6),FC Tp 132 [(.p (aH ((aS dl (aB dc)).filter fun n => !(n == num))))] [] 5 (.fn 182 [] [(.rp [(aH ((aS dl (aB dc)).filter fun n => !(n == num)))] 0)]) [],FC Tp 54 [(.own 3),(.fn 133 [] [(.rp [(aA num)] 0)])] [(3,(.row 3 ((aS dl (aB dc)).length) ((aS dl (aB dc)).map aA)))] 5 (.p (aH ((aS dl (aB dc)).filter fun n => !(n == num)))) [(3,.dead)],_,[(aA (bC (fun x=>decide (r6=x)) (aL (aB sk) 0)))][0]? = some (aA (bC (fun x=>decide (r6=x)) (aL (aB sk) 0))),FC Tp 126 [(.own 13),(pI r6)] [(13,(.row 3 ((aL (aB sk) 0).length) ((aL (aB sk) 0).map aA)))] 21 (pI (bC (fun x=>decide (r6=x)) (aL (aB sk) 0))) [],_,some (.agg (((aI dl (aB sk) (aB dc)).drop 0).take 3):PV)=some (.agg (bP dl (aB sk) (aB dc))),0+3≤(aI dl (aB sk) (aB dc)).length,[(PV.rp (aI dl (aB sk) (aB dc)) 0)][0]? = some (PV.rp (aI dl (aB sk) (aB dc)) 0),FC Tp 128 [(.rp (aI dl (aB sk) (aB dc)) 0),(.p (dcE y0 y1 y2 y3 y4 y5))] [] 4 (pI r6) [],_,_,_,[(aA num)][0]? = some (aA num),(aI dl (aB sk) (aB dc))[3]? = some (.mp (atF (aB dc).reverse)),[(PV.rp (aI dl (aB sk) (aB dc)) 0)][0]? = some (PV.rp (aI dl (aB sk) (aB dc)) 0),[(PV.rp (aI dl (aB sk) (aB dc)) 0)][0]? = some (PV.rp (aI dl (aB sk) (aB dc)) 0),_,_,FC Tp 52 [(.own 3),(pI num)] [(3,(.row 3 ((aS dl (aB dc)).length) ((aS dl (aB dc)).map aA)))] 4 (pB ((aS dl (aB dc)).contains num)) [],[(aA num)][0]? = some (aA num),_,[(PV.rp (aI dl (aB sk) (aB dc)) 0)][0]? = some (PV.rp (aI dl (aB sk) (aB dc)) 0),_,_]) (by kernel_rfl) (gc hl12 (gc (FV.fc (aPk (q:=((aS dl (aB dc)).filter fun n => !(n == num)))) rfl) (gc (FMM.fc (ids:=[3]) (bEk (l:=(aS dl (aB dc))) (m:=num) h2 (fun _ _=>rfl)) (by kernel_rfl)) (gc (bU h11) (gc rfl (gc (fv (aBd (aL (aB sk) 0) r6 h10)) (gc (fk 13 (mV dl (aB sk) (aB dc) h9) rfl) (gc rfl (gc (by first | decide | simp) (gc rfl (gc (FV.fc (h8 _) rfl) (gc h7 (gc h6 (gc h5 (gc rfl (gc rfl (gc rfl (gc rfl (gc (bU h4) (gc (aX h3) (gc (fv (mU (aS dl (aB dc)) num h2)) (gc rfl (gc (fk 3 (qL (dl:=dl) (sk:=(aB sk)) (dc:=(aB dc)) h1) rfl) (gc rfl (gc aCc (gc (fk 4 (jN dl sk dc h0) rfl) gn))))))))))))))))))))))))))
def gQ(dl:Int)(sk:Lqq)(dc:Lqq)(num:Int)(r6:Int)(x:List Int)  : St:=⟨fr 102 [(3,(.rp [(aA num)] 0)),(4,(.ptr 0 0)),(5,(.ptr 1 0)),(6,(.rp [(PV.rp (aI dl (aB sk) (aB dc)) 0)] 0)),(9,(.rp [(aA r6)] 0)),(10,(.rp [(aA (bC (fun x=>decide (r6=x)) (aL (aB sk) 0)))] 0)),(11,(.own 2)),(53,(.fn 182 [] [(.rp [(aH ((aS dl (aB dc)).filter fun n => !(n == num)))] 0)])),(54,(.own 2))],[some (.box 4 [(pB false)]),some (.box 34 [(pI 0)]),some (.row 3 x.length (x.map aA))]⟩
def aHw(dl:Int)(sk:Lqq)(dc:Lqq)(num:Int)(r6:Int)  : St:=⟨fr 102 [],[some (.box 4 [(.kb true)]),some (.box 34 [(pI 0)]),some .dead]⟩
theorem bAg{num r6:Int}{x:List Int}{y100 y101 n102:Int}{b103:Bool}{T104:Lqb}(hl0:aC Tp 3 wW (gQ dl sk dc num r6 x ) .normal (cH (gQ dl sk dc num r6 x ) [(12,(pI ((fA dl sk dc r6 x).1))),(13,(pB ((fA dl sk dc r6 x).2)))]))(h1:(aB sk)[(bC (fun x=>decide (r6=x)) (aL (aB sk) 0)).toNat]? = some [y100,y101])(h2:0≤(bC (fun x=>decide (r6=x)) (aL (aB sk) 0)))(h3:uni 2 (aB sk))(h4:[(aA num)].length=1*1∧x.length+1≤1000000)(h5:aCw dl (aB sk) (aB dc) (.sl (x.length+1) ((x.map aA)++[(aA num)])) [y100,y101] n102 b103 ([]:Lqb) T104)(h6:dY [(aA r6),(aA 0),(aA ((fA dl sk dc r6 x).1))] [(0,3,true),(1,3,true),(2,3,true)]=true∧dY [(aA r6),(aA 0),(aA n102)] [(0,3,true),(1,3,true),(2,3,true)]=true)(h7:(mP [(aA r6),(aA 0),(aA ((fA dl sk dc r6 x).1))] [(aA r6),(aA 0),(aA n102)] [(0,3,true),(1,3,true),(2,3,true)])=false):aC Tp 3 aQl (rfO (lW dl sk dc num r6 ) 54 11 x) .ret (aHw dl sk dc num r6 ):=by
 exact aC.fin (g:=⟨(rng [(0,102)]),[],[],[]⟩) (o:=[.k 2 ⟨(rng [(0,3),(7,2),(12,2),(16,37),(55,16)]),[],[],[]⟩ .normal (cH (gQ dl sk dc num r6 x ) [(12,(pI ((fA dl sk dc r6 x).1))),(13,(pB ((fA dl sk dc r6 x).2)))]),.x (PV.rp (aI dl (aB sk) (aB dc)) 0),.x (PV.rp (aI dl (aB sk) (aB dc)) 0),.x (.sl ((aB sk).length) ((aB sk).flatten.map aA)),.x (aA (bC (fun x=>decide (r6=x)) (aL (aB sk) 0))),.x (.agg [(aA y100),(aA y101)]),.x (PV.rp (aI dl (aB sk) (aB dc)) 0),.x (aA num),.c (.agg (kVL 9 10 5 7 11 6)) [(4,.dead),(5,(vB0 dl (aB sk) (aB dc))),(6,(.box 33 [(.p (.sl (x.length+1) ((x.map aA)++[(aA num)])))])),(7,(.box 139 (kVL 9 10 5 7 11 6))),(8,(.mp (aF ([]:Lqb)) 0)),(9,(.box 207 [(.mp 8)])),(10,(vB5 dl (aB sk) (aB dc))),(11,(.box 209 [(.fn 153 [] [(.ptr 5 0),(.ptr 7 0)])]))],.c (.tup [(pI n102),(pB b103)]) [(5,(vB0 dl (aB sk) (aB dc))),(6,(.box 33 [(.p (.sl (x.length+1) ((x.map aA)++[(aA num)])))])),(7,(.box 139 (kVL 9 10 5 7 11 6))),(8,(.mp (aF T104) T104.length)),(9,(.box 207 [(.mp 8)])),(10,(vB5 dl (aB sk) (aB dc))),(11,(.box 209 [(.fn 153 [] [(.ptr 5 0),(.ptr 7 0)])]))],.x (aA r6),.x (aA r6),bT,bT,bT,bT]) (l:=[_,_,_,_,_,[(aA r6)][0]? = some (aA r6),[(aA r6)][0]? = some (aA r6),FC Tp 134 [(.rp (aI dl (aB sk) (aB dc)) 0),(.p (.agg [(aA y100),(aA y101)])),(.agg (kVL 9 10 5 7 11 6))] [(9,(.box 207 [(.mp 8)])),(10,(vB5 dl (aB sk) (aB dc))),(5,(vB0 dl (aB sk) (aB dc))),(7,(.box 139 (kVL 9 10 5 7 11 6))),(11,(.box 209 [(.fn 153 [] [(.ptr 5 0),(.ptr 7 0)])])),(6,(.box 33 [(.p (.sl (x.length+1) ((x.map aA)++[(aA num)])))])),(8,(.mp (aF ([]:Lqb)) 0))] 13 (.tup [(pI n102),(pB b103)]) [(5,(vB0 dl (aB sk) (aB dc))),(6,(.box 33 [(.p (.sl (x.length+1) ((x.map aA)++[(aA num)])))])),(7,(.box 139 (kVL 9 10 5 7 11 6))),(8,(.mp (aF T104) T104.length)),(9,(.box 207 [(.mp 8)])),(10,(vB5 dl (aB sk) (aB dc))),(11,(.box 209 [(.fn 153 [] [(.ptr 5 0),(.ptr 7 0)])]))],FC Tp 87 [(.rp (aI dl (aB sk) (aB dc)) 0),(.own 4)] [(4,(.row 3 (x.length+1) ((x.map aA)++[(aA num)])))] 5 (.agg (kVL 9 10 5 7 11 6)) [(4,.dead),(5,(vB0 dl (aB sk) (aB dc))),(6,(.box 33 [(.p (.sl (x.length+1) ((x.map aA)++[(aA num)])))])),(7,(.box 139 (kVL 9 10 5 7 11 6))),(8,(.mp (aF ([]:Lqb)) 0)),(9,(.box 207 [(.mp 8)])),(10,(vB5 dl (aB sk) (aB dc))),(11,(.box 209 [(.fn 153 [] [(.ptr 5 0),(.ptr 7 0)])]))],_,[(aA num)][0]? = some (aA num),[(PV.rp (aI dl (aB sk) (aB dc)) 0)][0]? = some (PV.rp (aI dl (aB sk) (aB dc)) 0),_,_,0≤(bC (fun x=>decide (r6=x)) (aL (aB sk) 0))∧(bC (fun x=>decide (r6=x)) (aL (aB sk) 0))<(((aB sk).length:Nat):Int)∧((bC (fun x=>decide (r6=x)) (aL (aB sk) 0)).toNat*2)<((aB sk).flatten.map aA).length,[(aA (bC (fun x=>decide (r6=x)) (aL (aB sk) 0)))][0]? = some (aA (bC (fun x=>decide (r6=x)) (aL (aB sk) 0))),(aI dl (aB sk) (aB dc))[1]? = some (.sl ((aB sk).length) ((aB sk).flatten.map aA)),[(PV.rp (aI dl (aB sk) (aB dc)) 0)][0]? = some (PV.rp (aI dl (aB sk) (aB dc)) 0),[(PV.rp (aI dl (aB sk) (aB dc)) 0)][0]? = some (PV.rp (aI dl (aB sk) (aB dc)) 0),aC Tp 3 wW (gQ dl sk dc num r6 x ) .normal (cH (gQ dl sk dc num r6 x ) [(12,(pI ((fA dl sk dc r6 x).1))),(13,(pB ((fA dl sk dc r6 x).2)))])]) (by kernel_rfl) (g4c (cQ h7) (gc h6 (gc rfl (gc rfl (gc (FMM.fc (ids:=[5,6,7,8,9,10,11]) h5 (by kernel_rfl)) (gc (FC.close1 (args':=[(.rp (aI dl (aB sk) (aB dc)) 0),(.p (.sl (x.length+1) ((x.map aA)++[(aA num)])))]) (FMM.fcN (k:=7) rfl (ids:=[]) (oW (dl:=dl) (sk:=(aB sk)) (dc:=(aB dc)) (on:=(x.length+1)) (ol:=((x.map aA)++[(aA num)]))) (by kernel_rfl)) (by kernel_rfl)) (gc h4 (gc rfl (gc rfl (gc (aV (i:=(bC (fun x=>decide (r6=x)) (aL (aB sk) 0)).toNat) h3 h1) (gc (bG (i:=(bC (fun x=>decide (r6=x)) (aL (aB sk) 0)).toNat) h3 h1) (gc (bZ (k:=2) (i:=(bC (fun x=>decide (r6=x)) (aL (aB sk) 0))) (by decide) h3 h2 h1) (gc rfl (gc rfl (gc rfl (gc rfl (gc hl0 gn)))))))))))))))))
theorem bAh{num r6:Int}{x:List Int}{y100 y101 n102:Int}{b103:Bool}{T104:Lqb}(hl0:aC Tp 3 wW (gQ dl sk dc num r6 x ) .normal (cH (gQ dl sk dc num r6 x ) [(12,(pI ((fA dl sk dc r6 x).1))),(13,(pB ((fA dl sk dc r6 x).2)))]))(h1:(aB sk)[(bC (fun x=>decide (r6=x)) (aL (aB sk) 0)).toNat]? = some [y100,y101])(h2:0≤(bC (fun x=>decide (r6=x)) (aL (aB sk) 0)))(h3:uni 2 (aB sk))(h4:[(aA num)].length=1*1∧x.length+1≤1000000)(h5:aCw dl (aB sk) (aB dc) (.sl (x.length+1) ((x.map aA)++[(aA num)])) [y100,y101] n102 b103 ([]:Lqb) T104)(h6:dY [(aA r6),(aA 0),(aA ((fA dl sk dc r6 x).1))] [(0,3,true),(1,3,true),(2,3,true)]=true∧dY [(aA r6),(aA 0),(aA n102)] [(0,3,true),(1,3,true),(2,3,true)]=true)(h7:(mP [(aA r6),(aA 0),(aA ((fA dl sk dc r6 x).1))] [(aA r6),(aA 0),(aA n102)] [(0,3,true),(1,3,true),(2,3,true)])=true)(h8:(((fA dl sk dc r6 x).2) == b103)=false):aC Tp 3 aQl (rfO (lW dl sk dc num r6 ) 54 11 x) .ret (aHw dl sk dc num r6 ):=by
 exact aC.fin (g:=⟨(rng [(0,102)]),[],[],[]⟩) (o:=[.k 2 ⟨(rng [(0,3),(7,2),(12,2),(16,37),(55,16)]),[],[],[]⟩ .normal (cH (gQ dl sk dc num r6 x ) [(12,(pI ((fA dl sk dc r6 x).1))),(13,(pB ((fA dl sk dc r6 x).2)))]),.x (PV.rp (aI dl (aB sk) (aB dc)) 0),.x (PV.rp (aI dl (aB sk) (aB dc)) 0),.x (.sl ((aB sk).length) ((aB sk).flatten.map aA)),.x (aA (bC (fun x=>decide (r6=x)) (aL (aB sk) 0))),.x (.agg [(aA y100),(aA y101)]),.x (PV.rp (aI dl (aB sk) (aB dc)) 0),.x (aA num),.c (.agg (kVL 9 10 5 7 11 6)) [(4,.dead),(5,(vB0 dl (aB sk) (aB dc))),(6,(.box 33 [(.p (.sl (x.length+1) ((x.map aA)++[(aA num)])))])),(7,(.box 139 (kVL 9 10 5 7 11 6))),(8,(.mp (aF ([]:Lqb)) 0)),(9,(.box 207 [(.mp 8)])),(10,(vB5 dl (aB sk) (aB dc))),(11,(.box 209 [(.fn 153 [] [(.ptr 5 0),(.ptr 7 0)])]))],.c (.tup [(pI n102),(pB b103)]) [(5,(vB0 dl (aB sk) (aB dc))),(6,(.box 33 [(.p (.sl (x.length+1) ((x.map aA)++[(aA num)])))])),(7,(.box 139 (kVL 9 10 5 7 11 6))),(8,(.mp (aF T104) T104.length)),(9,(.box 207 [(.mp 8)])),(10,(vB5 dl (aB sk) (aB dc))),(11,(.box 209 [(.fn 153 [] [(.ptr 5 0),(.ptr 7 0)])]))],.x (aA r6),.x (aA r6),bF,bF,bF,bF,bT]) (l:=[_,_,_,_,_,_,[(aA r6)][0]? = some (aA r6),[(aA r6)][0]? = some (aA r6),FC Tp 134 [(.rp (aI dl (aB sk) (aB dc)) 0),(.p (.agg [(aA y100),(aA y101)])),(.agg (kVL 9 10 5 7 11 6))] [(9,(.box 207 [(.mp 8)])),(10,(vB5 dl (aB sk) (aB dc))),(5,(vB0 dl (aB sk) (aB dc))),(7,(.box 139 (kVL 9 10 5 7 11 6))),(11,(.box 209 [(.fn 153 [] [(.ptr 5 0),(.ptr 7 0)])])),(6,(.box 33 [(.p (.sl (x.length+1) ((x.map aA)++[(aA num)])))])),(8,(.mp (aF ([]:Lqb)) 0))] 13 (.tup [(pI n102),(pB b103)]) [(5,(vB0 dl (aB sk) (aB dc))),(6,(.box 33 [(.p (.sl (x.length+1) ((x.map aA)++[(aA num)])))])),(7,(.box 139 (kVL 9 10 5 7 11 6))),(8,(.mp (aF T104) T104.length)),(9,(.box 207 [(.mp 8)])),(10,(vB5 dl (aB sk) (aB dc))),(11,(.box 209 [(.fn 153 [] [(.ptr 5 0),(.ptr 7 0)])]))],FC Tp 87 [(.rp (aI dl (aB sk) (aB dc)) 0),(.own 4)] [(4,(.row 3 (x.length+1) ((x.map aA)++[(aA num)])))] 5 (.agg (kVL 9 10 5 7 11 6)) [(4,.dead),(5,(vB0 dl (aB sk) (aB dc))),(6,(.box 33 [(.p (.sl (x.length+1) ((x.map aA)++[(aA num)])))])),(7,(.box 139 (kVL 9 10 5 7 11 6))),(8,(.mp (aF ([]:Lqb)) 0)),(9,(.box 207 [(.mp 8)])),(10,(vB5 dl (aB sk) (aB dc))),(11,(.box 209 [(.fn 153 [] [(.ptr 5 0),(.ptr 7 0)])]))],_,[(aA num)][0]? = some (aA num),[(PV.rp (aI dl (aB sk) (aB dc)) 0)][0]? = some (PV.rp (aI dl (aB sk) (aB dc)) 0),_,_,0≤(bC (fun x=>decide (r6=x)) (aL (aB sk) 0))∧(bC (fun x=>decide (r6=x)) (aL (aB sk) 0))<(((aB sk).length:Nat):Int)∧((bC (fun x=>decide (r6=x)) (aL (aB sk) 0)).toNat*2)<((aB sk).flatten.map aA).length,[(aA (bC (fun x=>decide (r6=x)) (aL (aB sk) 0)))][0]? = some (aA (bC (fun x=>decide (r6=x)) (aL (aB sk) 0))),(aI dl (aB sk) (aB dc))[1]? = some (.sl ((aB sk).length) ((aB sk).flatten.map aA)),[(PV.rp (aI dl (aB sk) (aB dc)) 0)][0]? = some (PV.rp (aI dl (aB sk) (aB dc)) 0),[(PV.rp (aI dl (aB sk) (aB dc)) 0)][0]? = some (PV.rp (aI dl (aB sk) (aB dc)) 0),aC Tp 3 wW (gQ dl sk dc num r6 x ) .normal (cH (gQ dl sk dc num r6 x ) [(12,(pI ((fA dl sk dc r6 x).1))),(13,(pB ((fA dl sk dc r6 x).2)))])]) (by kernel_rfl) (gc (cQ h8) (g4c (aX h7) (gc h6 (gc rfl (gc rfl (gc (FMM.fc (ids:=[5,6,7,8,9,10,11]) h5 (by kernel_rfl)) (gc (FC.close1 (args':=[(.rp (aI dl (aB sk) (aB dc)) 0),(.p (.sl (x.length+1) ((x.map aA)++[(aA num)])))]) (FMM.fcN (k:=7) rfl (ids:=[]) (oW (dl:=dl) (sk:=(aB sk)) (dc:=(aB dc)) (on:=(x.length+1)) (ol:=((x.map aA)++[(aA num)]))) (by kernel_rfl)) (by kernel_rfl)) (gc h4 (gc rfl (gc rfl (gc (aV (i:=(bC (fun x=>decide (r6=x)) (aL (aB sk) 0)).toNat) h3 h1) (gc (bG (i:=(bC (fun x=>decide (r6=x)) (aL (aB sk) 0)).toNat) h3 h1) (gc (bZ (k:=2) (i:=(bC (fun x=>decide (r6=x)) (aL (aB sk) 0))) (by decide) h3 h2 h1) (gc rfl (gc rfl (gc rfl (gc rfl (gc hl0 gn))))))))))))))))))
def aQm(dl:Int)(sk:Lqq)(dc:Lqq)(num:Int)(r6:Int)  : St:=⟨fr 102 [(3,(.rp [(aA num)] 0)),(4,(.ptr 0 0)),(5,(.ptr 1 0)),(6,(.rp [(PV.rp (aI dl (aB sk) (aB dc)) 0)] 0)),(9,(.rp [(aA r6)] 0)),(10,(.rp [(aA (bC (fun x=>decide (r6=x)) (aL (aB sk) 0)))] 0)),(53,(.fn 182 [] [(.rp [(aH ((aS dl (aB dc)).filter fun n => !(n == num)))] 0)]))],[some (.box 4 [(pB false)]),some (.box 34 [(pI 0)]),some .dead]⟩
theorem bAi{num r6:Int}{x:List Int}{y100 y101 n102:Int}{b103:Bool}{T104:Lqb}(hl0:aC Tp 3 wW (gQ dl sk dc num r6 x ) .normal (cH (gQ dl sk dc num r6 x ) [(12,(pI ((fA dl sk dc r6 x).1))),(13,(pB ((fA dl sk dc r6 x).2)))]))(h1:(aB sk)[(bC (fun x=>decide (r6=x)) (aL (aB sk) 0)).toNat]? = some [y100,y101])(h2:0≤(bC (fun x=>decide (r6=x)) (aL (aB sk) 0)))(h3:uni 2 (aB sk))(h4:[(aA num)].length=1*1∧x.length+1≤1000000)(h5:aCw dl (aB sk) (aB dc) (.sl (x.length+1) ((x.map aA)++[(aA num)])) [y100,y101] n102 b103 ([]:Lqb) T104)(h6:dY [(aA r6),(aA 0),(aA ((fA dl sk dc r6 x).1))] [(0,3,true),(1,3,true),(2,3,true)]=true∧dY [(aA r6),(aA 0),(aA n102)] [(0,3,true),(1,3,true),(2,3,true)]=true)(h7:(mP [(aA r6),(aA 0),(aA ((fA dl sk dc r6 x).1))] [(aA r6),(aA 0),(aA n102)] [(0,3,true),(1,3,true),(2,3,true)])=true)(h8:(((fA dl sk dc r6 x).2) == b103)=true):aC Tp 3 aQl (rfO (lW dl sk dc num r6 ) 54 11 x) .normal (aQm dl sk dc num r6 ):=by
 exact aC.fin (g:=⟨(rng [(0,3),(7,2),(11,42),(54,48)]),[],[],[]⟩) (o:=[.k 2 ⟨(rng [(0,3),(7,2),(12,2),(16,37),(55,16)]),[],[],[]⟩ .normal (cH (gQ dl sk dc num r6 x ) [(12,(pI ((fA dl sk dc r6 x).1))),(13,(pB ((fA dl sk dc r6 x).2)))]),.x (PV.rp (aI dl (aB sk) (aB dc)) 0),.x (PV.rp (aI dl (aB sk) (aB dc)) 0),.x (.sl ((aB sk).length) ((aB sk).flatten.map aA)),.x (aA (bC (fun x=>decide (r6=x)) (aL (aB sk) 0))),.x (.agg [(aA y100),(aA y101)]),.x (PV.rp (aI dl (aB sk) (aB dc)) 0),.x (aA num),.c (.agg (kVL 9 10 5 7 11 6)) [(4,.dead),(5,(vB0 dl (aB sk) (aB dc))),(6,(.box 33 [(.p (.sl (x.length+1) ((x.map aA)++[(aA num)])))])),(7,(.box 139 (kVL 9 10 5 7 11 6))),(8,(.mp (aF ([]:Lqb)) 0)),(9,(.box 207 [(.mp 8)])),(10,(vB5 dl (aB sk) (aB dc))),(11,(.box 209 [(.fn 153 [] [(.ptr 5 0),(.ptr 7 0)])]))],.c (.tup [(pI n102),(pB b103)]) [(5,(vB0 dl (aB sk) (aB dc))),(6,(.box 33 [(.p (.sl (x.length+1) ((x.map aA)++[(aA num)])))])),(7,(.box 139 (kVL 9 10 5 7 11 6))),(8,(.mp (aF T104) T104.length)),(9,(.box 207 [(.mp 8)])),(10,(vB5 dl (aB sk) (aB dc))),(11,(.box 209 [(.fn 153 [] [(.ptr 5 0),(.ptr 7 0)])]))],.x (aA r6),.x (aA r6),bF,bF,bF,bF,bF]) (l:=[_,_,_,_,_,_,[(aA r6)][0]? = some (aA r6),[(aA r6)][0]? = some (aA r6),FC Tp 134 [(.rp (aI dl (aB sk) (aB dc)) 0),(.p (.agg [(aA y100),(aA y101)])),(.agg (kVL 9 10 5 7 11 6))] [(9,(.box 207 [(.mp 8)])),(10,(vB5 dl (aB sk) (aB dc))),(5,(vB0 dl (aB sk) (aB dc))),(7,(.box 139 (kVL 9 10 5 7 11 6))),(11,(.box 209 [(.fn 153 [] [(.ptr 5 0),(.ptr 7 0)])])),(6,(.box 33 [(.p (.sl (x.length+1) ((x.map aA)++[(aA num)])))])),(8,(.mp (aF ([]:Lqb)) 0))] 13 (.tup [(pI n102),(pB b103)]) [(5,(vB0 dl (aB sk) (aB dc))),(6,(.box 33 [(.p (.sl (x.length+1) ((x.map aA)++[(aA num)])))])),(7,(.box 139 (kVL 9 10 5 7 11 6))),(8,(.mp (aF T104) T104.length)),(9,(.box 207 [(.mp 8)])),(10,(vB5 dl (aB sk) (aB dc))),(11,(.box 209 [(.fn 153 [] [(.ptr 5 0),(.ptr 7 0)])]))],FC Tp 87 [(.rp (aI dl (aB sk) (aB dc)) 0),(.own 4)] [(4,(.row 3 (x.length+1) ((x.map aA)++[(aA num)])))] 5 (.agg (kVL 9 10 5 7 11 6)) [(4,.dead),(5,(vB0 dl (aB sk) (aB dc))),(6,(.box 33 [(.p (.sl (x.length+1) ((x.map aA)++[(aA num)])))])),(7,(.box 139 (kVL 9 10 5 7 11 6))),(8,(.mp (aF ([]:Lqb)) 0)),(9,(.box 207 [(.mp 8)])),(10,(vB5 dl (aB sk) (aB dc))),(11,(.box 209 [(.fn 153 [] [(.ptr 5 0),(.ptr 7 0)])]))],_,[(aA num)][0]? = some (aA num),[(PV.rp (aI dl (aB sk) (aB dc)) 0)][0]? = some (PV.rp (aI dl (aB sk) (aB dc)) 0),_,_,0≤(bC (fun x=>decide (r6=x)) (aL (aB sk) 0))∧(bC (fun x=>decide (r6=x)) (aL (aB sk) 0))<(((aB sk).length:Nat):Int)∧((bC (fun x=>decide (r6=x)) (aL (aB sk) 0)).toNat*2)<((aB sk).flatten.map aA).length,[(aA (bC (fun x=>decide (r6=x)) (aL (aB sk) 0)))][0]? = some (aA (bC (fun x=>decide (r6=x)) (aL (aB sk) 0))),(aI dl (aB sk) (aB dc))[1]? = some (.sl ((aB sk).length) ((aB sk).flatten.map aA)),[(PV.rp (aI dl (aB sk) (aB dc)) 0)][0]? = some (PV.rp (aI dl (aB sk) (aB dc)) 0),[(PV.rp (aI dl (aB sk) (aB dc)) 0)][0]? = some (PV.rp (aI dl (aB sk) (aB dc)) 0),aC Tp 3 wW (gQ dl sk dc num r6 x ) .normal (cH (gQ dl sk dc num r6 x ) [(12,(pI ((fA dl sk dc r6 x).1))),(13,(pB ((fA dl sk dc r6 x).2)))])]) (by kernel_rfl) (gc (aX h8) (g4c (aX h7) (gc h6 (gc rfl (gc rfl (gc (FMM.fc (ids:=[5,6,7,8,9,10,11]) h5 (by kernel_rfl)) (gc (FC.close1 (args':=[(.rp (aI dl (aB sk) (aB dc)) 0),(.p (.sl (x.length+1) ((x.map aA)++[(aA num)])))]) (FMM.fcN (k:=7) rfl (ids:=[]) (oW (dl:=dl) (sk:=(aB sk)) (dc:=(aB dc)) (on:=(x.length+1)) (ol:=((x.map aA)++[(aA num)]))) (by kernel_rfl)) (by kernel_rfl)) (gc h4 (gc rfl (gc rfl (gc (aV (i:=(bC (fun x=>decide (r6=x)) (aL (aB sk) 0)).toNat) h3 h1) (gc (bG (i:=(bC (fun x=>decide (r6=x)) (aL (aB sk) 0)).toNat) h3 h1) (gc (bZ (k:=2) (i:=(bC (fun x=>decide (r6=x)) (aL (aB sk) 0))) (by decide) h3 h2 h1) (gc rfl (gc rfl (gc rfl (gc rfl (gc hl0 gn))))))))))))))))))
end
section
variable {F:Fence} {n:Nat} {P:Program}
theorem aQk{o:Oper}{a:Act}{next next':Act→World→Prop}{Q Q':Exit→Act→World→Prop}{r:Result Next}(h:o.uponIn F n P a next Q r)
  (hn:∀ v d w',next (({ a with defers:=d }:Act).put o.dst v) w'→next' (({ a with defers:=d }:Act).put o.dst v) w') (hQ:∀ e a' w',e ≠ .normal→Q e a' w'→Q' e a' w') (hL:LetsOut Q→LetsOut Q'):o.uponIn F n P a next' Q' r:=by
 have hn':∀ v w',next (a.put o.dst v) w'→next' (a.put o.dst v) w':=fun v w'=>hn v a.defers w'
 cases r with
 | halt x w' =>
  cases x <;> first | exact hQ _ _ _ (by simp) h | exact h
 | ok nx w' =>
  cases nx with
  | value v=>exact hn' _ _ h
  | skip=>exact hn' _ _ h
  | defer d=>exact hn _ _ _ h
  | enter f us =>
   refine ⟨h.1,h.2.mono ?_⟩;intro e w'' he;cases e with
   | returned v=>exact hn' _ _ he
   | panicked c=>exact hQ _ _ _ (by simp) he
   | outgrown=>exact hL he
  | row r us=>exact ⟨h.1,h.2.mono fun v w'' he=>hn' _ _ he⟩
  | round l f tmps as1 bd =>
   refine ⟨h.1,h.2.mono ?_⟩;intro e w'' he;cases e with
   | returned v=>exact hn' _ _ he
   | panicked c=>exact hQ _ _ _ (by simp) he
   | outgrown=>exact hL he
  | _=>exact h
def Kps(ops:Array Oper)(a0 a:Act):Prop:=∀ i,(∀ o∈ops.toList,o.dst≠some i)→a.tmps.getD i undef=a0.tmps.getD i undef
theorem bAf{ops:Array Oper}{Q Q':Exit→Act→World→Prop}{i:Nat}{K K':Act→World→Prop}{a0 a:Act}{w:World}(h:wpOpIn F n P ops Q i K a w)(ha:Kps ops a0 a)(hK:∀ a' w',Kps ops a0 a'→K a' w'→K' a' w')
  (hQ:∀ e a' w',e ≠ .normal→Q e a' w'→Q' e a' w') (hL:LetsOut Q→LetsOut Q'):wpOpIn F n P ops Q' i K' a w:=by
 unfold wpOpIn at h ⊢
 split
 ·rename_i hi
  simp only [hi] at h
  exact hK _ _ ha h
 ·rename_i o hi
  simp only [hi] at h
  have hm:o∈ops.toList:=by
   obtain ⟨hl,he⟩:=kQ9.1 hi;rw [← he];exact Array.mem_toList_iff.2 (Array.getElem_mem hl)
  have hput:∀ v (d:List Deferred),Kps ops a0 (({ a with defers:=d }:Act).put o.dst v):=fun v d i hd=>by
   rw [nT (a:={ a with defers:=d }) (hd o hm)]
   exact ha i hd
  split at h
  ·rename_i hw
   rw [if_pos hw];exact ⟨h.1,aQk h.2 (fun v d w' hn=>hK _ _ (hput v d) hn) hQ hL⟩
  ·rename_i hw
   rw [if_neg hw];exact ⟨h.1,hK _ _ (hput undef a.defers) h.2⟩
theorem aCb{md:Region.Mode}{ops:Array Oper}{Q:Exit→Act→World→Prop}{a0:Act}:∀ (fuel:Nat) (listed:Array Bool) (a:Act) (w:World),wpAnyIn F n P md ops Q fuel listed a w→Kps ops a0 a →
  wpAnyIn F n P md ops (fun e a' w'=>Q e a' w'∧(e = .normal→Kps ops a0 a')) fuel listed a w
 | 0,listed,a,w,h,ha=>⟨h.1,h.2,fun _=>ha⟩
 | fuel+1,listed,a,w,h,ha=>by
  refine ⟨fun h0=>⟨h.1 h0,fun _=>ha⟩,fun j hj => ?_⟩
  exact bAf (h.2 j hj) ha (fun a' w' hk h'=>aCb fuel _ a' w' h' hk) (fun e a' w' hne hq=>⟨hq,fun he=>absurd he hne⟩) (fun ⟨a',w',hq⟩=>⟨a',w',hq,fun he=>by cases he⟩)
end
section
section
variable {F:Fence} {n:Nat} {P:Program}
def bkD(ds:List Deferred)(a:Act):Act:={ a with defers:=a.defers++ds }
theorem aHu(ds:List Deferred)(a:Act)(d:Option Nat)(v:Value):(bkD ds a).put d v=bkD ds (a.put d v):=by cases d <;> rfl
theorem aCa(ds:List Deferred)(a:Act):(bkD ds a).eval=a.eval:=by funext x;cases x <;> rfl
theorem bAd(ds:List Deferred){o:Oper}{a:Act}{next next':Act→World→Prop}{Q Q':Exit→Act→World→Prop}{r:Result Next}(h:o.uponIn F n P a next Q r)
  (hn:∀ a' w',next a' w'→next' (bkD ds a') w') (hQ:∀ e a' w',Q e a' w'→Q' e (bkD ds a') w') (hL:LetsOut Q→LetsOut Q'):o.uponIn F n P (bkD ds a) next' Q' r:=by
 have hv:∀ v w',next (a.put o.dst v) w'→next' ((bkD ds a).put o.dst v) w':=fun v w' h=>by rw [aHu];exact hn _ _ h
 cases r with
 | halt x w' =>
  cases x <;> first | exact hQ _ _ _ h | exact h
 | ok nx w' =>
  cases nx with
  | value v=>exact hv _ _ h
  | skip=>exact hv _ _ h
  | defer d =>
   have:=hn _ _ h;rw [← aHu] at this
   exact this
  | enter f us =>
   refine ⟨h.1,h.2.mono ?_⟩;intro e w'' he;cases e with
   | returned v=>exact hv _ _ he
   | panicked c=>exact hQ _ _ _ he
   | outgrown=>exact hL he
  | row r us=>exact ⟨h.1,h.2.mono fun v w'' he=>hv _ _ he⟩
  | round l f tmps as1 bd =>
   refine ⟨h.1,h.2.mono ?_⟩;intro e w'' he;cases e with
   | returned v=>exact hv _ _ he
   | panicked c=>exact hQ _ _ _ he
   | outgrown=>exact hL he
  | _=>exact h
theorem bLo(ds:List Deferred){ops:Array Oper}{Q Q':Exit→Act→World→Prop}{i:Nat}{K K':Act→World→Prop}{a:Act}{w:World}(h:wpOpIn F n P ops Q i K a w)(hK:∀ a' w',K a' w'→K' (bkD ds a') w')
  (hQ:∀ e a' w',Q e a' w'→Q' e (bkD ds a') w') (hL:LetsOut Q→LetsOut Q'):wpOpIn F n P ops Q' i K' (bkD ds a) w:=by
 unfold wpOpIn at h ⊢
 split
 ·rename_i hi
  simp only [hi] at h
  exact hK _ _ h
 ·rename_i o hi
  simp only [hi] at h
  have e1:(bkD ds a).tmps=a.tmps:=rfl;rw [e1]
  split at h
  ·rename_i hw
   rw [if_pos hw];refine ⟨by rw [aCa];exact h.1,?_⟩
   rw [aCa];exact bAd ds h.2 hK hQ hL
  ·rename_i hw
   rw [if_neg hw];exact ⟨by rw [aCa];exact h.1,by rw [aHu];exact hK _ _ h.2⟩
theorem aLk(ds:List Deferred){md:Region.Mode}{ops:Array Oper}{Q Q':Exit→Act→World→Prop}(hQ:∀ e a' w',Q e a' w'→Q' e (bkD ds a') w')(hL:LetsOut Q→LetsOut Q'):∀ (fuel:Nat) (listed:Array Bool) (a:Act) (w:World),wpAnyIn F n P md ops Q fuel listed a w→wpAnyIn F n P md ops Q' fuel listed (bkD ds a) w
 | 0,listed,a,w,h=>⟨h.1,hQ _ _ _ h.2⟩
 | fuel+1,listed,a,w,h=>⟨fun h0=>hQ _ _ _ (h.1 h0),fun j hj=>bLo ds (h.2 j hj) (fun a' w' h'=>aLk ds hQ hL fuel _ a' w' h') hQ hL⟩
end
variable {P:Program} {T:TT} {E:Env}
theorem bAe(ds:List Deferred)(hT:∀ t i,T t=some i→cI P t=some i)(hE:kV P E)(hm:P.follows .mixedOrders=true){id:Nat}{ops:Array Oper}{st st':St}{s s':AS}(h:aIe P T E ops true st s=some (st',s'))(g:bA s')
  (C0:Cx) (M0:Mem) (w0:World) (a:Act) (w:World) (hs:Sim P C0 M0 w0 st a w) (ro:Option Nat) (n:Nat):(Code.region id ops true).wpIn (Fen ro) n P (fun e' a' w'=>e'=Ex.normal.toExit∧∃ a2,a'=bkD ds a2∧Sim P C0 M0 w0 st' a2 w'∧Kps ops a a2) (bkD ds a) w:=by
 obtain ⟨_,s1,h1,k1⟩:=aD h;obtain ⟨e1,rfl⟩:=aG h1;obtain ⟨r,s2,h2,k2⟩:=aD k1;obtain ⟨_,s3,h3,k3⟩:=aD k2;obtain ⟨e3,rfl⟩:=aG h3;obtain ⟨rfl,rfl⟩:=aJ k3;obtain ⟨hB,_⟩:=bM e1;obtain ⟨hA,_⟩:=bM e3;obtain ⟨os,hfts,hlex⟩:=pT ops.toList _ (fts:=r.1) (fin:=r.2) h2 g
 replace hB:=vN hB
 unfold Region.lexB at hB
 rw [kQ7] at hB
 have hlen:os.length=ops.toList.length:=by
  have:∀ {l:List Oper} {id:Nat} {st:St} {os:List tO} {fin:St},aIf P T E ops.toList id l st os fin→os.length=l.length:=by
   intro l
   induction l with
   | nil=>intro id st os fin h;cases h;rfl
   | cons o l ih=>intro id st os fin h;cases h with | cons _ _ _ _ q os _ h hr=>simp [ih hr]
  exact this hlex
 have key:nJ P T E ops.toList st.m.length (fun k=>os.getD k (.any,[],none)) r.2 ops.toList.length (Array.replicate ops.size false) st:=by
  refine nJ.lex ops.toList 0 _ st os (fun j=>by simp) (fun j q hj=>by simp [kQ4,hj]) (fun j hj=>absurd hj (aNk _)) (fun j oj hj hl => ?_) (fun i j _ hij hj => ?_) (by simpa using hB.2) (by simpa [ido] using hlex)
  ·exfalso
   rcases Nat.lt_or_ge j ops.size with h' | h'
   ·simp [h'] at hl
   ·simp [Nat.not_lt.2 h'] at hl
  have hj2:j<os.length:=by
   rw [hlen];obtain ⟨o,ho⟩:=Option.isSome_iff_exists.1 hj;exact (kQ2.1 ho).1
  have:=mC r.1 0 hA i j (zH os[i]) (zH os[j]) hij (by rw [hfts,iM,kQ0 (by omega)];rfl) (by rw [hfts,iM,kQ0 hj2];rfl)
  rw [gE,gE] at this
  simp only [kQ4,kQ0 hj2,kQ0 (show i<os.length by omega),Option.getD_some,Array.toArray_toList]
  exact this
 refine wpIn_region_any hm ?_;have:=nJ.sound hT hE (C0:=C0) (M0:=M0) (w0:=w0) (ro:=ro) (n:=n) (Q:=fun e' a' w'=>e'=Ex.normal.toExit∧Sim P C0 M0 w0 r.2 a' w') (fun a' w' h'=>⟨rfl,h'⟩) _ _ _ a _ key (hs.drawn (w.drawn+1))
 have h2:=aCb (a0:=a) _ _ _ _ (by simpa using this) (fun _ _=>rfl)
 exact aLk ds (fun e a' w' h=>⟨h.1.1,a',rfl,h.1.2,h.2 h.1.1⟩) (fun ⟨a',w',h⟩=>by cases h.1.1) _ _ _ _ h2

end
section
def aBz(P:Program)(k:Nat)(c:Code)(st:St)(e:Ex)(st':St):Prop:=∀ (C0:Cx) (M0:Mem) (w0:World) (a:Act) (w:World),M0.length≤k→Sim P C0 M0 w0 st a w→∀ (ds:List Deferred) (ro:Option Nat) (n:Nat),c.wpIn (Fen ro) n P (fun e' a' w'=>e'=e.toExit∧∃ a2,a'=bkD ds a2∧Sim P C0 M0 w0 st' a2 w'∧(∀ i,wrR c i=false→a2.tmps.getD i undef=a.tmps.getD i undef)) (bkD ds a) w
noncomputable def bMa(c:Code)(st:St):Ask (Ex × St):=match c with
 | .region _ ops true=>do
  let st' ← aIe Tp tT EO ops true st
  pure (.normal,st')
 | _=>fail
theorem aBz.fin{k:Nat}{c:Code}{st st':St}{e:Ex}{g:Gh}{o:List OI}{l:List Prop}(h:aJv k g (bMa c st (asg o))=some (e,st',l,[]))(gd:bA (out l)):aBz Tp k c st e st':=by
 unfold aJv at h
 split at h
 ·rename_i e1 st1 s hr
  split at h
  ·rename_i st2 hg
   simp only [Option.some.injEq,Prod.mk.injEq] at h
   obtain ⟨rfl,rfl,rfl,hs⟩:=h;unfold bMa at hr
   split at hr
   ·rename_i id ops
    obtain ⟨st3,s1,h1,k1⟩:=aD hr;obtain ⟨he,rfl⟩:=aJ k1;cases he;intro C0 M0 w0 a w hk hsm ds ro n;refine wpIn_mono (bAe ds aEg aEf mixed h1 (fun p hp=>gd p hp) C0 M0 w0 a w hsm ro n) ?_
    rintro e' a' w' ⟨rfl,a2,rfl,h',hkp⟩;exact ⟨rfl,a2,rfl,eK hk hg h',fun i hi=>hkp i fun o ho e=>by
     unfold wrR at hi
     have:=List.any_eq_false.1 hi o ho;rw [e] at this
     exact this (Nat.beq_refl i)⟩
   ·cases hr
  ·cases h
 ·cases h
end
section

theorem bSz{dl:Int}{sk dc:Lqq}{num r6:Int}{x:List Int}{y0 y1 n2:Int}{b3:Bool}{T4:Lqb}(h0:(aB sk)[(bC (fun x=>decide (r6=x)) (aL (aB sk) 0)).toNat]? = some [y0,y1])(h1:0≤(bC (fun x=>decide (r6=x)) (aL (aB sk) 0)))(h2:uni 2 (aB sk))(h3:aCw dl (aB sk) (aB dc) (aH x) [y0,y1] n2 b3 ([]:Lqb) T4):aBz Tp 0 (sub (cd Tryz.f58) [1,1,1,1,1,1,1,1,1,0,1,0,1,0,0]) ⟨fr 102 [(3,(.rp [(aA num)] 0)),(6,(.rp [(PV.rp (aI dl (aB sk) (aB dc)) 0)] 0)),(9,(.rp [(aA r6)] 0)),(10,(.rp [(aA (bC (fun x=>decide (r6=x)) (aL (aB sk) 0)))] 0)),(11,(.p (aH x)))],[]⟩ .normal ⟨fr 102 [(3,(.rp [(aA num)] 0)),(6,(.rp [(PV.rp (aI dl (aB sk) (aB dc)) 0)] 0)),(9,(.rp [(aA r6)] 0)),(10,(.rp [(aA (bC (fun x=>decide (r6=x)) (aL (aB sk) 0)))] 0)),(11,(.p (aH x))),(12,(pI n2)),(13,(pB b3))],[]⟩:=by
 exact aBz.fin (g:=⟨(rng [(0,3),(4,2),(7,2),(14,88)]),[],[],[]⟩) (o:=[.x (PV.rp (aI dl (aB sk) (aB dc)) 0),.x (PV.rp (aI dl (aB sk) (aB dc)) 0),.x (.sl ((aB sk).length) ((aB sk).flatten.map aA)),.x (aA (bC (fun x=>decide (r6=x)) (aL (aB sk) 0))),.x (.agg [(aA y0),(aA y1)]),.x (PV.rp (aI dl (aB sk) (aB dc)) 0),.c fT (vU dl (aB sk) (aB dc) (aH x) ([]:Lqb)),.c (.tup [(pI n2),(pB b3)]) (vU dl (aB sk) (aB dc) (aH x) T4)]) (l:=[FC Tp 134 [(.rp (aI dl (aB sk) (aB dc)) 0),(.p (.agg [(aA y0),(aA y1)])),fT] [(4,(.box 207 [(.mp 3)])),(5,(vB5 dl (aB sk) (aB dc))),(0,(vB0 dl (aB sk) (aB dc))),(2,vB2),(6,vB6),(1,(.box 33 [(.p (aH x))])),(3,(.mp (aF ([]:Lqb)) 0))] 8 (.tup [(pI n2),(pB b3)]) (vU dl (aB sk) (aB dc) (aH x) T4),FC Tp 87 [(.rp (aI dl (aB sk) (aB dc)) 0),(.p (aH x))] [] 0 fT (vU dl (aB sk) (aB dc) (aH x) ([]:Lqb)),[(PV.rp (aI dl (aB sk) (aB dc)) 0)][0]? = some (PV.rp (aI dl (aB sk) (aB dc)) 0),_,_,0≤(bC (fun x=>decide (r6=x)) (aL (aB sk) 0))∧(bC (fun x=>decide (r6=x)) (aL (aB sk) 0))<(((aB sk).length:Nat):Int)∧((bC (fun x=>decide (r6=x)) (aL (aB sk) 0)).toNat*2)<((aB sk).flatten.map aA).length,[(aA (bC (fun x=>decide (r6=x)) (aL (aB sk) 0)))][0]? = some (aA (bC (fun x=>decide (r6=x)) (aL (aB sk) 0))),(aI dl (aB sk) (aB dc))[1]? = some (.sl ((aB sk).length) ((aB sk).flatten.map aA)),[(PV.rp (aI dl (aB sk) (aB dc)) 0)][0]? = some (PV.rp (aI dl (aB sk) (aB dc)) 0),[(PV.rp (aI dl (aB sk) (aB dc)) 0)][0]? = some (PV.rp (aI dl (aB sk) (aB dc)) 0)]) (by kernel_rfl) (gc (FMM.fc (ids:=[0,1,2,3,4,5,6]) h3 (by kernel_rfl)) (gc (FMM.fcN (k:=7) rfl (ids:=[]) (oW (dl:=dl) (sk:=(aB sk)) (dc:=(aB dc)) (on:=x.length) (ol:=(x.map aA))) (by kernel_rfl)) (gc rfl (gc (aV (i:=(bC (fun x=>decide (r6=x)) (aL (aB sk) 0)).toNat) h2 h0) (gc (bG (i:=(bC (fun x=>decide (r6=x)) (aL (aB sk) 0)).toNat) h2 h0) (gc (bZ (k:=2) (i:=(bC (fun x=>decide (r6=x)) (aL (aB sk) 0))) (by decide) h2 h1 h0) (gc rfl (gc rfl (gc rfl (gc rfl gn))))))))))
end
end KV
end Go.Proofs
section
namespace Go.Proofs
open Go.RowKit
namespace KV
theorem bFm{P:Program}{C:Cx}{st:St}{a:Act}{w:World}(hS:eE C st.m w st.t a.tmps)(hM:aR P C st.m w)(hp:fN st.m=true)(hn:aMg st.m) :
  Sim P (cxF fun _=>False) [] { w with heap := #[] } st { a with defers:=[] } w :=
 ⟨C,hS,hM,⟨rfl,rfl,rfl,Nat.zero_le _,fun b hb=>absurd hb (aNk _),fun _ _ h=>by simp at h,fun _ _ h=>by simp at h,fun _ _ h=>by simp at h,fun _ _ b _ _ _ => .inl (Nat.zero_le _),fun _ h=>h.elim,fun b _ => .inr (.inl (Nat.zero_le _))⟩,.nil rfl hn⟩
theorem bAc{P:Program}{C:Cx}{M:Mem}{W W':World}(hM:aR P C M W)(hg:W.grownBy W' none):aR P C M W'∧Fr C M W C M W':=by
 have hsame:∀ b,b<W.heap.size→W'.heap[b]? = W.heap[b]? := fun b hb=>hg.block b hb (fun e=>by cases e)
 have hL:Le C C M M W W':=⟨fun _ o h=>⟨o,h⟩,fun _ _ _ _ _ cs h=>⟨cs,h⟩,fun _ o h o' h' hl=>by rw [h] at h';cases h';exact ⟨hl,rfl,rfl⟩,fun _ h=>h,fun b hb=>hsame b (hM.Fs b hb)⟩
 refine ⟨⟨fun i ty n cs hm => ?_,fun i ty cs hm => ?_,fun i es cl hm => ?_,hM.inj,hM.nF,fun b hb=>kQ8 (hM.Fs b hb) hg.size,fun i o b ho hl hb=>kQ8 (hM.lt i o b ho hl hb) hg.size⟩,
  ⟨hg.os,hg.tape,hg.output,hg.size,fun b hb _=>hsame b hb,fun i o h=>⟨⟨o,h⟩,rfl,rfl⟩,fun _ _ _ _ _ cs h=>⟨cs,h⟩,fun _ o h o' h' hl=>by rw [h] at h';cases h';exact hl,fun i o b ho hl hb => .inr ⟨i,o,ho,hl,hb⟩,fun _ h=>h,fun _ h => .inl h⟩⟩
 ·rcases hM.row _ _ _ _ hm with h4 | ⟨b,arr,inf,q0,q1,q2,q3,q4,q5,q6,q7,q8⟩
  ·exact .inl h4
  ·exact .inr ⟨b,arr,inf,q0,(hsame b (kQ9.1 q1).1).trans q1,q2,q3,q4,q5,q6,fun j hj=>(q7 j hj).mono hL.F hL.fz,q8⟩
 ·obtain ⟨b,arr,q0,q1,q2,q3,q4⟩:=hM.box _ _ _ hm
  exact ⟨b,arr,q0,(hsame b (kQ9.1 q1).1).trans q1,q2,fun j hj=>(q3 j hj).mono hL,q4⟩
 ·obtain ⟨b,arr,q0,q1,q2,q3⟩:=hM.mp _ _ _ hm
  refine ⟨b,arr,q0,(hsame b (kQ9.1 q1).1).trans q1,q2,fun j hj => ?_⟩
  obtain ⟨en,r1,r2,r3,r4⟩:=q3 j hj;exact ⟨en,r1,r2,r3,r4.mono hL.F hL.fz⟩
def bFn(t:List AV)(i:Nat):Bool:=match t[i]? with
 | some .any=>true
 | _=>false
theorem aSu{C:Cx}{M:Mem}{w:World}{v u:Value}(h:Rep C M w (.p (.v v)) u):u=v:=by
 cases h with
 | p _ _ h=>cases h;rfl
theorem bSy{P:Program}{k:Nat}{c:Code}{tA tB:List AV}{S:St}{g:Gh}{i1 i2:Nat}{v1 v2:Value}(hk:aBz P 0 c ⟨tA,[]⟩ .normal ⟨tB,[]⟩)(hg:gh 0 g S=some ⟨tA,[]⟩)(hn:fN S.m=true)
  (h1:tB[i1]? = some (.p (.v v1))) (h2:tB[i2]? = some (.p (.v v2))) (hne:i1≠i2) (hl:tB.length=S.t.length) (hall:((List.range S.t.length).all fun i => !wrR c i || Nat.beq i i1 || Nat.beq i i2 || bFn S.t i)=true) :
  aC P k c S .normal (cH S [(i1,.p (.v v1)),(i2,.p (.v v2))]):=by
 intro C0 M0 w0 a w hk0 hs ro _ n;obtain ⟨C,hS,hM,hF,hD⟩:=hs;obtain ⟨C1,hS1,hM1,_,_⟩:=eK (dR 0) hg (bFm hS hM hn (dZ hn).2);have hs1:Sim P (C1.with []) [] w ⟨tA,[]⟩ { a with defers:=[] } w:=⟨C1,hS1,hM1,(Fr.refl _ _ _).based [],.nil rfl (dZ (m:=[]) rfl).2⟩
 have:=hk (C1.with []) [] w _ w (dR 0) hs1 a.defers ro n
 refine wpIn_mono this ?_;rintro e' a' w' ⟨rfl,a2,rfl,⟨C2,hS2,hM2,hF2,⟨l2,d1,d2,d3⟩,_⟩,hkp⟩;have hg2:w.grownBy w' none:=aLa hF2;obtain ⟨hM3,hF3⟩:=bAc hM hg2;have hS3:=hS.le (hM.le hF3);refine ⟨rfl,C,⟨?_,fun i hi => ?_⟩,hM3,hF.trans hF3,?_⟩
 ·have e0:=hS2.size
  show a2.tmps.size=((S.t.set i1 _).set i2 _).length;rw [sU,sU];exact e0.trans hl
 ·have hi':i<S.t.length:=by
   have:i<((S.t.set i1 (.p (.v v1))).set i2 (.p (.v v2))).length:=hi
   rwa [sU,sU] at this
  have key:∀ x,((S.t.set i1 (.p (.v v1))).set i2 (.p (.v v2)))[i]? = some x→Rep C S.m w' x (a2.tmps.getD i undef):=by
   intro x hx
   by_cases e2:i2=i
   ·subst e2
    rw [bBz (by rw [sU];exact hi')] at hx
    cases hx;rw [aSu (hS2.at h2)]
    exact .p _ _ (.v _)
   rw [bGi e2] at hx
   by_cases e1:i1=i
   ·subst e1
    rw [bBz hi'] at hx
    cases hx;rw [aSu (hS2.at h1)]
    exact .p _ _ (.v _)
   rw [bGi e1] at hx
   have hc:=gU.1 hall i (vZ.2 hi');cases hw:wrR c i with
   | false =>
    rw [hkp i hw];exact hS3.at hx
   | true =>
    have n1:Nat.beq i i1=false:=by
     cases h:Nat.beq i i1 with
     | false=>rfl
     | true=>exact absurd (Nat.eq_of_beq_eq_true h).symm e1
    have n2:Nat.beq i i2=false:=by
     cases h:Nat.beq i i2 with
     | false=>rfl
     | true=>exact absurd (Nat.eq_of_beq_eq_true h).symm e2
    rw [hw,n1,n2] at hc
    have hc:bFn S.t i=true:=hc;unfold bFn at hc
    rw [hx] at hc
    cases x <;> first | exact .any _ | cases hc
  exact key _ (kQ0 hi)
 ·obtain ⟨⟨l,e1,e2,e3⟩,hR⟩:=hD.fr hM .refl hF3
  obtain ⟨⟨l',e1',_,e3'⟩,_⟩:=hD;have hll:l=l':=by
   have:=e1.symm.trans e1';exact (List.map_inj_right (fun x y h=>by simpa [mark] using h)).1 this
  refine ⟨⟨l2++l,?_,?_,?_⟩,hR⟩
  ·show a2.defers++a.defers=_
   rw [d1,e1,iB]
  ·refine List.nodup_append.2 ⟨d2,e2,fun x hx y hy hxy => ?_⟩
   have:=(d3 x hx).2.1;have:=(kQ9.1 (e3' y (hll ▸ hy)).1).1;subst hxy;omega
  ·intro D hD2
   rcases gV.1 hD2 with h | h
   ·exact ⟨(d3 D h).1,gI hF.size (d3 D h).2.1,fun hf=>by
     have:=hM.Fs D hf;have:=(d3 D h).2.1;omega⟩
   ·exact e3 D h
end KV
end Go.Proofs
end
namespace Go.Proofs
namespace KV
section
variable {dl:Int}{sk dc:Lqq}
theorem bLk(l:List Int)(v:Int)(hl:l.length≤1000000){base:Nat}:FV Tp 126 [.p (aH l),.p (aA v)] base (pI (bC (fun x=>decide (v=x)) l)) []:=by
 rcases aM.find (P:=Tp) (k:=0) (b:=(sub (cd Tryz.f126) [1,0,1,0,0])) (fun i=>gA l v i) (fun i _=>cH (gA l v i) [(4,.p (aA (i:Int)))]) (gA l v l.length) .ret (.exit 0) (by simp) (by simp) (fun x=>decide (v=x)) l
  (fun i x hx hp=>aEn (by have:=bE hx;omega) hx (by simpa using hp) (aP (by have:=bE hx;omega)) rfl)
  (fun i x hx hp=>aEm (by have:=bE hx;omega) hx (by simpa using hp))
  (aEo (l:=l) (i:=l.length) (by omega)) with ⟨i,x,h1,h2,h3,h4⟩ | ⟨h1,h2,h3⟩
 ·rw [jX h2];exact bCk h4
 ·rw [jY h1];exact bCj h3
theorem bLl(l:List Int)(v:Int)(hl:l.length≤1000000){base:Nat}:FV Tp 52 [.p (aH l),.p (aA v)] base (pB (l.contains v)) []:=by
 rw [← uR];exact FV.fin Tryz.func52 rfl (o:=[.c (pI (bC (fun x=>decide (v=x)) l)) []]) (l:=[_]) (by kernel_rfl) (gc (fk 0 (bLk l v hl) rfl) gn)
theorem bLm{l:List Int}(hl:l.length≤1000000)(n:Int):qN (aH l) n (l.contains n):=fun base=>bLl l n hl
def aDb(dl:Int)(sk dc:Lqq)(num r6:Int)(x:List Int):Bool := !(((fA dl sk dc r6 x).1 == (fA dl sk dc r6 (x++[num])).1) && ((fA dl sk dc r6 x).2 == (fA dl sk dc r6 (x++[num])).2))
theorem bUc(r t t':Int):mP [aA r,aA 0,aA t] [aA r,aA 0,aA t'] [(0,3,true),(1,3,true),(2,3,true)]=(t == t'):=by
 rw [Bool.eq_iff_iff];simp [mP,aCp]
theorem aSt{r6 y0 y1:Int}(h:(aB sk)[(bC (fun x=>decide (r6=x)) (aL (aB sk) 0)).toNat]? = some [y0,y1])(x:List Int):fA dl sk dc r6 x=kB dl x (aB dc) y0 y1:=by
 have e:(aB sk).getD (bC (fun x=>decide (r6=x)) (aL (aB sk) 0)).toNat []=[y0,y1]:=by
  rw [kQ4,h];rfl
 unfold fA;rw [e];rfl
theorem bFk{dl:Int}{sk dc:Lqq}{num r6:Int}{x:List Int}(hd:cE (aB dc))(hu:uni 2 (aB sk))(hs:∀ s∈aB sk,-1≤s.getD 1 0∧s.getD 1 0≤360000)(hx:x.length≤1000){y0 y1:Int}(h0:(aB sk)[(bC (fun x=>decide (r6=x)) (aL (aB sk) 0)).toNat]? = some [y0,y1])(h1:0≤(bC (fun x=>decide (r6=x)) (aL (aB sk) 0))) :
  aC Tp 3 (sub (cd Tryz.f58) [1,1,1,1,1,1,1,1,1,0,1,0,1,0,0]) (gQ dl sk dc num r6 x) .normal (cH (gQ dl sk dc num r6 x) [(12,(pI ((fA dl sk dc r6 x).1))),(13,(pB ((fA dl sk dc r6 x).2)))]):=by
 obtain ⟨T',_,hT⟩:=bCu (sk:=aB sk) hd (fun n=>aBh hx n) y0 y1 (hs _ (kQ5 h0)) (T:=[]) cD.nil
 rw [aSt h0];exact bSy (bSz (num:=num) h0 h1 hu hT) (g:=⟨(rng [(0,3),(4,2),(7,2),(12,90)]),[],[2],[]⟩) (by kernel_rfl) rfl (by rfl) (by rfl) (by decide) (by rfl) (by kernel_rfl)
theorem bAa{dl:Int}{sk dc:Lqq}{num r6:Int}{x:List Int}(hd:cE (aB dc))(hu:uni 2 (aB sk))(hs:∀ s∈aB sk,-1≤s.getD 1 0∧s.getD 1 0≤360000)(hx:x.length≤1000){y0 y1:Int}(h0:(aB sk)[(bC (fun x=>decide (r6=x)) (aL (aB sk) 0)).toNat]? = some [y0,y1])(h1:0≤(bC (fun x=>decide (r6=x)) (aL (aB sk) 0))) :
  (aDb dl sk dc num r6 x=false→aC Tp 3 (sub (cd Tryz.f58) [1,1,1,1,1,1,1,1,1,0,1,0,1]) (rfO (lW dl sk dc num r6) 54 11 x) .normal (aQm dl sk dc num r6)) ∧
  (aDb dl sk dc num r6 x=true→aC Tp 3 (sub (cd Tryz.f58) [1,1,1,1,1,1,1,1,1,0,1,0,1]) (rfO (lW dl sk dc num r6) 54 11 x) .ret (aHw dl sk dc num r6)):=by
 have hn:=bFk (dl:=dl) (num:=num) hd hu hs hx h0 h1;obtain ⟨T',_,hT⟩:=bCu (dl:=dl) (sk:=aB sk) hd (fun n=>bLm (l:=x++[num]) (by rw [lO];show x.length+1≤_;omega) n) y0 y1 (hs _ (kQ5 h0)) (T:=[]) cD.nil
 rw [← aSt h0] at hT
 have hov:aH (x++[num]) = .sl (x.length+1) (x.map aA++[aA num]):=by
  show PV.sl (x++[num]).length ((x++[num]).map aA)=_;rw [lO,iB];rfl
 rw [hov] at hT
 have hq:=bUc r6 (fA dl sk dc r6 x).1 (fA dl sk dc r6 (x++[num])).1;unfold aDb;cases ha:((fA dl sk dc r6 x).1 == (fA dl sk dc r6 (x++[num])).1) with
 | false =>
  refine ⟨fun h=>(by cases h),fun _ => ?_⟩
  rw [ha] at hq
  exact bAg hn h0 h1 hu ⟨rfl,by omega⟩ hT ⟨rfl,rfl⟩ hq
 | true =>
  rw [ha] at hq
  cases hb:((fA dl sk dc r6 x).2 == (fA dl sk dc r6 (x++[num])).2) with
  | false =>
   refine ⟨fun h=>(by cases h),fun _ => ?_⟩
   exact bAh hn h0 h1 hu ⟨rfl,by omega⟩ hT ⟨rfl,rfl⟩ hq hb
  | true =>
   refine ⟨fun _ => ?_,fun h=>(by cases h)⟩
   exact bAi hn h0 h1 hu ⟨rfl,by omega⟩ hT ⟨rfl,rfl⟩ hq hb
theorem bAb{num r6:Int}(hd:cE (aB dc))(hu:uni 2 (aB sk))(hs:∀ s∈aB sk,-1≤s.getD 1 0∧s.getD 1 0≤360000){y0 y1:Int}(h0:(aB sk)[(bC (fun x=>decide (r6=x)) (aL (aB sk) 0)).toNat]? = some [y0,y1])(h1:0≤(bC (fun x=>decide (r6=x)) (aL (aB sk) 0)))(ho:((aS dl (aB dc)).filter fun n => !(n == num)).length≤60) :
  ((iY ((aS dl (aB dc)).filter fun n => !(n == num))).any (aDb dl sk dc num r6)=false→aC Tp 0 (sub (cd Tryz.f58) [1,1,1,1,1,1,1,1,1,0,1,0]) (tI dl sk dc num r6) .normal (lW dl sk dc num r6)) ∧
  ((iY ((aS dl (aB dc)).filter fun n => !(n == num))).any (aDb dl sk dc num r6)=true→aC Tp 0 (sub (cd Tryz.f58) [1,1,1,1,1,1,1,1,1,0,1,0]) (tI dl sk dc num r6) .ret (aCd dl sk dc num r6)):=by
 have main:=aEv (P:=Tp) (k:=0) (kb:=3) (kk:=2) (g0:=⟨[],[],[],[]⟩) (g1:=⟨[],[],[],[]⟩) (gR:=⟨[],[],[],[]⟩) (tI dl sk dc num r6) (fun _=>lW dl sk dc num r6) (fun _ _=>aQm dl sk dc num r6) (fun _ _=>aHw dl sk dc num r6) (lW dl sk dc num r6).t (aCd dl sk dc num r6).m (fun _=>aDb dl sk dc num r6)
  (cc := sub (cd Tryz.f58) [1, 1, 1, 1, 1, 1, 1, 1, 1, 0, 1, 0]) (gi := 53) (p1 := 54) (d := 11) (id := 14) (ty := 33) (pos := "outcome.go:200") (body := sub (cd Tryz.f58) [1, 1, 1, 1, 1, 1, 1, 1, 1, 0, 1, 0, 1]) (by kernel_rfl)
  rfl (fun _=>rfl) (g := .fn 182 [] [.rp [aH ((aS dl (aB dc)).filter fun n => !(n == num))] 0]) (by rfl) (aEt _ ho) (fun args w=>rfl) (fun _=>rfl) (fun _=>rfl) (fun _ _=>rfl) (fun _ _=>rfl) rfl rfl (fun _=>by show 2<3;omega) (by kernel_rfl) (fun x=>rfl) (by show 2≤2;omega) rfl (by kernel_rfl) (fun pre l=>by kernel_rfl) (fun _ _ _=>by kernel_rfl) (fun pre l _ hx=>bAa hd hu hs hx h0 h1)
 refine ⟨fun h=>main.1 fun pre l hp => ?_,fun h=>main.2 ?_⟩
 ·have:=List.any_eq_false.1 h l (hp.subset (by simp))
  simpa using this
 ·obtain ⟨l,hl,hb⟩:=List.any_eq_true.1 h
  obtain ⟨s,t,e⟩:=List.append_of_mem hl;exact ⟨s,l,⟨t,by rw [e];simp⟩,hb⟩
def bFl(dl:Int)(sk dc:Lqq)(num:Int):Bool × Int :=
 if (aS dl (aB dc)).contains num=false then (false,1) else if 8<(aS dl (aB dc)).length then (false,10) else
 if bC (fun x=>decide (aKy (aB dc) num=x)) (aL (aB sk) 0)<0 then (false,0) else ((iY ((aS dl (aB dc)).filter fun n => !(n == num))).any (aDb dl sk dc num (aKy (aB dc) num)),0)
theorem bLn{α:Type}{p:α→Bool}{l:List α}(h:0≤bC p l):(bC p l).toNat<l.length:=by
 unfold bC at h ⊢
 cases e:l.findIdx? p with
 | none=>rw [e] at h;simp at h
 | some i =>
  obtain ⟨hi,_⟩:=List.findIdx?_eq_some_iff_getElem.1 e;simpa using hi
theorem bSx(h:bO dl sk dc)(num:Int){base:Nat}:FV Tp 58 [.p (.agg (bP dl sk dc)),.p (aA num)] base (.tup [.p (blP (bFl dl sk dc num).1),.p (aA (bFl dl sk dc num).2)]) []:=by
 have hd:=eZ h;obtain ⟨hu,hl,hs,_⟩:=uZ h;have hol:(aS dl (aB dc)).length≤1000:=by
  unfold aS;rw [eP];exact gI (vX _ _) hd.len
 unfold bFl;cases hc:(aS dl (aB dc)).contains num with
 | false=>exact bTa h hd hol hc
 | true =>
  rw [if_neg (by simp)]
  by_cases h8:8<(aS dl (aB dc)).length
  ·rw [if_pos h8];exact bTb h hd hol hc (by omega)
  ·rw [if_neg h8]
   have hm:num∈aS dl (aB dc):=by simpa using hc
   have hm2:=hm;unfold aS at hm2
   obtain ⟨x,hx,rfl⟩:=eQ.1 hm2;have hx:=(aAt.1 hx).1;have hr:=fO hd hx;have hsb:aKy (aB dc) (dN x)=vD (aB dc) x:=by unfold aKy;rw [aSo hd hx]
   obtain ⟨q1,q2⟩:=aPx hd hx;have hk:=vB hd (n:=dN x) (by unfold inR;omega)
   have hab:=lJ hd x hx;rw [hsb];obtain ⟨a,b,c,d,e,f,rfl⟩:=len6 (hd.ud x hx);have hf:inR f:=by
    have:=(gW.1 (hd.rng _ hx));unfold inR;simp [dAb] at this hab ⊢;omega
   have hsbj:bEm dl (aB sk) (aB dc) [a,b,c,d,e,f] (vD (aB dc) [a,b,c,d,e,f]):=fun base=>bEy hd hf (.inl hx) hr.2
   have hcl:(aL (aB sk) 0).length≤1000:=by rw [uQ];omega
   by_cases h0:bC (fun x=>decide (vD (aB dc) [a,b,c,d,e,f]=x)) (aL (aB sk) 0)<0
   ·rw [if_pos h0]
    exact bTc h hd hol hc (by omega) hk q1 q2 hsbj ⟨hu,by omega⟩ hcl h0
   ·rw [if_neg h0]
    have hi:=bLn (p:=fun x=>decide (vD (aB dc) [a,b,c,d,e,f]=x)) (l:=aL (aB sk) 0) (by omega)
    rw [uQ] at hi
    obtain ⟨y0,y1,hy⟩:=at2 hu hi;have hrg:=bAb (dl:=dl) (num:=dN [a,b,c,d,e,f]) hd hu hs hy (by omega) (gI (vX _ _) (by omega))
    cases hb:(iY ((aS dl (aB dc)).filter fun n => !(n == dN [a,b,c,d,e,f]))).any (aDb dl sk dc (dN [a,b,c,d,e,f]) (vD (aB dc) [a,b,c,d,e,f])) with
    | false=>exact bTd h hd hol hc (by omega) hk q1 q2 hsbj ⟨hu,by omega⟩ hcl (by omega) (hrg.1 hb)
    | true=>exact bTe h hd hol hc (by omega) hk q1 q2 hsbj ⟨hu,by omega⟩ hcl (by omega) (hrg.2 hb)
end
section

theorem aQi:((0:Int) == (0:Int))=true:=by first | decide | simp
theorem aQj:((0:Int) != (0:Int))=false:=by first | decide | simp
theorem aHt:((3:Int) != (3:Int))=false:=by first | decide | simp
theorem bSv:((15100:Int) == (15100:Int))=true:=by first | decide | simp
abbrev thD:List PV:=[(aA 1),(aA 0),(aA 0),(aA 1),(aA 300),(aA 0),(aA 2),(aA 7),(aA 10),(aA 0),(aA 0),(aA 1),(aA 3),(aA 9),(aA 40),(aA 0),(aA 0),(aA 2),(aA 4),(aA 5),(aA 50),(aA 0),(aA 0),(aA 3),(aA 5),(aA 6),(aA 60),(aA 0),(aA 100),(aA 1)]
abbrev thS:List PV:=[(aA 1),(aA 15000),(aA 2),(aA 15100),(aA 3),(aA 15200)]
abbrev mA:AV:=(.p (.agg [(aA 30),(.sl 3 thS),(.sl 2 [(aA 1),(aA 0),(aA 0),(aA 1),(aA 300),(aA 0),(aA 2),(aA 7),(aA 10),(aA 0),(aA 0),(aA 1)])]))
abbrev bFh:AV:=(.p (.agg [(aA 30),(.sl 3 thS),(.sl 3 [(aA 1),(aA 0),(aA 0),(aA 1),(aA 300),(aA 0),(aA 2),(aA 7),(aA 10),(aA 0),(aA 0),(aA 1),(aA 3),(aA 9),(aA 40),(aA 0),(aA 0),(aA 2)])]))
abbrev bFi:AV:=(.p (.agg [(aA 30),(.sl 3 thS),(.sl 4 [(aA 1),(aA 0),(aA 0),(aA 1),(aA 300),(aA 0),(aA 2),(aA 7),(aA 10),(aA 0),(aA 0),(aA 1),(aA 3),(aA 9),(aA 40),(aA 0),(aA 0),(aA 2),(aA 4),(aA 5),(aA 50),(aA 0),(aA 0),(aA 3)])]))
abbrev bFj:AV:=(.p (.agg [(aA 30),(.sl 3 thS),(.sl 5 [(aA 1),(aA 0),(aA 0),(aA 1),(aA 300),(aA 0),(aA 2),(aA 7),(aA 10),(aA 0),(aA 0),(aA 1),(aA 3),(aA 9),(aA 40),(aA 0),(aA 0),(aA 2),(aA 4),(aA 5),(aA 50),(aA 0),(aA 0),(aA 3),(aA 5),(aA 6),(aA 60),(aA 0),(aA 100),(aA 1)])]))
theorem bLd{r0c:List PV}(h0:0≤(0:Int)∧(0:Int)≤2∧(2:Int)≤5)(er0c:r0c=((thD.drop 0).take (2*(thD.length / 5)))){base:Nat}:FV Tp 88 [(pI 2)] base (.p (.agg [(aA 30),(.sl 3 [(aA 1),(aA 15000),(aA 2),(aA 15100),(aA 3),(aA 15200)]),(.sl 2 r0c)])) []:=by
 subst er0c;exact FV.frz (FMM.fin (k:=0) (g:=⟨[],[],[2,1],[]⟩) rfl Tryz.func88 rfl (o:=[.c (.p (dcE 1 0 0 1 300 0)) [],.c (.p (dcE 2 7 10 0 0 1)) [],.c (.p (dcE 3 9 40 0 0 2)) [],.c (.p (dcE 4 5 50 0 0 3)) [],.c (.p (dcE 5 6 60 0 100 1)) []]) (l:=[_,FC Tp 49 [(pI 5),(pI 6),(pI 1),(pI 60),(pI 100)] [] 1 (.p (dcE 5 6 60 0 100 1)) [],FC Tp 49 [(pI 4),(pI 5),(pI 3),(pI 50),(pI 0)] [] 1 (.p (dcE 4 5 50 0 0 3)) [],FC Tp 49 [(pI 3),(pI 9),(pI 2),(pI 40),(pI 0)] [] 1 (.p (dcE 3 9 40 0 0 2)) [],FC Tp 49 [(pI 2),(pI 7),(pI 1),(pI 10),(pI 0)] [] 1 (.p (dcE 2 7 10 0 0 1)) [],FC Tp 23 [(pI 1),(pI 1),(pI 300)] [] 1 (.p (dcE 1 0 0 1 300 0)) []]) (by kernel_rfl) (gc h0 (gc (FV.fc (gN (a:=(5:Int)) (b:=(6:Int)) (c:=(1:Int)) (d:=(60:Int)) (e:=(100:Int))) rfl) (gc (FV.fc (gN (a:=(4:Int)) (b:=(5:Int)) (c:=(3:Int)) (d:=(50:Int)) (e:=(0:Int))) rfl) (gc (FV.fc (gN (a:=(3:Int)) (b:=(9:Int)) (c:=(2:Int)) (d:=(40:Int)) (e:=(0:Int))) rfl) (gc (FV.fc (gN (a:=(2:Int)) (b:=(7:Int)) (c:=(1:Int)) (d:=(10:Int)) (e:=(0:Int))) rfl) (gc (FV.fc (aHh (a:=(1:Int)) (b:=(1:Int)) (c:=(300:Int))) rfl) gn))))))) (by kernel_rfl)
theorem bLe{r0c:List PV}(h0:0≤(0:Int)∧(0:Int)≤3∧(3:Int)≤5)(er0c:r0c=((thD.drop 0).take (3*(thD.length / 5)))){base:Nat}:FV Tp 88 [(pI 3)] base (.p (.agg [(aA 30),(.sl 3 [(aA 1),(aA 15000),(aA 2),(aA 15100),(aA 3),(aA 15200)]),(.sl 3 r0c)])) []:=by
 subst er0c;exact FV.frz (FMM.fin (k:=0) (g:=⟨[],[],[2,1],[]⟩) rfl Tryz.func88 rfl (o:=[.c (.p (dcE 1 0 0 1 300 0)) [],.c (.p (dcE 2 7 10 0 0 1)) [],.c (.p (dcE 3 9 40 0 0 2)) [],.c (.p (dcE 4 5 50 0 0 3)) [],.c (.p (dcE 5 6 60 0 100 1)) []]) (l:=[_,FC Tp 49 [(pI 5),(pI 6),(pI 1),(pI 60),(pI 100)] [] 1 (.p (dcE 5 6 60 0 100 1)) [],FC Tp 49 [(pI 4),(pI 5),(pI 3),(pI 50),(pI 0)] [] 1 (.p (dcE 4 5 50 0 0 3)) [],FC Tp 49 [(pI 3),(pI 9),(pI 2),(pI 40),(pI 0)] [] 1 (.p (dcE 3 9 40 0 0 2)) [],FC Tp 49 [(pI 2),(pI 7),(pI 1),(pI 10),(pI 0)] [] 1 (.p (dcE 2 7 10 0 0 1)) [],FC Tp 23 [(pI 1),(pI 1),(pI 300)] [] 1 (.p (dcE 1 0 0 1 300 0)) []]) (by kernel_rfl) (gc h0 (gc (FV.fc (gN (a:=(5:Int)) (b:=(6:Int)) (c:=(1:Int)) (d:=(60:Int)) (e:=(100:Int))) rfl) (gc (FV.fc (gN (a:=(4:Int)) (b:=(5:Int)) (c:=(3:Int)) (d:=(50:Int)) (e:=(0:Int))) rfl) (gc (FV.fc (gN (a:=(3:Int)) (b:=(9:Int)) (c:=(2:Int)) (d:=(40:Int)) (e:=(0:Int))) rfl) (gc (FV.fc (gN (a:=(2:Int)) (b:=(7:Int)) (c:=(1:Int)) (d:=(10:Int)) (e:=(0:Int))) rfl) (gc (FV.fc (aHh (a:=(1:Int)) (b:=(1:Int)) (c:=(300:Int))) rfl) gn))))))) (by kernel_rfl)
theorem bLf{r0c:List PV}(h0:0≤(0:Int)∧(0:Int)≤4∧(4:Int)≤5)(er0c:r0c=((thD.drop 0).take (4*(thD.length / 5)))){base:Nat}:FV Tp 88 [(pI 4)] base (.p (.agg [(aA 30),(.sl 3 [(aA 1),(aA 15000),(aA 2),(aA 15100),(aA 3),(aA 15200)]),(.sl 4 r0c)])) []:=by
 subst er0c;exact FV.frz (FMM.fin (k:=0) (g:=⟨[],[],[2,1],[]⟩) rfl Tryz.func88 rfl (o:=[.c (.p (dcE 1 0 0 1 300 0)) [],.c (.p (dcE 2 7 10 0 0 1)) [],.c (.p (dcE 3 9 40 0 0 2)) [],.c (.p (dcE 4 5 50 0 0 3)) [],.c (.p (dcE 5 6 60 0 100 1)) []]) (l:=[_,FC Tp 49 [(pI 5),(pI 6),(pI 1),(pI 60),(pI 100)] [] 1 (.p (dcE 5 6 60 0 100 1)) [],FC Tp 49 [(pI 4),(pI 5),(pI 3),(pI 50),(pI 0)] [] 1 (.p (dcE 4 5 50 0 0 3)) [],FC Tp 49 [(pI 3),(pI 9),(pI 2),(pI 40),(pI 0)] [] 1 (.p (dcE 3 9 40 0 0 2)) [],FC Tp 49 [(pI 2),(pI 7),(pI 1),(pI 10),(pI 0)] [] 1 (.p (dcE 2 7 10 0 0 1)) [],FC Tp 23 [(pI 1),(pI 1),(pI 300)] [] 1 (.p (dcE 1 0 0 1 300 0)) []]) (by kernel_rfl) (gc h0 (gc (FV.fc (gN (a:=(5:Int)) (b:=(6:Int)) (c:=(1:Int)) (d:=(60:Int)) (e:=(100:Int))) rfl) (gc (FV.fc (gN (a:=(4:Int)) (b:=(5:Int)) (c:=(3:Int)) (d:=(50:Int)) (e:=(0:Int))) rfl) (gc (FV.fc (gN (a:=(3:Int)) (b:=(9:Int)) (c:=(2:Int)) (d:=(40:Int)) (e:=(0:Int))) rfl) (gc (FV.fc (gN (a:=(2:Int)) (b:=(7:Int)) (c:=(1:Int)) (d:=(10:Int)) (e:=(0:Int))) rfl) (gc (FV.fc (aHh (a:=(1:Int)) (b:=(1:Int)) (c:=(300:Int))) rfl) gn))))))) (by kernel_rfl)
theorem bLg{r0c:List PV}(h0:0≤(0:Int)∧(0:Int)≤5∧(5:Int)≤5)(er0c:r0c=((thD.drop 0).take (5*(thD.length / 5)))){base:Nat}:FV Tp 88 [(pI 5)] base (.p (.agg [(aA 30),(.sl 3 [(aA 1),(aA 15000),(aA 2),(aA 15100),(aA 3),(aA 15200)]),(.sl 5 r0c)])) []:=by
 subst er0c;exact FV.frz (FMM.fin (k:=0) (g:=⟨[],[],[2,1],[]⟩) rfl Tryz.func88 rfl (o:=[.c (.p (dcE 1 0 0 1 300 0)) [],.c (.p (dcE 2 7 10 0 0 1)) [],.c (.p (dcE 3 9 40 0 0 2)) [],.c (.p (dcE 4 5 50 0 0 3)) [],.c (.p (dcE 5 6 60 0 100 1)) []]) (l:=[_,FC Tp 49 [(pI 5),(pI 6),(pI 1),(pI 60),(pI 100)] [] 1 (.p (dcE 5 6 60 0 100 1)) [],FC Tp 49 [(pI 4),(pI 5),(pI 3),(pI 50),(pI 0)] [] 1 (.p (dcE 4 5 50 0 0 3)) [],FC Tp 49 [(pI 3),(pI 9),(pI 2),(pI 40),(pI 0)] [] 1 (.p (dcE 3 9 40 0 0 2)) [],FC Tp 49 [(pI 2),(pI 7),(pI 1),(pI 10),(pI 0)] [] 1 (.p (dcE 2 7 10 0 0 1)) [],FC Tp 23 [(pI 1),(pI 1),(pI 300)] [] 1 (.p (dcE 1 0 0 1 300 0)) []]) (by kernel_rfl) (gc h0 (gc (FV.fc (gN (a:=(5:Int)) (b:=(6:Int)) (c:=(1:Int)) (d:=(60:Int)) (e:=(100:Int))) rfl) (gc (FV.fc (gN (a:=(4:Int)) (b:=(5:Int)) (c:=(3:Int)) (d:=(50:Int)) (e:=(0:Int))) rfl) (gc (FV.fc (gN (a:=(3:Int)) (b:=(9:Int)) (c:=(2:Int)) (d:=(40:Int)) (e:=(0:Int))) rfl) (gc (FV.fc (gN (a:=(2:Int)) (b:=(7:Int)) (c:=(1:Int)) (d:=(10:Int)) (e:=(0:Int))) rfl) (gc (FV.fc (aHh (a:=(1:Int)) (b:=(1:Int)) (c:=(300:Int))) rfl) gn))))))) (by kernel_rfl)
theorem vI{base:Nat}:FV Tp 88 [.p (aA 2)] base mA []:=bLd (by decide) rfl
theorem bLh{base:Nat}:FV Tp 88 [.p (aA 3)] base bFh []:=bLe (by decide) rfl
theorem bLi{base:Nat}:FV Tp 88 [.p (aA 4)] base bFi []:=bLf (by decide) rfl
theorem bLj{base:Nat}:FV Tp 88 [.p (aA 5)] base bFj []:=bLg (by decide) rfl
theorem bSw(h28_0:∀ base:Nat,FV Tp 28 [mA] base (.tup [(.own base),(pI 0)]) [(base,(.row 48 3 [(aA 2),(aA 1),(aA 15100),(aA 3),(aA 2),(aA 15200),(aA 1),(aA 3),(aA 15300)]))])(h21_1:∀ base:Nat,FV Tp 21 [mA,(.p (.sl 1 [(aA 2)]))] base (.tup [(.own base),(pI 0)]) [(base,(.row 48 3 [(aA 1),(aA 1),(aA 15000),(aA 2),(aA 2),(aA 15100),(aA 3),(aA 3),(aA 15200)]))])(h71_2:∀ base:Nat,FV Tp 71 [mA,(pI 1)] base (.tup [(.p (.sl 2 [(aA 1),(aA 3)])),(pB false),(pI 0)]) [])(h33_3:∀ base:Nat,FV Tp 33 [mA,(pI 2)] base (.tup [(.p (.sl 1 [(aA 2)])),(pI 0)]) [])(h51_4:∀ base:Nat,FV Tp 51 [(.p (.sl 3 [(aA 2),(aA 1),(aA 15100),(aA 3),(aA 2),(aA 15200),(aA 1),(aA 3),(aA 15300)])),(.p (.sl 3 [(aA 2),(aA 1),(aA 15100),(aA 3),(aA 2),(aA 15200),(aA 1),(aA 3),(aA 15300)]))] base (pB true) [])(h5:dY [(aA 1),(aA 1),(aA 15000)] [(0,3,true),(1,3,true),(2,3,true)]=true∧dY [(aA 1),(aA 1),(aA 15000)] [(0,3,true),(1,3,true),(2,3,true)]=true)(h6:(mP [(aA 1),(aA 1),(aA 15000)] [(aA 1),(aA 1),(aA 15000)] [(0,3,true),(1,3,true),(2,3,true)])=true)(h41_7:∀ base:Nat,FV Tp 41 [(.p (.sl 2 [(aA 1),(aA 3)])),(.p (.sl 2 [(aA 1),(aA 3)]))] base (pB true) [])(h41_8:∀ base:Nat,FV Tp 41 [(.p (.sl 1 [(aA 2)])),(.p (.sl 1 [(aA 2)]))] base (pB true) [])(h19_9:∀ base:Nat,FV Tp 19 [bFh] base (.tup [(.p (.sl 0 [])),(pI 0)]) [])(h19_10:∀ base:Nat,FV Tp 19 [bFi] base (.tup [(.p (.sl 1 [(aA 2)])),(pI 0)]) [])(h61_11:∀ base:Nat,FV Tp 61 [bFj,(pI 1)] base (.tup [(pI 15100),(pB false),(pI 0)]) [])(h58_12:∀ base:Nat,FV Tp 58 [mA,(pI 2)] base (.tup [(pB true),(pI 0)]) []){base:Nat}:FV Tp 26 [] base (pB true) []:=by
 exact FV.fin Tryz.func26 rfl (o:=[.c mA [],.c (.tup [(.own 0),(pI 0)]) [(0,(.row 48 3 [(aA 2),(aA 1),(aA 15100),(aA 3),(aA 2),(aA 15200),(aA 1),(aA 3),(aA 15300)]))],.c mA [],.c (.tup [(.own 2),(pI 0)]) [(1,.dead),(2,(.row 48 3 [(aA 1),(aA 1),(aA 15000),(aA 2),(aA 2),(aA 15100),(aA 3),(aA 3),(aA 15200)]))],.c mA [],.c (.tup [(.p (.sl 2 [(aA 1),(aA 3)])),(pB false),(pI 0)]) [],.c mA [],.c (.tup [(.p (.sl 1 [(aA 2)])),(pI 0)]) [],bF,bF,bF,bF,bF,bF,bF,bF,bF,bF,bF,bF,bF,bF,bF,.c (pB true) [],bF,bF,bF,bF,bF,bF,bF,bF,bF,.x (.agg [(aA 1),(aA 1),(aA 15000)]),bF,bF,bF,bF,bF,bF,.c (pB true) [],bF,bF,bF,bF,bF,.c (pB true) [],bF,bF,bF,.c bFh [],.c (.tup [(.p (.sl 0 [])),(pI 0)]) [],.c bFi [],.c (.tup [(.p (.sl 1 [(aA 2)])),(pI 0)]) [],.c bFj [],.c (.tup [(pI 15100),(pB false),(pI 0)]) [],.c mA [],.c (.tup [(pB true),(pI 0)]) [],bT,bT,bT,bT,bT,bT,bT,bT,bT,bT,bT,bT,bT,bT,bT,bT,.c (pB true) [],bT,bT,bT,bT,bT,bT]) (l:=[_,_,true=true,true=true,true=true,_,FC Tp 41 [(.p (.sl 1 [(aA 2)])),(.own 6)] [(6,(.row 3 1 [(aA 2)]))] 7 (pB true) [],_,_,_,_,_,_,_,_,_,_,_,_,_,_,_,_,FC Tp 58 [mA,(pI 2)] [] 6 (.tup [(pB true),(pI 0)]) [],FC Tp 88 [(pI 2)] [] 6 mA [],FC Tp 61 [bFj,(pI 1)] [] 6 (.tup [(pI 15100),(pB false),(pI 0)]) [],FC Tp 88 [(pI 5)] [] 6 bFj [],FC Tp 19 [bFi] [] 6 (.tup [(.p (.sl 1 [(aA 2)])),(pI 0)]) [],FC Tp 88 [(pI 4)] [] 6 bFi [],FC Tp 19 [bFh] [] 6 (.tup [(.p (.sl 0 [])),(pI 0)]) [],FC Tp 88 [(pI 3)] [] 6 bFh [],false=false,false=false,false=false,FC Tp 41 [(.p (.sl 1 [(aA 2)])),(.own 5)] [(5,(.row 3 1 [(aA 2)]))] 6 (pB true) [],false=false,false=false,false=false,_,_,FC Tp 41 [(.p (.sl 2 [(aA 1),(aA 3)])),(.own 4)] [(4,(.row 3 2 [(aA 1),(aA 3)]))] 5 (pB true) [],_,_,_,_,_,_,_,some (.agg (([(aA 1),(aA 1),(aA 15000),(aA 2),(aA 2),(aA 15100),(aA 3),(aA 3),(aA 15200)].drop 0).take 3):PV)=some (.agg [(aA 1),(aA 1),(aA 15000)]),0+3≤[(aA 1),(aA 1),(aA 15000),(aA 2),(aA 2),(aA 15100),(aA 3),(aA 3),(aA 15200)].length,_,0≤(0:Int)∧(0:Int)<3,_,_,false=false,false=false,false=false,false=false,_,_,FC Tp 51 [(.own 0),(.own 3)] [(0,(.row 48 3 [(aA 2),(aA 1),(aA 15100),(aA 3),(aA 2),(aA 15200),(aA 1),(aA 3),(aA 15300)])),(3,(.row 48 3 [(aA 2),(aA 1),(aA 15100),(aA 3),(aA 2),(aA 15200),(aA 1),(aA 3),(aA 15300)]))] 4 (pB true) [],_,_,_,_,_,_,_,_,_,_,_,_,_,_,_,FC Tp 33 [mA,(pI 2)] [] 3 (.tup [(.p (.sl 1 [(aA 2)])),(pI 0)]) [],FC Tp 88 [(pI 2)] [] 3 mA [],FC Tp 71 [mA,(pI 1)] [] 3 (.tup [(.p (.sl 2 [(aA 1),(aA 3)])),(pB false),(pI 0)]) [],FC Tp 88 [(pI 2)] [] 3 mA [],FC Tp 21 [mA,(.own 1)] [(1,(.row 3 1 [(aA 2)]))] 2 (.tup [(.own 2),(pI 0)]) [(1,.dead),(2,(.row 48 3 [(aA 1),(aA 1),(aA 15000),(aA 2),(aA 2),(aA 15100),(aA 3),(aA 3),(aA 15200)]))],FC Tp 88 [(pI 2)] [] 1 mA [],FC Tp 28 [mA] [] 0 (.tup [(.own 0),(pI 0)]) [(0,(.row 48 3 [(aA 2),(aA 1),(aA 15100),(aA 3),(aA 2),(aA 15200),(aA 1),(aA 3),(aA 15300)]))],FC Tp 88 [(pI 2)] [] 0 mA []]) (by kernel_rfl) (g2c bSv (gc rfl (gc rfl (gc rfl (gc aQi (gc (fv (h41_8 _)) (g8c aQi (g8c aQi (gc (FV.fc (h58_12 _) rfl) (gc (FV.fc vI (by kernel_rfl)) (gc (FV.fc (h61_11 _) rfl) (gc (FV.fc bLj (by kernel_rfl)) (gc (FV.fc (h19_10 _) rfl) (gc (FV.fc bLi (by kernel_rfl)) (gc (FV.fc (h19_9 _) rfl) (gc (FV.fc bLh (by kernel_rfl)) (gc rfl (gc rfl (gc rfl (gc (fv (h41_8 _)) (gc rfl (gc rfl (gc rfl (g2c (aX h6) (gc (fv (h41_7 _)) (g3c (aX h6) (gc aHt (gc h5 (g2c aHt (gc rfl (gc (by first | decide | simp) (gc aHt (gc (by first | decide | simp) (g2c aHt (gc rfl (gc rfl (gc rfl (gc rfl (g2c aQj (gc (fv (h51_4 _)) (g8c aQj (g7c aQj (gc (FV.fc (h33_3 _) rfl) (gc (FV.fc vI (by kernel_rfl)) (gc (FV.fc (h71_2 _) rfl) (gc (FV.fc vI (by kernel_rfl)) (gc (FV.close (ids:=[1]) (args':=[mA,(.p (.sl 1 [(aA 2)]))]) (h21_1 _) (by kernel_rfl)) (gc (FV.fc vI (by kernel_rfl)) (gc (FV.fc (h28_0 _) rfl) (gc (FV.fc vI (by kernel_rfl)) gn))))))))))))))))))))))))))))))))))))))))))))))))))
end
section
abbrev sB(s:List Int):Int:=s.getD 0 0
abbrev sT(s:List Int):Int:=s.getD 1 0
def pM(dl:Int)(oc:List Int)(dc sk:Lqq):Lqq:=(sk.filter fun s => !(kB dl oc dc (sB s) (sT s)).2).map fun s=>[sB s,0,(kB dl oc dc (sB s) (sT s)).1]
def lX(dl:Int)(oc:List Int)(dc sk:Lqq):Lqq:=(sk.filter fun s=>(kB dl oc dc (sB s) (sT s)).2).map fun s=>[sB s,-1,0]
def plN(A:Lqq)(t:Int):Int:=match A.getLast? with
 | some y=>if y.getD 2 0=t then y.getD 1 0 else (A.length:Int)+1
 | none=>(A.length:Int)+1
def plS(A:Lqq)(x:List Int):Lqq:=A++[[x.getD 0 0,plN A (x.getD 2 0),x.getD 2 0]]
def pA(l:Lqq):Lqq:=l.foldl plS []
def bJ(dl:Int)(oc:List Int)(dc sk:Lqq):Lqq:=pA (isort (ltK 2) (pM dl oc dc sk))++lX dl oc dc sk

theorem bLp(A D:List PV)(a b c v:PV):(A++[a,b,c]++D).set (A.length+1) v=A++[a,v,c]++D:=by
 induction A with
 | nil=>rfl
 | cons x A ih=>simp
theorem yX{L:Lqq}{j:Nat}{a b c:Int}(hu:uni 3 L)(hj:L[j]? = some [a,b,c])(v:Int):(L.flatten.map aA).set (j*3+1) (aA v)=((L.set j [a,v,c]).flatten.map aA):=by
 obtain ⟨hlt,he⟩:=kQ2.1 hj;have h0:=qJ (k:=3) (i:=j) (x:=[a,b,c]) hu hlt rfl;have h1:=qJ (k:=3) (i:=j) (x:=[a,v,c]) hu hlt rfl;have hs:L.set j [a,b,c]=L:=by rw [← he];exact List.set_getElem_self hlt
 rw [hs] at h0
 rw [← h1];have hl:((L.flatten.map aA).take (j*3)).length=j*3:=by
  have:=bG hu hj;rw [lC];omega
 have:=bLp ((L.flatten.map aA).take (j*3)) ((L.flatten.map aA).drop (j*3+3)) (aA a) (aA b) (aA c) (aA v);rw [hl] at this
 conv=>lhs;rw [← h0]
 exact this
theorem bLq(A:Lqq)(x:List Int):(plS A x).length=A.length+1:=by simp [plS]
theorem aSv(l:Lqq):∀ A:Lqq,(l.foldl plS A).length=A.length+l.length:=by
 induction l with
 | nil=>intro A;simp
 | cons x l ih=>intro A;rw [uM,ih,bLq];simp;omega
theorem aHx(l:Lqq):∀ A:Lqq,uni 3 A→uni 3 (l.foldl plS A):=by
 induction l with
 | nil=>intro A h;exact h
 | cons x l ih =>
  intro A h;rw [uM];refine ih _ fun y hy => ?_
  unfold plS at hy
  rcases gV.1 hy with hy | hy
  ·exact h y hy
  ·rw [List.mem_singleton.1 hy];rfl
section
variable {dl:Int} {sk dc:Lqq} {oc:List Int} {ov:PV}
theorem aQn(l:Lqq)(hu:uni 3 l)(hl:l.length<1000)(p q:Lqq)(hp:(isort (ltK 2) p).length=l.length)(t:Lqb) :
  aM Tp 7 (sub (cd Tryz.f86) [1,1,1,1,0,1,0,0]) (eT dl sk dc ov p q t l.length (l.flatten.map aA) 0) (.exit 2) (eT dl sk dc ov p q t (pA l).length ((pA l).flatten.map aA) l.length):=by
 let St (j:Nat):Lqq:=(l.take j).foldl plS []++l.drop j
 have hlen:∀ j,j≤l.length→((l.take j).foldl plS []).length=j:=fun j hj=>by rw [aSv];simp;omega
 have hlS:∀ j,j≤l.length→(St j).length=l.length:=fun j hj=>by
  show (_++_:Lqq).length=_;rw [lO,hlen j hj,bCb];omega
 have huS:∀ j,uni 3 (St j):=fun j y hy=>by
  rcases gV.1 hy with hy | hy
  ·exact aHx _ [] (fun z hz=>by cases hz) y hy
  ·exact hu y (List.mem_of_mem_drop hy)
 have:=aM.count (P:=Tp) (k:=7) (b:=sub (cd Tryz.f86) [1,1,1,1,0,1,0,0]) (e := .exit 2) (R:=eT dl sk dc ov p q t (pA l).length ((pA l).flatten.map aA) l.length) l.length
  (fun j=>eT dl sk dc ov p q t (St j).length ((St j).flatten.map aA) j)
  (fun j hj=>by
   have hx:=hu _ (iA hj);obtain ⟨a,b,c,hx⟩:=len3 hx;have hA:=hlen j (by omega)
   have e1:(l.take (j+1)).foldl plS []=plS ((l.take j).foldl plS []) [a,b,c]:=by
    rw [List.take_add_one,kQ0 hj,hx];rw [aJu];rfl
   have hdr:l.drop j=[a,b,c]::l.drop (j+1):=by rw [bBy hj,hx]
   have g1:(St j)[j]? = some [a,b,c]:=by
    show ((l.take j).foldl plS []++l.drop j)[j]? = _;rw [aAq (by omega),hA,aUs,hdr];rfl
   have hset:∀ v,(St j).set j [a,v,c]=(l.take j).foldl plS []++[a,v,c]::l.drop (j+1):=fun v=>by
    show ((l.take j).foldl plS []++l.drop j).set j [a,v,c]=_;rw [List.set_append_right _ _ (by omega),hA,aUs,hdr];rfl
   have hnext:St (j+1)=(St j).set j [a,plN ((l.take j).foldl plS []) c,c]:=by
    rw [hset];show (l.take (j+1)).foldl plS []++l.drop (j+1)=_;rw [e1];unfold plS;rw [List.append_assoc];rfl
   have hle:=bG (huS j) g1;have hpl:(j:Int)<((isort (ltK 2) p).length:Int):=by rw [hp];omega
   rw [hnext]
   rcases Nat.eq_zero_or_pos j with h0 | hpos
   ·have hn:plN ((l.take j).foldl plS []) c=(j:Int)+1:=by
     subst h0;rfl
    rw [hn];exact aZr (L:=St j) (L':=(St j).set j [a,((j+1:Nat):Int),c]) (by exact_mod_cast hpl) (aP (by omega)) g1 (by omega) (by omega) (by simp) (yX (huS j) g1 _).symm rfl
   ·have g2:∃ y0 y1 y2,((l.take j).foldl plS []).getLast? = some [y0,y1,y2]∧(St j)[((j:Int)-1).toNat]? = some [y0,y1,y2]:=by
     have hlt:j-1<((l.take j).foldl plS []).length:=by omega
     have h3:=aHx (l.take j) [] (fun z hz=>by cases hz) _ (iA hlt)
     obtain ⟨y0,y1,y2,hy⟩:=len3 h3;refine ⟨y0,y1,y2,?_,?_⟩
     ·rw [List.getLast?_eq_getElem?,hA,kQ0 hlt,hy]
     ·show ((l.take j).foldl plS []++l.drop j)[((j:Int)-1).toNat]? = _
      rw [show ((j:Int)-1).toNat=j-1 by omega,aAr hlt,kQ0 hlt,hy]
    obtain ⟨y0,y1,y2,g3,g4⟩:=g2
    by_cases hc:c=y2
    ·have hn:plN ((l.take j).foldl plS []) c=y1:=by
      unfold plN;rw [g3];show (if y2=c then y1 else _)=y1
      rw [if_pos hc.symm]
     rw [hn];have hu1:uni 3 ((St j).set j [a,((j+1:Nat):Int),c]):=aRn (huS j) rfl;have g5:((St j).set j [a,((j+1:Nat):Int),c])[j]? = some [a,((j+1:Nat):Int),c]:=by
      rw [bBz (by rw [hlS j (by omega)];omega)]
     refine aZp (L:=St j) (L':=(St j).set j [a,y1,c]) (by exact_mod_cast hpl) (aP (by omega)) g1 (by omega) (by omega) (huS j) (by unfold inR;omega) g4 (by omega) hc (by rw [sU];omega) (by simp) ?_ rfl
     rw [yX (huS j) g1,yX hu1 g5,List.set_set]
    ·have hn:plN ((l.take j).foldl plS []) c=(j:Int)+1:=by
      unfold plN;rw [g3];show (if y2=c then y1 else _)=_
      rw [if_neg (fun h=>hc h.symm),hA]
     rw [hn];exact aZq (L:=St j) (L':=(St j).set j [a,((j+1:Nat):Int),c]) (by exact_mod_cast hpl) (aP (by omega)) g1 (by omega) (by omega) (huS j) (by unfold inR;omega) g4 (by omega) hc (by simp) (yX (huS j) g1 _).symm rfl)
  (by
   have e:St l.length=pA l:=by
    show (l.take l.length).foldl plS []++l.drop l.length=_;rw [List.take_length,List.drop_length,List.append_nil];rfl
   rw [e];exact aZs (by rw [hp];omega)) (by simp)
 exact this
theorem aFf:(pM dl oc dc sk).length≤sk.length:=by
 unfold pM;rw [eP];exact vX _ _
theorem aCe:(lX dl oc dc sk).length≤sk.length:=by
 unfold lX;rw [eP];exact vX _ _
theorem aFg:uni 3 (pM dl oc dc sk):=fun y hy=>by
 obtain ⟨s,_,rfl⟩:=eQ.1 hy;rfl
theorem aCf:uni 3 (lX dl oc dc sk):=fun y hy=>by
 obtain ⟨s,_,rfl⟩:=eQ.1 hy;rfl
theorem tJ(f:Nat)(l:Lqq):(isort (ltK f) l).length=l.length:=vG _ _
theorem bAj{k f:Nat}{l:Lqq}(h:uni k l):uni k (isort (ltK f) l):=fun y hy=>h y ((aFc _ _ y).1 hy)
theorem aCg(l:Lqq):(pA l).length=l.length:=by unfold pA;rw [aSv];simp
theorem aQo(l:Lqq):uni 3 (pA l):=aHx l [] fun z hz=>by cases hz
theorem iJ:uni 3 (bJ dl oc dc sk):=fun y hy=>by
 rcases gV.1 hy with hy | hy
 ·exact aQo _ y hy
 ·exact aCf y hy
theorem aLl{α:Type}(p:α→Bool):∀ l:List α,(l.filter fun x => !p x).length+(l.filter p).length=l.length
 | []=>rfl
 | x::l=>by
  have:=aLl p l;cases h:p x <;> simp [h] <;> omega
theorem bFo:(bJ dl oc dc sk).length=sk.length:=by
 unfold bJ pM lX;rw [lO,aCg,tJ,eP,eP];exact aLl _ sk
theorem bUd(hd:cE dc)(hov:∀ n,qN ov n (oc.contains n))(hs:uni 2 sk)(hb:∀ x∈sk,skB x=true)(hl:sk.length<20){T:Lqb}(hT:cD dl oc dc T):∃ T',cD dl oc dc T'∧bRx dl sk dc ov (bJ dl oc dc sk) T T':=by
 obtain ⟨acc,⟨h1,h2,h3⟩,h4⟩:=aM.ex (P:=Tp) (k:=7) (b:=sub (cd Tryz.f86) [1,1,0,1,0,0]) (e := .exit 0) (fun i (a:(Lqq × Lqq) × Lqb)=>iR dl sk dc ov a.1.1.length (a.1.1.flatten.map aA) a.1.2.length (a.1.2.flatten.map aA) i (aF a.2) a.2.length)
  (fun a=>iR dl sk dc ov a.1.1.length (a.1.1.flatten.map aA) a.1.2.length (a.1.2.flatten.map aA) sk.length (aF a.2) a.2.length)
  (fun i a=>cD dl oc dc a.2∧a.1.1=pM dl oc dc (sk.take i)∧a.1.2=lX dl oc dc (sk.take i)) (by simp) sk.length
  (fun i acc hi hI=>by
   obtain ⟨⟨p,q⟩,T1⟩:=acc;obtain ⟨h1,h2,h3⟩:=hI;dsimp only at h1 h2 h3
   have hm:=iA hi;obtain ⟨a,b,hy⟩:=len2 (hs _ hm);have hx:sk[i]? = some [a,b]:=by rw [kQ0 hi,hy]
   rw [hy] at hm
   have hr : -1≤b∧b≤360000:=by
    have:=hb _ hm;rw [bPb,kQ7] at this
    exact cN.1 this.2
   obtain ⟨T2,q1,q2⟩:=bCu (sk:=sk) hd hov a b hr h1;have hp:p.length≤20:=by rw [h2];have:=aFf (dl:=dl) (oc:=oc) (dc:=dc) (sk:=sk.take i);rw [lC] at this;omega
   have hq:q.length≤20:=by rw [h3];have:=aCe (dl:=dl) (oc:=oc) (dc:=dc) (sk:=sk.take i);rw [lC] at this;omega
   have et:sk.take (i+1)=sk.take i++[[a,b]]:=by rw [List.take_add_one,hx];rfl
   rw [et];have e1:pM dl oc dc (sk.take i++[[a,b]])=p++if (kB dl oc dc a b).2 then [] else [[a,0,(kB dl oc dc a b).1]]:=by
    rw [h2];unfold pM;rw [oJ,iB]
    congr 1
    show (List.filter _ [[a,b]]).map _=_;cases hq:(kB dl oc dc a b).2 <;> simp [hq]
   have e2:lX dl oc dc (sk.take i++[[a,b]])=q++if (kB dl oc dc a b).2 then [[a,-1,0]] else []:=by
    rw [h3];unfold lX;rw [oJ,iB]
    congr 1
    show (List.filter _ [[a,b]]).map _=_;cases hq:(kB dl oc dc a b).2 <;> simp [hq]
   rw [e1,e2];cases hc:(kB dl oc dc a b).2 with
   | true =>
    rw [hc] at q2
    exact ⟨((p,q++[[a,-1,0]]),T2),⟨q1,by simp,by simp⟩,aZm (q:=q) (q':=q++[[a,-1,0]]) (by omega) hx hs q2 rfl ⟨rfl,by omega⟩ (aP (by omega)) (by simp) (by simp) rfl rfl rfl⟩
   | false =>
    rw [hc] at q2
    exact ⟨((p++[[a,0,(kB dl oc dc a b).1]],q),T2),⟨q1,by simp,by simp⟩,aZn (p:=p) (p':=p++[[a,0,(kB dl oc dc a b).1]]) (by omega) hx hs q2 rfl ⟨rfl,by omega⟩ (aP (by omega)) (by simp) (by simp) rfl rfl rfl⟩)
  (fun acc hI=>aZo (by omega)) (acc:=(([],[]),T)) ⟨hT,by simp [pM],by simp [lX]⟩
 obtain ⟨⟨p,q⟩,T1⟩:=acc;dsimp only at h1 h2 h3 h4
 rw [List.take_length] at h2 h3
 subst h2 h3;have hp:=aFf (dl:=dl) (oc:=oc) (dc:=dc) (sk:=sk);have hq:=aCe (dl:=dl) (oc:=oc) (dc:=dc) (sk:=sk);have hP:=aQn (dl:=dl) (sk:=sk) (dc:=dc) (ov:=ov) (isort (ltK 2) (pM dl oc dc sk)) (bAj aFg) (by rw [tJ];omega) (pM dl oc dc sk) (lX dl oc dc sk) rfl T1
 refine ⟨T1,h1,bRy (r0n:=(bJ dl oc dc sk).length) (r0c:=(bJ dl oc dc sk).flatten.map aA) h4 aFg (by omega) hP ⟨lQ aCf,by rw [aCg,tJ];omega⟩ ?_ ?_⟩
 ·unfold bJ;rw [lO]
 ·unfold bJ;rw [aUr,iB]
end
theorem aSw{dl:Int}{sk dc:Lqq}(h:bO dl sk dc):∀ x∈aB sk,skB x=true:=fun x hx=>h.hsk x ((dJ sk).mem_iff.1 hx)
theorem kU{dl:Int}{sk dc:Lqq}(h:bO dl sk dc)(hl:sk.length<20){base:Nat}:FV Tp 28 [.p (.agg (bP dl sk dc))] base (.tup [.own base,.p (aA 0)]) [(base,.row 48 (bJ dl [] (aB dc) (aB sk)).length ((bJ dl [] (aB dc) (aB sk)).flatten.map aA))]:=by
 obtain ⟨T',h1,h2⟩:=bUd (dl:=dl) (sk:=aB sk) (eZ h) yS (lI h.us) (aSw h) (by rw [fY];exact hl) cD.nil
 exact bRz h h2
theorem bAk{dl:Int}{dc:Lqq}(hd:cE dc):(aS dl dc).length≤1000:=by
 unfold aS;rw [eP];have:=vX (pH dl dc) dc;have:=hd.len;omega
def vJ(u:List Int):Bool:=(List.range u.length).all fun i=>i == 0 || decide (u.getD (i-1) 0<u.getD i 0)
theorem bFp{dl:Int}{sk dc:Lqq}(u:List Int)(hl:u.length≤1000):(vJ u=true∧∃ i,aM Tp 0 (sub (cd Tryz.f21) [1,1,1,1,1,0,1,0,0]) (gP dl sk dc u 1) (.exit 0) (gP dl sk dc u i)) ∨
  (vJ u=false∧∃ i,aM Tp 0 (sub (cd Tryz.f21) [1,1,1,1,1,0,1,0,0]) (gP dl sk dc u 1) .ret (cH (gP dl sk dc u i) [(4,.p bX),(5,.p (aA 4))])):=by
 rcases Nat.lt_or_ge u.length 2 with h2 | h2
 ·refine .inl ⟨?_,1,.exit (aEx (by omega)) (by simp)⟩
  unfold vJ;rw [gU];intro i hi;have:=vZ.1 hi;have:i=0:=by omega
  subst this;rfl
 ·have hget:∀ i,i<u.length→u[i]? = some (u.getD i 0):=fun i hi=>by rw [kQ4,kQ0 hi];rfl
  have key:∀ d i,i+d=u.length→1≤i→(∀ j,j<i→(j == 0 || decide (u.getD (j-1) 0<u.getD j 0))=true) →
   (vJ u=true∧∃ k,aM Tp 0 (sub (cd Tryz.f21) [1,1,1,1,1,0,1,0,0]) (gP dl sk dc u (i:Int)) (.exit 0) (gP dl sk dc u k)) ∨
   (vJ u=false∧∃ k,aM Tp 0 (sub (cd Tryz.f21) [1,1,1,1,1,0,1,0,0]) (gP dl sk dc u (i:Int)) .ret (cH (gP dl sk dc u k) [(4,.p bX),(5,.p (aA 4))])):=by
   intro d
   induction d with
   | zero =>
    intro i hi h1 hj;refine .inl ⟨?_,_,.exit (aEx (by omega)) (by simp)⟩
    unfold vJ;rw [gU];intro j hjr;exact hj j (by have:=vZ.1 hjr;omega)
   | succ d ih =>
    intro i hi h1 hj;have g1:u[((i:Nat):Int).toNat]? = some (u.getD i 0):=by rw [bGk];exact hget i (by omega)
    have g2:u[((i:Int)-1).toNat]? = some (u.getD (i-1) 0):=by rw [show ((i:Int)-1).toNat=i-1 by omega];exact hget (i-1) (by omega)
    by_cases hc:u.getD (i-1) 0<u.getD i 0
    ·have hst:=aZu (dl:=dl) (sk:=sk) (dc:=dc) (i:=(i:Int)) (i':=((i+1:Nat):Int)) (by omega) g1 (by omega) (by unfold inR;omega) g2 (by omega) hc (by unfold inR;omega) (by omega)
     rcases ih (i+1) (by omega) (by omega) (fun j hj2=>by
      rcases Nat.lt_or_ge j i with h3 | h3
      ·exact hj j h3
      ·obtain rfl:j=i:=by omega
       rw [decide_eq_true hc,Bool.or_true]) with ⟨q1,k,q2⟩ | ⟨q1,k,q2⟩
     ·exact .inl ⟨q1,k,.step hst q2⟩
     ·exact .inr ⟨q1,k,.step hst q2⟩
    ·refine .inr ⟨?_,_,.exit (aZt (i:=(i:Int)) (by omega) g1 (by omega) (by unfold inR;omega) g2 (by omega) (by omega)) (by simp)⟩
     cases hr:vJ u with
     | false=>rfl
     | true =>
      unfold vJ at hr
      have:=gU.1 hr i (vZ.2 (by omega))
      rw [show (i == 0)=false by simp;omega,Bool.false_or] at this
      exact absurd (of_decide_eq_true this) hc
  have:=key (u.length-1) 1 (by omega) (by omega) (fun j hj=>by
   have:j=0:=by omega
   subst this;rfl)
  exact this
def bUe(dl:Int)(dc:Lqq)(u:List Int):Int:=if u.all (ocB (aS dl dc)) then (if vJ u then 0 else 4) else 1
theorem bTf{dl:Int}{sk dc:Lqq}(h:bO dl sk dc)(hl:sk.length<20)(u:List Int)(hu:u.length≤1000)(he:bUe dl (aB dc) u=0){base:Nat}:FV Tp 21 [.p (.agg (bP dl sk dc)),.p (aH u)] base (.tup [.own base,.p (aA 0)]) [(base,.row 48 (bJ dl u (aB dc) (aB sk)).length ((bJ dl u (aB dc) (aB sk)).flatten.map aA))]:=by
 have hd:=eZ h;unfold bUe at he
 cases ha:u.all (ocB (aS dl (aB dc))) with
 | false=>rw [ha] at he;simp at he
 | true =>
  rw [ha,if_pos rfl] at he
  rcases bFp (dl:=dl) (sk:=sk) (dc:=dc) u hu with ⟨q1,i,q2⟩ | ⟨q1,i,q2⟩
  ·obtain ⟨T',h1,h2⟩:=bUd (dl:=dl) (sk:=aB sk) hd (aBh hu) (lI h.us) (aSw h) (by rw [fY];exact hl) cD.nil
   exact bSe h hd hu (fun _ _=>bAk hd) ha q2 h2
  ·rw [q1] at he;simp at he
end
end KV
end Go.Proofs
section
namespace Go.Proofs
namespace KL
def aQh(x:Int):List Int→List Int
 | []=>[x]
 | y::r=>if x≤y then x::y::r else y::aQh x r
def sortI:List Int→List Int
 | []=>[]
 | x::r=>aQh x (sortI r)
theorem wV(x:Int):∀ l,(aQh x l).Perm (x::l)
 | [] => .refl _
 | y::r=>by
  unfold aQh
  split
  ·exact .refl _
  ·exact ((wV x r).cons y).trans (List.Perm.swap x y r)
theorem aBy:∀ l,(sortI l).Perm l
 | [] => .refl _
 | x::r=>(wV x _).trans ((aBy r).cons x)
theorem yA(x:Int):∀ l,l.Pairwise (· ≤ ·)→(aQh x l).Pairwise (· ≤ ·)
 | [],_=>by simp [aQh]
 | y::r,h=>by
  obtain ⟨h1,h2⟩:=List.pairwise_cons.1 h;unfold aQh
  split
  ·rename_i hx
   exact List.pairwise_cons.2 ⟨fun z hz=>by
    rcases List.mem_cons.1 hz with rfl | hz
    ·exact hx
    ·have:=h1 z hz;omega,h⟩
  ·rename_i hx
   refine List.pairwise_cons.2 ⟨fun z hz => ?_,yA x r h2⟩
   rcases List.mem_cons.1 ((wV x r).mem_iff.1 hz) with rfl | hz
   ·omega
   ·exact h1 z hz
theorem vH:∀ l,(sortI l).Pairwise (· ≤ ·)
 | [] => .nil
 | x::r=>yA x _ (vH r)
theorem aFe:∀ (a b:List Int),a.Perm b→a.Pairwise (· ≤ ·)→b.Pairwise (· ≤ ·)→a=b
 | [],b,h,_,_=>(List.nil_perm.1 h).symm
 | x::r,[],h,_,_=>absurd h.length_eq (by simp)
 | x::r,y::t,h,ha,hb=>by
  obtain ⟨h1,h2⟩:=List.pairwise_cons.1 ha;obtain ⟨h3,h4⟩:=List.pairwise_cons.1 hb;have e:x=y:=by
   have m1:x∈y::t:=h.mem_iff.1 (List.mem_cons_self ..);have m2:y∈x::r:=h.mem_iff.2 (List.mem_cons_self ..)
   rcases List.mem_cons.1 m1 with e | m1
   ·exact e
   ·rcases List.mem_cons.1 m2 with e | m2
    ·exact e.symm
    ·have:=h1 y m2;have:=h3 x m1;omega
  subst e;rw [aFe r t (List.Perm.cons_inv h) h2 h4]
theorem mergeSort_eq(l:List Int):l.mergeSort leB=sortI l:=by
 refine aFe _ _ ((List.mergeSort_perm _ _).trans (aBy l).symm) ?_ (vH l);have:=List.pairwise_mergeSort (le:=leB) (fun a b c h1 h2=>by simp only [leB,decide_eq_true_eq] at *;omega) (fun a b=>by simp only [leB,Bool.or_eq_true,decide_eq_true_eq];omega) l
 exact this.imp (fun h=>by simpa [leB] using h)
end KL
namespace KV
abbrev sk3:List (List Int):=[[1,15000],[2,15100],[3,15200]]
abbrev dc2:List (List Int):=[[1,0,0,1,300,0],[2,7,10,0,0,1]]
abbrev dc3:List (List Int):=[[1,0,0,1,300,0],[2,7,10,0,0,1],[3,9,40,0,0,2]]
abbrev dc4:List (List Int):=[[1,0,0,1,300,0],[2,7,10,0,0,1],[3,9,40,0,0,2],[4,5,50,0,0,3]]
abbrev dc5:List (List Int):=[[1,0,0,1,300,0],[2,7,10,0,0,1],[3,9,40,0,0,2],[4,5,50,0,0,3],[5,6,60,0,100,1]]
theorem qY{l:List (List Int)}(h:l.Pairwise fun a b=>a.getD 0 0≤b.getD 0 0):aB l=l:=List.mergeSort_of_pairwise (h.imp fun h=>decide_eq_true h)
theorem aDa:aB sk3=sk3:=qY (by decide)
theorem srt2:aB dc2=dc2:=qY (by decide)
theorem srt3:aB dc3=dc3:=qY (by decide)
theorem srt4:aB dc4=dc4:=qY (by decide)
theorem srt5:aB dc5=dc5:=qY (by decide)
theorem rec2:bO 30 sk3 dc2:=⟨by unfold uni;decide,by unfold uni;decide,by decide,by decide,by decide,by decide,by decide,by decide,by decide,by decide,by decide⟩
theorem rec3:bO 30 sk3 dc3:=⟨by unfold uni;decide,by unfold uni;decide,by decide,by decide,by decide,by decide,by decide,by decide,by decide,by decide,by decide⟩
theorem rec4:bO 30 sk3 dc4:=⟨by unfold uni;decide,by unfold uni;decide,by decide,by decide,by decide,by decide,by decide,by decide,by decide,by decide,by decide⟩
theorem rec5:bO 30 sk3 dc5:=⟨by unfold uni;decide,by unfold uni;decide,by decide,by decide,by decide,by decide,by decide,by decide,by decide,by decide,by decide⟩
def bLc(al:List fC)(s:Nat)(c:List cL):List Int:=Lib.compact (KL.sortI (c.flatMap (chL al s)))
theorem aSs(al:List fC)(s:Nat)(c:List cL):lD al s c=bLc al s c:=by unfold lD bLc;rw [KL.mergeSort_eq]
def bFe(dl:Int)(sk dc:List (List Int))(f:Int)(i:Nat):Bool:=match (bK dl sk dc)[i]? with
 | some h=>aHi (bLc (bK dl sk dc) i h.1) (h.1.any fun x=>x.2.1) (h.1.any fun x => !x.2.1) f
 | none=>false
theorem bFf(dl:Int)(sk dc:List (List Int))(f:Int):xX dl sk dc f=bFe dl sk dc f:=by
 funext i
 unfold xX bFe
 split
 ·rename_i h e
  first | rw [e] | skip
  simp only [aSs]
 ·rename_i e
  first | rw [e] | rfl
theorem h28(base:Nat):FV Tryz.prog 28 [.p (.agg (bP 30 sk3 dc2))] base (.tup [.own base,.p (aA 0)]) [(base,.row 48 3 ([[2,1,15100],[3,2,15200],[1,3,15300]].flatten.map aA))]:=by
 have:=kU rec2 (by decide) (base:=base)
 rw [aDa,srt2,show bJ 30 [] dc2 sk3=[[2,1,15100],[3,2,15200],[1,3,15300]] from by decide +kernel] at this
 exact this
theorem h21(base:Nat):FV Tryz.prog 21 [.p (.agg (bP 30 sk3 dc2)),.p (aH [2])] base (.tup [.own base,.p (aA 0)]) [(base,.row 48 3 ([[1,1,15000],[2,2,15100],[3,3,15200]].flatten.map aA))]:=by
 have:=bTf rec2 (by decide) [2] (by decide) (by rw [srt2];decide +kernel) (base:=base)
 rw [aDa,srt2,show bJ 30 [2] dc2 sk3=[[1,1,15000],[2,2,15100],[3,3,15200]] from by decide +kernel] at this
 exact this
theorem open2:aS 30 dc2=[2]:=by decide +kernel
theorem h71(base:Nat):FV Tryz.prog 71 [.p (.agg (bP 30 sk3 dc2)),.p (aA 1)] base (.tup [.p (aH [1,3]),.p (blP false),.p (aA 0)]) []:=by
 have:=bQu rec2 (bib:=1) (i:=0) (s0:=1) (s1:=15000) (by rw [aDa];decide +kernel) (by rw [aDa];rfl) (by rw [srt2,open2];decide) (base:=base)
 rw [aDa,srt2,aSs,show bLc (bK 30 sk3 dc2) 0 (nS 30 dc2 1 15000 (tF 30 dc2 1)).1=[1,3] from by decide +kernel,show ((nS 30 dc2 1 15000 (tF 30 dc2 1)).1.any fun x=>x.2.1)=false from by decide +kernel] at this
 exact this
theorem h33(base:Nat):FV Tryz.prog 33 [.p (.agg (bP 30 sk3 dc2)),.p (aA 2)] base (.tup [.p (aH [2]),.p (aA 0)]) []:=by
 have:=bQw rec2 (f:=2) (by decide) (by rw [srt2,open2];decide) (base:=base)
 have e:aKt 30 sk3 dc2 2=[2]:=by
  unfold aKt;rw [bFf];decide +kernel
 rw [aDa,srt2,e] at this
 exact this
theorem h19a(base:Nat):FV Tryz.prog 19 [.p (.agg (bP 30 sk3 dc3))] base (.tup [.p (aH []),.p (aA 0)]) []:=by
 have:=bEx rec3 (base:=base);rw [srt3,show aS 30 dc3=[] from by decide +kernel] at this
 exact this
theorem h19b(base:Nat):FV Tryz.prog 19 [.p (.agg (bP 30 sk3 dc4))] base (.tup [.p (aH [2]),.p (aA 0)]) []:=by
 have:=bEx rec4 (base:=base);rw [srt4,show aS 30 dc4=[2] from by decide +kernel] at this
 exact this
theorem h61(base:Nat):FV Tryz.prog 61 [.p (.agg (bP 30 sk3 dc5)),.p (aA 1)] base (.tup [.p (aA 15100),.p (blP false),.p (aA 0)]) []:=by
 obtain ⟨T',_,hT⟩:=bCu (dl:=30) (sk:=aB sk3) (dc:=aB dc5) (eZ rec5) yS 1 15000 (by decide) (T:=[]) cD.nil
 have:=bQn rec5 (bib:=1) (i0:=0) (s1:=1) (s2:=15000) (by rw [aDa];decide +kernel) (by rw [aDa];rfl) hT (base:=base)
 rw [srt5,show kB 30 [] dc5 1 15000=(15100,false) from by decide +kernel] at this
 exact this
theorem h58(base:Nat):FV Tryz.prog 58 [.p (.agg (bP 30 sk3 dc2)),.p (aA 2)] base (.tup [.p (blP true),.p (aA 0)]) []:=by
 have:=bSx rec2 2 (base:=base);have hB:∀ r6,aDb 30 sk3 dc2 2 r6=fun x => !(((kB 30 x dc2 ((sk3.getD (bC (fun x=>decide (r6=x)) (aL sk3 0)).toNat []).getD 0 0) ((sk3.getD (bC (fun x=>decide (r6=x)) (aL sk3 0)).toNat []).getD 1 0)).1 == (kB 30 (x++[2]) dc2 ((sk3.getD (bC (fun x=>decide (r6=x)) (aL sk3 0)).toNat []).getD 0 0) ((sk3.getD (bC (fun x=>decide (r6=x)) (aL sk3 0)).toNat []).getD 1 0)).1) && ((kB 30 x dc2 ((sk3.getD (bC (fun x=>decide (r6=x)) (aL sk3 0)).toNat []).getD 0 0) ((sk3.getD (bC (fun x=>decide (r6=x)) (aL sk3 0)).toNat []).getD 1 0)).2 == (kB 30 (x++[2]) dc2 ((sk3.getD (bC (fun x=>decide (r6=x)) (aL sk3 0)).toNat []).getD 0 0) ((sk3.getD (bC (fun x=>decide (r6=x)) (aL sk3 0)).toNat []).getD 1 0)).2)):=fun r6=>by
  funext x
  unfold aDb fA;rw [aDa,srt2]
 have e:bFl 30 sk3 dc2 2=(true,0):=by
  unfold bFl;rw [aDa,srt2,hB];decide +kernel
 rw [e] at this
 exact this
theorem bFg{base:Nat}:FV Tryz.prog 26 [] base (.p (blP true)) [] :=
 bSw h28 h21 h71 h33 (fun base=>by
  have:=qT [[2,1,15100],[3,2,15200],[1,3,15300]] [[2,1,15100],[3,2,15200],[1,3,15300]] (by unfold uni;decide) (by unfold uni;decide) (by decide) (base:=base)
  rw [decide_eq_true rfl] at this
  exact this) ⟨rfl,rfl⟩ (by decide) (fun base=>by
  have:=bEa [1,3] [1,3] (by decide) (base:=base)
  rw [decide_eq_true rfl] at this
  exact this) (fun base=>by
  have:=bEa [2] [2] (by decide) (base:=base)
  rw [decide_eq_true rfl] at this
  exact this) h19a h19b h61 h58
end KV
end Go.Proofs
end
namespace Go.Proofs
namespace KV
section

abbrev RS:=Bool × Bool × Bool × Bool × Int × Int × Int
end
section
end
section
section
variable {dl:Int} {sk dc:Lqq} {q:List Int} {i:Int} {L:List RS} {y100 y101 y102 y103 y104 y105:Int}
end
end
section
end
section
section
variable {dl:Int} {sk dc:Lqq} {q:List Int}
end
end
section

theorem bFq{dl:Int}{sk dc:Lqq}(h:bO dl sk dc){base:Nat}:FV Tp 122 [.p (.agg (bP dl sk dc)),.fn 123 [] []] base (.tup [.p (aH (dV (cK dl [] (aB dc)) (aB dc))),.p (aA 0)]) [] :=
 bSg h _ fun x hx T hT=>bUn (eZ h) yS hx hT
theorem aQp{dl:Int}{sk dc:Lqq}(h0:bO dl sk dc){base:Nat}:FV Tp 48 [(.p (.agg (bP dl sk dc)))] base (.tup [(.p (aH (dV (cK dl [] (aB dc)) (aB dc)))),(pI 0)]) []:=by
 exact FV.fin Tryz.func48 rfl (o:=[.c (.tup [(.p (aH (dV (cK dl [] (aB dc)) (aB dc)))),(pI 0)]) []]) (l:=[_]) (by kernel_rfl) (gc (fk 1 (bFq h0) rfl) gn)
end
section

theorem oQ:((0:Int) != (0:Int))=false:=by first | decide | simp
theorem bGo{dl:Int}{sk dc:Lqq}{num:Int}(h0:uni 2 sk)(h1:sk.length≤1000)(h2:uni 6 dc)(h3:dc.length≤1000){base:Nat}:FV Tp 50 [(.p (.agg (bP dl sk dc))),(pI num)] base (.p (.agg (bP dl sk (dU dc num)))) []:=by
 exact FV.frz (FMM.fin (k:=0) (g:=⟨[],[],[],[]⟩) rfl Tryz.func50 rfl (o:=[.c (.agg [(pI dl),(.p (fS sk)),(.own 3)]) [(3,(.row 44 dc.length (dc.flatten.map aA)))],.g 1 ⟨[],[0,2,3,4],[1],[]⟩,.c (.p (.sl ((dU dc num).length) ((dU dc num).flatten.map aA))) [(2,.dead)]]) (l:=[FC Tp 124 [(.own 2),(.fn 125 [] [(.rp [(aA num)] 0)])] [(2,(.row 44 dc.length (dc.flatten.map aA)))] 4 (.p (.sl ((dU dc num).length) ((dU dc num).flatten.map aA))) [(2,.dead)],FC Tp 27 [(.p (.agg (bP dl sk dc)))] [] 3 (.agg [(pI dl),(.p (fS sk)),(.own 3)]) [(3,(.row 44 dc.length (dc.flatten.map aA)))]]) (by kernel_rfl) (gc (FMM.fc (ids:=[2]) (bMq dc num h2 h3) (by kernel_rfl)) (gc (FMM.fc (ids:=[]) (bCs dl sk dc h0 h1 h2 h3) (by kernel_rfl)) gn))) (by kernel_rfl)
theorem aRo(dl:Int)(sk dc:Lqq)(num:Int)(h0:uni 2 sk)(h1:sk.length≤1000)(h2:uni 6 dc)(h3:dc.length≤1000){base:Nat}:FV Tp 50 [.p (.agg (bP dl sk dc)),.p (aA num)] base (.p (.agg (bP dl sk (dU dc num)))) []:=bGo h0 h1 h2 h3
theorem kT(a b c d e:Int){base:Nat}:FV Tp 49 [.p (aA a),.p (aA b),.p (aA c),.p (aA d),.p (aA e)] base (.p (.agg [aA a,aA b,aA d,aA 0,aA e,aA c])) []:=gN
theorem bCc(l:List Int)(v:Int)(hl:l.length≤1000){base:Nat}:FV Tp 52 [.p (aH l),.p (aA v)] base (pB (l.contains v)) []:=mU l v hl
theorem wA{k:Nat}{l:Lqq}(h:(l.all fun x=>decide (x.length=k))=true):uni k l:=fun y hy=>by
 have:=gU.1 h y hy;simpa using this
theorem bMn{l1:List Int}{wh:Int}{sk0 dc1:Lqq}{m2 t3:Int}(h0:0≤(0:Int)∧(0:Int)≤900)(h1:1≤(6:Int)∧(6:Int)≤30)(h2:0≤(16:Int)∧(16:Int)≤40)(h3:aNq (6:Int) (16:Int) l1 (0:Int) (17:Int)=(sk0,dc1,m2,t3))(h4:bO (30:Int) sk0 dc1)(h5:sk0.length<20)(h6:(dc1.length:Int)=0)(h7:∀ {base:Nat},FV Tp 26 [] base (pB true) []){base:Nat}:FV Tp 7 [(.p (.sl l1.length (l1.map aO))),(.p (.v (.int .u8 wh)))] base (pB true) []:=by
 exact FV.fin Tryz.func7 rfl (o:=[.c (.ptr 0 0) [(0,(.box 129 [(.p (.sl l1.length (l1.map aO))),(pI 0),(.p (.v (.int .u32 (17:Int))))]))],.c (.p (.agg (bP 30 sk0 dc1))) [(0,(.box 129 [(.p (.sl l1.length (l1.map aO))),(pI m2),(.p (.v (.int .u32 t3)))]))],.c (.tup [(.own 2),(pI 0)]) [(2,(.row 48 ((bJ (30:Int) [] (aB dc1) (aB sk0)).length) ((bJ (30:Int) [] (aB dc1) (aB sk0)).flatten.map aA)))],.c (.tup [(.p (aH (dV (cK (30:Int) [] (aB dc1)) (aB dc1)))),(pI 0)]) [],bF,bF,bF,bF,bT,.c (pB true) []]) (l:=[FC Tp 26 [] [] 3 (pB true) [],_,_,_,_,_,FC Tp 48 [(.p (.agg (bP 30 sk0 dc1)))] [] 3 (.tup [(.p (aH (dV (cK (30:Int) [] (aB dc1)) (aB dc1)))),(pI 0)]) [],_,FC Tp 16 [(.ptr 0 0),(pI 6),(pI 16)] [(0,(.box 129 [(.p (.sl l1.length (l1.map aO))),(pI 0),(.p (.v (.int .u32 (17:Int))))]))] 1 (.p (.agg (bP 30 sk0 dc1))) [(0,(.box 129 [(.p (.sl l1.length (l1.map aO))),(pI m2),(.p (.v (.int .u32 t3)))]))],FC Tp 17 [(.p (.sl l1.length (l1.map aO)))] [] 0 (.ptr 0 0) [(0,(.box 129 [(.p (.sl l1.length (l1.map aO))),(pI 0),(.p (.v (.int .u32 (17:Int))))]))]]) (by kernel_rfl) (gc (FV.fc h7 (by kernel_rfl)) (gc (eR h6) (g4c oQ (gc (FV.fc (aQp h4) rfl) (gc (fk 2 (kU h4 h5) rfl) (gc (FMM.fc (ids:=[0]) (aNr (6:Int) (16:Int) l1 (0:Int) (17:Int) h0 h1 h2 h3) (by kernel_rfl)) (gc (FMM.fc (ids:=[]) (ofO l1) (by kernel_rfl)) gn)))))))
theorem bMo{l1:List Int}{wh:Int}{sk0 dc1:Lqq}{m2 t3 y4 y5 y6 y7 y8 y9:Int}(h0:0≤(0:Int)∧(0:Int)≤900)(h1:1≤(6:Int)∧(6:Int)≤30)(h2:0≤(16:Int)∧(16:Int)≤40)(h3:aNq (6:Int) (16:Int) l1 (0:Int) (17:Int)=(sk0,dc1,m2,t3))(h4:bO (30:Int) sk0 dc1)(h5:sk0.length<20)(h6:(dc1.length:Int)≠0)(h7:uni 6 dc1)(h8:dc1.length≤1000)(h9:∀ x∈dc1,x.getD 0 0≤9999)(h10:inR wh)(h11:(dc1.length:Int)≠0)(h12:dc1[(wh.tmod (dc1.length:Int)).toNat]? = some [y4,y5,y6,y7,y8,y9])(h13:0≤(wh.tmod (dc1.length:Int)))(h14:uni 2 sk0)(h15:sk0.length≤1000)(h16:bO (30:Int) sk0 (dc1++[[(aE dc1),(5:Int),(0:Int),(0:Int),(0:Int),y4]]))(h17:bO (30:Int) sk0 (dU dc1 y4))(h18:inR ((aE dc1)+1))(h19:bO (30:Int) sk0 (dc1++[[((aE dc1)+1),(5:Int),(0:Int),(0:Int),(0:Int),(aE dc1)],[(aE dc1),(5:Int),(0:Int),(0:Int),(0:Int),y4]]))(h20:inR ((aE dc1)+2))(h21:inR ((aE dc1)+3))(h22:bO (30:Int) sk0 (dc1++[[((aE dc1)+1),(5:Int),(0:Int),(0:Int),(0:Int),(aE dc1)],[((aE dc1)+2),(7:Int),(0:Int),(0:Int),(0:Int),(aE dc1)],[((aE dc1)+3),(6:Int),(0:Int),(0:Int),(900:Int),(aE dc1)]]))(h23:uni 3 (bJ (30:Int) [] (aB (dc1++[[(aE dc1),(5:Int),(0:Int),(0:Int),(0:Int),y4]])) (aB sk0)))(h24:uni 3 (bJ (30:Int) [] (aB (dU dc1 y4)) (aB sk0)))(h25:(bJ (30:Int) [] (aB (dc1++[[(aE dc1),(5:Int),(0:Int),(0:Int),(0:Int),y4]])) (aB sk0)).length≤1000)(h26:(decide ((bJ (30:Int) [] (aB (dc1++[[(aE dc1),(5:Int),(0:Int),(0:Int),(0:Int),y4]])) (aB sk0))=(bJ (30:Int) [] (aB (dU dc1 y4)) (aB sk0))))=true)(h27:uni 3 (bJ (30:Int) [] (aB (dc1++[[((aE dc1)+1),(5:Int),(0:Int),(0:Int),(0:Int),(aE dc1)],[(aE dc1),(5:Int),(0:Int),(0:Int),(0:Int),y4]])) (aB sk0)))(h28:uni 3 (bJ (30:Int) [] (aB dc1) (aB sk0)))(h29:(bJ (30:Int) [] (aB (dc1++[[((aE dc1)+1),(5:Int),(0:Int),(0:Int),(0:Int),(aE dc1)],[(aE dc1),(5:Int),(0:Int),(0:Int),(0:Int),y4]])) (aB sk0)).length≤1000)(h30:(decide ((bJ (30:Int) [] (aB (dc1++[[((aE dc1)+1),(5:Int),(0:Int),(0:Int),(0:Int),(aE dc1)],[(aE dc1),(5:Int),(0:Int),(0:Int),(0:Int),y4]])) (aB sk0))=(bJ (30:Int) [] (aB dc1) (aB sk0))))=true)(h31:uni 3 (bJ (30:Int) [] (aB (dc1++[[((aE dc1)+1),(5:Int),(0:Int),(0:Int),(0:Int),(aE dc1)],[((aE dc1)+2),(7:Int),(0:Int),(0:Int),(0:Int),(aE dc1)],[((aE dc1)+3),(6:Int),(0:Int),(0:Int),(900:Int),(aE dc1)]])) (aB sk0)))(h32:(bJ (30:Int) [] (aB (dc1++[[((aE dc1)+1),(5:Int),(0:Int),(0:Int),(0:Int),(aE dc1)],[((aE dc1)+2),(7:Int),(0:Int),(0:Int),(0:Int),(aE dc1)],[((aE dc1)+3),(6:Int),(0:Int),(0:Int),(900:Int),(aE dc1)]])) (aB sk0)).length≤1000)(h33:(decide ((bJ (30:Int) [] (aB (dc1++[[((aE dc1)+1),(5:Int),(0:Int),(0:Int),(0:Int),(aE dc1)],[((aE dc1)+2),(7:Int),(0:Int),(0:Int),(0:Int),(aE dc1)],[((aE dc1)+3),(6:Int),(0:Int),(0:Int),(900:Int),(aE dc1)]])) (aB sk0))=(bJ (30:Int) [] (aB dc1) (aB sk0))))=true)(h34:(dV (cK (30:Int) [] (aB dc1)) (aB dc1)).length≤1000)(h35:((dV (cK (30:Int) [] (aB dc1)) (aB dc1)).contains y4)=true)(h36:∀ {base:Nat},FV Tp 26 [] base (pB true) []){base:Nat}:FV Tp 7 [(.p (.sl l1.length (l1.map aO))),(.p (.v (.int .u8 wh)))] base (pB true) []:=by
 exact FV.fin Tryz.func7 rfl (o:=[.c (.ptr 0 0) [(0,(.box 129 [(.p (.sl l1.length (l1.map aO))),(pI 0),(.p (.v (.int .u32 (17:Int))))]))],.c (.p (.agg (bP 30 sk0 dc1))) [(0,(.box 129 [(.p (.sl l1.length (l1.map aO))),(pI m2),(.p (.v (.int .u32 t3)))]))],.c (.tup [(.own 2),(pI 0)]) [(2,(.row 48 ((bJ (30:Int) [] (aB dc1) (aB sk0)).length) ((bJ (30:Int) [] (aB dc1) (aB sk0)).flatten.map aA)))],.c (.tup [(.p (aH (dV (cK (30:Int) [] (aB dc1)) (aB dc1)))),(pI 0)]) [],bF,bF,bF,bF,bF,.c (pI (aE dc1)) [],.x (dcE y4 y5 y6 y7 y8 y9),.c (.p (dcE (aE dc1) 5 0 0 0 y4)) [],.c (.p (.agg (bP 30 sk0 (dc1++[[(aE dc1),(5:Int),(0:Int),(0:Int),(0:Int),y4]])))) [(13,.dead)],.c (.tup [(.own 22),(pI 0)]) [(22,(.row 48 ((bJ (30:Int) [] (aB (dc1++[[(aE dc1),(5:Int),(0:Int),(0:Int),(0:Int),y4]])) (aB sk0)).length) ((bJ (30:Int) [] (aB (dc1++[[(aE dc1),(5:Int),(0:Int),(0:Int),(0:Int),y4]])) (aB sk0)).flatten.map aA)))],.c (.p (.agg (bP 30 sk0 (dU dc1 y4)))) [],.c (.tup [(.own 23),(pI 0)]) [(23,(.row 48 ((bJ (30:Int) [] (aB (dU dc1 y4)) (aB sk0)).length) ((bJ (30:Int) [] (aB (dU dc1 y4)) (aB sk0)).flatten.map aA)))],.c (.p (dcE ((aE dc1)+1) 5 0 0 0 (aE dc1))) [],.c (.p (dcE (aE dc1) 5 0 0 0 y4)) [],.c (.p (.agg (bP 30 sk0 (dc1++[[((aE dc1)+1),(5:Int),(0:Int),(0:Int),(0:Int),(aE dc1)],[(aE dc1),(5:Int),(0:Int),(0:Int),(0:Int),y4]])))) [(40,.dead)],.c (.tup [(.own 49),(pI 0)]) [(49,(.row 48 ((bJ (30:Int) [] (aB (dc1++[[((aE dc1)+1),(5:Int),(0:Int),(0:Int),(0:Int),(aE dc1)],[(aE dc1),(5:Int),(0:Int),(0:Int),(0:Int),y4]])) (aB sk0)).length) ((bJ (30:Int) [] (aB (dc1++[[((aE dc1)+1),(5:Int),(0:Int),(0:Int),(0:Int),(aE dc1)],[(aE dc1),(5:Int),(0:Int),(0:Int),(0:Int),y4]])) (aB sk0)).flatten.map aA)))],.c (.p (dcE ((aE dc1)+1) 5 0 0 0 (aE dc1))) [],.c (.p (dcE ((aE dc1)+2) 7 0 0 0 (aE dc1))) [],.c (.p (dcE ((aE dc1)+3) 6 0 0 900 (aE dc1))) [],.c (.p (.agg (bP 30 sk0 (dc1++[[((aE dc1)+1),(5:Int),(0:Int),(0:Int),(0:Int),(aE dc1)],[((aE dc1)+2),(7:Int),(0:Int),(0:Int),(0:Int),(aE dc1)],[((aE dc1)+3),(6:Int),(0:Int),(0:Int),(900:Int),(aE dc1)]])))) [(74,.dead)],.c (.tup [(.own 83),(pI 0)]) [(83,(.row 48 ((bJ (30:Int) [] (aB (dc1++[[((aE dc1)+1),(5:Int),(0:Int),(0:Int),(0:Int),(aE dc1)],[((aE dc1)+2),(7:Int),(0:Int),(0:Int),(0:Int),(aE dc1)],[((aE dc1)+3),(6:Int),(0:Int),(0:Int),(900:Int),(aE dc1)]])) (aB sk0)).length) ((bJ (30:Int) [] (aB (dc1++[[((aE dc1)+1),(5:Int),(0:Int),(0:Int),(0:Int),(aE dc1)],[((aE dc1)+2),(7:Int),(0:Int),(0:Int),(0:Int),(aE dc1)],[((aE dc1)+3),(6:Int),(0:Int),(0:Int),(900:Int),(aE dc1)]])) (aB sk0)).flatten.map aA)))],.g 2 ⟨[60,83,102],[0,1,4],[2,22,23,49,83],[]⟩,bF,bF,bF,bF,bF,bF,bF,bF,bF,bF,bF,bF,.c (pB (decide ((bJ (30:Int) [] (aB (dc1++[[(aE dc1),(5:Int),(0:Int),(0:Int),(0:Int),y4]])) (aB sk0))=(bJ (30:Int) [] (aB (dU dc1 y4)) (aB sk0))))) [],bF,bF,bF,bF,bF,.c (pB (decide ((bJ (30:Int) [] (aB (dc1++[[((aE dc1)+1),(5:Int),(0:Int),(0:Int),(0:Int),(aE dc1)],[(aE dc1),(5:Int),(0:Int),(0:Int),(0:Int),y4]])) (aB sk0))=(bJ (30:Int) [] (aB dc1) (aB sk0))))) [],bF,bF,bF,bF,bF,.c (pB (decide ((bJ (30:Int) [] (aB (dc1++[[((aE dc1)+1),(5:Int),(0:Int),(0:Int),(0:Int),(aE dc1)],[((aE dc1)+2),(7:Int),(0:Int),(0:Int),(0:Int),(aE dc1)],[((aE dc1)+3),(6:Int),(0:Int),(0:Int),(900:Int),(aE dc1)]])) (aB sk0))=(bJ (30:Int) [] (aB dc1) (aB sk0))))) [],bF,bF,bF,.c (pB ((dV (cK (30:Int) [] (aB dc1)) (aB dc1)).contains y4)) [],bT,.c (pB true) []]) (l:=[FC Tp 26 [] [] 3 (pB true) [],_,_,_,_,_,_,_,_,_,_,_,_,_,_,_,_,_,_,_,_,_,_,_,_,_,_,_,_,_,_,_,FC Tp 24 [(.p (.agg (bP 30 sk0 dc1))),(.own 74)] [(74,(.row 44 3 [(aA ((aE dc1)+1)),(aA 5),(aA 0),(aA 0),(aA 0),(aA (aE dc1)),(aA ((aE dc1)+2)),(aA 7),(aA 0),(aA 0),(aA 0),(aA (aE dc1)),(aA ((aE dc1)+3)),(aA 6),(aA 0),(aA 0),(aA 900),(aA (aE dc1))]))] 75 (.p (.agg (bP 30 sk0 (dc1++[[((aE dc1)+1),(5:Int),(0:Int),(0:Int),(0:Int),(aE dc1)],[((aE dc1)+2),(7:Int),(0:Int),(0:Int),(0:Int),(aE dc1)],[((aE dc1)+3),(6:Int),(0:Int),(0:Int),(900:Int),(aE dc1)]])))) [(74,.dead)],_,_,_,_,_,_,_,FC Tp 24 [(.p (.agg (bP 30 sk0 dc1))),(.own 40)] [(40,(.row 44 2 [(aA ((aE dc1)+1)),(aA 5),(aA 0),(aA 0),(aA 0),(aA (aE dc1)),(aA (aE dc1)),(aA 5),(aA 0),(aA 0),(aA 0),(aA y4)]))] 41 (.p (.agg (bP 30 sk0 (dc1++[[((aE dc1)+1),(5:Int),(0:Int),(0:Int),(0:Int),(aE dc1)],[(aE dc1),(5:Int),(0:Int),(0:Int),(0:Int),y4]])))) [(40,.dead)],_,_,_,_,_,_,FC Tp 24 [(.p (.agg (bP 30 sk0 dc1))),(.own 13)] [(13,(.row 44 1 [(aA (aE dc1)),(aA 5),(aA 0),(aA 0),(aA 0),(aA y4)]))] 14 (.p (.agg (bP 30 sk0 (dc1++[[(aE dc1),(5:Int),(0:Int),(0:Int),(0:Int),y4]])))) [(13,.dead)],[(aA (aE dc1)),(aA 5),(aA 0),(aA 0),(aA 0),(aA y4)].length=6,_,_,_,0≤(wh.tmod (dc1.length:Int))∧(wh.tmod (dc1.length:Int))<(dc1.length:Int)∧((wh.tmod (dc1.length:Int)).toNat*6)<(dc1.flatten.map aA).length,_,_,_,_,_,_,_,_,FC Tp 48 [(.p (.agg (bP 30 sk0 dc1)))] [] 3 (.tup [(.p (aH (dV (cK (30:Int) [] (aB dc1)) (aB dc1)))),(pI 0)]) [],_,FC Tp 16 [(.ptr 0 0),(pI 6),(pI 16)] [(0,(.box 129 [(.p (.sl l1.length (l1.map aO))),(pI 0),(.p (.v (.int .u32 (17:Int))))]))] 1 (.p (.agg (bP 30 sk0 dc1))) [(0,(.box 129 [(.p (.sl l1.length (l1.map aO))),(pI m2),(.p (.v (.int .u32 t3)))]))],FC Tp 17 [(.p (.sl l1.length (l1.map aO)))] [] 0 (.ptr 0 0) [(0,(.box 129 [(.p (.sl l1.length (l1.map aO))),(pI 0),(.p (.v (.int .u32 (17:Int))))]))]]) (by kernel_rfl) (gc (FV.fc h36 (by kernel_rfl)) (gc h35 (gc (fk 3 (bCc (dV (cK (30:Int) [] (aB dc1)) (aB dc1)) y4 h34) rfl) (gc (aX h33) (g2c (aX h30) (gc (fk 3 (qT (bJ (30:Int) [] (aB (dc1++[[((aE dc1)+1),(5:Int),(0:Int),(0:Int),(0:Int),(aE dc1)],[((aE dc1)+2),(7:Int),(0:Int),(0:Int),(0:Int),(aE dc1)],[((aE dc1)+3),(6:Int),(0:Int),(0:Int),(900:Int),(aE dc1)]])) (aB sk0)) (bJ (30:Int) [] (aB dc1) (aB sk0)) h31 h28 h32) rfl) (g3c (aX h30) (g2c (aX h26) (gc (fk 3 (qT (bJ (30:Int) [] (aB (dc1++[[((aE dc1)+1),(5:Int),(0:Int),(0:Int),(0:Int),(aE dc1)],[(aE dc1),(5:Int),(0:Int),(0:Int),(0:Int),y4]])) (aB sk0)) (bJ (30:Int) [] (aB dc1) (aB sk0)) h27 h28 h29) rfl) (g3c (aX h26) (g2c oQ (gc (fk 3 (qT (bJ (30:Int) [] (aB (dc1++[[(aE dc1),(5:Int),(0:Int),(0:Int),(0:Int),y4]])) (aB sk0)) (bJ (30:Int) [] (aB (dU dc1 y4)) (aB sk0)) h23 h24 h25) rfl) (g8c oQ (g4c oQ (gc (fk 83 (kU h22 h5) rfl) (gc (FV.close (ids:=[74]) (args':=[(.p (.agg (bP 30 sk0 dc1))),(.p (.sl 3 [(aA ((aE dc1)+1)),(aA 5),(aA 0),(aA 0),(aA 0),(aA (aE dc1)),(aA ((aE dc1)+2)),(aA 7),(aA 0),(aA 0),(aA 0),(aA (aE dc1)),(aA ((aE dc1)+3)),(aA 6),(aA 0),(aA 0),(aA 900),(aA (aE dc1))]))]) (wB (30:Int) sk0 dc1 [[((aE dc1)+1),(5:Int),(0:Int),(0:Int),(0:Int),(aE dc1)],[((aE dc1)+2),(7:Int),(0:Int),(0:Int),(0:Int),(aE dc1)],[((aE dc1)+3),(6:Int),(0:Int),(0:Int),(900:Int),(aE dc1)]] h14 h15 h7 h8 (wA rfl) (by simp)) (by kernel_rfl)) (gc (fk 66 (kT ((aE dc1)+3) (6:Int) (aE dc1) (0:Int) (900:Int)) rfl) (gc h21 (gc (fk 58 (kT ((aE dc1)+2) (7:Int) (aE dc1) (0:Int) (0:Int)) rfl) (gc h20 (gc (fk 50 (kT ((aE dc1)+1) (5:Int) (aE dc1) (0:Int) (0:Int)) rfl) (gc h18 (gc (fk 49 (kU h19 h5) rfl) (gc (FV.close (ids:=[40]) (args':=[(.p (.agg (bP 30 sk0 dc1))),(.p (.sl 2 [(aA ((aE dc1)+1)),(aA 5),(aA 0),(aA 0),(aA 0),(aA (aE dc1)),(aA (aE dc1)),(aA 5),(aA 0),(aA 0),(aA 0),(aA y4)]))]) (wB (30:Int) sk0 dc1 [[((aE dc1)+1),(5:Int),(0:Int),(0:Int),(0:Int),(aE dc1)],[(aE dc1),(5:Int),(0:Int),(0:Int),(0:Int),y4]] h14 h15 h7 h8 (wA rfl) (by simp)) (by kernel_rfl)) (gc (fk 32 (kT (aE dc1) (5:Int) y4 (0:Int) (0:Int)) rfl) (gc (fk 24 (kT ((aE dc1)+1) (5:Int) (aE dc1) (0:Int) (0:Int)) rfl) (gc h18 (gc (fk 23 (kU h17 h5) rfl) (gc (fk 23 (aRo (30:Int) sk0 dc1 y4 h14 h15 h7 h8) rfl) (gc (fk 22 (kU h16 h5) rfl) (gc (FV.close (ids:=[13]) (args':=[(.p (.agg (bP 30 sk0 dc1))),(.p (.sl 1 [(aA (aE dc1)),(aA 5),(aA 0),(aA 0),(aA 0),(aA y4)]))]) (wB (30:Int) sk0 dc1 [[(aE dc1),(5:Int),(0:Int),(0:Int),(0:Int),y4]] h14 h15 h7 h8 (wA rfl) (by simp)) (by kernel_rfl)) (gc (by first | decide | simp) (gc (fk 5 (kT (aE dc1) (5:Int) y4 (0:Int) (0:Int)) rfl) (gc (aV (i:=(wh.tmod (dc1.length:Int)).toNat) h7 h12) (gc (bG (i:=(wh.tmod (dc1.length:Int)).toNat) h7 h12) (gc (bZ (k:=6) (i:=(wh.tmod (dc1.length:Int))) (by decide) h7 h13 h12) (gc h11 (gc h10 (gc (fk 3 (bCd (30:Int) sk0 dc1 h7 h8 h9) rfl) (gc (bR h6) (g4c oQ (gc (FV.fc (aQp h4) rfl) (gc (fk 2 (kU h4 h5) rfl) (gc (FMM.fc (ids:=[0]) (aNr (6:Int) (16:Int) l1 (0:Int) (17:Int) h0 h1 h2 h3) (by kernel_rfl)) (gc (FMM.fc (ids:=[]) (ofO l1) (by kernel_rfl)) gn)))))))))))))))))))))))))))))))))))))))))))))
theorem bMp{l1:List Int}{wh:Int}{sk0 dc1:Lqq}{m2 t3 y4 y5 y6 y7 y8 y9:Int}(h0:0≤(0:Int)∧(0:Int)≤900)(h1:1≤(6:Int)∧(6:Int)≤30)(h2:0≤(16:Int)∧(16:Int)≤40)(h3:aNq (6:Int) (16:Int) l1 (0:Int) (17:Int)=(sk0,dc1,m2,t3))(h4:bO (30:Int) sk0 dc1)(h5:sk0.length<20)(h6:(dc1.length:Int)≠0)(h7:uni 6 dc1)(h8:dc1.length≤1000)(h9:∀ x∈dc1,x.getD 0 0≤9999)(h10:inR wh)(h11:(dc1.length:Int)≠0)(h12:dc1[(wh.tmod (dc1.length:Int)).toNat]? = some [y4,y5,y6,y7,y8,y9])(h13:0≤(wh.tmod (dc1.length:Int)))(h14:uni 2 sk0)(h15:sk0.length≤1000)(h16:bO (30:Int) sk0 (dc1++[[(aE dc1),(5:Int),(0:Int),(0:Int),(0:Int),y4]]))(h17:bO (30:Int) sk0 (dU dc1 y4))(h18:inR ((aE dc1)+1))(h19:bO (30:Int) sk0 (dc1++[[((aE dc1)+1),(5:Int),(0:Int),(0:Int),(0:Int),(aE dc1)],[(aE dc1),(5:Int),(0:Int),(0:Int),(0:Int),y4]]))(h20:inR ((aE dc1)+2))(h21:inR ((aE dc1)+3))(h22:bO (30:Int) sk0 (dc1++[[((aE dc1)+1),(5:Int),(0:Int),(0:Int),(0:Int),(aE dc1)],[((aE dc1)+2),(7:Int),(0:Int),(0:Int),(0:Int),(aE dc1)],[((aE dc1)+3),(6:Int),(0:Int),(0:Int),(900:Int),(aE dc1)]]))(h23:uni 3 (bJ (30:Int) [] (aB (dc1++[[(aE dc1),(5:Int),(0:Int),(0:Int),(0:Int),y4]])) (aB sk0)))(h24:uni 3 (bJ (30:Int) [] (aB (dU dc1 y4)) (aB sk0)))(h25:(bJ (30:Int) [] (aB (dc1++[[(aE dc1),(5:Int),(0:Int),(0:Int),(0:Int),y4]])) (aB sk0)).length≤1000)(h26:(decide ((bJ (30:Int) [] (aB (dc1++[[(aE dc1),(5:Int),(0:Int),(0:Int),(0:Int),y4]])) (aB sk0))=(bJ (30:Int) [] (aB (dU dc1 y4)) (aB sk0))))=true)(h27:uni 3 (bJ (30:Int) [] (aB (dc1++[[((aE dc1)+1),(5:Int),(0:Int),(0:Int),(0:Int),(aE dc1)],[(aE dc1),(5:Int),(0:Int),(0:Int),(0:Int),y4]])) (aB sk0)))(h28:uni 3 (bJ (30:Int) [] (aB dc1) (aB sk0)))(h29:(bJ (30:Int) [] (aB (dc1++[[((aE dc1)+1),(5:Int),(0:Int),(0:Int),(0:Int),(aE dc1)],[(aE dc1),(5:Int),(0:Int),(0:Int),(0:Int),y4]])) (aB sk0)).length≤1000)(h30:(decide ((bJ (30:Int) [] (aB (dc1++[[((aE dc1)+1),(5:Int),(0:Int),(0:Int),(0:Int),(aE dc1)],[(aE dc1),(5:Int),(0:Int),(0:Int),(0:Int),y4]])) (aB sk0))=(bJ (30:Int) [] (aB dc1) (aB sk0))))=true)(h31:uni 3 (bJ (30:Int) [] (aB (dc1++[[((aE dc1)+1),(5:Int),(0:Int),(0:Int),(0:Int),(aE dc1)],[((aE dc1)+2),(7:Int),(0:Int),(0:Int),(0:Int),(aE dc1)],[((aE dc1)+3),(6:Int),(0:Int),(0:Int),(900:Int),(aE dc1)]])) (aB sk0)))(h32:(bJ (30:Int) [] (aB (dc1++[[((aE dc1)+1),(5:Int),(0:Int),(0:Int),(0:Int),(aE dc1)],[((aE dc1)+2),(7:Int),(0:Int),(0:Int),(0:Int),(aE dc1)],[((aE dc1)+3),(6:Int),(0:Int),(0:Int),(900:Int),(aE dc1)]])) (aB sk0)).length≤1000)(h33:(decide ((bJ (30:Int) [] (aB (dc1++[[((aE dc1)+1),(5:Int),(0:Int),(0:Int),(0:Int),(aE dc1)],[((aE dc1)+2),(7:Int),(0:Int),(0:Int),(0:Int),(aE dc1)],[((aE dc1)+3),(6:Int),(0:Int),(0:Int),(900:Int),(aE dc1)]])) (aB sk0))=(bJ (30:Int) [] (aB dc1) (aB sk0))))=true)(h34:(dV (cK (30:Int) [] (aB dc1)) (aB dc1)).length≤1000)(h35:((dV (cK (30:Int) [] (aB dc1)) (aB dc1)).contains y4)=false)(h36:(bJ (30:Int) [] (aB (dU dc1 y4)) (aB sk0)).length≤1000)(h37:(decide ((bJ (30:Int) [] (aB (dU dc1 y4)) (aB sk0))=(bJ (30:Int) [] (aB dc1) (aB sk0))))=true)(h38:∀ {base:Nat},FV Tp 26 [] base (pB true) []){base:Nat}:FV Tp 7 [(.p (.sl l1.length (l1.map aO))),(.p (.v (.int .u8 wh)))] base (pB true) []:=by
 exact FV.fin Tryz.func7 rfl (o:=[.c (.ptr 0 0) [(0,(.box 129 [(.p (.sl l1.length (l1.map aO))),(pI 0),(.p (.v (.int .u32 (17:Int))))]))],.c (.p (.agg (bP 30 sk0 dc1))) [(0,(.box 129 [(.p (.sl l1.length (l1.map aO))),(pI m2),(.p (.v (.int .u32 t3)))]))],.c (.tup [(.own 2),(pI 0)]) [(2,(.row 48 ((bJ (30:Int) [] (aB dc1) (aB sk0)).length) ((bJ (30:Int) [] (aB dc1) (aB sk0)).flatten.map aA)))],.c (.tup [(.p (aH (dV (cK (30:Int) [] (aB dc1)) (aB dc1)))),(pI 0)]) [],bF,bF,bF,bF,bF,.c (pI (aE dc1)) [],.x (dcE y4 y5 y6 y7 y8 y9),.c (.p (dcE (aE dc1) 5 0 0 0 y4)) [],.c (.p (.agg (bP 30 sk0 (dc1++[[(aE dc1),(5:Int),(0:Int),(0:Int),(0:Int),y4]])))) [(13,.dead)],.c (.tup [(.own 22),(pI 0)]) [(22,(.row 48 ((bJ (30:Int) [] (aB (dc1++[[(aE dc1),(5:Int),(0:Int),(0:Int),(0:Int),y4]])) (aB sk0)).length) ((bJ (30:Int) [] (aB (dc1++[[(aE dc1),(5:Int),(0:Int),(0:Int),(0:Int),y4]])) (aB sk0)).flatten.map aA)))],.c (.p (.agg (bP 30 sk0 (dU dc1 y4)))) [],.c (.tup [(.own 23),(pI 0)]) [(23,(.row 48 ((bJ (30:Int) [] (aB (dU dc1 y4)) (aB sk0)).length) ((bJ (30:Int) [] (aB (dU dc1 y4)) (aB sk0)).flatten.map aA)))],.c (.p (dcE ((aE dc1)+1) 5 0 0 0 (aE dc1))) [],.c (.p (dcE (aE dc1) 5 0 0 0 y4)) [],.c (.p (.agg (bP 30 sk0 (dc1++[[((aE dc1)+1),(5:Int),(0:Int),(0:Int),(0:Int),(aE dc1)],[(aE dc1),(5:Int),(0:Int),(0:Int),(0:Int),y4]])))) [(40,.dead)],.c (.tup [(.own 49),(pI 0)]) [(49,(.row 48 ((bJ (30:Int) [] (aB (dc1++[[((aE dc1)+1),(5:Int),(0:Int),(0:Int),(0:Int),(aE dc1)],[(aE dc1),(5:Int),(0:Int),(0:Int),(0:Int),y4]])) (aB sk0)).length) ((bJ (30:Int) [] (aB (dc1++[[((aE dc1)+1),(5:Int),(0:Int),(0:Int),(0:Int),(aE dc1)],[(aE dc1),(5:Int),(0:Int),(0:Int),(0:Int),y4]])) (aB sk0)).flatten.map aA)))],.c (.p (dcE ((aE dc1)+1) 5 0 0 0 (aE dc1))) [],.c (.p (dcE ((aE dc1)+2) 7 0 0 0 (aE dc1))) [],.c (.p (dcE ((aE dc1)+3) 6 0 0 900 (aE dc1))) [],.c (.p (.agg (bP 30 sk0 (dc1++[[((aE dc1)+1),(5:Int),(0:Int),(0:Int),(0:Int),(aE dc1)],[((aE dc1)+2),(7:Int),(0:Int),(0:Int),(0:Int),(aE dc1)],[((aE dc1)+3),(6:Int),(0:Int),(0:Int),(900:Int),(aE dc1)]])))) [(74,.dead)],.c (.tup [(.own 83),(pI 0)]) [(83,(.row 48 ((bJ (30:Int) [] (aB (dc1++[[((aE dc1)+1),(5:Int),(0:Int),(0:Int),(0:Int),(aE dc1)],[((aE dc1)+2),(7:Int),(0:Int),(0:Int),(0:Int),(aE dc1)],[((aE dc1)+3),(6:Int),(0:Int),(0:Int),(900:Int),(aE dc1)]])) (aB sk0)).length) ((bJ (30:Int) [] (aB (dc1++[[((aE dc1)+1),(5:Int),(0:Int),(0:Int),(0:Int),(aE dc1)],[((aE dc1)+2),(7:Int),(0:Int),(0:Int),(0:Int),(aE dc1)],[((aE dc1)+3),(6:Int),(0:Int),(0:Int),(900:Int),(aE dc1)]])) (aB sk0)).flatten.map aA)))],.g 2 ⟨[60,83,102],[0,1,4],[2,22,23,49,83],[]⟩,bF,bF,bF,bF,bF,bF,bF,bF,bF,bF,bF,bF,.c (pB (decide ((bJ (30:Int) [] (aB (dc1++[[(aE dc1),(5:Int),(0:Int),(0:Int),(0:Int),y4]])) (aB sk0))=(bJ (30:Int) [] (aB (dU dc1 y4)) (aB sk0))))) [],bF,bF,bF,bF,bF,.c (pB (decide ((bJ (30:Int) [] (aB (dc1++[[((aE dc1)+1),(5:Int),(0:Int),(0:Int),(0:Int),(aE dc1)],[(aE dc1),(5:Int),(0:Int),(0:Int),(0:Int),y4]])) (aB sk0))=(bJ (30:Int) [] (aB dc1) (aB sk0))))) [],bF,bF,bF,bF,bF,.c (pB (decide ((bJ (30:Int) [] (aB (dc1++[[((aE dc1)+1),(5:Int),(0:Int),(0:Int),(0:Int),(aE dc1)],[((aE dc1)+2),(7:Int),(0:Int),(0:Int),(0:Int),(aE dc1)],[((aE dc1)+3),(6:Int),(0:Int),(0:Int),(900:Int),(aE dc1)]])) (aB sk0))=(bJ (30:Int) [] (aB dc1) (aB sk0))))) [],bF,bF,bF,.c (pB ((dV (cK (30:Int) [] (aB dc1)) (aB dc1)).contains y4)) [],bF,.c (pB (decide ((bJ (30:Int) [] (aB (dU dc1 y4)) (aB sk0))=(bJ (30:Int) [] (aB dc1) (aB sk0))))) [],bT,.c (pB true) [],bT]) (l:=[_,FC Tp 26 [] [] 3 (pB true) [],_,_,_,_,_,_,_,_,_,_,_,_,_,_,_,_,_,_,_,_,_,_,_,_,_,_,_,_,_,_,_,_,_,FC Tp 24 [(.p (.agg (bP 30 sk0 dc1))),(.own 74)] [(74,(.row 44 3 [(aA ((aE dc1)+1)),(aA 5),(aA 0),(aA 0),(aA 0),(aA (aE dc1)),(aA ((aE dc1)+2)),(aA 7),(aA 0),(aA 0),(aA 0),(aA (aE dc1)),(aA ((aE dc1)+3)),(aA 6),(aA 0),(aA 0),(aA 900),(aA (aE dc1))]))] 75 (.p (.agg (bP 30 sk0 (dc1++[[((aE dc1)+1),(5:Int),(0:Int),(0:Int),(0:Int),(aE dc1)],[((aE dc1)+2),(7:Int),(0:Int),(0:Int),(0:Int),(aE dc1)],[((aE dc1)+3),(6:Int),(0:Int),(0:Int),(900:Int),(aE dc1)]])))) [(74,.dead)],_,_,_,_,_,_,_,FC Tp 24 [(.p (.agg (bP 30 sk0 dc1))),(.own 40)] [(40,(.row 44 2 [(aA ((aE dc1)+1)),(aA 5),(aA 0),(aA 0),(aA 0),(aA (aE dc1)),(aA (aE dc1)),(aA 5),(aA 0),(aA 0),(aA 0),(aA y4)]))] 41 (.p (.agg (bP 30 sk0 (dc1++[[((aE dc1)+1),(5:Int),(0:Int),(0:Int),(0:Int),(aE dc1)],[(aE dc1),(5:Int),(0:Int),(0:Int),(0:Int),y4]])))) [(40,.dead)],_,_,_,_,_,_,FC Tp 24 [(.p (.agg (bP 30 sk0 dc1))),(.own 13)] [(13,(.row 44 1 [(aA (aE dc1)),(aA 5),(aA 0),(aA 0),(aA 0),(aA y4)]))] 14 (.p (.agg (bP 30 sk0 (dc1++[[(aE dc1),(5:Int),(0:Int),(0:Int),(0:Int),y4]])))) [(13,.dead)],[(aA (aE dc1)),(aA 5),(aA 0),(aA 0),(aA 0),(aA y4)].length=6,_,_,_,0≤(wh.tmod (dc1.length:Int))∧(wh.tmod (dc1.length:Int))<(dc1.length:Int)∧((wh.tmod (dc1.length:Int)).toNat*6)<(dc1.flatten.map aA).length,_,_,_,_,_,_,_,_,FC Tp 48 [(.p (.agg (bP 30 sk0 dc1)))] [] 3 (.tup [(.p (aH (dV (cK (30:Int) [] (aB dc1)) (aB dc1)))),(pI 0)]) [],_,FC Tp 16 [(.ptr 0 0),(pI 6),(pI 16)] [(0,(.box 129 [(.p (.sl l1.length (l1.map aO))),(pI 0),(.p (.v (.int .u32 (17:Int))))]))] 1 (.p (.agg (bP 30 sk0 dc1))) [(0,(.box 129 [(.p (.sl l1.length (l1.map aO))),(pI m2),(.p (.v (.int .u32 t3)))]))],FC Tp 17 [(.p (.sl l1.length (l1.map aO)))] [] 0 (.ptr 0 0) [(0,(.box 129 [(.p (.sl l1.length (l1.map aO))),(pI 0),(.p (.v (.int .u32 (17:Int))))]))]]) (by kernel_rfl) (gc h37 (gc (FV.fc h38 (by kernel_rfl)) (gc h37 (gc (fk 3 (qT (bJ (30:Int) [] (aB (dU dc1 y4)) (aB sk0)) (bJ (30:Int) [] (aB dc1) (aB sk0)) h24 h28 h36) rfl) (gc h35 (gc (fk 3 (bCc (dV (cK (30:Int) [] (aB dc1)) (aB dc1)) y4 h34) rfl) (gc (aX h33) (g2c (aX h30) (gc (fk 3 (qT (bJ (30:Int) [] (aB (dc1++[[((aE dc1)+1),(5:Int),(0:Int),(0:Int),(0:Int),(aE dc1)],[((aE dc1)+2),(7:Int),(0:Int),(0:Int),(0:Int),(aE dc1)],[((aE dc1)+3),(6:Int),(0:Int),(0:Int),(900:Int),(aE dc1)]])) (aB sk0)) (bJ (30:Int) [] (aB dc1) (aB sk0)) h31 h28 h32) rfl) (g3c (aX h30) (g2c (aX h26) (gc (fk 3 (qT (bJ (30:Int) [] (aB (dc1++[[((aE dc1)+1),(5:Int),(0:Int),(0:Int),(0:Int),(aE dc1)],[(aE dc1),(5:Int),(0:Int),(0:Int),(0:Int),y4]])) (aB sk0)) (bJ (30:Int) [] (aB dc1) (aB sk0)) h27 h28 h29) rfl) (g3c (aX h26) (g2c oQ (gc (fk 3 (qT (bJ (30:Int) [] (aB (dc1++[[(aE dc1),(5:Int),(0:Int),(0:Int),(0:Int),y4]])) (aB sk0)) (bJ (30:Int) [] (aB (dU dc1 y4)) (aB sk0)) h23 h24 h25) rfl) (g8c oQ (g4c oQ (gc (fk 83 (kU h22 h5) rfl) (gc (FV.close (ids:=[74]) (args':=[(.p (.agg (bP 30 sk0 dc1))),(.p (.sl 3 [(aA ((aE dc1)+1)),(aA 5),(aA 0),(aA 0),(aA 0),(aA (aE dc1)),(aA ((aE dc1)+2)),(aA 7),(aA 0),(aA 0),(aA 0),(aA (aE dc1)),(aA ((aE dc1)+3)),(aA 6),(aA 0),(aA 0),(aA 900),(aA (aE dc1))]))]) (wB (30:Int) sk0 dc1 [[((aE dc1)+1),(5:Int),(0:Int),(0:Int),(0:Int),(aE dc1)],[((aE dc1)+2),(7:Int),(0:Int),(0:Int),(0:Int),(aE dc1)],[((aE dc1)+3),(6:Int),(0:Int),(0:Int),(900:Int),(aE dc1)]] h14 h15 h7 h8 (wA rfl) (by simp)) (by kernel_rfl)) (gc (fk 66 (kT ((aE dc1)+3) (6:Int) (aE dc1) (0:Int) (900:Int)) rfl) (gc h21 (gc (fk 58 (kT ((aE dc1)+2) (7:Int) (aE dc1) (0:Int) (0:Int)) rfl) (gc h20 (gc (fk 50 (kT ((aE dc1)+1) (5:Int) (aE dc1) (0:Int) (0:Int)) rfl) (gc h18 (gc (fk 49 (kU h19 h5) rfl) (gc (FV.close (ids:=[40]) (args':=[(.p (.agg (bP 30 sk0 dc1))),(.p (.sl 2 [(aA ((aE dc1)+1)),(aA 5),(aA 0),(aA 0),(aA 0),(aA (aE dc1)),(aA (aE dc1)),(aA 5),(aA 0),(aA 0),(aA 0),(aA y4)]))]) (wB (30:Int) sk0 dc1 [[((aE dc1)+1),(5:Int),(0:Int),(0:Int),(0:Int),(aE dc1)],[(aE dc1),(5:Int),(0:Int),(0:Int),(0:Int),y4]] h14 h15 h7 h8 (wA rfl) (by simp)) (by kernel_rfl)) (gc (fk 32 (kT (aE dc1) (5:Int) y4 (0:Int) (0:Int)) rfl) (gc (fk 24 (kT ((aE dc1)+1) (5:Int) (aE dc1) (0:Int) (0:Int)) rfl) (gc h18 (gc (fk 23 (kU h17 h5) rfl) (gc (fk 23 (aRo (30:Int) sk0 dc1 y4 h14 h15 h7 h8) rfl) (gc (fk 22 (kU h16 h5) rfl) (gc (FV.close (ids:=[13]) (args':=[(.p (.agg (bP 30 sk0 dc1))),(.p (.sl 1 [(aA (aE dc1)),(aA 5),(aA 0),(aA 0),(aA 0),(aA y4)]))]) (wB (30:Int) sk0 dc1 [[(aE dc1),(5:Int),(0:Int),(0:Int),(0:Int),y4]] h14 h15 h7 h8 (wA rfl) (by simp)) (by kernel_rfl)) (gc (by first | decide | simp) (gc (fk 5 (kT (aE dc1) (5:Int) y4 (0:Int) (0:Int)) rfl) (gc (aV (i:=(wh.tmod (dc1.length:Int)).toNat) h7 h12) (gc (bG (i:=(wh.tmod (dc1.length:Int)).toNat) h7 h12) (gc (bZ (k:=6) (i:=(wh.tmod (dc1.length:Int))) (by decide) h7 h13 h12) (gc h11 (gc h10 (gc (fk 3 (bCd (30:Int) sk0 dc1 h7 h8 h9) rfl) (gc (bR h6) (g4c oQ (gc (FV.fc (aQp h4) rfl) (gc (fk 2 (kU h4 h5) rfl) (gc (FMM.fc (ids:=[0]) (aNr (6:Int) (16:Int) l1 (0:Int) (17:Int) h0 h1 h2 h3) (by kernel_rfl)) (gc (FMM.fc (ids:=[]) (ofO l1) (by kernel_rfl)) gn))))))))))))))))))))))))))))))))))))))))))))))))
end
section

end
section

theorem bO.sub{dl:Int}{sk dc sk' dc' r:Lqq}(h:bO dl sk dc)(hs:sk'.Perm sk)(hd:(dc'++r).Perm dc):bO dl sk' dc':=by
 have hm:∀ x∈dc',x∈dc:=fun x hx=>hd.mem_iff.1 (gV.2 (.inl hx))
 have hl:=hd.length_eq;rw [lO] at hl
 have hc:∀ n,(aL sk' 0).contains n=(aL sk 0).contains n:=fun n=>by
  rw [Bool.eq_iff_iff,List.contains_iff_mem,List.contains_iff_mem];exact (hs.map fun x=>x.getD 0 0).mem_iff
 have hnd:(aL dc' 0).Nodup:=by
  have h1:=(hd.map fun x:List Int=>x.getD 0 0).nodup_iff.2 h.nd
  rw [iB] at h1
  exact (List.nodup_append.1 h1).1
 have hl2:=h.len2;exact ⟨fun x hx=>h.us x (hs.mem_iff.1 hx),fun x hx=>h.ud x (hm x hx),by rw [hs.length_eq];exact h.len,by omega,h.hdl,fun x hx=>h.hsk x (hs.mem_iff.1 hx),fun x hx=>h.hdc x (hm x hx),
  (hs.map fun x:List Int=>x.getD 0 0).nodup_iff.2 h.ns,hnd,fun x hx=>by
   have:=h.inb x (hm x hx);unfold inB at this ⊢
   rw [hc];exact this,fun x hx=>h.ord x (hm x hx)⟩
section
variable {dl:Int} {oc:List Int} {sk dc:Lqq}
end
end
section
section
variable {dl:Int} {oc:List Int} {D:Lqq} {x:List Int}
theorem vK{α β:Type}(f g:β→α→β):∀ (l:List α) (b:β),(∀ x∈l,∀ b,f b x=g b x)→l.foldl f b=l.foldl g b
 | [],_,_=>rfl
 | x::l,b,h=>by
  rw [uM,uM,h x (iZ ..),vK f g l _ fun y hy=>h y (kQ6 _ hy)]
end
theorem aQs{l:Lqq}{x:List Int}(hn:(aL (l++[x]) 0).Nodup)(h:∀ y∈l,y.getD 0 0≤x.getD 0 0):aB (l++[x])=aB l++[x]:=by
 refine (oS hn ((dJ l).append_right [x]) ?_).symm;rw [List.pairwise_append];refine ⟨jL l,List.pairwise_singleton _ _,fun a ha b hb => ?_⟩
 rw [List.mem_singleton.1 hb];exact h a ((dJ l).mem_iff.1 ha)
end
section
section
variable {dl:Int} {oc:List Int} {D:Lqq} {x:List Int}
end
theorem bO.more{dl:Int}{sk dc:Lqq}{x:List Int}(h:bO dl sk dc)(hl:dc.length<40)(h6:x.length=6)(h1:dcB x=true)(h2:inB sk x=true)(h3:orB x=true)(hn:∀ y∈dc,y.getD 0 0≠x.getD 0 0):bO dl sk (dc++[x]):=by
 have mem:∀ {p:List Int→Prop},(∀ y∈dc,p y)→p x→∀ y∈dc++[x],p y:=fun h hx y hy=>by
  rcases gV.1 hy with hy | hy
  ·exact h y hy
  ·rw [List.mem_singleton.1 hy];exact hx
 refine ⟨h.us,mem h.ud h6,h.len,by simp;omega,h.hdl,h.hsk,mem h.hdc h1,h.ns,?_,mem h.inb h2,mem h.ord h3⟩
 unfold aL;rw [iB,List.nodup_append];refine ⟨h.nd,by simp,fun a ha b hb => ?_⟩
 obtain ⟨y,hy,rfl⟩:=eQ.1 ha;obtain rfl:b=x.getD 0 0:=by simpa using hb
 exact hn y hy
end
section
theorem rP{α:Type}{p q:α→Bool}:∀ {l:List α},(∀ s∈l,p s=false→q s=false)→(l.filter p).find? q=l.find? q
 | [],_=>rfl
 | a::l,h=>by
  have ih:=rP (p:=p) (q:=q) (l:=l) fun s hs=>h s (kQ6 _ hs)
  cases hp:p a with
  | true=>rw [List.filter_cons_of_pos hp,List.find?_cons,List.find?_cons,ih]
  | false=>rw [List.filter_cons_of_neg (by rw [hp];exact Bool.false_ne_true),List.find?_cons_of_neg (by rw [h a (iZ ..) hp];exact Bool.false_ne_true),ih]
theorem aLm{α:Type}{p q:α→Bool}:∀ {l:List α},(∀ s∈l,p s=false→q s=false)→(l.filter p).any q=l.any q
 | [],_=>rfl
 | a::l,h=>by
  have ih:=aLm (p:=p) (q:=q) (l:=l) fun s hs=>h s (kQ6 _ hs)
  cases hp:p a with
  | true=>rw [List.filter_cons_of_pos hp,List.any_cons,List.any_cons,ih]
  | false=>rw [List.filter_cons_of_neg (by rw [hp];exact Bool.false_ne_true),List.any_cons,h a (iZ ..) hp,ih,Bool.false_or]
theorem aCh{α β:Type}{p:α→Bool}(f:β→α→β):∀ (l:List α) (b:β),(∀ x∈l,p x=false→∀ b,f b x=b)→(l.filter p).foldl f b=l.foldl f b
 | [],_,_=>rfl
 | a::l,b,h=>by
  have ih:=fun b=>aCh (p:=p) f l b fun s hs=>h s (kQ6 _ hs)
  cases hp:p a with
  | true=>rw [List.filter_cons_of_pos hp,uM,uM,ih]
  | false=>rw [List.filter_cons_of_neg (by rw [hp];exact Bool.false_ne_true),uM,h a (iZ ..) hp,ih]
section
variable {dl:Int} {oc:List Int} {R:List Int→Bool}
theorem bFr{y:List Int}{t:List DS}(h:∀ s∈t,R s.x=true→s.cnt=false∨dAb s.x≠dN y):mkS dl oc y (t.filter fun s => !R s.x)=mkS dl oc y t:=by
 have e:gC (t.filter fun s => !R s.x) (dN y)=(gC t (dN y)).filter fun s => !R s.x:=by
  unfold gC;rw [← List.filter_reverse,List.filter_filter,List.filter_filter];exact List.filter_congr fun s _=>Bool.and_comm _ _
 have k:∀ s∈gC t (dN y),(!R s.x)=false→s.cnt=false:=fun s hs hr=>by
  unfold gC at hs
  obtain ⟨h1,h2⟩:=aAt.1 hs
  rcases h s (yF.1 h1) (by simpa using hr) with q | q
  ·exact q
  ·exact absurd (by simpa using h2) q
 unfold mkS;rw [e,aLm fun s hs hr=>by unfold aBl;rw [k s hs hr,Bool.and_false,Bool.false_and],rP fun s hs hr=>by rw [k s hs hr,Bool.and_false],rP fun s hs hr=>by rw [k s hs hr,Bool.and_false]]
theorem aFh:∀ {L:Lqq},(∀ s∈eB dl oc L,R s.x=true→s.cnt=false∨∀ y∈L,R y=false→dAb s.x≠dN y)→eB dl oc (L.filter fun x => !R x)=(eB dl oc L).filter fun s => !R s.x
 | [],_=>rfl
 | y::r,h=>by
  have ih:=aFh (L:=r) fun s hs hr=>(h s (kQ6 _ hs) hr).imp_right fun q z hz=>q z (kQ6 _ hz)
  cases hy:R y with
  | true =>
   have e:(mkS dl oc y (eB dl oc r)).x=y:=rfl;rw [List.filter_cons_of_neg (by rw [hy];exact Bool.false_ne_true),eB,List.filter_cons_of_neg (by rw [e,hy];exact Bool.false_ne_true),ih]
  | false =>
   have e:(mkS dl oc y (eB dl oc r)).x=y:=rfl;rw [List.filter_cons_of_pos (by rw [hy];rfl),eB,eB,List.filter_cons_of_pos (by rw [e,hy];rfl),ih,bFr fun s hs hr=>(h s (kQ6 _ hs) hr).imp_right fun q=>q y (iZ ..) hy]
theorem bFs{L:Lqq}(h:∀ s∈eB dl oc L,R s.x=true→s.cnt=false∨∀ y∈L,R y=false→dAb s.x≠dN y){y:List Int}(hy:R y=false):stF dl oc (L.filter fun x => !R x) y=stF dl oc L y:=by
 unfold stF;rw [aFh h,rP fun s _ hr=>by
  cases he:s.x == y with
  | false=>rfl
  | true =>
   have:s.x=y:=by simpa using he
   rw [this,hy] at hr;cases hr]
theorem bAl{L:Lqq}(hn:L.Nodup)(h:∀ s∈eB dl oc L,R s.x=true→s.cnt=false∨(4<dK s.x∧∀ y∈L,R y=false→dAb s.x≠dN y))(b t:Int):aWa dl oc (L.filter fun x => !R x) b t=aWa dl oc L b t:=by
 have h':∀ s∈eB dl oc L,R s.x=true→s.cnt=false∨∀ y∈L,R y=false→dAb s.x≠dN y:=fun s hs hr=>(h s hs hr).imp_right And.right
 unfold aWa;have e1:(L.filter fun x => !R x).foldl (aGt dl oc (L.filter fun x => !R x) b) (t == -1,t)=(L.filter fun x => !R x).foldl (aGt dl oc L b) (t == -1,t):=vK _ _ _ _ fun y hy a=>by
  have hy2:R y=false:=by simpa using (aAt.1 hy).2
  unfold aGt aOj cK aCx qO;rw [bFs h' hy2]
 rw [e1];refine aCh _ L _ fun x hx hr a => ?_
 have hr:R x=true:=by simpa using hr
 unfold aGt;rw [if_neg];rw [← aBm dl oc L] at hx
 obtain ⟨s,hs,hsx⟩:=eQ.1 hx;unfold aOj
 rcases h s hs (by rw [hsx];exact hr) with q | ⟨q,_⟩
 ·have hst:(stF dl oc L x).x=x∧stF dl oc L x∈eB dl oc L:=by
   unfold stF;have:((eB dl oc L).find? fun s=>s.x == x).isSome=true:=by
    rw [List.find?_isSome];exact ⟨s,hs,by rw [hsx];exact beq_self_eq_true x⟩
   obtain ⟨u,hu⟩:=Option.isSome_iff_exists.1 this;rw [hu];exact ⟨by simpa using aNl hu,uJ hu⟩
  have hnx:((eB dl oc L).map (·.x)).Nodup:=by rw [aBm];exact hn
  have he:stF dl oc L x=s:=by
   have:=List.pairwise_map.1 hnx
   rcases List.mem_iff_getElem.1 hst.2 with ⟨i,hi,hi2⟩
   rcases List.mem_iff_getElem.1 hs with ⟨j,hj,hj2⟩
   have hij:i=j:=by
    rcases Nat.lt_trichotomy i j with q | q | q
    ·exact absurd (by rw [hi2,hj2,hst.1,hsx]) (List.pairwise_iff_getElem.1 this i j hi hj q)
    ·exact q
    ·exact absurd (by rw [hi2,hj2,hst.1,hsx]) (List.pairwise_iff_getElem.1 this j i hj hi q)
   subst hij;rw [← hi2,hj2]
  unfold cK;rw [he,q];simp
 ·rw [decide_eq_false (by rw [← hsx];exact Int.not_le.2 q)]
  simp
theorem wX{L sk:Lqq}(hn:L.Nodup)(h:∀ s∈eB dl oc L,R s.x=true→s.cnt=false∨(4<dK s.x∧∀ y∈L,R y=false→dAb s.x≠dN y)):bJ dl oc (L.filter fun x => !R x) sk=bJ dl oc L sk:=by
 unfold bJ pM lX kB;simp only [bAl hn h]
theorem aLn{c:List Int}:∀ (D:Lqq),mkS dl oc c []∈eB dl oc (D++[c])
 | []=>iZ ..
 | y::D=>by
  rw [List.cons_append,eB];exact kQ6 _ (aLn D)
theorem pC{c:List Int}(hk:dK c=5)(hc:dAb c≠dN c):∀ {D:Lqq} {s:DS},s∈eB dl oc (D++[c])→dN s.x=dAb c→s.cnt=false
 | [],s,hs,h=>by
  have:s=mkS dl oc c []:=by simpa [eB] using hs
  subst this;exact absurd h.symm hc
 | y::D,s,hs,h=>by
  rw [List.cons_append,eB] at hs
  rcases fB.1 hs with rfl | hs
  ·have h:dN y=dAb c:=h
   have ha:fU (dK c)=false:=by rw [hk];rfl
   have hcnt:(mkS dl oc c []).cnt=true:=by
    show (!kO dl c && !(([]:List DS).reverse.filter _).any _)=true;unfold kO;rw [ha];rfl
   have:(gC (eB dl oc (D++[c])) (dN y)).any (aBl y)=true:=by
    rw [List.any_eq_true];refine ⟨mkS dl oc c [],?_,?_⟩
    ·unfold gC
     refine aAt.2 ⟨yF.2 (aLn D),?_⟩;show (dAb c == dN y)=true;rw [h];exact beq_self_eq_true _
    ·unfold aBl sC
     rw [hcnt];show ((dK c == 5 || _) && true && (dK c == 5 || _))=true
     rw [hk];rfl
   show (!kO dl y && !((gC (eB dl oc (D++[c])) (dN y)).any (aBl y)))=false;rw [this,Bool.not_true,Bool.and_false]
  ·exact pC hk hc hs h
end
theorem aFi{l e e':Lqq}(hn:(aL (l++e) 0).Nodup)(hp:e'.Perm e)(hs:e'.Pairwise fun a b=>a.getD 0 0≤b.getD 0 0)(h:∀ y∈l,∀ z∈e',y.getD 0 0≤z.getD 0 0):aB (l++e)=aB l++e':=by
 refine (oS hn ((dJ l).append hp) ?_).symm;rw [List.pairwise_append];exact ⟨jL l,hs,fun a ha b hb=>h a ((dJ l).mem_iff.1 ha) b hb⟩
theorem aQq{l:Lqq}{p:List Int→Bool}(hn:(aL l 0).Nodup):aB (l.filter p)=(aB l).filter p:=by
 refine (oS ?_ ((dJ l).filter p) ((jL l).sublist List.filter_sublist)).symm;unfold aL at *
 exact hn.sublist (List.filter_sublist.map _)
theorem bO.drop{dl:Int}{sk dc:Lqq}(h:bO dl sk dc)(num:Int):bO dl sk (dU dc num):=h.sub (List.Perm.refl _) (r:=dc.filter fun x => !(!(x.getD 0 0 == num))) (List.filter_append_perm _ _)
theorem bO.about{dl:Int}{sk dc:Lqq}{n k a m:Int}(h:bO dl sk dc)(hl:dc.length<40)(h1:1≤n∧n≤9999)(h2:5≤k∧k≤9)(h3:m=0∨(k=6∧0≤m∧m≤36000))(h4:1≤a∧a<n)(hn:∀ y∈dc,y.getD 0 0≠n):bO dl sk (dc++[[n,k,0,0,m,a]]):=by
 refine h.more hl rfl (gW.2 ?_) ?_ ?_ hn
 ·show (1≤n∧n≤9999)∧(0≤k∧k≤9)∧((0:Int)≤0∧(0:Int)≤10000)∧0≤m∧m≤jQ k
  have hm:0≤jQ k:=by unfold jQ;split <;> omega
  refine ⟨h1,by omega,by omega,?_⟩
  rcases h3 with rfl | ⟨rfl,q⟩
  ·exact ⟨by omega,hm⟩
  ·exact q
 ·show (if k≤4 then _ else ((0:Int) == 0))=true
  rw [if_neg (by omega)];rfl
 ·show (if k≤4 then _ else within a 1 (n-1))=true
  rw [if_neg (by omega)]
  exact cN.2 (by omega)
theorem cE.nodup{D:Lqq}(h:cE D):D.Nodup:=h.up.imp fun {a b} q e=>by rw [e] at q;exact absurd q (Int.lt_irrefl _)
theorem aQr{dl:Int}{oc:List Int}{L:Lqq}{s:DS}(h:s∈eB dl oc L):s.x∈L:=by
 have:s.x∈(eB dl oc L).map (·.x):=eQ.2 ⟨s,h,rfl⟩
 rwa [aBm] at this
theorem aLo{dl:Int}{oc:List Int}{D E sk:Lqq}{n:Int}(hd:cE (D++E))(hD:∀ y∈D,dN y<n)(hE:∀ z∈E,n≤dN z)(h:∀ s∈eB dl oc (D++E),s.x∈E→s.cnt=false∨(4<dK s.x∧n≤dAb s.x)):bJ dl oc (D++E) sk=bJ dl oc D sk:=by
 have e:(D++E).filter (fun y => !(decide (n≤dN y)))=D:=by
  rw [oJ,List.filter_eq_self.2 fun y hy=>by rw [decide_eq_false (Int.not_le.2 (hD y hy))];rfl,List.filter_eq_nil_iff.2 fun z hz=>by rw [decide_eq_true (hE z hz)];exact Bool.false_ne_true,List.append_nil]
 have key:=wX (dl:=dl) (oc:=oc) (R:=fun y=>decide (n≤dN y)) (L:=D++E) (sk:=sk) hd.nodup fun s hs hr=>by
  have hr:n≤dN s.x:=of_decide_eq_true hr;have hx:s.x∈E:=by
   rcases gV.1 (aQr hs) with q | q
   ·have:=hD _ q;omega
   ·exact q
  refine (h s hs hx).imp_right fun q=>⟨q.1,fun y _ hy e => ?_⟩
  have hy:¬ n≤dN y:=of_decide_eq_false hy;have:=q.2;omega
 rw [e] at key
 exact key.symm
theorem aLp{dl:Int}{oc:List Int}{D sk:Lqq}{n a:Int}(hd:cE (D++[[n,5,0,0,0,a]]))(hD:∀ y∈D,dN y<n)(ha:a<n):bJ dl oc (D++[[n,5,0,0,0,a]]) sk=bJ dl oc (D.filter fun y => !(dN y == a)) sk:=by
 have e:(D++[[n,5,0,0,0,a]]).filter (fun y => !(dN y == a || dN y == n))=D.filter fun y => !(dN y == a):=by
  rw [oJ,List.filter_eq_nil_iff (l:=[[n,5,0,0,0,a]]) |>.2 fun z hz=>by rw [List.mem_singleton.1 hz];simp [dN],List.append_nil]
  refine List.filter_congr fun y hy => ?_
  have:=hD y hy;have:(dN y == n)=false:=by simp only [beq_eq_false_iff_ne,ne_eq];omega
  rw [this,Bool.or_false]
 have key:=wX (dl:=dl) (oc:=oc) (R:=fun y=>dN y == a || dN y == n) (L:=D++[[n,5,0,0,0,a]]) (sk:=sk) hd.nodup fun s hs hr=>by
  by_cases q:dN s.x=a
  ·exact .inl (pC (c:=[n,5,0,0,0,a]) rfl (by show a≠n;omega) hs q)
  ·have hr:dN s.x=n:=by
    have hr:(dN s.x == a || dN s.x == n)=true:=hr
    rw [aGi] at hr
    rcases hr with r | r
    ·exact absurd (by simpa using r) q
    ·simpa using r
   have hx:s.x=[n,5,0,0,0,a]:=by
    rcases gV.1 (aQr hs) with r | r
    ·have:=hD _ r;omega
    ·exact List.mem_singleton.1 r
   refine .inr ⟨by rw [hx];show (4:Int)<5;omega,fun y _ hy e => ?_⟩
   rw [hx] at e
   have e:a=dN y:=e;have hy:(dN y == a || dN y == n)=false:=hy
   rw [← e] at hy
   simp at hy
 rw [e] at key
 exact key.symm
theorem bAm{dl:Int}{oc:List Int}{D sk:Lqq}{a:Int}(hd:cE D)(h:(dV (cK dl oc D) D).contains a=false):bJ dl oc (D.filter fun y => !(dN y == a)) sk=bJ dl oc D sk:=by
 refine wX (R:=fun y=>dN y == a) hd.nodup fun s hs hr => .inl ?_
 have hr:dN s.x=a:=by simpa using hr
 obtain ⟨b,r,e,hm⟩:=aHb hs;have hst:stF dl oc D s.x=s:=by
  have:=xS (dl:=dl) (oc:=oc) (a:=b) (r:=r) (x:=s.x) (by rw [← e];exact hd)
  rw [← e] at this
  rw [this,← hm]
 cases hc:s.cnt with
 | false=>rfl
 | true =>
  have:(dV (cK dl oc D) D).contains a=true:=by
   rw [List.contains_iff_mem];unfold dV;exact eQ.2 ⟨s.x,aAt.2 ⟨aQr hs,by unfold cK;rw [hst];exact hc⟩,hr⟩
  rw [this] at h
  cases h
end
section
theorem aUu{q:List Int→Bool}{D:Lqq}:(dV q D).length≤D.length:=by
 unfold dV;rw [eP];exact vX ..
theorem bMm(hA:∀ {base:Nat},FV Tp 26 [] base (.p (blP true)) [])(l1:List Int)(wh:Int)(hw:0≤wh∧wh≤255){base:Nat}:FV Tp 7 [.p (.sl l1.length (l1.map aO)),.p (.v (.int .u8 wh))] base (.p (blP true)) []:=by
 have M:=aJy (ns:=6) (nd:=16) (l:=l1) (nx:=0) (st:=17) (by decide) (by decide) (by decide)
 rcases hmd:aNq 6 16 l1 0 17 with ⟨sk0,dc1,m2,t3⟩
 rw [hmd] at M
 obtain ⟨hr,hl6,hl16,_,_,_,hb,_,_⟩:=M;dsimp only at hr hl6 hl16 hb
 have hlen:=hr.len
 by_cases h0:(dc1.length:Int)=0
 ·exact bMn (by omega) (by omega) (by omega) hmd hr (by omega) h0 hA
 have ht:0≤wh.tmod (dc1.length:Int)∧wh.tmod (dc1.length:Int)<(dc1.length:Int):=⟨Int.tmod_nonneg _ hw.1,Int.tmod_lt_of_pos _ (by omega)⟩
 have hidx:(wh.tmod (dc1.length:Int)).toNat<dc1.length:=by omega
 have hm0:=iA hidx;obtain ⟨y4,y5,y6,y7,y8,y9,hy⟩:=len6 (hr.ud _ hm0);have hx:dc1[(wh.tmod (dc1.length:Int)).toNat]? = some [y4,y5,y6,y7,y8,y9]:=by rw [kQ0 hidx,hy]
 rw [hy] at hm0
 obtain ⟨hn1,hn2,hn3⟩:=aAz (dc:=dc1) (b:=80) (by omega) hb
 have hy4:1≤y4∧y4<aE dc1:=⟨(gW.1 (hr.hdc _ hm0)).1.1,hn3 _ hm0⟩;revert hn1 hn2 hn3 hy4;have p4 := @bMo l1 wh sk0 dc1 m2 t3 y4 y5 y6 y7 y8 y9;have p5 := @bMp l1 wh sk0 dc1 m2 t3 y4 y5 y6 y7 y8 y9;revert p4 p5;generalize aE dc1=n;intro p4 p5 hn1 hn2 hn3 hy4;have hD:=eZ hr;have hDn:∀ y∈aB dc1,dN y<n:=fun y hy=>hn3 y ((dJ dc1).mem_iff.1 hy)
 have fresh:∀ {m:Int},n≤m→∀ y∈dc1,y.getD 0 0≠m:=fun hm y hy=>by have:=hn3 y hy;omega
 have r1:bO 30 sk0 (dc1++[[n,5,0,0,0,y4]]):=hr.about (by omega) (by omega) (by omega) (.inl rfl) hy4 (fresh (uN _))
 have r2:bO 30 sk0 (dU dc1 y4):=hr.drop y4;have r3a:bO 30 sk0 (dc1++[[n+1,5,0,0,0,n]]):=hr.about (by omega) (by omega) (by omega) (.inl rfl) (by omega) (fresh (by omega))
 have r3:bO 30 sk0 (dc1++[[n+1,5,0,0,0,n],[n,5,0,0,0,y4]]):=by
  have:=r3a.about (n:=n) (k:=5) (a:=y4) (m:=0) (by simp;omega) (by omega) (by omega) (.inl rfl) hy4 fun y hy=>by
   rcases gV.1 hy with q | q
   ·exact fresh (uN _) y q
   ·rw [List.mem_singleton.1 q];show n+1≠n;omega
  rwa [List.append_assoc] at this
 have r4b:bO 30 sk0 (dc1++[[n+1,5,0,0,0,n]]++[[n+2,7,0,0,0,n]]):=r3a.about (by simp;omega) (by omega) (by omega) (.inl rfl) (by omega) fun y hy=>by
  rcases gV.1 hy with q | q
  ·exact fresh (by omega) y q
  ·rw [List.mem_singleton.1 q];show n+1≠n+2;omega
 have r4:bO 30 sk0 (dc1++[[n+1,5,0,0,0,n],[n+2,7,0,0,0,n],[n+3,6,0,0,900,n]]):=by
  have:=r4b.about (n:=n+3) (k:=6) (a:=n) (m:=900) (by simp;omega) (by omega) (by omega) (.inr (by omega)) (by omega) fun y hy=>by
   rcases gV.1 hy with q | q
   ·rcases gV.1 q with q | q
    ·exact fresh (by omega) y q
    ·rw [List.mem_singleton.1 q];show n+1≠n+3;omega
   ·rw [List.mem_singleton.1 q];show n+2≠n+3;omega
  rwa [List.append_assoc,List.append_assoc] at this
 have s1:aB (dc1++[[n,5,0,0,0,y4]])=aB dc1++[[n,5,0,0,0,y4]]:=aQs r1.nd fun y hy=>by
  have:=hn3 y hy;show y.getD 0 0≤n;omega
 have s2:aB (dU dc1 y4)=(aB dc1).filter fun y => !(dN y == y4):=aQq hr.nd
 have s3:aB (dc1++[[n+1,5,0,0,0,n],[n,5,0,0,0,y4]])=aB dc1++[[n,5,0,0,0,y4],[n+1,5,0,0,0,n]]:=aFi r3.nd (List.Perm.swap ..) (by
   refine bGj.2 ⟨fun z hz => ?_,List.pairwise_singleton _ _⟩
   rw [List.mem_singleton.1 hz];show n≤n+1;omega) fun y hy z hz=>by
  have:=hn3 y hy
  rcases fB.1 hz with rfl | hz
  ·show y.getD 0 0≤n;omega
  ·rw [List.mem_singleton.1 hz];show y.getD 0 0≤n+1;omega
 have s4:aB (dc1++[[n+1,5,0,0,0,n],[n+2,7,0,0,0,n],[n+3,6,0,0,900,n]])=aB dc1++[[n+1,5,0,0,0,n],[n+2,7,0,0,0,n],[n+3,6,0,0,900,n]]:=aFi r4.nd (List.Perm.refl _) (by
   refine bGj.2 ⟨fun z hz => ?_,bGj.2 ⟨fun z hz => ?_,List.pairwise_singleton _ _⟩⟩
   ·rcases fB.1 hz with rfl | hz
    ·show n+1≤n+2;omega
    ·rw [List.mem_singleton.1 hz];show n+1≤n+3;omega
   ·rw [List.mem_singleton.1 hz];show n+2≤n+3;omega) fun y hy z hz=>by
  have:=hn3 y hy
  rcases fB.1 hz with rfl | hz
  ·show y.getD 0 0≤n+1;omega
  rcases fB.1 hz with rfl | hz
  ·show y.getD 0 0≤n+2;omega
  ·rw [List.mem_singleton.1 hz];show y.getD 0 0≤n+3;omega
 have d1:=eZ r1;have d3:=eZ r3;have d4:=eZ r4;rw [s1] at d1
 rw [s3] at d3
 rw [s4] at d4
 have e1:bJ 30 [] (aB (dc1++[[n,5,0,0,0,y4]])) (aB sk0)=bJ 30 [] (aB (dU dc1 y4)) (aB sk0):=by
  rw [s1,s2];exact aLp d1 hDn hy4.2
 have e2:bJ 30 [] (aB (dc1++[[n+1,5,0,0,0,n],[n,5,0,0,0,y4]])) (aB sk0)=bJ 30 [] (aB dc1) (aB sk0):=by
  rw [s3];refine aLo (n:=n) d3 hDn (fun z hz => ?_) fun s hs hx => ?_
  ·rcases fB.1 hz with rfl | hz
   ·exact uN n
   ·rw [List.mem_singleton.1 hz];show n≤n+1;omega
  ·rcases fB.1 hx with q | q
   ·refine .inl (pC (c:=[n+1,5,0,0,0,n]) (D:=aB dc1++[[n,5,0,0,0,y4]]) rfl (by show n≠n+1;omega) (by rw [List.append_assoc];exact hs) ?_)
    rw [q];rfl
   ·have q:=List.mem_singleton.1 q
    rw [q];exact .inr ⟨by show (4:Int)<5;omega,uN n⟩
 have e3:bJ 30 [] (aB (dc1++[[n+1,5,0,0,0,n],[n+2,7,0,0,0,n],[n+3,6,0,0,900,n]])) (aB sk0)=bJ 30 [] (aB dc1) (aB sk0):=by
  rw [s4];refine aLo (n:=n) d4 hDn (fun z hz => ?_) fun s hs hx => .inr ?_
  ·rcases fB.1 hz with rfl | hz
   ·show n≤n+1;omega
   rcases fB.1 hz with rfl | hz
   ·show n≤n+2;omega
   ·rw [List.mem_singleton.1 hz];show n≤n+3;omega
  ·rcases fB.1 hx with q | q
   ·rw [q];exact ⟨by show (4:Int)<5;omega,uN n⟩
   rcases fB.1 q with q | q
   ·rw [q];exact ⟨by show (4:Int)<7;omega,uN n⟩
   ·have q:=List.mem_singleton.1 q
    rw [q];exact ⟨by show (4:Int)<6;omega,uN n⟩
 have hlen2:∀ {q:Lqq},(bJ 30 [] q (aB sk0)).length≤1000:=fun {q}=>by rw [bFo,fY];omega
 have hwl:(dV (cK 30 [] (aB dc1)) (aB dc1)).length≤1000:=by
  have:=aUu (q:=cK 30 [] (aB dc1)) (D:=aB dc1);rw [fY] at this
  omega
 have hin:∀ {z:Int},0≤z∧z≤9999→inR z:=fun h=>by unfold inR;omega
 cases hc:(dV (cK 30 [] (aB dc1)) (aB dc1)).contains y4 with
 | true =>
  exact p4 (by omega) (by omega) (by omega) hmd hr (by omega) h0 hr.ud (by omega) (fun x hx=>by have:=hb x hx;omega) (hin (by omega)) h0 hx ht.1 hr.us (by omega) r1 r2 (hin (by omega)) r3 (hin (by omega)) (hin (by omega)) r4 iJ iJ hlen2 (decide_eq_true e1) iJ iJ hlen2 (decide_eq_true e2) iJ hlen2 (decide_eq_true e3) hwl hc hA
 | false =>
  have e4:bJ 30 [] (aB (dU dc1 y4)) (aB sk0)=bJ 30 [] (aB dc1) (aB sk0):=by
   rw [s2];exact bAm hD hc
  exact p5 (by omega) (by omega) (by omega) hmd hr (by omega) h0 hr.ud (by omega) (fun x hx=>by have:=hb x hx;omega) (hin (by omega)) h0 hx ht.1 hr.us (by omega) r1 r2 (hin (by omega)) r3 (hin (by omega)) (hin (by omega)) r4 iJ iJ hlen2 (decide_eq_true e1) iJ iJ hlen2 (decide_eq_true e2) iJ hlen2 (decide_eq_true e3) hwl hc hlen2 (decide_eq_true e4) hA
end
end KV
end Go.Proofs
