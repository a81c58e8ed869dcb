/- Parts of the proof of JSheetDamaged: laws of walks, contracts of functions, plain models. No condition. -/
import Derived.Laws.RangeAny
import Derived.Laws.DeepNot64
import Derived.Laws.Unary
import Derived.DeepKeys5
import Derived.Test.YtfekapdegmfgaaaGreatDoorPJSheetDamagedE
set_option linter.unusedVariables false
set_option linter.unusedSimpArgs false
set_option linter.unnecessarySimpa false
set_option maxRecDepth 100000
section
namespace Go.Proofs
open Go.RowKit
namespace KV
open Tryz
def dgU(d:Nat):UInt8:=UInt8.ofNat (48+d)
theorem aGc{d:Nat}(h:d<10):(dgU d).toNat=48+d:=by
 unfold dgU;rw [UInt8.toNat_ofNat'];omega
theorem aGd{d:Nat}(h:d<10):dv (dgU d)=d∧isd (dgU d)=true:=by
 have:=aGc h;refine ⟨by unfold dv;rw [this];omega,?_⟩
 simp only [isd,this,B0,decide_eq_true_eq];omega
theorem aGe{b:UInt8}(h:isd b=true):∃ d,d<10∧b=dgU d:=by
 have hb:=fH h;refine ⟨b.toNat-48,by omega,UInt8.toNat_inj.1 ?_⟩
 rw [aGc (by omega)];omega
theorem aYm(l:List UInt8)(b:UInt8)(n:Int):nA (l++[b]) n=10*nA l n+dv b:=by unfold nA;rw [bKh];rfl
theorem aKb{n:Nat}(h:n<10):Lib.decDigits n=[dgU n]:=nB h
theorem cBe{n:Nat}(h:¬ n<10):Lib.decDigits n=Lib.decDigits (n / 10)++[dgU (n % 10)]:=xP h
theorem aGf:∀ (k:Nat) (u:List UInt8),u.length≤k→u≠[]→u.all isd=true→¬ (1<u.length∧u[0]? = some 48)→∃ n:Nat,nA u 0=(n:Int)∧Lib.decDigits n=u
 | 0,u,hk,hn,_,_=>absurd (pF (by omega)) hn
 | k+1,u,hk,hn,ha,hz=>by
  obtain ⟨l,b,rfl⟩:∃ l b,u=l++[b]:=⟨u.dropLast,u.getLast hn,(List.dropLast_concat_getLast hn).symm⟩;rw [List.all_append,B0] at ha
  have hb:isd b=true:=by simpa using ha.2
  obtain ⟨d,hd,rfl⟩:=aGe hb;obtain ⟨h1,_⟩:=aGd hd
  by_cases hl:l=[]
  ·subst hl
   refine ⟨d,?_,by rw [aKb hd];rfl⟩
   show 10*0+dv (dgU d)=(d:Int);rw [h1];omega
  ·have hlp:=List.length_pos_iff.2 hl
   rw [Bz,List.length_singleton] at hk hz
   have h0:l[0]? ≠ some 48:=fun e=>hz ⟨by omega,by rw [aFn hlp];exact e⟩
   obtain ⟨v,hv,hdv⟩:=aGf k l (by omega) hl ha.1 (fun q=>h0 q.2)
   have hv1:v≠0:=fun e=>by
    subst e;rw [aKb (by omega)] at hdv
    exact h0 (by rw [← hdv];rfl)
   refine ⟨10*v+d,by rw [aYm,hv,h1];omega,?_⟩
   rw [cBe (by omega),show (10*v+d) / 10=v by omega,show (10*v+d) % 10=d by omega,hdv]
theorem bGt{u:List UInt8}{m n:Int}(hm:0≤m)(h:bH u m=(n,0)):u≠[]∧u.all isd=true∧¬ (1<u.length∧u[0]? = some 48)∧n=nA u 0∧n≤m:=by
 by_cases hb:u=[]∨(1<u.length∧u[0]? = some 48)∨u.all isd=false
 ·have:=uH (m:=m) hb
  rw [h] at this;exact absurd this (show ¬ ((0:Int)=11) by decide)
 ·have hn:u≠[]:=fun e=>hb (.inl e)
  have hz:¬ (1<u.length∧u[0]? = some 48):=fun e=>hb (.inr (.inl e))
  have ha:u.all isd=true:=by
   cases q:u.all isd with
   | true=>rfl
   | false=>exact absurd (.inr (.inr q)) hb
  rw [aRa hm ha hn hz] at h
  split at h
  ·cases h
  ·cases h;exact ⟨hn,ha,hz,rfl,by omega⟩
theorem aGg{u:List UInt8}{m n:Int}(hm:0≤m)(h:bH u m=(n,0)):0≤n∧n≤m∧Lib.itoa n=u:=by
 obtain ⟨h1,h2,h3,h4,h5⟩:=bGt hm h;obtain ⟨v,hv,hd⟩:=aGf _ u (Bb _) h1 h2 h3;rw [h4,hv];exact ⟨by omega,by omega,by rw [Lib.itoa_nonneg,hd]⟩
theorem bNa(n:Nat)(h:n≤360000):(ptM (n:Int)).1=Lib.decDigits (n / 600)++[58,dgU (n / 10 % 60 / 10),dgU (n / 10 % 60 % 10),46,dgU (n % 10)]:=by
 have e1:((n:Nat):Int).tdiv 600=((n / 600:Nat):Int):=by rw [Int.tdiv_eq_ediv_of_nonneg (by omega)];omega
 have e2:((n:Nat):Int).tdiv 10=((n / 10:Nat):Int):=by rw [Int.tdiv_eq_ediv_of_nonneg (by omega)];omega
 have e3:(((n / 10:Nat):Int)).tmod 60=((n / 10 % 60:Nat):Int):=by rw [Int.tmod_eq_emod_of_nonneg (by omega)];omega
 have e4:((n:Nat):Int).tmod 10=((n % 10:Nat):Int):=by rw [Int.tmod_eq_emod_of_nonneg (by omega)];omega
 have e5:(100:Int)+((n / 10 % 60:Nat):Int)=((100+n / 10 % 60:Nat):Int):=by omega
 unfold ptM;rw [if_pos (cM.2 (by omega)),e1,e2,e3,e4,e5,Lib.itoa_nonneg,Lib.itoa_nonneg,Lib.itoa_nonneg,bMj (by omega),aKb (n:=n / 10 % 60 / 10) (by omega),aKb (n:=n / 10 % 60 % 10) (by omega),aKb (n:=n % 10) (by omega)]
 simp
theorem bWv{u:List UInt8}{n:Int}(h:paM u=(n,0)):∃ k:Nat,n=(k:Int)∧k≤360000∧(ptM n).1=u:=by
 obtain ⟨p,b,c,e,rfl,hn,ha,hz,hb,hc,he⟩:=bMh (s:=u) (by rw [h];intro q;cases q)
 rw [bVz hn ha hz hb hc he] at h
 obtain ⟨v,hv,hd⟩:=aGf _ p (Bb _) hn ha hz;obtain ⟨b,Kj,rfl⟩:=aGe hb;obtain ⟨c,Ms,rfl⟩:=aGe hc;obtain ⟨e,Mt,rfl⟩:=aGe he;have hf:=aRb (m:=1000) (by decide) ha hn hz
 rw [hv] at hf
 unfold Ln at h
 split at h
 ·rename_i hq
  obtain ⟨_,_,_,_,_,_,h6⟩:=hq;rw [aGc Kj] at h6
  rw [hf,(aGd Kj).1,(aGd Ms).1,(aGd Mt).1] at h
  split at h
  ·cases h
  ·rename_i Iw
   have hmin:min (v:Int) (1000+1)=(v:Int):=Int.min_eq_left (by omega)
   rw [hmin] at h Iw
   cases h;refine ⟨600*v+100*b+10*c+e,by omega,by omega,?_⟩
   rw [show (v:Int)*600+(b:Int)*100+(c:Int)*10+(e:Int)=((600*v+100*b+10*c+e:Nat):Int) by omega,bNa _ (by omega)]
   rw [show (600*v+100*b+10*c+e) / 600=v by omega,show (600*v+100*b+10*c+e) / 10 % 60 / 10=b by omega,show (600*v+100*b+10*c+e) / 10 % 60 % 10=c by omega,show (600*v+100*b+10*c+e) % 10=e by omega,hd]
 ·cases h
theorem cBf{t:Int}{u:List UInt8}{c:Cel}(ht:t=0∨t=1∨t=2∨t=3)(h:rdM t u=(c,0)):wrM t c=u∧ckM t c=0:=by
 rcases ht with rfl | rfl | rfl | rfl
 ·have e:rdM 0 u=(((bH u 999999).1,[]),(bH u 999999).2):=rfl
  rw [e] at h
  obtain rfl:((bH u 999999).1,[])=c:=congrArg Prod.fst h;have hq:bH u 999999=((bH u 999999).1,0):=Prod.ext rfl (by have:=congrArg Prod.snd h;exact this)
  obtain ⟨q1,q2,q3⟩:=aGg (by decide) hq
  refine ⟨q3,?_⟩;have:within (bH u 999999).1 0 999999=true:=cM.2 ⟨q1,q2⟩;simp [ckM,this]
 ·have e:rdM 1 u=(((paM u).1,[]),(paM u).2):=rfl
  rw [e] at h
  obtain rfl:((paM u).1,[])=c:=congrArg Prod.fst h;have hq:paM u=((paM u).1,0):=Prod.ext rfl (by have:=congrArg Prod.snd h;exact this)
  obtain ⟨k,q1,q2,q3⟩:=bWv hq;refine ⟨q3,?_⟩;have:within (paM u).1 0 360000=true:=cM.2 (by omega)
  simp [ckM,this]
 ·by_cases q:mY u=true
  ·have e:rdM 2 u=((0,u),0):=by simp [rdM,q]
   rw [e] at h;cases h
   exact ⟨rfl,by simp [ckM,q]⟩
  ·have e:rdM 2 u=((0,[]),11):=by simp [rdM,q]
   rw [e] at h;cases h
 ·by_cases q:mZ u=true
  ·have e:rdM 3 u=((0,u),0):=by simp [rdM,q]
   rw [e] at h;cases h
   exact ⟨rfl,by simp [ckM,q]⟩
  ·have e:rdM 3 u=((0,[]),11):=by simp [rdM,q]
   rw [e] at h;cases h
end KV
end Go.Proofs
end
section
namespace Go.Proofs
open Go.RowKit
namespace KV
open Tryz
abbrev aOx(id p d ty:Nat)(pos:String):Code := .region id #[{ dst:=some d,op := .assign (.tmp p),type:=ty,pos:=pos,after := #[],guard:=none }] false
theorem bHe{l n id p d ty:Nat}{pos:String}{K:Act→World→Prop}{Q:Exit→Act→World→Prop}{a:Act}{W:World}(h:K (a.put (some d) (a.eval (.tmp p))) W):(aOx id p d ty pos).wpIn ((Fen none).inRound l) n Tp (Exit.then K Q) a W:=by
 refine wpIn_region_lit (wpListIn_plain rfl fun K' H3 => ?_)
 unfold Oper.wpIn;refine ⟨fun f _=>trivial,?_⟩
 rw [Oper.semAt_plain _ _ _ (by intro c Dq;cases Dq)]
 simp only [execOp,Sem.run_pure];exact H3 _ _ (wpListIn_nil h)
def aKk(p1 p2:Nat)(a:Act)(x:List UInt8 × Bool):Act:={ tmps:=(a.tmps.setIfInBounds p1 (.string ⟨x.1.toArray⟩)).setIfInBounds p2 (.bool x.2),defers:=[] }
def Hf(p1 p2 d:Nat)(a:Act)(x:List UInt8 × Bool):Act:=(aKk p1 p2 a x).put (some d) ((aKk p1 p2 a x).eval (.tmp p1))
def I8(p1 p2 d e:Nat)(a:Act)(x:List UInt8 × Bool):Act:=(Hf p1 p2 d a x).put (some e) ((Hf p1 p2 d a x).eval (.tmp p2))
theorem bQc(p1 p2:Nat)(a:Act)(x:List UInt8 × Bool):({ tmps:=(#[p1,p2].zip (aDv x)).foldl (fun t (y:Nat × Value)=>t.setIfInBounds y.1 y.2) a.tmps,defers:=[] }:Act)=aKk p1 p2 a x:=by
 unfold aDv aKk;rw [Kl]
theorem Nb{p1 p2 d id ty:Nat}{pos:String}(a:Act)(x:List UInt8 × Bool)(l:Nat)(K:Act→World→Prop)(W:World)(h:K (Hf p1 p2 d a x) W) :
  (aOx id p1 d ty pos).wpIn ((Fen none).inRound l) (3-1-1) Tp (Exit.then K (fun _ _ _=>False)) { tmps:=(#[p1,p2].zip (aDv x)).foldl (fun t (y:Nat × Value)=>t.setIfInBounds y.1 y.2) a.tmps,defers:=[] } W:=by
 rw [bQc];exact bHe h
theorem M6{p1 p2 d e id ty Qi Ek:Nat}{pos Nc:String}(a:Act)(x:List UInt8 × Bool)(l:Nat)(K:Act→World→Prop)(W:World)(h:K (I8 p1 p2 d e a x) W) :
  (Code.seq (aOx id p1 d ty pos) (aOx Qi p2 e Ek Nc)).wpIn ((Fen none).inRound l) (3-1-1) Tp (Exit.then K (fun _ _ _=>False)) { tmps:=(#[p1,p2].zip (aDv x)).foldl (fun t (y:Nat × Value)=>t.setIfInBounds y.1 y.2) a.tmps,defers:=[] } W:=by
 rw [bQc];exact wpIn_seq (bHe (bHe h))
def lnT(p1 p2:Nat)(T:List AV)(x:List UInt8 × Bool):List AV:=put (put T (some p1) (.p (aD x.1))) (some p2) (.p (blP x.2))
def s1T(p1 p2 d:Nat)(T:List AV)(x:List UInt8 × Bool):List AV:=put (lnT p1 p2 T x) (some d) (.p (aD x.1))
def s2T(p1 p2 d e:Nat)(T:List AV)(x:List UInt8 × Bool):List AV:=put (s1T p1 p2 d T x) (some e) (.p (blP x.2))
def oQ(st:St)(p1 p2 d:Nat)(l:List UInt8)(b:Bool):St:=⟨s1T p1 p2 d st.t (l,b),st.m⟩
def jQ(st:St)(p1 p2 d e:Nat)(l:List UInt8)(b:Bool):St:=⟨s2T p1 p2 d e st.t (l,b),st.m⟩
section
variable {C:Cx} {M:Mem} {W:World} {T:List AV}
theorem bHf{p1 p2:Nat}(a:Act)(x:List UInt8 × Bool)(h:cP C M W T a.tmps):cP C M W (lnT p1 p2 T x) (aKk p1 p2 a x).tmps:=by
 have s1:cP C M W (put T (some p1) (.p (aD x.1))) (({ tmps:=a.tmps,defers:=[] }:Act).put (some p1) (.string ⟨x.1.toArray⟩)).tmps:=cP.put (a:={ tmps:=a.tmps,defers:=[] }) h (.p _ _ (.v _));exact cP.put s1 (.p _ _ (.v _))
theorem aRp{p1 p2 d:Nat}(hp:∀ x,(lnT p1 p2 T x)[p1]? = some (.p (aD x.1)))(a:Act)(x:List UInt8 × Bool)(h:cP C M W T a.tmps):cP C M W (s1T p1 p2 d T x) (Hf p1 p2 d a x).tmps:=by
 have s1:=bHf (p1:=p1) (p2:=p2) a x h;exact cP.put s1 (s1.at (hp x))
theorem bNd{p1 p2 d e:Nat}(hp:∀ x,(lnT p1 p2 T x)[p1]? = some (.p (aD x.1)))(Ei:∀ x,(s1T p1 p2 d T x)[p2]? = some (.p (blP x.2)))(a:Act)(x:List UInt8 × Bool)(h:cP C M W T a.tmps):cP C M W (s2T p1 p2 d e T x) (I8 p1 p2 d e a x).tmps:=by
 have s1:=aRp (d:=d) hp a x h;exact cP.put s1 (s1.at (Ei x))
end
end KV
end Go.Proofs
end
namespace Go.Proofs
namespace KV
open Tryz
section
variable {P:Program} {T:TT} {E:Env} {C C0:Cx} {M M0 M1:Mem} {w w0:World}

def bkN(all:List Nat)(j:Nat):Option Nat:=all[j]?
def rC(Fe:List Nat):List Nat→Mem→Option Upd
 | i::r,some o::m=>match mpO (bkN Fe) o with
  | some o'=>(rC Fe r m).map ((i,o') :: ·)
  | none=>none
 | [],[]=>some []
 | _,_=>none

theorem aDz{Fe:List Nat}:∀ {ids:List Nat} {m:Mem} {L:Upd},rC Fe ids m=some L→ids.Nodup →
  m.length=ids.length ∧
  ∀ (N:Mem),(∀ (p i:Nat) (o':AO),ids[p]? = some i→(bQ (upds N L) i=some o'↔∃ o,m[p]? = some (some o)∧mpO (bkN Fe) o=some o')) ∧
   ∀ j,j∉ids→bQ (upds N L) j=bQ N j
 | [],[],L,h,_=>by
  unfold rC at h;cases h
  refine ⟨rfl,fun N=>⟨fun p i o' hp=>by simp at hp,fun _ _=>rfl⟩⟩
 | i::r,some o::m,L,h,hd=>by
  unfold rC at h
  split at h
  ·rename_i o' ho
   simp only [C9] at h
   obtain ⟨L',I0,rfl⟩:=h;obtain ⟨Hq,Fl⟩:=List.nodup_cons.1 hd;obtain ⟨q1,q2⟩:=aDz (ids:=r) I0 Fl;refine ⟨by simpa using q1,fun N => ?_⟩
   obtain ⟨r1,r4⟩:=q2 (aZ N i (some o'));refine ⟨fun p j o2 hp => ?_,fun j hj => ?_⟩
   ·cases p with
    | zero =>
     simp at hp;subst hp
     simp only [upds];rw [r4 i Hq,dA,if_pos rfl];constructor
     ·intro h;cases h;exact ⟨o,rfl,ho⟩
     ·rintro ⟨o3,h3,h4⟩
      simp at h3;subst h3
      rw [ho] at h4;exact h4
    | succ p =>
     simp only [upds];rw [List.getElem?_cons_succ] at hp
     rw [r1 p j o2 hp];rfl
   ·simp only [upds]
    rw [r4 j (fun e=>hj (C7 _ e)),dA,if_neg (fun e=>hj (by simp [e]))]
  ·cases h
 | [],_::_,L,h,_=>by unfold rC at h;cases h
 | _::_,[],L,h,_=>by unfold rC at h;cases h
 | _::_,none::_,L,h,_=>by unfold rC at h;cases h

theorem aAp{Fe:List Nat}:∀ {ids:List Nat} {m:Mem} {L:Upd},rC Fe ids m=some L→∀ (p:Nat) (o1:AO),m[p]? = some (some o1)→∃ o',mpO (bkN Fe) o1=some o'
 | [],[],L,h,p,o1,hp=>by simp at hp
 | i::r,some o::m,L,h,p,o1,hp=>by
  unfold rC at h
  split at h
  ·rename_i hx
   simp only [C9] at h
   obtain ⟨L',I0,_⟩:=h;cases p with
   | zero=>simp at hp;subst hp;exact ⟨_,hx⟩
   | succ p=>exact aAp I0 p o1 (by simpa using hp)
  ·cases h
 | [],_::_,L,h,_,_,_=>by unfold rC at h;cases h
 | _::_,[],L,h,_,_,_=>by unfold rC at h;cases h
 | _::_,none::_,L,h,_,_,_=>by unfold rC at h;cases h

def Cx.backN(C C1:Cx)(all:List Nat):Cx :=
 {ι:=fun j=>match idx all j 0 with | some p=>C1.ι p | none=>C.ι j
  κ:=fun j=>match idx all j 0 with | some p=>C1.κ p | none=>C.κ j
  F:=C1.F }

theorem bHg{ids news:List Nat}{r y:AV}{L:Upd}{C1:Cx}{w':World}{u:Value}(hd:distinct 0 ids=true)(hda:distinct 0 (ids++news)=true)(hb:∀ i∈news,eZ M i=true)
  (hs:rnM 0 ids (ids.map (at? M))=some M0) (hlv:∀ i∈ids,dQ M i=true) (hU:rC (ids++news) (ids++news) M1=some L) (hy:mpA (bkN (ids++news)) r=some y)
  (hM:aW P C M w) (hF:Fr (C.rn 0 ids) M0 w C1 M1 w') (Bq:aW P C1 M1 w') (hr:Rep C1 M1 w' r u):Fr C M w (C.backN C1 (ids++news)) (upds M L) w'∧aW P (C.backN C1 (ids++news)) (upds M L) w'∧Rep (C.backN C1 (ids++news)) (upds M L) w' y u:=by
 obtain ⟨_,hnd⟩:=gA hd;obtain ⟨_,hna⟩:=gA hda;obtain ⟨Hu,hmp,hsrc⟩:=oT (k:=0) hM hd hs;have hlen:M0.length=ids.length:=by have:=(yE hs).1;simpa using this
 generalize hall:ids++news=all at *
 obtain ⟨An,hup⟩:=aDz hU hna;obtain ⟨u1,u4⟩:=hup M;have hL:=Hu.le hF;have inA:∀ (p i:Nat),ids[p]? = some i→all[p]? = some i:=fun p i h=>by
  rw [← hall,aFn (Cf.1 h).1];exact h
 have memA:∀ i,i∈all↔i∈ids∨i∈news:=fun i=>by rw [← hall];simp
 have newF:∀ (p i:Nat),all[p]? = some i→i∉ids→eZ M i=true:=fun p i h hn=>by
  rcases (memA i).1 (Ch h) with h | h
  ·exact absurd h hn
  ·exact hb i h
 have oldP:∀ (p i:Nat),all[p]? = some i→i∈ids→ids[p]? = some i:=fun p i h hn=>by
  obtain ⟨q,hq,he⟩:=List.mem_iff_getElem.1 hn;have h2:ids[q]? = some i:=by rw [B4 hq,he]
  have e1:=nY hna 0 h;have e2:=nY hna 0 (inA q i h2);rw [e1] at e2
  have:p=q:=by simpa using e2
  rw [this];exact h2
 have rnp:∀ p i,ids[p]? = some i→rnI 0 ids i=some p:=fun p i h=>by
  have:=nY hnd 0 h;unfold rnI;rw [show Nat.blt i 0=false from rfl,this,iT]
 have Cg:∀ p i,ids[p]? = some i→∃ o o0,M[i]? = some (some o)∧o.live=true∧M0[p]? = some (some o0)∧o0.live=true∧(C.rn 0 ids).ι p=C.ι i∧(C.rn 0 ids).κ p=C.κ i:=fun p i hp=>by
  obtain ⟨o,h1,h2⟩:=dG (hlv i (Ch hp));obtain ⟨o0,h3,h4⟩:=hmp.fw _ _ _ (rnp p i hp) h1;exact ⟨o,o0,h1,h2,h3,by rw [bO h4];exact h2,hmp.at_ _ _ (rnp p i hp)⟩
 have sh_of:∀ (p:Nat) (o0:AO),M0[p]? = some (some o0)→∃ i o,ids[p]? = some i∧M[i]? = some (some o)∧o.live=true∧o0.live=true∧(C.rn 0 ids).ι p=C.ι i:=fun p o0 hp=>by
  obtain ⟨hl,_⟩:=Cf.1 hp;have J6:ids[p]? = some ids[p]:=B4 (by omega)
  obtain ⟨o,o1,h1,h2,h3,h4,h5,_⟩:=Cg p _ J6;rw [hp] at h3;cases h3
  exact ⟨_,o,J6,h1,h2,h4,h5⟩
 have apart:∀ (j:Nat) (o:AO) (b:Nat),j∉ids→M[j]? = some (some o)→o.live=true→C.ι j=some b→w'.heap[b]? = w.heap[b]? ∧ ¬ C1.F b∧∀ (p:Nat) (o1:AO),M1[p]? = some (some o1)→o1.live=true→C1.ι p≠some b:=fun j o b hj h1 h2 h3=>by
  have Dd:=hM.lt j o b h1 h2 h3;have I1:∀ (p:Nat) (o0:AO),M0[p]? = some (some o0)→o0.live=true→(C.rn 0 ids).ι p≠some b:=fun p o0 hp _ he=>by
   obtain ⟨i,o2,q1,q2,q3,_,q4⟩:=sh_of p o0 hp;rw [q4] at he
   have:=hM.inj j i o o2 b h1 h2 q2 q3 h3 he;subst this;exact hj (Ch q1)
  refine ⟨hF.keep b Dd I1,fun hf => ?_,fun p o1 hp hl he => ?_⟩
  ·rcases hF.F2 b hf with q | q | ⟨p,o0,q1,q2,q3⟩
   ·exact hM.nF j o b h1 h2 h3 q
   ·omega
   ·exact I1 p o0 q1 q2 q3
  ·rcases hF.new p o1 b hp hl he with q | ⟨p0,o0,q1,q2,q3⟩
   ·omega
   ·exact I1 p0 o0 q1 q2 q3
 have ix:∀ j,(j∈all→∃ p,idx all j 0=some p∧all[p]? = some j)∧(j∉all→idx all j 0=none):=fun j=>by
  refine ⟨fun hj => ?_,fun hj => ?_⟩
  ·obtain ⟨p,hp,he⟩:=List.mem_iff_getElem.1 hj
   have:all[p]? = some j:=by rw [B4 hp,he]
   exact ⟨p,by simpa using nY hna 0 this,this⟩
  ·cases h1:idx all j 0 with
   | none=>rfl
   | some p =>
    obtain ⟨_,h2⟩:=sS _ _ _ _ h1;exact absurd (Ch h2) hj
 have cls:∀ (j:Nat) (o':AO),(upds M L)[j]? = some (some o')→(∃ p o1,all[p]? = some j∧M1[p]? = some (some o1)∧mpO (bkN all) o1=some o'∧(C.backN C1 all).ι j=C1.ι p∧(C.backN C1 all).κ j=C1.κ p) ∨
   (j∉ids∧j∉all∧M[j]? = some (some o')∧(C.backN C1 all).ι j=C.ι j∧(C.backN C1 all).κ j=C.κ j):=fun j o' hj=>by
  rw [← bG] at hj
  by_cases hm:j∈all
  ·obtain ⟨p,Fo,Ei⟩:=(ix j).1 hm
   obtain ⟨o1,h1,h2⟩:=(u1 p j o' Ei).1 hj;exact .inl ⟨p,o1,Ei,h1,h2,by simp [Cx.backN,Fo],by simp [Cx.backN,Fo]⟩
  ·have hn:=(ix j).2 hm
   rw [u4 j hm] at hj
   exact .inr ⟨fun h=>hm ((memA j).2 (.inl h)),hm,bG.1 hj,by simp [Cx.backN,hn],by simp [Cx.backN,hn]⟩
 have Et:Fr C M w (C.backN C1 all) (upds M L) w':=by
  refine ⟨hF.os,hF.tape,hF.out,hF.size,fun b Dd hn => ?_,fun i o ho => ?_,fun i o ho ty n cs hx => ?_,fun i o ho o' hx hl => ?_,fun j o b hj hl hjb => ?_,fun b hb=>hF.F1 b hb,fun b hb => ?_⟩
  ·exact hF.keep b Dd fun p o0 hp hl he=>by
    obtain ⟨i,o2,q1,q2,q3,_,q4⟩:=sh_of p o0 hp;rw [q4] at he
    exact hn i o2 q2 q3 he
  ·by_cases hm:i∈all
   ·obtain ⟨p,Fo,Ei⟩:=(ix i).1 hm
    have hmi:i∈ids:=Classical.byContradiction fun hni=>cU (newF p i Ei hni) o ho
    obtain ⟨_,o0,_,_,h3,h4,h5,h6⟩:=Cg p i (oldP p i Ei hmi);obtain ⟨⟨o1,q1⟩,q2,q3⟩:=hF.ids p o0 h3;refine ⟨?_,by simp only [Cx.backN,Fo];rw [q2,h5],by simp only [Cx.backN,Fo];rw [q3,h6]⟩
    obtain ⟨o',hq⟩:=aAp hU p o1 q1;exact ⟨o',bG.1 ((u1 p i o' Ei).2 ⟨o1,q1,hq⟩)⟩
   ·refine ⟨⟨o,bG.1 (by rw [u4 i hm];exact bG.2 ho)⟩,by simp [Cx.backN,(ix i).2 hm],by simp [Cx.backN,(ix i).2 hm]⟩
  ·rcases cls i _ hx with ⟨p,o1,q1,q2,q3,_⟩ | ⟨_,_,q3,_⟩
   ·have hmi:i∈ids:=Classical.byContradiction fun hni=>cU (newF p i q1 hni) o ho
    have q1:=oldP p i q1 hmi;rw [jE q3] at q2
    obtain ⟨o2,o0,h1,_,h3,_⟩:=Cg p i q1;obtain ⟨Bh,h5⟩:=hF.row p o0 h3 _ _ _ q2;obtain ⟨o4,h6,h7⟩:=hmp.bk _ _ _ (rnp p i q1) h5;rw [jE h7] at h6
    exact ⟨Bh,h6⟩
   ·exact ⟨cs,q3⟩
  ·rcases cls i _ hx with ⟨p,o1,q1,q2,q3,_⟩ | ⟨_,_,q3,_⟩
   ·have hmi:i∈ids:=Classical.byContradiction fun hni=>cU (newF p i q1 hni) o ho
    obtain ⟨o2,o0,h1,h2,h3,_⟩:=Cg p i (oldP p i q1 hmi);rw [ho] at h1;cases h1
    exact h2
   ·rw [ho] at q3;cases q3;exact hl
  ·have fin:∀ (p:Nat) (o1:AO),M1[p]? = some (some o1)→o1.live=true→C1.ι p=some b→w.heap.size≤b∨∃ (Ef:Nat) (o0:AO),M[Ef]? = some (some o0)∧o0.live=true∧C.ι Ef=some b:=fun p o1 h1 h2 h3=>by
    rcases hF.new p o1 b h1 h2 h3 with q | ⟨p0,o0,q1,q2,q3⟩
    ·exact .inl q
    ·obtain ⟨i,o2,r1,r2,r3,_,r4⟩:=sh_of p0 o0 q1
     rw [r4] at q3
     exact .inr ⟨i,o2,r2,r3,q3⟩
   rcases cls j _ hj with ⟨p,o1,q1,q2,q3,q4,_⟩ | ⟨_,_,q3,q4,_⟩
   ·rw [q4] at hjb
    exact fin p o1 q2 (by rw [← bO q3];exact hl) hjb
   ·rw [q4] at hjb
    exact .inr ⟨j,o,q3,hl,hjb⟩
  ·rcases hF.F2 b hb with q | q | ⟨p,o0,q1,q2,q3⟩
   ·exact .inl q
   ·exact .inr (.inl q)
   ·obtain ⟨i,o2,r1,r2,r3,_,r4⟩:=sh_of p o0 q1
    rw [r4] at q3
    exact .inr (.inr ⟨i,o2,r2,r3,q3⟩)
 have G2:=hM.le Et;have hbk:aSw (bkN all) C1 (C.backN C1 all) M1 (upds M L):=by
  refine ⟨fun i j o' hij hj=>(u1 i j o' hij).1 (bG.2 hj),fun i j o hij hi => ?_,fun i j hij => ?_,fun _ h=>h⟩
  ·obtain ⟨o',hq⟩:=aAp hU i o hi
   exact ⟨o',bG.1 ((u1 i j o' hij).2 ⟨o,hi,hq⟩),hq⟩
  ·have:=nY hna 0 hij
   rw [iT] at this
   simp [Cx.backN,this]
 refine ⟨Et,⟨fun j ty n cs h => ?_,fun j ty cs h => ?_,fun j es cl h => ?_,fun j j' o1 o2 b q1 l1 q2 l2 e1 e2 => ?_,fun j o b h hl hb => ?_,Bq.Fs,fun j o b h hl hb => ?_,Bq.lib.mono (fun _ h=>h) fun _ _=>rfl⟩,qH hbk hr hy⟩
 ·rcases cls j _ h with ⟨p,o1,q1,q2,q3,q4,q5⟩ | ⟨q1,_,q3,q4,q5⟩
  ·rw [jE q3] at q2
   rw [q4,q5];exact Bq.row _ _ _ _ q2
  ·rw [q4,q5]
   rcases hM.row _ _ _ _ q3 with q | ⟨b,arr,inf,p0,p1,p2,p3,p4,p5,p6,p7,p8⟩
   ·exact .inl q
   ·exact .inr ⟨b,arr,inf,p0,by rw [(apart j _ b q1 q3 rfl p0).1];exact p1,p2,p3,p4,p5,p6,fun i hi=>(p7 i hi).mono G2.F G2.fz,p8⟩
 ·rcases cls j _ h with ⟨p,o1,q1,q2,q3,q4,q5⟩ | ⟨q1,_,q3,q4,q5⟩
  ·cases o1 with
   | box C3 l =>
    simp only [mpO,C9] at q3
    obtain ⟨l',De,e⟩:=q3;cases e;obtain ⟨b,arr,p0,p1,p2,p3,p4⟩:=Bq.box _ _ _ q2;obtain ⟨n1,n2⟩:=eR hbk (w:=w') (us:=fun j=>arr.getD j undef) p3 De
    exact ⟨b,arr,by rw [q4];exact p0,p1,by omega,n2,fun j hj=>p4 j (by omega)⟩
   | row=>simp [mpO] at q3
   | mp=>simp [mpO] at q3
   | pk=>simp [mpO] at q3
   | dead=>simp [mpO] at q3
  ·obtain ⟨b,arr,p0,p1,p2,p3,p4⟩:=hM.box _ _ _ q3
   exact ⟨b,arr,by rw [q4];exact p0,by rw [(apart j _ b q1 q3 rfl p0).1];exact p1,p2,fun i hi=>(p3 i hi).mono G2,p4⟩
 ·rcases cls j _ h with ⟨p,o1,q1,q2,q3,q4,q5⟩ | ⟨q1,_,q3,q4,q5⟩
  ·cases o1 with
   | mp E8 Jr =>
    simp only [mpO,Option.some.injEq] at q3
    cases q3;obtain ⟨b,arr,p0,p1,p2,p3⟩:=Bq.mp _ _ _ q2;refine ⟨b,arr,by rw [q4];exact p0,p1,p2,fun j hj => ?_⟩
    obtain ⟨en,s1,s2,s3,s4⟩:=p3 j hj;exact ⟨en,s1,s2,s3,s4.mono hbk.F (fun _ _=>rfl)⟩
   | row=>simp [mpO] at q3
   | box=>simp [mpO] at q3
   | pk=>simp [mpO] at q3
   | dead=>simp [mpO] at q3
  ·obtain ⟨b,arr,p0,p1,p2,p3⟩:=hM.mp _ _ _ q3
   refine ⟨b,arr,by rw [q4];exact p0,by rw [(apart j _ b q1 q3 rfl p0).1];exact p1,p2,fun i hi => ?_⟩
   obtain ⟨en,s1,s2,s3,s4⟩:=p3 i hi;exact ⟨en,s1,s2,s3,s4.mono G2.F G2.fz⟩
 ·rcases cls j _ q1 with ⟨p,a1,r1,r2,r3,r4,_⟩ | ⟨r1,rb,r3,r4,_⟩ <;> rcases cls j' _ q2 with ⟨p',a2,t1,t2,t3,t4,_⟩ | ⟨t1,tb,t3,t4,_⟩
  all_goals (rw [r4] at e1;rw [t4] at e2)
  ·have:=Bq.inj p p' a1 a2 b r2 (by rw [← bO r3];exact l1) t2 (by rw [← bO t3];exact l2) e1 e2
   subst this;rw [r1] at t1;cases t1;rfl
  ·exact absurd e1 ((apart j' o2 b t1 t3 l2 e2).2.2 p a1 r2 (by rw [← bO r3];exact l1))
  ·exact absurd e2 ((apart j o1 b r1 r3 l1 e1).2.2 p' a2 t2 (by rw [← bO t3];exact l2))
  ·exact hM.inj j j' o1 o2 b r3 l1 t3 l2 e1 e2
 ·rcases cls j _ h with ⟨p,o1,q1,q2,q3,q4,q5⟩ | ⟨q1,_,q3,q4,q5⟩
  ·rw [q4] at hb
   exact Bq.nF _ _ b q2 (by rw [← bO q3];exact hl) hb
  ·rw [q4] at hb
   exact (apart j o b q1 q3 hl hb).2.1
 ·rcases cls j _ h with ⟨p,o1,q1,q2,q3,q4,q5⟩ | ⟨q1,_,q3,q4,q5⟩
  ·rw [q4] at hb
   exact Bq.lt _ _ b q2 (by rw [← bO q3];exact hl) hb
  ·rw [q4] at hb
   exact tW (hM.lt j o b q3 hl hb) hF.size

def aOy(ids news:List Nat)(args:List AV)(bs:Upd)(M1:Mem)(r:AV):Option (List AV × Mem × AV × Upd):=match distinct 0 ids && distinct 0 (ids++news) && ids.all (dQ (upds [] bs)) with
 | true=>match rnM 0 ids (ids.map (at? (upds [] bs))) with
  | some M0=>match rnL 0 ids args with
   | some A3=>match rC (ids++news) (ids++news) M1 with
    | some L=>match mpA (bkN (ids++news)) r with
     | some y=>some (A3,M0,y,L)
     | none=>none
    | none=>none
   | none=>none
  | none=>none
 | false=>none
theorem FMM.fcN{f base k:Nat}(hk:Nat.ble k 8=true){ids:List Nat}{args A3:List AV}{bs:Upd}{r y:AV}{L:Upd}(h:FMM P f A3 M0 r M1)(hs:aOy ids ((List.range k).map (base + ·)) args bs M1 r=some (A3,M0,y,L)):FC P f args bs base y L:=fun M hb hf Hw=>by
 unfold aOy at hs
 have hsub:aNh (upds [] bs) M:=fun id o ho=>by
  rcases pG bs [] id o ho with h5 | h5
  ·exact hb _ h5
  ·simp [bQ] at h5
 split at hs
 ·rename_i hd
  rw [B0,B0,iD] at hd
  obtain ⟨⟨Hq,Fl⟩,Nf⟩:=hd;have hlv:∀ i∈ids,∃ o,bQ (upds [] bs) i=some o∧bQ M i=some o∧o.live=true:=fun i hi=>by
   obtain ⟨o,h1,h2⟩:=dG (Nf i hi);exact ⟨o,bG.2 h1,hsub _ _ (bG.2 h1),h2⟩
  split at hs
  ·rename_i h1
   split at hs
   ·rename_i h2
    split at hs
    ·rename_i h3
     split at hs
     ·rename_i h4
      cases hs;have he:ids.map (at? M)=ids.map (at? (upds [] bs)):=bDu fun i hi=>by
       obtain ⟨o,q1,q2,_⟩:=hlv i hi;unfold at?
       rw [q1,q2]
      intro C w us hus hM n;have Gy:rnM 0 ids (ids.map (at? M))=some M0:=by rw [he];exact h1
      obtain ⟨Hu,hmp,_⟩:=oT (k:=0) hM Hq Gy;refine (h (C.rn 0 ids) w us (aFo hmp hus h2) Hu n).mono ?_;rintro e w' ⟨u,rfl,C1,hF,Bq,hr⟩;exact ⟨u,rfl,C.backN C1 (ids++(List.range k).map (base + ·)),bHg Hq Fl (fun i hi=>by
       obtain ⟨j,hj,rfl⟩:=tZ.1 hi;have hj:=aUo.1 hj;have hk:=Nat.le_of_ble_eq_true hk;exact Hw j (by omega)) Gy (fun i hi=>by
       obtain ⟨o,_,q2,q3⟩:=hlv i hi;exact gG (bG.1 q2) q3) h3 h4 hM hF Bq hr⟩
     ·cases hs
    ·cases hs
   ·cases hs
  ·cases hs
 ·cases hs
def qF(ids:List Nat)(base:Nat):=bkN (ids++(List.range 7).map (base+·))
def qN(ids:List Nat)(base:Nat)(x:AV):AV:=(mpA (qF ids base) x).getD .any
theorem mN(ids:List Nat)(base:Nat){P:Program}{f:Nat}{A3:List AV}{M0 M1:Mem}{r:AV}(h:FMM P f A3 M0 r M1)(hs:aOy ids ((List.range 7).map (base+·)) (A3.map (qN ids base)) (qS ids (qF ids base) (A3.map (qN ids base)) M0) M1 r=some (A3,M0,qN ids base r,(rC (ids++(List.range 7).map (base+·)) (ids++(List.range 7).map (base+·)) M1).getD []):=by kernel_rfl):FC P f (A3.map (qN ids base)) (qS ids (qF ids base) (A3.map (qN ids base)) M0) base (qN ids base r) ((rC (ids++(List.range 7).map (base+·)) (ids++(List.range 7).map (base+·)) M1).getD []):=FMM.fcN (k:=7) rfl h hs
end
section
def bS(st:St)(id:Nat)(o:Option AO):St:=⟨st.t,st.m.set id o⟩
mutual
def wkP:PV→PV
 | .v (.slice none 0 0) => .sl 0 []
 | .agg cs => .agg (bHh cs)
 | x=>x
def bHh:List PV→List PV
 | []=>[]
 | x::r=>wkP x::bHh r
end
theorem aKl:∀ l:List PV,bHh l=l.map wkP
 | []=>by simp [bHh]
 | x::r=>by rw [bHh,aKl r];rfl
def Kn:AV→AV
 | .p x => .p (wkP x)
 | x=>x
theorem aRq{F:Nat→Prop}{w:World}{x:PV}{u:Value}(h:cQ F w x u):cQ F w (wkP x) u:=by
 induction h with
 | v x =>
  unfold wkP
  split
  ·rename_i e
   cases e;exact .sl 0 [] none 0 (fun _=>undef) (Bb _) (Nat.zero_le _) (fun i h=>by simp at h) (fun i h=>by simp at h) (fun i h=>by simp at h)
  ·rename_i e;cases e
  ·exact .v x
 | sl n cs p cap us h1 h2 h3 h4 h5 _=>unfold wkP;exact .sl n cs p cap us h1 h2 h3 h4 h5
 | agg cs vs h0 h1 _ ih =>
  unfold wkP;rw [aKl];exact .agg _ vs (fun i hi=>h0 i (by simpa using hi)) (by simpa using h1) (fun i hi=>by
   have:=ih i (by simpa using hi)
   simpa using this)
 | mp es b cl arr us hb h0 h1 h2 h3 _=>unfold wkP;exact .mp es b cl arr us hb h0 h1 h2 h3
 | rp cs off b o us h1 h2 h3 _=>unfold wkP;exact .rp cs off b o us h1 h2 h3
 | fn f cs ds us vs h1 h2 h3 h4 _ _=>unfold wkP;exact .fn f cs ds us vs h1 h2 h3 h4
theorem aGl{C:Cx}{M:Mem}{w:World}{x:AV}{u:Value}(h:Rep C M w x u):Rep C M w (Kn x) u:=by
 cases h with
 | p x u h=>exact .p _ _ (aRq h)
 | _=>unfold Kn;constructor <;> assumption
theorem FMM.wk{P:Program}{f:Nat}{args l l':List AV}{M M':Mem}(h:FMM P f args M (.tup l) M')(e:l.map Kn=l'):FMM P f args M (.tup l') M':=fun C w us hus hM n=>by
 subst e;refine (h C w us hus hM n).mono ?_;rintro e w' ⟨u,rfl,C',hF,Eh,hr⟩;refine ⟨u,rfl,C',hF,Eh,?_⟩;cases hr with
 | tup _ vs h1 h2=>exact .tup _ vs (by simpa using h1) (fun i hi=>by
   have C5:i<l.length:=by simpa using hi
   simpa using aGl (h2 i C5))
end
section
variable {dn xb Hc:Bool}{e f k l kd my H0 H1 Dr I9:Int}{n bf nr Iq Dx Ja D9:Nat}

noncomputable abbrev fC:Code:=sub (cd Tryz.f15) [1,1,1,1,0,1,0,1]
noncomputable abbrev bHb:Code:=sub (cd Tryz.f15) [1,1,1,1,0,1,0]
theorem aRo:((0:Int) != 0)=false:=by first | decide | simp
theorem bHc:((11:Int) != 0)=true:=by first | decide | simp
theorem aGk{s:List UInt8}:FMM Tp 88 [(.p (aD s))] [] (.fn 175 [] [(.ptr 0 0)]) [some (.box 9 [(.p (aD s))])]:=FMM.fi 0 ⟨[],[0],[],[]⟩ func88 [] gn
theorem bXa(fs:List (List UInt8))(ln k:Int)(R:List (List Cel))(he:(hdM fs).2.2.2≠0):FMM Tp 90 [.ptr 0 0,.p (.sl fs.length ((fs.map stE).flatten)),.fn 176 [] [.ptr 2 0,.ptr 3 0]] [some (.box 158 [(pI k),(.own 1),(pI 0),(pI 0),(pI 0)]),some (.row 78 R.length ((R.map rwE).flatten)),some (.box 156 [(.ptr 0 0)]),some (.box 3 [(pI ln)])] (.p (aB (hdM fs).2.1)) [some (.box 158 [(pI (Dm (hdM fs).1)),(.own 1),(pI ln),(pI ((hdM fs).2.2.1)),(pI ((hdM fs).2.2.2))]),some (.row 78 R.length ((R.map rwE).flatten)),some (.box 156 [(.ptr 0 0)]),some (.box 3 [(pI ln)])]:=by
 have:=bFn fs ln k 0 0 R;rw [Es ln _ 0 0 he] at this
 exact this
theorem bXb(fs:List (List UInt8))(ln k:Int)(R:List (List Cel))(he:(hdM fs).2.2.2=0):FMM Tp 90 [.ptr 0 0,.p (.sl fs.length ((fs.map stE).flatten)),.fn 176 [] [.ptr 2 0,.ptr 3 0]] [some (.box 158 [(pI k),(.own 1),(pI 0),(pI 0),(pI 0)]),some (.row 78 R.length ((R.map rwE).flatten)),some (.box 156 [(.ptr 0 0)]),some (.box 3 [(pI ln)])] (.p (aB (hdM fs).2.1)) [some (.box 158 [(pI (Dm (hdM fs).1)),(.own 1),(pI 0),(pI 0),(pI 0)]),some (.row 78 R.length ((R.map rwE).flatten)),some (.box 156 [(.ptr 0 0)]),some (.box 3 [(pI ln)])]:=by
 have:=bFn fs ln k 0 0 R;rw [he,Im] at this
 exact this
theorem bXc(fs:List (List UInt8))(sm ln k:Int)(R:List (List Cel))(h0:0<fs.length)(he:(lsM fs sm).2≠0):FMM Tp 93 [.p (.sl fs.length ((fs.map stE).flatten)),.p (aB sm),.fn 176 [] [.ptr 0 0,.ptr 1 0]] [some (.box 156 [(.ptr 2 0)]),some (.box 3 [(pI ln)]),some (.box 158 [(pI k),(.own 3),(pI 0),(pI 0),(pI 0)]),some (.row 78 R.length ((R.map rwE).flatten))] (.tup []) [some (.box 156 [(.ptr 2 0)]),some (.box 3 [(pI ln)]),some (.box 158 [(pI k),(.own 3),(pI ln),(pI ((lsM fs sm).1)),(pI ((lsM fs sm).2))]),some (.row 78 R.length ((R.map rwE).flatten))]:=by
 have:=bEw fs sm ln k 0 0 R h0;rw [Es ln _ 0 0 he] at this
 exact this
theorem bXd(fs:List (List UInt8))(sm ln k:Int)(R:List (List Cel))(h0:0<fs.length)(he:(lsM fs sm).2=0):FMM Tp 93 [.p (.sl fs.length ((fs.map stE).flatten)),.p (aB sm),.fn 176 [] [.ptr 0 0,.ptr 1 0]] [some (.box 156 [(.ptr 2 0)]),some (.box 3 [(pI ln)]),some (.box 158 [(pI k),(.own 3),(pI 0),(pI 0),(pI 0)]),some (.row 78 R.length ((R.map rwE).flatten))] (.tup []) [some (.box 156 [(.ptr 2 0)]),some (.box 3 [(pI ln)]),some (.box 158 [(pI k),(.own 3),(pI 0),(pI 0),(pI 0)]),some (.row 78 R.length ((R.map rwE).flatten))]:=by
 have:=bEw fs sm ln k 0 0 R h0;rw [he,Im] at this
 exact this
theorem aOt{n:Int}(k:Int)(r t:List Cel)(h:aN k≤(r.length:Int))(h2:aN k≤(t.length:Int))(hn:bR k r t=n){base:Nat}:FV Tp 92 [.p (aB k),.p (.sl r.length ((r.map cE).flatten)),.p (.sl t.length ((t.map cE).flatten))] base (pI n) []:=hn ▸ lT k r t h h2
theorem jX{cs:List PV}(h0:e≠0):FMM Tp 94 [(.ptr 0 0)] [some (.box 158 [(pI k),(.own 1),(pI l),(pI f),(pI e)]),some (.row 78 n cs)] (.tup [(.p (.agg [(aB 0),bM])),(pI l),(pI f),(pI e)]) [some (.box 158 [(pI k),(.own 1),(pI l),(pI f),(pI e)]),some (.row 78 n cs)]:=FMM.fi 2 gE func94 [bT] (gc (fD h0) gn)
theorem bHd{cs:List PV}(h0:e=0):FMM Tp 94 [(.ptr 0 0)] [some (.box 158 [(pI k),(.own 1),(pI l),(pI f),(pI e)]),some (.row 78 n cs)] (.tup [(.agg [(pI k),(.own 1)]),(pI 0),(pI 0),(pI 0)]) [some (.box 158 [(pI k),(.own 1),(pI l),(pI f),(pI e)]),some (.row 78 n cs)]:=FMM.fi 2 gE func94 [bF] (gc (bV h0) gn)
def bP(s:List UInt8)(nr:Nat)(my:Int)(bf:Nat)(dn:Bool)(kd:Int)(Rn:Nat)(Rc:List PV):St:=⟨fr 149 [(1,(.ptr 0 0)),(2,(.ptr 1 0)),(3,(.ptr 2 0)),(4,(.ptr 3 0)),(5,(.ptr 4 0)),(6,(.ptr 6 0)),(7,(.ptr 7 0)),(8,(.ptr 8 0)),(9,(.ptr 9 0)),(10,(.ptr 10 0)),(24,(.ptr 5 0)),(26,(.fn 175 [] [(.ptr 11 0)]))],[some (.box 9 [(.p (aD s))]),some (.box 26 [(pI 0),(.p bM)]),some (.box 3 [(pI 0)]),some (.box 3 [(pI 0)]),some (.box 27 [(pI 0)]),some (.box 158 [(pI kd),(.own 12),(pI 0),(pI 0),(pI 0)]),some (.box 156 [(.ptr 5 0)]),some (.box 3 [(pI (nr:Int))]),some (.box 3 [(pI my)]),some (.box 3 [(pI (bf:Int))]),some (.box 4 [(pB dn)]),some .dead,some (.row 78 Rn Rc)]⟩
def pW(s:List UInt8):St:=⟨fr 149 [(1,(.ptr 0 0)),(2,(.ptr 1 0)),(3,(.ptr 2 0)),(4,(.ptr 3 0)),(5,(.ptr 4 0)),(6,(.ptr 6 0)),(7,(.ptr 7 0)),(8,(.ptr 8 0)),(9,(.ptr 9 0)),(10,(.ptr 10 0)),(24,(.ptr 5 0)),(26,(.fn 175 [] [(.ptr 11 0)]))],[some (.box 9 [(.p (aD s))]),some (.box 26 [(pI 0),(.p bM)]),some (.box 3 [(pI 0)]),some (.box 3 [(pI 0)]),some (.box 27 [(pI 0)]),some (.box 158 [(pI 0),(.p bM),(pI 0),(pI 0),(pI 0)]),some (.box 156 [(.ptr 5 0)]),some (.box 3 [(pI 0)]),some (.box 3 [(pI 0)]),some (.box 3 [(pI 0)]),some (.box 4 [(.kb false)]),some (.box 9 [(.p (aD s))])]⟩
theorem bXe{s:List UInt8}(h0:(65536:Int)<(s.length:Int)):FMM Tp 15 [(.p (aD s))] [] (.tup [(.p (.agg [(aB 0),bM])),(pI 0),(pI 0),(pI 10)]) []:=FMM.fi 0 gE func15 [bT] (g0 h0)
section
variable{s:List UInt8}{R'5:List (List Cel)}(h0:(s.length:Int)≤65536)(An:aA Tp 0 bHb (pW s) .normal (bP s D9 I9 Ja Hc Dr R'5.length ((R'5.map rwE).flatten)))
include h0 An
theorem bXf{r0:Int}(h2:Hc=false)(h3:inR (((D9+1):Nat):Int))(Al:r0=(((D9+1):Nat):Int)):FMM Tp 15 [(.p (aD s))] [] (.tup [(.p (.agg [(aB 0),bM])),(pI r0),(pI 1),(pI 11)]) []:=by
 subst Al;have k1:=mq [13,14,5,12] 15 (cO 1 11 (((D9+1):Nat):Int) Dr 0 0 0 R'5);have k2:=mq [5,12] 15 (jX (k:=Dr) (l:=(((D9+1):Nat):Int)) (f:=(1:Int)) (e:=(11:Int)) (n:=R'5.length) (cs:=((R'5.map rwE).flatten)) (by decide));exact FMM.fi 0 gE func15 [bF,.c (.fn 175 [] [(.ptr 11 0)]) [(11,(.box 9 [(.p (aD s))]))],An.k 1 ⟨(rng [(0,1),(11,13),(25,1),(27,109),(142,1)]),(rng [(0,12)]),[],[]⟩,bT,.c (.fn 176 [] [(.ptr 13 0),(.ptr 14 0)]) [(5,(.box 158 [(pI Dr),(.own 12),(pI 0),(pI 0),(pI 0)])),(12,(.row 78 R'5.length ((R'5.map rwE).flatten))),(13,(.box 156 [(.ptr 5 0)])),(14,(.box 3 [(pI (((D9+1):Nat):Int))]))],k1.o,k2.o] (gc k2 (gc k1 (gt (FC Tp 89 [(.ptr 5 0),(pI (((D9+1):Nat):Int))] [(5,(.box 158 [(pI Dr),(.own 12),(pI 0),(pI 0),(pI 0)])),(12,(.row 78 R'5.length ((R'5.map rwE).flatten)))] 13 (.fn 176 [] [(.ptr 13 0),(.ptr 14 0)]) [(5,(.box 158 [(pI Dr),(.own 12),(pI 0),(pI 0),(pI 0)])),(12,(.row 78 R'5.length ((R'5.map rwE).flatten))),(13,(.box 156 [(.ptr 5 0)])),(14,(.box 3 [(pI (((D9+1):Nat):Int))]))]) (FMM.fcN (k:=2) rfl (ids:=[5,12]) (eU (ln:=(((D9+1):Nat):Int)) (k:=Dr) (l:=(0:Int)) (f:=(0:Int)) (e:=(0:Int)) (R:=R'5)) (by kernel_rfl)) (gc h3 (gc (cZ h2) (gc An (gt (FC Tp 88 [(.p (aD s))] [] 11 (.fn 175 [] [(.ptr 11 0)]) [(11,(.box 9 [(.p (aD s))]))]) (FMM.fcN (k:=1) rfl (ids:=[]) (aGk (s:=s)) (by kernel_rfl)) (gc (bC h0) gn))))))))
theorem bXg(h2:Hc=true):FMM Tp 15 [(.p (aD s))] [] (.tup [(.p (.agg [(aB Dr),(.sl R'5.length ((R'5.map rwE).flatten))])),(pI 0),(pI 0),(pI 0)]) []:=have k1:=mq [5,12] 13 (bHd (k:=Dr) (l:=(0:Int)) (f:=(0:Int)) (e:=0) (n:=R'5.length) (cs:=((R'5.map rwE).flatten)) rfl);FMM.fi 0 ⟨[],[],[12],[]⟩ func15 [bF,.c (.fn 175 [] [(.ptr 11 0)]) [(11,(.box 9 [(.p (aD s))]))],An.k 1 ⟨(rng [(0,1),(11,13),(25,1),(27,109),(142,1)]),(rng [(0,12)]),[],[]⟩,bF,k1.o] (gc k1 (gc (aX h2) (gc An (gt (FC Tp 88 [(.p (aD s))] [] 11 (.fn 175 [] [(.ptr 11 0)]) [(11,(.box 9 [(.p (aD s))]))]) (FMM.fcN (k:=1) rfl (ids:=[]) (aGk (s:=s)) (by kernel_rfl)) (gc (bC h0) gn)))))
end
theorem bXh{s:List UInt8}{R'5:List (List Cel)}{M7 M8 M9:Int}(h0:(s.length:Int)≤65536)(An:aA Tp 0 bHb (pW s) .ret (bS (bS (bS (bS (bP s D9 I9 Ja Hc Dr R'5.length ((R'5.map rwE).flatten)) 5 (some (.box 158 [(pI Dr),(.own 12),(pI M7),(pI M8),(pI M9)]))) 2 (some (.box 3 [(pI M7)]))) 3 (some (.box 3 [(pI M8)]))) 4 (some (.box 27 [(pI M9)])))):FMM Tp 15 [(.p (aD s))] [] (.tup [(.p (.agg [(aB 0),bM])),(pI M7),(pI M8),(pI M9)]) []:=FMM.fi 0 gE func15 [bF,.c (.fn 175 [] [(.ptr 11 0)]) [(11,(.box 9 [(.p (aD s))]))],An.k 1 ⟨(rng [(0,1),(11,13),(25,1),(27,109),(142,1)]),(rng [(0,12)]),[],[]⟩] (gc An (gt (FC Tp 88 [(.p (aD s))] [] 11 (.fn 175 [] [(.ptr 11 0)]) [(11,(.box 9 [(.p (aD s))]))]) (FMM.fcN (k:=1) rfl (ids:=[]) (aGk (s:=s)) (by kernel_rfl)) (gc (bC h0) gn)))
theorem aYs{s:List UInt8}{R:List (List Cel)}{xl:List UInt8}(h0:inR (((nr+1):Nat):Int))(h1:xl.length<4294967281)(h2:1≤([32]:List UInt8).length)(h3:dn=true)(B2:Dx=(nr+1)):bU Tp 13 12 fC (jQ (bP s nr my bf dn kd R.length ((R.map rwE).flatten)) 27 28 11 12 xl xb) .ret (bS (bS (bS (bS (bP s Dx my bf dn kd R.length ((R.map rwE).flatten)) 5 (some (.box 158 [(pI kd),(.own 12),(pI (((nr+1):Nat):Int)),(pI 1),(pI 11)]))) 2 (some (.box 3 [(pI (((nr+1):Nat):Int))]))) 3 (some (.box 3 [(pI 1)]))) 4 (some (.box 27 [(pI 11)]))).m:=by
 subst B2
 have raw:bU Tp 13 12 fC (jQ (bP s nr my bf dn kd R.length ((R.map rwE).flatten)) 27 28 11 12 xl xb) .ret (bS (bS (bS (bS (bP s (nr+1) my bf dn kd R.length ((R.map rwE).flatten)) 5 (some (.box 158 [(pI kd),(.own 12),(pI (((nr+1):Nat):Int)),(pI 1),(pI 11)]))) 2 (some (.box 3 [(pI (((nr+1):Nat):Int))]))) 3 (some (.box 3 [(pI 1)]))) 4 (some (.box 27 [(pI 11)]))).m:=⟨⟨fr 149 [(1,(.ptr 0 0)),(2,(.ptr 1 0)),(3,(.ptr 2 0)),(4,(.ptr 3 0)),(5,(.ptr 4 0)),(6,(.ptr 6 0)),(7,(.ptr 7 0)),(8,(.ptr 8 0)),(9,(.ptr 9 0)),(10,(.ptr 10 0)),(24,(.ptr 5 0)),(26,(.fn 175 [] [(.ptr 11 0)]))],[some (.box 9 [(.p (aD s))]),some (.box 26 [(pI 0),(.p bM)]),some (.box 3 [(pI (((nr+1):Nat):Int))]),some (.box 3 [(pI 1)]),some (.box 27 [(pI 11)]),some (.box 158 [(pI kd),(.own 12),(pI (((nr+1):Nat):Int)),(pI 1),(pI 11)]),some (.box 156 [(.ptr 5 0)]),some (.box 3 [(pI (((nr+1):Nat):Int))]),some (.box 3 [(pI my)]),some (.box 3 [(pI (bf:Int))]),some (.box 4 [(pB dn)]),some .dead,some (.row 78 R.length ((R.map rwE).flatten))]⟩,⟨[],[12],[],[]⟩,aA.fin (g:=⟨(rng [(0,1),(11,13),(25,1),(27,109),(142,1)]),[],[],[]⟩) (o:=[.c (.fn 176 [] [(.ptr 13 0),(.ptr 14 0)]) [(5,(.box 158 [(pI kd),(.own 12),(pI 0),(pI 0),(pI 0)])),(12,(.row 78 R.length ((R.map rwE).flatten))),(13,(.box 156 [(.ptr 5 0)])),(14,(.box 3 [(pI (((nr+1):Nat):Int))]))],.c (.p (.sl ((aU xl ([32]:List UInt8)).length) (((aU xl ([32]:List UInt8)).map stE).flatten))) [],bT,bT,bT,.c (pB false) [(13,(.box 156 [(.ptr 5 0)])),(14,(.box 3 [(pI (((nr+1):Nat):Int))])),(5,(.box 158 [(pI kd),(.own 12),(pI (((nr+1):Nat):Int)),(pI 1),(pI 11)])),(12,(.row 78 R.length ((R.map rwE).flatten)))],bT,.c (.tup [(.p (.agg [(aB 0),bM])),(pI (((nr+1):Nat):Int)),(pI 1),(pI 11)]) [(5,(.box 158 [(pI kd),(.own 12),(pI (((nr+1):Nat):Int)),(pI 1),(pI 11)])),(12,(.row 78 R.length ((R.map rwE).flatten)))]]) (l:=[FC Tp 94 [(.ptr 5 0)] [(5,(.box 158 [(pI kd),(.own 12),(pI (((nr+1):Nat):Int)),(pI 1),(pI 11)])),(12,(.row 78 R.length ((R.map rwE).flatten)))] 15 (.tup [(.p (.agg [(aB 0),bM])),(pI (((nr+1):Nat):Int)),(pI 1),(pI 11)]) [(5,(.box 158 [(pI kd),(.own 12),(pI (((nr+1):Nat):Int)),(pI 1),(pI 11)])),(12,(.row 78 R.length ((R.map rwE).flatten)))],_,FC Tp 176 [(pI 1),(pI 11),(.ptr 13 0),(.ptr 14 0)] [(13,(.box 156 [(.ptr 5 0)])),(14,(.box 3 [(pI (((nr+1):Nat):Int))])),(5,(.box 158 [(pI kd),(.own 12),(pI 0),(pI 0),(pI 0)])),(12,(.row 78 R.length ((R.map rwE).flatten)))] 15 (pB false) [(13,(.box 156 [(.ptr 5 0)])),(14,(.box 3 [(pI (((nr+1):Nat):Int))])),(5,(.box 158 [(pI kd),(.own 12),(pI (((nr+1):Nat):Int)),(pI 1),(pI 11)])),(12,(.row 78 R.length ((R.map rwE).flatten)))],_,_,_,_,FC Tp 89 [(.ptr 5 0),(pI (((nr+1):Nat):Int))] [(5,(.box 158 [(pI kd),(.own 12),(pI 0),(pI 0),(pI 0)])),(12,(.row 78 R.length ((R.map rwE).flatten)))] 13 (.fn 176 [] [(.ptr 13 0),(.ptr 14 0)]) [(5,(.box 158 [(pI kd),(.own 12),(pI 0),(pI 0),(pI 0)])),(12,(.row 78 R.length ((R.map rwE).flatten))),(13,(.box 156 [(.ptr 5 0)])),(14,(.box 3 [(pI (((nr+1):Nat):Int))]))],_]) (by kernel_rfl) (gc (FMM.fc (ids:=[5,12]) (jX (k:=kd) (l:=(((nr+1):Nat):Int)) (f:=(1:Int)) (e:=(11:Int)) (n:=R.length) (cs:=((R.map rwE).flatten)) (by decide)) (by kernel_rfl)) (gc bHc (gc (FMM.fc (ids:=[13,14,5,12]) (cO 1 11 (((nr+1):Nat):Int) kd 0 0 0 R) (by kernel_rfl)) (A1 h3 (gc (fk 15 (eQ xl ([32]:List UInt8) h1 h2) rfl) (gc (FMM.fcN (k:=2) rfl (ids:=[5,12]) (eU (ln:=(((nr+1):Nat):Int)) (k:=kd) (l:=(0:Int)) (f:=(0:Int)) (e:=(0:Int)) (R:=R)) (by kernel_rfl)) (gc h0 gn))))))),by kernel_rfl,(⟨fr 149 [(1,(.ptr 0 0)),(2,(.ptr 1 0)),(3,(.ptr 2 0)),(4,(.ptr 3 0)),(5,(.ptr 4 0)),(6,(.ptr 6 0)),(7,(.ptr 7 0)),(8,(.ptr 8 0)),(9,(.ptr 9 0)),(10,(.ptr 10 0)),(24,(.ptr 5 0)),(26,(.fn 175 [] [(.ptr 11 0)]))],[some (.box 9 [(.p (aD s))]),some (.box 26 [(pI 0),(.p bM)]),some (.box 3 [(pI (((nr+1):Nat):Int))]),some (.box 3 [(pI 1)]),some (.box 27 [(pI 11)]),some (.box 158 [(pI kd),(.own 12),(pI (((nr+1):Nat):Int)),(pI 1),(pI 11)]),some (.box 156 [(.ptr 5 0)]),some (.box 3 [(pI (((nr+1):Nat):Int))]),some (.box 3 [(pI my)]),some (.box 3 [(pI (bf:Int))]),some (.box 4 [(pB dn)]),some .dead,some (.row 78 R.length ((R.map rwE).flatten))]⟩:St).t,by kernel_rfl⟩
 exact raw
theorem aYt{s:List UInt8}{R:List (List Cel)}{xl:List UInt8}(h0:inR (((nr+1):Nat):Int))(h1:xl.length<4294967281)(h2:1≤([32]:List UInt8).length)(h3:dn=false)(h4:xb=false)(B2:Dx=(nr+1)):bU Tp 13 12 fC (jQ (bP s nr my bf dn kd R.length ((R.map rwE).flatten)) 27 28 11 12 xl xb) .ret (bS (bS (bS (bS (bP s Dx my bf dn kd R.length ((R.map rwE).flatten)) 5 (some (.box 158 [(pI kd),(.own 12),(pI (((nr+1):Nat):Int)),(pI 1),(pI 11)]))) 2 (some (.box 3 [(pI (((nr+1):Nat):Int))]))) 3 (some (.box 3 [(pI 1)]))) 4 (some (.box 27 [(pI 11)]))).m:=by
 subst B2
 have raw:bU Tp 13 12 fC (jQ (bP s nr my bf dn kd R.length ((R.map rwE).flatten)) 27 28 11 12 xl xb) .ret (bS (bS (bS (bS (bP s (nr+1) my bf dn kd R.length ((R.map rwE).flatten)) 5 (some (.box 158 [(pI kd),(.own 12),(pI (((nr+1):Nat):Int)),(pI 1),(pI 11)]))) 2 (some (.box 3 [(pI (((nr+1):Nat):Int))]))) 3 (some (.box 3 [(pI 1)]))) 4 (some (.box 27 [(pI 11)]))).m:=⟨⟨fr 149 [(1,(.ptr 0 0)),(2,(.ptr 1 0)),(3,(.ptr 2 0)),(4,(.ptr 3 0)),(5,(.ptr 4 0)),(6,(.ptr 6 0)),(7,(.ptr 7 0)),(8,(.ptr 8 0)),(9,(.ptr 9 0)),(10,(.ptr 10 0)),(24,(.ptr 5 0)),(26,(.fn 175 [] [(.ptr 11 0)]))],[some (.box 9 [(.p (aD s))]),some (.box 26 [(pI 0),(.p bM)]),some (.box 3 [(pI (((nr+1):Nat):Int))]),some (.box 3 [(pI 1)]),some (.box 27 [(pI 11)]),some (.box 158 [(pI kd),(.own 12),(pI (((nr+1):Nat):Int)),(pI 1),(pI 11)]),some (.box 156 [(.ptr 5 0)]),some (.box 3 [(pI (((nr+1):Nat):Int))]),some (.box 3 [(pI my)]),some (.box 3 [(pI (bf:Int))]),some (.box 4 [(pB dn)]),some .dead,some (.row 78 R.length ((R.map rwE).flatten))]⟩,⟨[],[12],[],[]⟩,aA.fin (g:=⟨(rng [(0,1),(11,13),(25,1),(27,109),(142,1)]),[],[],[]⟩) (o:=[.c (.fn 176 [] [(.ptr 13 0),(.ptr 14 0)]) [(5,(.box 158 [(pI kd),(.own 12),(pI 0),(pI 0),(pI 0)])),(12,(.row 78 R.length ((R.map rwE).flatten))),(13,(.box 156 [(.ptr 5 0)])),(14,(.box 3 [(pI (((nr+1):Nat):Int))]))],.c (.p (.sl ((aU xl ([32]:List UInt8)).length) (((aU xl ([32]:List UInt8)).map stE).flatten))) [],bF,bF,bF,bT,.c (pB false) [(13,(.box 156 [(.ptr 5 0)])),(14,(.box 3 [(pI (((nr+1):Nat):Int))])),(5,(.box 158 [(pI kd),(.own 12),(pI (((nr+1):Nat):Int)),(pI 1),(pI 11)])),(12,(.row 78 R.length ((R.map rwE).flatten)))],bT,.c (.tup [(.p (.agg [(aB 0),bM])),(pI (((nr+1):Nat):Int)),(pI 1),(pI 11)]) [(5,(.box 158 [(pI kd),(.own 12),(pI (((nr+1):Nat):Int)),(pI 1),(pI 11)])),(12,(.row 78 R.length ((R.map rwE).flatten)))]]) (l:=[FC Tp 94 [(.ptr 5 0)] [(5,(.box 158 [(pI kd),(.own 12),(pI (((nr+1):Nat):Int)),(pI 1),(pI 11)])),(12,(.row 78 R.length ((R.map rwE).flatten)))] 15 (.tup [(.p (.agg [(aB 0),bM])),(pI (((nr+1):Nat):Int)),(pI 1),(pI 11)]) [(5,(.box 158 [(pI kd),(.own 12),(pI (((nr+1):Nat):Int)),(pI 1),(pI 11)])),(12,(.row 78 R.length ((R.map rwE).flatten)))],_,FC Tp 176 [(pI 1),(pI 11),(.ptr 13 0),(.ptr 14 0)] [(13,(.box 156 [(.ptr 5 0)])),(14,(.box 3 [(pI (((nr+1):Nat):Int))])),(5,(.box 158 [(pI kd),(.own 12),(pI 0),(pI 0),(pI 0)])),(12,(.row 78 R.length ((R.map rwE).flatten)))] 15 (pB false) [(13,(.box 156 [(.ptr 5 0)])),(14,(.box 3 [(pI (((nr+1):Nat):Int))])),(5,(.box 158 [(pI kd),(.own 12),(pI (((nr+1):Nat):Int)),(pI 1),(pI 11)])),(12,(.row 78 R.length ((R.map rwE).flatten)))],_,_,_,_,_,FC Tp 89 [(.ptr 5 0),(pI (((nr+1):Nat):Int))] [(5,(.box 158 [(pI kd),(.own 12),(pI 0),(pI 0),(pI 0)])),(12,(.row 78 R.length ((R.map rwE).flatten)))] 13 (.fn 176 [] [(.ptr 13 0),(.ptr 14 0)]) [(5,(.box 158 [(pI kd),(.own 12),(pI 0),(pI 0),(pI 0)])),(12,(.row 78 R.length ((R.map rwE).flatten))),(13,(.box 156 [(.ptr 5 0)])),(14,(.box 3 [(pI (((nr+1):Nat):Int))]))],_]) (by kernel_rfl) (gc (FMM.fc (ids:=[5,12]) (jX (k:=kd) (l:=(((nr+1):Nat):Int)) (f:=(1:Int)) (e:=(11:Int)) (n:=R.length) (cs:=((R.map rwE).flatten)) (by decide)) (by kernel_rfl)) (gc bHc (gc (FMM.fc (ids:=[13,14,5,12]) (cO 1 11 (((nr+1):Nat):Int) kd 0 0 0 R) (by kernel_rfl)) (gc (cZ h4) (A1 h3 (gc (fk 15 (eQ xl ([32]:List UInt8) h1 h2) rfl) (gc (FMM.fcN (k:=2) rfl (ids:=[5,12]) (eU (ln:=(((nr+1):Nat):Int)) (k:=kd) (l:=(0:Int)) (f:=(0:Int)) (e:=(0:Int)) (R:=R)) (by kernel_rfl)) (gc h0 gn)))))))),by kernel_rfl,(⟨fr 149 [(1,(.ptr 0 0)),(2,(.ptr 1 0)),(3,(.ptr 2 0)),(4,(.ptr 3 0)),(5,(.ptr 4 0)),(6,(.ptr 6 0)),(7,(.ptr 7 0)),(8,(.ptr 8 0)),(9,(.ptr 9 0)),(10,(.ptr 10 0)),(24,(.ptr 5 0)),(26,(.fn 175 [] [(.ptr 11 0)]))],[some (.box 9 [(.p (aD s))]),some (.box 26 [(pI 0),(.p bM)]),some (.box 3 [(pI (((nr+1):Nat):Int))]),some (.box 3 [(pI 1)]),some (.box 27 [(pI 11)]),some (.box 158 [(pI kd),(.own 12),(pI (((nr+1):Nat):Int)),(pI 1),(pI 11)]),some (.box 156 [(.ptr 5 0)]),some (.box 3 [(pI (((nr+1):Nat):Int))]),some (.box 3 [(pI my)]),some (.box 3 [(pI (bf:Int))]),some (.box 4 [(pB dn)]),some .dead,some (.row 78 R.length ((R.map rwE).flatten))]⟩:St).t,by kernel_rfl⟩
 exact raw
theorem aYu{s:List UInt8}{R:List (List Cel)}{xl:List UInt8}(h0:inR (((nr+1):Nat):Int))(h1:xl.length<4294967281)(h2:1≤([32]:List UInt8).length)(h3:dn=false)(h4:xb=true)(h5:(((nr+1):Nat):Int)=1)(Na:(hdM (aU xl ([32]:List UInt8))).2.2.2≠0)(h7:((hdM (aU xl ([32]:List UInt8))).2.2.2)≠0)(B2:Dx=(nr+1))(Fq:H1=((hdM (aU xl ([32]:List UInt8))).2.1))(Fp:H0=(Dm (hdM (aU xl ([32]:List UInt8))).1)):bU Tp 13 12 fC (jQ (bP s nr my bf dn kd R.length ((R.map rwE).flatten)) 27 28 11 12 xl xb) .ret (bS (bS (bS (bS (bP s Dx H1 bf dn H0 R.length ((R.map rwE).flatten)) 5 (some (.box 158 [(pI (Dm (hdM (aU xl ([32]:List UInt8))).1)),(.own 12),(pI (((nr+1):Nat):Int)),(pI ((hdM (aU xl ([32]:List UInt8))).2.2.1)),(pI ((hdM (aU xl ([32]:List UInt8))).2.2.2))]))) 2 (some (.box 3 [(pI (((nr+1):Nat):Int))]))) 3 (some (.box 3 [(pI ((hdM (aU xl ([32]:List UInt8))).2.2.1))]))) 4 (some (.box 27 [(pI ((hdM (aU xl ([32]:List UInt8))).2.2.2))]))).m:=by
 subst B2 Fq Fp
 have raw:bU Tp 13 12 fC (jQ (bP s nr my bf dn kd R.length ((R.map rwE).flatten)) 27 28 11 12 xl xb) .ret (bS (bS (bS (bS (bP s (nr+1) ((hdM (aU xl ([32]:List UInt8))).2.1) bf dn (Dm (hdM (aU xl ([32]:List UInt8))).1) R.length ((R.map rwE).flatten)) 5 (some (.box 158 [(pI (Dm (hdM (aU xl ([32]:List UInt8))).1)),(.own 12),(pI (((nr+1):Nat):Int)),(pI ((hdM (aU xl ([32]:List UInt8))).2.2.1)),(pI ((hdM (aU xl ([32]:List UInt8))).2.2.2))]))) 2 (some (.box 3 [(pI (((nr+1):Nat):Int))]))) 3 (some (.box 3 [(pI ((hdM (aU xl ([32]:List UInt8))).2.2.1))]))) 4 (some (.box 27 [(pI ((hdM (aU xl ([32]:List UInt8))).2.2.2))]))).m:=⟨⟨fr 149 [(1,(.ptr 0 0)),(2,(.ptr 1 0)),(3,(.ptr 2 0)),(4,(.ptr 3 0)),(5,(.ptr 4 0)),(6,(.ptr 6 0)),(7,(.ptr 7 0)),(8,(.ptr 8 0)),(9,(.ptr 9 0)),(10,(.ptr 10 0)),(24,(.ptr 5 0)),(26,(.fn 175 [] [(.ptr 11 0)]))],[some (.box 9 [(.p (aD s))]),some (.box 26 [(pI 0),(.p bM)]),some (.box 3 [(pI (((nr+1):Nat):Int))]),some (.box 3 [(pI ((hdM (aU xl ([32]:List UInt8))).2.2.1))]),some (.box 27 [(pI ((hdM (aU xl ([32]:List UInt8))).2.2.2))]),some (.box 158 [(pI (Dm (hdM (aU xl ([32]:List UInt8))).1)),(.own 12),(pI (((nr+1):Nat):Int)),(pI ((hdM (aU xl ([32]:List UInt8))).2.2.1)),(pI ((hdM (aU xl ([32]:List UInt8))).2.2.2))]),some (.box 156 [(.ptr 5 0)]),some (.box 3 [(pI (((nr+1):Nat):Int))]),some (.box 3 [(pI ((hdM (aU xl ([32]:List UInt8))).2.1))]),some (.box 3 [(pI (bf:Int))]),some (.box 4 [(pB dn)]),some .dead,some (.row 78 R.length ((R.map rwE).flatten))]⟩,⟨[],[12],[],[]⟩,aA.fin (g:=⟨(rng [(0,1),(11,13),(25,1),(27,109),(142,1)]),[],[],[]⟩) (o:=[.c (.fn 176 [] [(.ptr 13 0),(.ptr 14 0)]) [(5,(.box 158 [(pI kd),(.own 12),(pI 0),(pI 0),(pI 0)])),(12,(.row 78 R.length ((R.map rwE).flatten))),(13,(.box 156 [(.ptr 5 0)])),(14,(.box 3 [(pI (((nr+1):Nat):Int))]))],.c (.p (.sl ((aU xl ([32]:List UInt8)).length) (((aU xl ([32]:List UInt8)).map stE).flatten))) [],bF,bF,bF,bF,bT,.c (pI ((hdM (aU xl ([32]:List UInt8))).2.1)) [(5,(.box 158 [(pI (Dm (hdM (aU xl ([32]:List UInt8))).1)),(.own 12),(pI (((nr+1):Nat):Int)),(pI ((hdM (aU xl ([32]:List UInt8))).2.2.1)),(pI ((hdM (aU xl ([32]:List UInt8))).2.2.2))])),(12,(.row 78 R.length ((R.map rwE).flatten))),(13,(.box 156 [(.ptr 5 0)])),(14,(.box 3 [(pI (((nr+1):Nat):Int))]))],bT,.c (.tup [(.p (.agg [(aB 0),bM])),(pI (((nr+1):Nat):Int)),(pI ((hdM (aU xl ([32]:List UInt8))).2.2.1)),(pI ((hdM (aU xl ([32]:List UInt8))).2.2.2))]) [(5,(.box 158 [(pI (Dm (hdM (aU xl ([32]:List UInt8))).1)),(.own 12),(pI (((nr+1):Nat):Int)),(pI ((hdM (aU xl ([32]:List UInt8))).2.2.1)),(pI ((hdM (aU xl ([32]:List UInt8))).2.2.2))])),(12,(.row 78 R.length ((R.map rwE).flatten)))]]) (l:=[FC Tp 94 [(.ptr 5 0)] [(5,(.box 158 [(pI (Dm (hdM (aU xl ([32]:List UInt8))).1)),(.own 12),(pI (((nr+1):Nat):Int)),(pI ((hdM (aU xl ([32]:List UInt8))).2.2.1)),(pI ((hdM (aU xl ([32]:List UInt8))).2.2.2))])),(12,(.row 78 R.length ((R.map rwE).flatten)))] 15 (.tup [(.p (.agg [(aB 0),bM])),(pI (((nr+1):Nat):Int)),(pI ((hdM (aU xl ([32]:List UInt8))).2.2.1)),(pI ((hdM (aU xl ([32]:List UInt8))).2.2.2))]) [(5,(.box 158 [(pI (Dm (hdM (aU xl ([32]:List UInt8))).1)),(.own 12),(pI (((nr+1):Nat):Int)),(pI ((hdM (aU xl ([32]:List UInt8))).2.2.1)),(pI ((hdM (aU xl ([32]:List UInt8))).2.2.2))])),(12,(.row 78 R.length ((R.map rwE).flatten)))],_,FC Tp 90 [(.ptr 5 0),(.p (.sl ((aU xl ([32]:List UInt8)).length) (((aU xl ([32]:List UInt8)).map stE).flatten))),(.fn 176 [] [(.ptr 13 0),(.ptr 14 0)])] [(5,(.box 158 [(pI kd),(.own 12),(pI 0),(pI 0),(pI 0)])),(13,(.box 156 [(.ptr 5 0)])),(14,(.box 3 [(pI (((nr+1):Nat):Int))])),(12,(.row 78 R.length ((R.map rwE).flatten)))] 15 (pI ((hdM (aU xl ([32]:List UInt8))).2.1)) [(5,(.box 158 [(pI (Dm (hdM (aU xl ([32]:List UInt8))).1)),(.own 12),(pI (((nr+1):Nat):Int)),(pI ((hdM (aU xl ([32]:List UInt8))).2.2.1)),(pI ((hdM (aU xl ([32]:List UInt8))).2.2.2))])),(12,(.row 78 R.length ((R.map rwE).flatten))),(13,(.box 156 [(.ptr 5 0)])),(14,(.box 3 [(pI (((nr+1):Nat):Int))]))],_,_,_,_,_,_,FC Tp 89 [(.ptr 5 0),(pI (((nr+1):Nat):Int))] [(5,(.box 158 [(pI kd),(.own 12),(pI 0),(pI 0),(pI 0)])),(12,(.row 78 R.length ((R.map rwE).flatten)))] 13 (.fn 176 [] [(.ptr 13 0),(.ptr 14 0)]) [(5,(.box 158 [(pI kd),(.own 12),(pI 0),(pI 0),(pI 0)])),(12,(.row 78 R.length ((R.map rwE).flatten))),(13,(.box 156 [(.ptr 5 0)])),(14,(.box 3 [(pI (((nr+1):Nat):Int))]))],_]) (by kernel_rfl) (gc (FMM.fc (ids:=[5,12]) (jX (k:=(Dm (hdM (aU xl ([32]:List UInt8))).1)) (l:=(((nr+1):Nat):Int)) (f:=((hdM (aU xl ([32]:List UInt8))).2.2.1)) (e:=((hdM (aU xl ([32]:List UInt8))).2.2.2)) (n:=R.length) (cs:=((R.map rwE).flatten)) h7) (by kernel_rfl)) (gc (fD h7) (gc (FMM.fc (ids:=[5,12,13,14]) (bXa (aU xl ([32]:List UInt8)) (((nr+1):Nat):Int) kd R Na) (by kernel_rfl)) (gc (dF h5) (gc (aX h4) (A1 h3 (gc (fk 15 (eQ xl ([32]:List UInt8) h1 h2) rfl) (gc (FMM.fcN (k:=2) rfl (ids:=[5,12]) (eU (ln:=(((nr+1):Nat):Int)) (k:=kd) (l:=(0:Int)) (f:=(0:Int)) (e:=(0:Int)) (R:=R)) (by kernel_rfl)) (gc h0 gn))))))))),by kernel_rfl,(⟨fr 149 [(1,(.ptr 0 0)),(2,(.ptr 1 0)),(3,(.ptr 2 0)),(4,(.ptr 3 0)),(5,(.ptr 4 0)),(6,(.ptr 6 0)),(7,(.ptr 7 0)),(8,(.ptr 8 0)),(9,(.ptr 9 0)),(10,(.ptr 10 0)),(24,(.ptr 5 0)),(26,(.fn 175 [] [(.ptr 11 0)]))],[some (.box 9 [(.p (aD s))]),some (.box 26 [(pI 0),(.p bM)]),some (.box 3 [(pI (((nr+1):Nat):Int))]),some (.box 3 [(pI ((hdM (aU xl ([32]:List UInt8))).2.2.1))]),some (.box 27 [(pI ((hdM (aU xl ([32]:List UInt8))).2.2.2))]),some (.box 158 [(pI (Dm (hdM (aU xl ([32]:List UInt8))).1)),(.own 12),(pI (((nr+1):Nat):Int)),(pI ((hdM (aU xl ([32]:List UInt8))).2.2.1)),(pI ((hdM (aU xl ([32]:List UInt8))).2.2.2))]),some (.box 156 [(.ptr 5 0)]),some (.box 3 [(pI (((nr+1):Nat):Int))]),some (.box 3 [(pI ((hdM (aU xl ([32]:List UInt8))).2.1))]),some (.box 3 [(pI (bf:Int))]),some (.box 4 [(pB dn)]),some .dead,some (.row 78 R.length ((R.map rwE).flatten))]⟩:St).t,by kernel_rfl⟩
 exact raw
theorem aYv{s:List UInt8}{R:List (List Cel)}{xl:List UInt8}(h0:inR (((nr+1):Nat):Int))(h1:xl.length<4294967281)(h2:1≤([32]:List UInt8).length)(h3:dn=false)(h4:xb=true)(h5:(((nr+1):Nat):Int)=1)(Na:(hdM (aU xl ([32]:List UInt8))).2.2.2=0)(h7:inR (((xl.length+1):Nat):Int))(h8:inR (((bf+(xl.length+1)):Nat):Int))(B2:Dx=(nr+1))(Fq:H1=((hdM (aU xl ([32]:List UInt8))).2.1))(Fx:Iq=(bf+(xl.length+1)))(Fp:H0=(Dm (hdM (aU xl ([32]:List UInt8))).1)):bU Tp 13 12 fC (jQ (bP s nr my bf dn kd R.length ((R.map rwE).flatten)) 27 28 11 12 xl xb) .normal (bP s Dx H1 Iq dn H0 R.length ((R.map rwE).flatten)).m:=by
 subst B2 Fq Fx Fp
 have raw:bU Tp 13 12 fC (jQ (bP s nr my bf dn kd R.length ((R.map rwE).flatten)) 27 28 11 12 xl xb) .normal (bP s (nr+1) ((hdM (aU xl ([32]:List UInt8))).2.1) (bf+(xl.length+1)) dn (Dm (hdM (aU xl ([32]:List UInt8))).1) R.length ((R.map rwE).flatten)).m:=⟨⟨fr 149 [(1,(.ptr 0 0)),(2,(.ptr 1 0)),(3,(.ptr 2 0)),(4,(.ptr 3 0)),(5,(.ptr 4 0)),(6,(.ptr 6 0)),(7,(.ptr 7 0)),(8,(.ptr 8 0)),(9,(.ptr 9 0)),(10,(.ptr 10 0)),(24,(.ptr 5 0)),(26,(.fn 175 [] [(.ptr 11 0)]))],[some (.box 9 [(.p (aD s))]),some (.box 26 [(pI 0),(.p bM)]),some (.box 3 [(pI 0)]),some (.box 3 [(pI 0)]),some (.box 27 [(pI 0)]),some (.box 158 [(pI (Dm (hdM (aU xl ([32]:List UInt8))).1)),(.own 12),(pI 0),(pI 0),(pI 0)]),some (.box 156 [(.ptr 5 0)]),some (.box 3 [(pI (((nr+1):Nat):Int))]),some (.box 3 [(pI ((hdM (aU xl ([32]:List UInt8))).2.1))]),some (.box 3 [(pI (((bf+(xl.length+1)):Nat):Int))]),some (.box 4 [(pB dn)]),some .dead,some (.row 78 R.length ((R.map rwE).flatten))]⟩,⟨[],[12],[],[]⟩,aA.fin (g:=⟨(rng [(0,1),(11,13),(25,1),(27,109),(142,1)]),[],[],[]⟩) (o:=[.c (.fn 176 [] [(.ptr 13 0),(.ptr 14 0)]) [(5,(.box 158 [(pI kd),(.own 12),(pI 0),(pI 0),(pI 0)])),(12,(.row 78 R.length ((R.map rwE).flatten))),(13,(.box 156 [(.ptr 5 0)])),(14,(.box 3 [(pI (((nr+1):Nat):Int))]))],.c (.p (.sl ((aU xl ([32]:List UInt8)).length) (((aU xl ([32]:List UInt8)).map stE).flatten))) [],bF,bF,bF,bF,bT,.c (pI ((hdM (aU xl ([32]:List UInt8))).2.1)) [(5,(.box 158 [(pI (Dm (hdM (aU xl ([32]:List UInt8))).1)),(.own 12),(pI 0),(pI 0),(pI 0)])),(12,(.row 78 R.length ((R.map rwE).flatten))),(13,(.box 156 [(.ptr 5 0)])),(14,(.box 3 [(pI (((nr+1):Nat):Int))]))],bF]) (l:=[_,_,_,FC Tp 90 [(.ptr 5 0),(.p (.sl ((aU xl ([32]:List UInt8)).length) (((aU xl ([32]:List UInt8)).map stE).flatten))),(.fn 176 [] [(.ptr 13 0),(.ptr 14 0)])] [(5,(.box 158 [(pI kd),(.own 12),(pI 0),(pI 0),(pI 0)])),(13,(.box 156 [(.ptr 5 0)])),(14,(.box 3 [(pI (((nr+1):Nat):Int))])),(12,(.row 78 R.length ((R.map rwE).flatten)))] 15 (pI ((hdM (aU xl ([32]:List UInt8))).2.1)) [(5,(.box 158 [(pI (Dm (hdM (aU xl ([32]:List UInt8))).1)),(.own 12),(pI 0),(pI 0),(pI 0)])),(12,(.row 78 R.length ((R.map rwE).flatten))),(13,(.box 156 [(.ptr 5 0)])),(14,(.box 3 [(pI (((nr+1):Nat):Int))]))],_,_,_,_,_,_,FC Tp 89 [(.ptr 5 0),(pI (((nr+1):Nat):Int))] [(5,(.box 158 [(pI kd),(.own 12),(pI 0),(pI 0),(pI 0)])),(12,(.row 78 R.length ((R.map rwE).flatten)))] 13 (.fn 176 [] [(.ptr 13 0),(.ptr 14 0)]) [(5,(.box 158 [(pI kd),(.own 12),(pI 0),(pI 0),(pI 0)])),(12,(.row 78 R.length ((R.map rwE).flatten))),(13,(.box 156 [(.ptr 5 0)])),(14,(.box 3 [(pI (((nr+1):Nat):Int))]))],_]) (by kernel_rfl) (gc h8 (gc h7 (gc aRo (gc (FMM.fc (ids:=[5,12,13,14]) (bXb (aU xl ([32]:List UInt8)) (((nr+1):Nat):Int) kd R Na) (by kernel_rfl)) (gc (dF h5) (gc (aX h4) (A1 h3 (gc (fk 15 (eQ xl ([32]:List UInt8) h1 h2) rfl) (gc (FMM.fcN (k:=2) rfl (ids:=[5,12]) (eU (ln:=(((nr+1):Nat):Int)) (k:=kd) (l:=(0:Int)) (f:=(0:Int)) (e:=(0:Int)) (R:=R)) (by kernel_rfl)) (gc h0 gn)))))))))),by kernel_rfl,(⟨fr 149 [(1,(.ptr 0 0)),(2,(.ptr 1 0)),(3,(.ptr 2 0)),(4,(.ptr 3 0)),(5,(.ptr 4 0)),(6,(.ptr 6 0)),(7,(.ptr 7 0)),(8,(.ptr 8 0)),(9,(.ptr 9 0)),(10,(.ptr 10 0)),(24,(.ptr 5 0)),(26,(.fn 175 [] [(.ptr 11 0)]))],[some (.box 9 [(.p (aD s))]),some (.box 26 [(pI 0),(.p bM)]),some (.box 3 [(pI 0)]),some (.box 3 [(pI 0)]),some (.box 27 [(pI 0)]),some (.box 158 [(pI (Dm (hdM (aU xl ([32]:List UInt8))).1)),(.own 12),(pI 0),(pI 0),(pI 0)]),some (.box 156 [(.ptr 5 0)]),some (.box 3 [(pI (((nr+1):Nat):Int))]),some (.box 3 [(pI ((hdM (aU xl ([32]:List UInt8))).2.1))]),some (.box 3 [(pI (((bf+(xl.length+1)):Nat):Int))]),some (.box 4 [(pB dn)]),some .dead,some (.row 78 R.length ((R.map rwE).flatten))]⟩:St).t,by kernel_rfl⟩
 exact raw
theorem aYw{s:List UInt8}{R:List (List Cel)}{xl:List UInt8}{Ae Bd:List Cel}{R':List (List Cel)}(h0:inR (((nr+1):Nat):Int))(h1:xl.length<4294967281)(h2:1≤([32]:List UInt8).length)(h3:dn=false)(h4:xb=true)(h5:(((nr+1):Nat):Int)≠1)(h6:inR (my+1))(h7:(((nr+1):Nat):Int)≤(my+1))(Hd:∀ u∈(aU xl ([32]:List UInt8)),u.length≤90000)(He:rdL (aJ kd) (aU xl ([32]:List UInt8)) 0 = .inl Ae)(E0:(aU xl ([32]:List UInt8)).length=(aJ kd).length)(C6:(0:Int)<(R.length:Int))(A8:inR ((R.length:Int)-1))(Cm:0≤((R.length:Int)-1)∧((R.length:Int)-1)<(R.length:Int))(Dh:R[((R.length:Int)-1).toNat]? = some (Bd))(Eo:aN kd≤(Bd.length:Int))(Gu:aN kd≤(Ae.length:Int))(Gm:bR kd Bd Ae=(-1:Int))(Ik:[(PV.sl Ae.length ((Ae.map cE).flatten))].length=1*1∧R.length+1≤1000000)(Lg:inR (((xl.length+1):Nat):Int))(Lh:inR (((bf+(xl.length+1)):Nat):Int))(B2:Dx=(nr+1))(Fx:Iq=(bf+(xl.length+1)))(D5:R'.length=(R.length+1))(D6:(R'.map rwE).flatten=(((R.map rwE).flatten)++[(PV.sl Ae.length ((Ae.map cE).flatten))])):bU Tp 13 12 fC (jQ (bP s nr my bf dn kd R.length ((R.map rwE).flatten)) 27 28 11 12 xl xb) .normal (bP s Dx my Iq dn kd R'.length ((R'.map rwE).flatten)).m:=by
 subst B2 Fx
 have raw:bU Tp 13 12 fC (jQ (bP s nr my bf dn kd R.length ((R.map rwE).flatten)) 27 28 11 12 xl xb) .normal (bP s (nr+1) my (bf+(xl.length+1)) dn kd (R.length+1) (((R.map rwE).flatten)++[(PV.sl Ae.length ((Ae.map cE).flatten))])).m:=⟨⟨fr 149 [(1,(.ptr 0 0)),(2,(.ptr 1 0)),(3,(.ptr 2 0)),(4,(.ptr 3 0)),(5,(.ptr 4 0)),(6,(.ptr 6 0)),(7,(.ptr 7 0)),(8,(.ptr 8 0)),(9,(.ptr 9 0)),(10,(.ptr 10 0)),(24,(.ptr 5 0)),(26,(.fn 175 [] [(.ptr 11 0)]))],[some (.box 9 [(.p (aD s))]),some (.box 26 [(pI 0),(.p bM)]),some (.box 3 [(pI 0)]),some (.box 3 [(pI 0)]),some (.box 27 [(pI 0)]),some (.box 158 [(pI kd),(.own 13),(pI 0),(pI 0),(pI 0)]),some (.box 156 [(.ptr 5 0)]),some (.box 3 [(pI (((nr+1):Nat):Int))]),some (.box 3 [(pI my)]),some (.box 3 [(pI (((bf+(xl.length+1)):Nat):Int))]),some (.box 4 [(pB dn)]),some .dead,some .dead,some (.row 78 (R.length+1) (((R.map rwE).flatten)++[(PV.sl Ae.length ((Ae.map cE).flatten))]))]⟩,⟨[],[13],[],[]⟩,aA.fin (g:=⟨(rng [(0,1),(11,13),(25,1),(27,109),(142,1)]),[17],[],[]⟩) (o:=[.c (.fn 176 [] [(.ptr 13 0),(.ptr 14 0)]) [(5,(.box 158 [(pI kd),(.own 12),(pI 0),(pI 0),(pI 0)])),(12,(.row 78 R.length ((R.map rwE).flatten))),(13,(.box 156 [(.ptr 5 0)])),(14,(.box 3 [(pI (((nr+1):Nat):Int))]))],.c (.p (.sl ((aU xl ([32]:List UInt8)).length) (((aU xl ([32]:List UInt8)).map stE).flatten))) [],bF,bF,bF,bF,bF,bT,.c (.tup [(.own 15),(pB true)]) [(5,(.box 158 [(pI kd),(.own 12),(pI 0),(pI 0),(pI 0)])),(12,(.row 78 R.length ((R.map rwE).flatten))),(13,(.box 156 [(.ptr 5 0)])),(14,(.box 3 [(pI (((nr+1):Nat):Int))])),(15,(.row 80 Ae.length ((Ae.map cE).flatten)))],bT,bT,.x (.sl Bd.length ((Bd.map cE).flatten)),.c (pI (-1)) [],.c (pB true) [(13,(.box 156 [(.ptr 5 0)])),(14,(.box 3 [(pI (((nr+1):Nat):Int))])),(5,(.box 158 [(pI kd),(.own 12),(pI 0),(pI 0),(pI 0)])),(12,(.row 78 R.length ((R.map rwE).flatten)))],bF]) (l:=[_,_,_,_,FC Tp 176 [(pI 1),(pI 0),(.ptr 13 0),(.ptr 14 0)] [(13,(.box 156 [(.ptr 5 0)])),(14,(.box 3 [(pI (((nr+1):Nat):Int))])),(5,(.box 158 [(pI kd),(.own 12),(pI 0),(pI 0),(pI 0)])),(12,(.row 78 R.length ((R.map rwE).flatten)))] 25 (pB true) [(13,(.box 156 [(.ptr 5 0)])),(14,(.box 3 [(pI (((nr+1):Nat):Int))])),(5,(.box 158 [(pI kd),(.own 12),(pI 0),(pI 0),(pI 0)])),(12,(.row 78 R.length ((R.map rwE).flatten)))],0≤(0:Int)∧(0:Int)<3,inR 0,FC Tp 92 [(pI kd),(.p (.sl Bd.length ((Bd.map cE).flatten))),(.own 15)] [(15,(.row 80 Ae.length ((Ae.map cE).flatten)))] 17 (pI (-1)) [],((R.map rwE).flatten)[(((R.length:Int)-1).toNat*1)]? = some (.sl Bd.length ((Bd.map cE).flatten)),_,_,_,true=true,FC Tp 91 [(.ptr 5 0),(.p (.sl ((aU xl ([32]:List UInt8)).length) (((aU xl ([32]:List UInt8)).map stE).flatten))),(.fn 176 [] [(.ptr 13 0),(.ptr 14 0)])] [(5,(.box 158 [(pI kd),(.own 12),(pI 0),(pI 0),(pI 0)])),(13,(.box 156 [(.ptr 5 0)])),(14,(.box 3 [(pI (((nr+1):Nat):Int))])),(12,(.row 78 R.length ((R.map rwE).flatten)))] 15 (.tup [(.own 15),(pB true)]) [(5,(.box 158 [(pI kd),(.own 12),(pI 0),(pI 0),(pI 0)])),(12,(.row 78 R.length ((R.map rwE).flatten))),(13,(.box 156 [(.ptr 5 0)])),(14,(.box 3 [(pI (((nr+1):Nat):Int))])),(15,(.row 80 Ae.length ((Ae.map cE).flatten)))],_,_,_,_,_,_,_,_,FC Tp 89 [(.ptr 5 0),(pI (((nr+1):Nat):Int))] [(5,(.box 158 [(pI kd),(.own 12),(pI 0),(pI 0),(pI 0)])),(12,(.row 78 R.length ((R.map rwE).flatten)))] 13 (.fn 176 [] [(.ptr 13 0),(.ptr 14 0)]) [(5,(.box 158 [(pI kd),(.own 12),(pI 0),(pI 0),(pI 0)])),(12,(.row 78 R.length ((R.map rwE).flatten))),(13,(.box 156 [(.ptr 5 0)])),(14,(.box 3 [(pI (((nr+1):Nat):Int))]))],_]) (by kernel_rfl) (gc Lh (gc Lg (gc aRo (gc Ik (gc (FMM.fc (ids:=[13,14,5,12]) (cO 1 0 (((nr+1):Nat):Int) kd 0 0 0 R) (by kernel_rfl)) (gc (by first | decide | simp) (gc (by show _∧_;omega) (gc (fv (aOt kd Bd Ae Eo Gu Gm)) (gc (aM (E:=rwE) (i:=((R.length:Int)-1).toNat) (f:=0) (k:=1) (fun _=>rfl) Dh rfl) (gc Cm (gc A8 (gc (cN C6) (gc rfl (gc (FMM.fcN (k:=1) rfl (ids:=[5,12,13,14]) (kU (((nr+1):Nat):Int) R 0 0 Hd He E0) (by kernel_rfl)) (gc (mD h7) (gc h6 (gc (bL h5) (gc (aX h4) (A1 h3 (gc (fk 15 (eQ xl ([32]:List UInt8) h1 h2) rfl) (gc (FMM.fcN (k:=2) rfl (ids:=[5,12]) (eU (ln:=(((nr+1):Nat):Int)) (k:=kd) (l:=(0:Int)) (f:=(0:Int)) (e:=(0:Int)) (R:=R)) (by kernel_rfl)) (gc h0 gn)))))))))))))))))))))),by kernel_rfl,(⟨fr 149 [(1,(.ptr 0 0)),(2,(.ptr 1 0)),(3,(.ptr 2 0)),(4,(.ptr 3 0)),(5,(.ptr 4 0)),(6,(.ptr 6 0)),(7,(.ptr 7 0)),(8,(.ptr 8 0)),(9,(.ptr 9 0)),(10,(.ptr 10 0)),(24,(.ptr 5 0)),(26,(.fn 175 [] [(.ptr 11 0)]))],[some (.box 9 [(.p (aD s))]),some (.box 26 [(pI 0),(.p bM)]),some (.box 3 [(pI 0)]),some (.box 3 [(pI 0)]),some (.box 27 [(pI 0)]),some (.box 158 [(pI kd),(.own 13),(pI 0),(pI 0),(pI 0)]),some (.box 156 [(.ptr 5 0)]),some (.box 3 [(pI (((nr+1):Nat):Int))]),some (.box 3 [(pI my)]),some (.box 3 [(pI (((bf+(xl.length+1)):Nat):Int))]),some (.box 4 [(pB dn)]),some .dead,some .dead,some (.row 78 (R.length+1) (((R.map rwE).flatten)++[(PV.sl Ae.length ((Ae.map cE).flatten))]))]⟩:St).t,by kernel_rfl⟩
 exact raw.cast (by rw [D5,D6])
theorem aYx{s:List UInt8}{R:List (List Cel)}{xl:List UInt8}{Ae Bd:List Cel}{R':List (List Cel)}(h0:inR (((nr+1):Nat):Int))(h1:xl.length<4294967281)(h2:1≤([32]:List UInt8).length)(h3:dn=false)(h4:xb=true)(h5:(((nr+1):Nat):Int)≠1)(h6:inR (my+1))(h7:(((nr+1):Nat):Int)≤(my+1))(Hd:∀ u∈(aU xl ([32]:List UInt8)),u.length≤90000)(He:rdL (aJ kd) (aU xl ([32]:List UInt8)) 0 = .inl Ae)(E0:(aU xl ([32]:List UInt8)).length=(aJ kd).length)(C6:(0:Int)<(R.length:Int))(A8:inR ((R.length:Int)-1))(Cm:0≤((R.length:Int)-1)∧((R.length:Int)-1)<(R.length:Int))(Dh:R[((R.length:Int)-1).toNat]? = some (Bd))(Eo:aN kd≤(Bd.length:Int))(Gu:aN kd≤(Ae.length:Int))(Gm:bR kd Bd Ae=0)(Ik:[(PV.sl Ae.length ((Ae.map cE).flatten))].length=1*1∧R.length+1≤1000000)(B2:Dx=(nr+1))(D5:R'.length=(R.length+1))(D6:(R'.map rwE).flatten=(((R.map rwE).flatten)++[(PV.sl Ae.length ((Ae.map cE).flatten))])):bU Tp 13 12 fC (jQ (bP s nr my bf dn kd R.length ((R.map rwE).flatten)) 27 28 11 12 xl xb) .ret (bS (bS (bS (bS (bP s Dx my bf dn kd R'.length ((R'.map rwE).flatten)) 5 (some (.box 158 [(pI kd),(.own 12),(pI (((nr+1):Nat):Int)),(pI 1),(pI 5)]))) 2 (some (.box 3 [(pI (((nr+1):Nat):Int))]))) 3 (some (.box 3 [(pI 1)]))) 4 (some (.box 27 [(pI 5)]))).m:=by
 subst B2
 have raw:bU Tp 13 12 fC (jQ (bP s nr my bf dn kd R.length ((R.map rwE).flatten)) 27 28 11 12 xl xb) .ret (bS (bS (bS (bS (bP s (nr+1) my bf dn kd (R.length+1) (((R.map rwE).flatten)++[(PV.sl Ae.length ((Ae.map cE).flatten))])) 5 (some (.box 158 [(pI kd),(.own 12),(pI (((nr+1):Nat):Int)),(pI 1),(pI 5)]))) 2 (some (.box 3 [(pI (((nr+1):Nat):Int))]))) 3 (some (.box 3 [(pI 1)]))) 4 (some (.box 27 [(pI 5)]))).m:=⟨⟨fr 149 [(1,(.ptr 0 0)),(2,(.ptr 1 0)),(3,(.ptr 2 0)),(4,(.ptr 3 0)),(5,(.ptr 4 0)),(6,(.ptr 6 0)),(7,(.ptr 7 0)),(8,(.ptr 8 0)),(9,(.ptr 9 0)),(10,(.ptr 10 0)),(24,(.ptr 5 0)),(26,(.fn 175 [] [(.ptr 11 0)]))],[some (.box 9 [(.p (aD s))]),some (.box 26 [(pI 0),(.p bM)]),some (.box 3 [(pI (((nr+1):Nat):Int))]),some (.box 3 [(pI 1)]),some (.box 27 [(pI 5)]),some (.box 158 [(pI kd),(.own 13),(pI (((nr+1):Nat):Int)),(pI 1),(pI 5)]),some (.box 156 [(.ptr 5 0)]),some (.box 3 [(pI (((nr+1):Nat):Int))]),some (.box 3 [(pI my)]),some (.box 3 [(pI (bf:Int))]),some (.box 4 [(pB dn)]),some .dead,some .dead,some (.row 78 (R.length+1) (((R.map rwE).flatten)++[(PV.sl Ae.length ((Ae.map cE).flatten))]))]⟩,⟨[],[13],[],[]⟩,aA.fin (g:=⟨(rng [(0,1),(11,13),(25,1),(27,109),(142,1)]),[17],[],[]⟩) (o:=[.c (.fn 176 [] [(.ptr 13 0),(.ptr 14 0)]) [(5,(.box 158 [(pI kd),(.own 12),(pI 0),(pI 0),(pI 0)])),(12,(.row 78 R.length ((R.map rwE).flatten))),(13,(.box 156 [(.ptr 5 0)])),(14,(.box 3 [(pI (((nr+1):Nat):Int))]))],.c (.p (.sl ((aU xl ([32]:List UInt8)).length) (((aU xl ([32]:List UInt8)).map stE).flatten))) [],bF,bF,bF,bF,bF,bT,.c (.tup [(.own 15),(pB true)]) [(5,(.box 158 [(pI kd),(.own 12),(pI 0),(pI 0),(pI 0)])),(12,(.row 78 R.length ((R.map rwE).flatten))),(13,(.box 156 [(.ptr 5 0)])),(14,(.box 3 [(pI (((nr+1):Nat):Int))])),(15,(.row 80 Ae.length ((Ae.map cE).flatten)))],bT,bT,.x (.sl Bd.length ((Bd.map cE).flatten)),.c (pI 0) [],.c (pB false) [(13,(.box 156 [(.ptr 5 0)])),(14,(.box 3 [(pI (((nr+1):Nat):Int))])),(5,(.box 158 [(pI kd),(.own 12),(pI (((nr+1):Nat):Int)),(pI 1),(pI 5)])),(12,(.row 78 R.length ((R.map rwE).flatten)))],bT,.c (.tup [(.p (.agg [(aB 0),bM])),(pI (((nr+1):Nat):Int)),(pI 1),(pI 5)]) [(5,(.box 158 [(pI kd),(.own 17),(pI (((nr+1):Nat):Int)),(pI 1),(pI 5)])),(17,(.row 78 (R.length+1) (((R.map rwE).flatten)++[(PV.sl Ae.length ((Ae.map cE).flatten))])))]]) (l:=[FC Tp 94 [(.ptr 5 0)] [(5,(.box 158 [(pI kd),(.own 17),(pI (((nr+1):Nat):Int)),(pI 1),(pI 5)])),(17,(.row 78 (R.length+1) (((R.map rwE).flatten)++[(PV.sl Ae.length ((Ae.map cE).flatten))])))] 18 (.tup [(.p (.agg [(aB 0),bM])),(pI (((nr+1):Nat):Int)),(pI 1),(pI 5)]) [(5,(.box 158 [(pI kd),(.own 17),(pI (((nr+1):Nat):Int)),(pI 1),(pI 5)])),(17,(.row 78 (R.length+1) (((R.map rwE).flatten)++[(PV.sl Ae.length ((Ae.map cE).flatten))])))],((5:Int) != 0)=true,_,FC Tp 176 [(pI 1),(pI 5),(.ptr 13 0),(.ptr 14 0)] [(13,(.box 156 [(.ptr 5 0)])),(14,(.box 3 [(pI (((nr+1):Nat):Int))])),(5,(.box 158 [(pI kd),(.own 12),(pI 0),(pI 0),(pI 0)])),(12,(.row 78 R.length ((R.map rwE).flatten)))] 25 (pB false) [(13,(.box 156 [(.ptr 5 0)])),(14,(.box 3 [(pI (((nr+1):Nat):Int))])),(5,(.box 158 [(pI kd),(.own 12),(pI (((nr+1):Nat):Int)),(pI 1),(pI 5)])),(12,(.row 78 R.length ((R.map rwE).flatten)))],0≤(1:Int)∧(1:Int)<3,inR 1,FC Tp 92 [(pI kd),(.p (.sl Bd.length ((Bd.map cE).flatten))),(.own 15)] [(15,(.row 80 Ae.length ((Ae.map cE).flatten)))] 17 (pI 0) [],((R.map rwE).flatten)[(((R.length:Int)-1).toNat*1)]? = some (.sl Bd.length ((Bd.map cE).flatten)),_,_,_,true=true,FC Tp 91 [(.ptr 5 0),(.p (.sl ((aU xl ([32]:List UInt8)).length) (((aU xl ([32]:List UInt8)).map stE).flatten))),(.fn 176 [] [(.ptr 13 0),(.ptr 14 0)])] [(5,(.box 158 [(pI kd),(.own 12),(pI 0),(pI 0),(pI 0)])),(13,(.box 156 [(.ptr 5 0)])),(14,(.box 3 [(pI (((nr+1):Nat):Int))])),(12,(.row 78 R.length ((R.map rwE).flatten)))] 15 (.tup [(.own 15),(pB true)]) [(5,(.box 158 [(pI kd),(.own 12),(pI 0),(pI 0),(pI 0)])),(12,(.row 78 R.length ((R.map rwE).flatten))),(13,(.box 156 [(.ptr 5 0)])),(14,(.box 3 [(pI (((nr+1):Nat):Int))])),(15,(.row 80 Ae.length ((Ae.map cE).flatten)))],_,_,_,_,_,_,_,_,FC Tp 89 [(.ptr 5 0),(pI (((nr+1):Nat):Int))] [(5,(.box 158 [(pI kd),(.own 12),(pI 0),(pI 0),(pI 0)])),(12,(.row 78 R.length ((R.map rwE).flatten)))] 13 (.fn 176 [] [(.ptr 13 0),(.ptr 14 0)]) [(5,(.box 158 [(pI kd),(.own 12),(pI 0),(pI 0),(pI 0)])),(12,(.row 78 R.length ((R.map rwE).flatten))),(13,(.box 156 [(.ptr 5 0)])),(14,(.box 3 [(pI (((nr+1):Nat):Int))]))],_]) (by kernel_rfl) (gc (FMM.fc (ids:=[5,17]) (jX (k:=kd) (l:=(((nr+1):Nat):Int)) (f:=(1:Int)) (e:=(5:Int)) (n:=(R.length+1)) (cs:=(((R.map rwE).flatten)++[(PV.sl Ae.length ((Ae.map cE).flatten))])) (by decide)) (by kernel_rfl)) (gc (by first | decide | simp) (gc Ik (gc (FMM.fc (ids:=[13,14,5,12]) (cO 1 5 (((nr+1):Nat):Int) kd 0 0 0 R) (by kernel_rfl)) (gc (by first | decide | simp) (gc (by show _∧_;omega) (gc (fv (aOt kd Bd Ae Eo Gu Gm)) (gc (aM (E:=rwE) (i:=((R.length:Int)-1).toNat) (f:=0) (k:=1) (fun _=>rfl) Dh rfl) (gc Cm (gc A8 (gc (cN C6) (gc rfl (gc (FMM.fcN (k:=1) rfl (ids:=[5,12,13,14]) (kU (((nr+1):Nat):Int) R 0 0 Hd He E0) (by kernel_rfl)) (gc (mD h7) (gc h6 (gc (bL h5) (gc (aX h4) (A1 h3 (gc (fk 15 (eQ xl ([32]:List UInt8) h1 h2) rfl) (gc (FMM.fcN (k:=2) rfl (ids:=[5,12]) (eU (ln:=(((nr+1):Nat):Int)) (k:=kd) (l:=(0:Int)) (f:=(0:Int)) (e:=(0:Int)) (R:=R)) (by kernel_rfl)) (gc h0 gn))))))))))))))))))))),by kernel_rfl,(⟨fr 149 [(1,(.ptr 0 0)),(2,(.ptr 1 0)),(3,(.ptr 2 0)),(4,(.ptr 3 0)),(5,(.ptr 4 0)),(6,(.ptr 6 0)),(7,(.ptr 7 0)),(8,(.ptr 8 0)),(9,(.ptr 9 0)),(10,(.ptr 10 0)),(24,(.ptr 5 0)),(26,(.fn 175 [] [(.ptr 11 0)]))],[some (.box 9 [(.p (aD s))]),some (.box 26 [(pI 0),(.p bM)]),some (.box 3 [(pI (((nr+1):Nat):Int))]),some (.box 3 [(pI 1)]),some (.box 27 [(pI 5)]),some (.box 158 [(pI kd),(.own 13),(pI (((nr+1):Nat):Int)),(pI 1),(pI 5)]),some (.box 156 [(.ptr 5 0)]),some (.box 3 [(pI (((nr+1):Nat):Int))]),some (.box 3 [(pI my)]),some (.box 3 [(pI (bf:Int))]),some (.box 4 [(pB dn)]),some .dead,some .dead,some (.row 78 (R.length+1) (((R.map rwE).flatten)++[(PV.sl Ae.length ((Ae.map cE).flatten))]))]⟩:St).t,by kernel_rfl⟩
 exact raw.cast (by rw [D5,D6])
theorem aYy{s:List UInt8}{R:List (List Cel)}{xl:List UInt8}{Ae Bd:List Cel}{R':List (List Cel)}(h0:inR (((nr+1):Nat):Int))(h1:xl.length<4294967281)(h2:1≤([32]:List UInt8).length)(h3:dn=false)(h4:xb=true)(h5:(((nr+1):Nat):Int)≠1)(h6:inR (my+1))(h7:(((nr+1):Nat):Int)≤(my+1))(Hd:∀ u∈(aU xl ([32]:List UInt8)),u.length≤90000)(He:rdL (aJ kd) (aU xl ([32]:List UInt8)) 0 = .inl Ae)(E0:(aU xl ([32]:List UInt8)).length=(aJ kd).length)(C6:(0:Int)<(R.length:Int))(A8:inR ((R.length:Int)-1))(Cm:0≤((R.length:Int)-1)∧((R.length:Int)-1)<(R.length:Int))(Dh:R[((R.length:Int)-1).toNat]? = some (Bd))(Eo:aN kd≤(Bd.length:Int))(Gu:aN kd≤(Ae.length:Int))(Gm:bR kd Bd Ae=1)(Ik:[(PV.sl Ae.length ((Ae.map cE).flatten))].length=1*1∧R.length+1≤1000000)(B2:Dx=(nr+1))(D5:R'.length=(R.length+1))(D6:(R'.map rwE).flatten=(((R.map rwE).flatten)++[(PV.sl Ae.length ((Ae.map cE).flatten))])):bU Tp 13 12 fC (jQ (bP s nr my bf dn kd R.length ((R.map rwE).flatten)) 27 28 11 12 xl xb) .ret (bS (bS (bS (bS (bP s Dx my bf dn kd R'.length ((R'.map rwE).flatten)) 5 (some (.box 158 [(pI kd),(.own 12),(pI (((nr+1):Nat):Int)),(pI 1),(pI 4)]))) 2 (some (.box 3 [(pI (((nr+1):Nat):Int))]))) 3 (some (.box 3 [(pI 1)]))) 4 (some (.box 27 [(pI 4)]))).m:=by
 subst B2
 have raw:bU Tp 13 12 fC (jQ (bP s nr my bf dn kd R.length ((R.map rwE).flatten)) 27 28 11 12 xl xb) .ret (bS (bS (bS (bS (bP s (nr+1) my bf dn kd (R.length+1) (((R.map rwE).flatten)++[(PV.sl Ae.length ((Ae.map cE).flatten))])) 5 (some (.box 158 [(pI kd),(.own 12),(pI (((nr+1):Nat):Int)),(pI 1),(pI 4)]))) 2 (some (.box 3 [(pI (((nr+1):Nat):Int))]))) 3 (some (.box 3 [(pI 1)]))) 4 (some (.box 27 [(pI 4)]))).m:=⟨⟨fr 149 [(1,(.ptr 0 0)),(2,(.ptr 1 0)),(3,(.ptr 2 0)),(4,(.ptr 3 0)),(5,(.ptr 4 0)),(6,(.ptr 6 0)),(7,(.ptr 7 0)),(8,(.ptr 8 0)),(9,(.ptr 9 0)),(10,(.ptr 10 0)),(24,(.ptr 5 0)),(26,(.fn 175 [] [(.ptr 11 0)]))],[some (.box 9 [(.p (aD s))]),some (.box 26 [(pI 0),(.p bM)]),some (.box 3 [(pI (((nr+1):Nat):Int))]),some (.box 3 [(pI 1)]),some (.box 27 [(pI 4)]),some (.box 158 [(pI kd),(.own 13),(pI (((nr+1):Nat):Int)),(pI 1),(pI 4)]),some (.box 156 [(.ptr 5 0)]),some (.box 3 [(pI (((nr+1):Nat):Int))]),some (.box 3 [(pI my)]),some (.box 3 [(pI (bf:Int))]),some (.box 4 [(pB dn)]),some .dead,some .dead,some (.row 78 (R.length+1) (((R.map rwE).flatten)++[(PV.sl Ae.length ((Ae.map cE).flatten))]))]⟩,⟨[],[13],[],[]⟩,aA.fin (g:=⟨(rng [(0,1),(11,13),(25,1),(27,109),(142,1)]),[17],[],[]⟩) (o:=[.c (.fn 176 [] [(.ptr 13 0),(.ptr 14 0)]) [(5,(.box 158 [(pI kd),(.own 12),(pI 0),(pI 0),(pI 0)])),(12,(.row 78 R.length ((R.map rwE).flatten))),(13,(.box 156 [(.ptr 5 0)])),(14,(.box 3 [(pI (((nr+1):Nat):Int))]))],.c (.p (.sl ((aU xl ([32]:List UInt8)).length) (((aU xl ([32]:List UInt8)).map stE).flatten))) [],bF,bF,bF,bF,bF,bT,.c (.tup [(.own 15),(pB true)]) [(5,(.box 158 [(pI kd),(.own 12),(pI 0),(pI 0),(pI 0)])),(12,(.row 78 R.length ((R.map rwE).flatten))),(13,(.box 156 [(.ptr 5 0)])),(14,(.box 3 [(pI (((nr+1):Nat):Int))])),(15,(.row 80 Ae.length ((Ae.map cE).flatten)))],bT,bT,.x (.sl Bd.length ((Bd.map cE).flatten)),.c (pI 1) [],.c (pB false) [(13,(.box 156 [(.ptr 5 0)])),(14,(.box 3 [(pI (((nr+1):Nat):Int))])),(5,(.box 158 [(pI kd),(.own 12),(pI (((nr+1):Nat):Int)),(pI 1),(pI 4)])),(12,(.row 78 R.length ((R.map rwE).flatten)))],bT,.c (.tup [(.p (.agg [(aB 0),bM])),(pI (((nr+1):Nat):Int)),(pI 1),(pI 4)]) [(5,(.box 158 [(pI kd),(.own 17),(pI (((nr+1):Nat):Int)),(pI 1),(pI 4)])),(17,(.row 78 (R.length+1) (((R.map rwE).flatten)++[(PV.sl Ae.length ((Ae.map cE).flatten))])))]]) (l:=[FC Tp 94 [(.ptr 5 0)] [(5,(.box 158 [(pI kd),(.own 17),(pI (((nr+1):Nat):Int)),(pI 1),(pI 4)])),(17,(.row 78 (R.length+1) (((R.map rwE).flatten)++[(PV.sl Ae.length ((Ae.map cE).flatten))])))] 18 (.tup [(.p (.agg [(aB 0),bM])),(pI (((nr+1):Nat):Int)),(pI 1),(pI 4)]) [(5,(.box 158 [(pI kd),(.own 17),(pI (((nr+1):Nat):Int)),(pI 1),(pI 4)])),(17,(.row 78 (R.length+1) (((R.map rwE).flatten)++[(PV.sl Ae.length ((Ae.map cE).flatten))])))],((4:Int) != 0)=true,_,FC Tp 176 [(pI 1),(pI 4),(.ptr 13 0),(.ptr 14 0)] [(13,(.box 156 [(.ptr 5 0)])),(14,(.box 3 [(pI (((nr+1):Nat):Int))])),(5,(.box 158 [(pI kd),(.own 12),(pI 0),(pI 0),(pI 0)])),(12,(.row 78 R.length ((R.map rwE).flatten)))] 25 (pB false) [(13,(.box 156 [(.ptr 5 0)])),(14,(.box 3 [(pI (((nr+1):Nat):Int))])),(5,(.box 158 [(pI kd),(.own 12),(pI (((nr+1):Nat):Int)),(pI 1),(pI 4)])),(12,(.row 78 R.length ((R.map rwE).flatten)))],0≤(2:Int)∧(2:Int)<3,inR 2,FC Tp 92 [(pI kd),(.p (.sl Bd.length ((Bd.map cE).flatten))),(.own 15)] [(15,(.row 80 Ae.length ((Ae.map cE).flatten)))] 17 (pI 1) [],((R.map rwE).flatten)[(((R.length:Int)-1).toNat*1)]? = some (.sl Bd.length ((Bd.map cE).flatten)),_,_,_,true=true,FC Tp 91 [(.ptr 5 0),(.p (.sl ((aU xl ([32]:List UInt8)).length) (((aU xl ([32]:List UInt8)).map stE).flatten))),(.fn 176 [] [(.ptr 13 0),(.ptr 14 0)])] [(5,(.box 158 [(pI kd),(.own 12),(pI 0),(pI 0),(pI 0)])),(13,(.box 156 [(.ptr 5 0)])),(14,(.box 3 [(pI (((nr+1):Nat):Int))])),(12,(.row 78 R.length ((R.map rwE).flatten)))] 15 (.tup [(.own 15),(pB true)]) [(5,(.box 158 [(pI kd),(.own 12),(pI 0),(pI 0),(pI 0)])),(12,(.row 78 R.length ((R.map rwE).flatten))),(13,(.box 156 [(.ptr 5 0)])),(14,(.box 3 [(pI (((nr+1):Nat):Int))])),(15,(.row 80 Ae.length ((Ae.map cE).flatten)))],_,_,_,_,_,_,_,_,FC Tp 89 [(.ptr 5 0),(pI (((nr+1):Nat):Int))] [(5,(.box 158 [(pI kd),(.own 12),(pI 0),(pI 0),(pI 0)])),(12,(.row 78 R.length ((R.map rwE).flatten)))] 13 (.fn 176 [] [(.ptr 13 0),(.ptr 14 0)]) [(5,(.box 158 [(pI kd),(.own 12),(pI 0),(pI 0),(pI 0)])),(12,(.row 78 R.length ((R.map rwE).flatten))),(13,(.box 156 [(.ptr 5 0)])),(14,(.box 3 [(pI (((nr+1):Nat):Int))]))],_]) (by kernel_rfl) (gc (FMM.fc (ids:=[5,17]) (jX (k:=kd) (l:=(((nr+1):Nat):Int)) (f:=(1:Int)) (e:=(4:Int)) (n:=(R.length+1)) (cs:=(((R.map rwE).flatten)++[(PV.sl Ae.length ((Ae.map cE).flatten))])) (by decide)) (by kernel_rfl)) (gc (by first | decide | simp) (gc Ik (gc (FMM.fc (ids:=[13,14,5,12]) (cO 1 4 (((nr+1):Nat):Int) kd 0 0 0 R) (by kernel_rfl)) (gc (by first | decide | simp) (gc (by show _∧_;omega) (gc (fv (aOt kd Bd Ae Eo Gu Gm)) (gc (aM (E:=rwE) (i:=((R.length:Int)-1).toNat) (f:=0) (k:=1) (fun _=>rfl) Dh rfl) (gc Cm (gc A8 (gc (cN C6) (gc rfl (gc (FMM.fcN (k:=1) rfl (ids:=[5,12,13,14]) (kU (((nr+1):Nat):Int) R 0 0 Hd He E0) (by kernel_rfl)) (gc (mD h7) (gc h6 (gc (bL h5) (gc (aX h4) (A1 h3 (gc (fk 15 (eQ xl ([32]:List UInt8) h1 h2) rfl) (gc (FMM.fcN (k:=2) rfl (ids:=[5,12]) (eU (ln:=(((nr+1):Nat):Int)) (k:=kd) (l:=(0:Int)) (f:=(0:Int)) (e:=(0:Int)) (R:=R)) (by kernel_rfl)) (gc h0 gn))))))))))))))))))))),by kernel_rfl,(⟨fr 149 [(1,(.ptr 0 0)),(2,(.ptr 1 0)),(3,(.ptr 2 0)),(4,(.ptr 3 0)),(5,(.ptr 4 0)),(6,(.ptr 6 0)),(7,(.ptr 7 0)),(8,(.ptr 8 0)),(9,(.ptr 9 0)),(10,(.ptr 10 0)),(24,(.ptr 5 0)),(26,(.fn 175 [] [(.ptr 11 0)]))],[some (.box 9 [(.p (aD s))]),some (.box 26 [(pI 0),(.p bM)]),some (.box 3 [(pI (((nr+1):Nat):Int))]),some (.box 3 [(pI 1)]),some (.box 27 [(pI 4)]),some (.box 158 [(pI kd),(.own 13),(pI (((nr+1):Nat):Int)),(pI 1),(pI 4)]),some (.box 156 [(.ptr 5 0)]),some (.box 3 [(pI (((nr+1):Nat):Int))]),some (.box 3 [(pI my)]),some (.box 3 [(pI (bf:Int))]),some (.box 4 [(pB dn)]),some .dead,some .dead,some (.row 78 (R.length+1) (((R.map rwE).flatten)++[(PV.sl Ae.length ((Ae.map cE).flatten))]))]⟩:St).t,by kernel_rfl⟩
 exact raw.cast (by rw [D5,D6])
theorem aYz{s:List UInt8}{R:List (List Cel)}{xl:List UInt8}{Ae:List Cel}{R':List (List Cel)}(h0:inR (((nr+1):Nat):Int))(h1:xl.length<4294967281)(h2:1≤([32]:List UInt8).length)(h3:dn=false)(h4:xb=true)(h5:(((nr+1):Nat):Int)≠1)(h6:inR (my+1))(h7:(((nr+1):Nat):Int)≤(my+1))(Hd:∀ u∈(aU xl ([32]:List UInt8)),u.length≤90000)(He:rdL (aJ kd) (aU xl ([32]:List UInt8)) 0 = .inl Ae)(E0:(aU xl ([32]:List UInt8)).length=(aJ kd).length)(C6:(R.length:Int)≤0)(A8:[(PV.sl Ae.length ((Ae.map cE).flatten))].length=1*1∧R.length+1≤1000000)(Cm:inR (((xl.length+1):Nat):Int))(Dh:inR (((bf+(xl.length+1)):Nat):Int))(B2:Dx=(nr+1))(Fx:Iq=(bf+(xl.length+1)))(D5:R'.length=(R.length+1))(D6:(R'.map rwE).flatten=(((R.map rwE).flatten)++[(PV.sl Ae.length ((Ae.map cE).flatten))])):bU Tp 13 12 fC (jQ (bP s nr my bf dn kd R.length ((R.map rwE).flatten)) 27 28 11 12 xl xb) .normal (bP s Dx my Iq dn kd R'.length ((R'.map rwE).flatten)).m:=by
 subst B2 Fx
 have raw:bU Tp 13 12 fC (jQ (bP s nr my bf dn kd R.length ((R.map rwE).flatten)) 27 28 11 12 xl xb) .normal (bP s (nr+1) my (bf+(xl.length+1)) dn kd (R.length+1) (((R.map rwE).flatten)++[(PV.sl Ae.length ((Ae.map cE).flatten))])).m:=⟨⟨fr 149 [(1,(.ptr 0 0)),(2,(.ptr 1 0)),(3,(.ptr 2 0)),(4,(.ptr 3 0)),(5,(.ptr 4 0)),(6,(.ptr 6 0)),(7,(.ptr 7 0)),(8,(.ptr 8 0)),(9,(.ptr 9 0)),(10,(.ptr 10 0)),(24,(.ptr 5 0)),(26,(.fn 175 [] [(.ptr 11 0)]))],[some (.box 9 [(.p (aD s))]),some (.box 26 [(pI 0),(.p bM)]),some (.box 3 [(pI 0)]),some (.box 3 [(pI 0)]),some (.box 27 [(pI 0)]),some (.box 158 [(pI kd),(.own 13),(pI 0),(pI 0),(pI 0)]),some (.box 156 [(.ptr 5 0)]),some (.box 3 [(pI (((nr+1):Nat):Int))]),some (.box 3 [(pI my)]),some (.box 3 [(pI (((bf+(xl.length+1)):Nat):Int))]),some (.box 4 [(pB dn)]),some .dead,some .dead,some (.row 78 (R.length+1) (((R.map rwE).flatten)++[(PV.sl Ae.length ((Ae.map cE).flatten))]))]⟩,⟨[],[13],[],[]⟩,aA.fin (g:=⟨(rng [(0,1),(11,13),(25,1),(27,109),(142,1)]),[17],[],[]⟩) (o:=[.c (.fn 176 [] [(.ptr 13 0),(.ptr 14 0)]) [(5,(.box 158 [(pI kd),(.own 12),(pI 0),(pI 0),(pI 0)])),(12,(.row 78 R.length ((R.map rwE).flatten))),(13,(.box 156 [(.ptr 5 0)])),(14,(.box 3 [(pI (((nr+1):Nat):Int))]))],.c (.p (.sl ((aU xl ([32]:List UInt8)).length) (((aU xl ([32]:List UInt8)).map stE).flatten))) [],bF,bF,bF,bF,bF,bT,.c (.tup [(.own 15),(pB true)]) [(5,(.box 158 [(pI kd),(.own 12),(pI 0),(pI 0),(pI 0)])),(12,(.row 78 R.length ((R.map rwE).flatten))),(13,(.box 156 [(.ptr 5 0)])),(14,(.box 3 [(pI (((nr+1):Nat):Int))])),(15,(.row 80 Ae.length ((Ae.map cE).flatten)))],bT,bF,bF]) (l:=[_,_,_,_,_,true=true,FC Tp 91 [(.ptr 5 0),(.p (.sl ((aU xl ([32]:List UInt8)).length) (((aU xl ([32]:List UInt8)).map stE).flatten))),(.fn 176 [] [(.ptr 13 0),(.ptr 14 0)])] [(5,(.box 158 [(pI kd),(.own 12),(pI 0),(pI 0),(pI 0)])),(13,(.box 156 [(.ptr 5 0)])),(14,(.box 3 [(pI (((nr+1):Nat):Int))])),(12,(.row 78 R.length ((R.map rwE).flatten)))] 15 (.tup [(.own 15),(pB true)]) [(5,(.box 158 [(pI kd),(.own 12),(pI 0),(pI 0),(pI 0)])),(12,(.row 78 R.length ((R.map rwE).flatten))),(13,(.box 156 [(.ptr 5 0)])),(14,(.box 3 [(pI (((nr+1):Nat):Int))])),(15,(.row 80 Ae.length ((Ae.map cE).flatten)))],_,_,_,_,_,_,_,_,FC Tp 89 [(.ptr 5 0),(pI (((nr+1):Nat):Int))] [(5,(.box 158 [(pI kd),(.own 12),(pI 0),(pI 0),(pI 0)])),(12,(.row 78 R.length ((R.map rwE).flatten)))] 13 (.fn 176 [] [(.ptr 13 0),(.ptr 14 0)]) [(5,(.box 158 [(pI kd),(.own 12),(pI 0),(pI 0),(pI 0)])),(12,(.row 78 R.length ((R.map rwE).flatten))),(13,(.box 156 [(.ptr 5 0)])),(14,(.box 3 [(pI (((nr+1):Nat):Int))]))],_]) (by kernel_rfl) (gc Dh (gc Cm (gc aRo (gc A8 (gc (bC C6) (gc rfl (gc (FMM.fcN (k:=1) rfl (ids:=[5,12,13,14]) (kU (((nr+1):Nat):Int) R 0 0 Hd He E0) (by kernel_rfl)) (gc (mD h7) (gc h6 (gc (bL h5) (gc (aX h4) (A1 h3 (gc (fk 15 (eQ xl ([32]:List UInt8) h1 h2) rfl) (gc (FMM.fcN (k:=2) rfl (ids:=[5,12]) (eU (ln:=(((nr+1):Nat):Int)) (k:=kd) (l:=(0:Int)) (f:=(0:Int)) (e:=(0:Int)) (R:=R)) (by kernel_rfl)) (gc h0 gn))))))))))))))),by kernel_rfl,(⟨fr 149 [(1,(.ptr 0 0)),(2,(.ptr 1 0)),(3,(.ptr 2 0)),(4,(.ptr 3 0)),(5,(.ptr 4 0)),(6,(.ptr 6 0)),(7,(.ptr 7 0)),(8,(.ptr 8 0)),(9,(.ptr 9 0)),(10,(.ptr 10 0)),(24,(.ptr 5 0)),(26,(.fn 175 [] [(.ptr 11 0)]))],[some (.box 9 [(.p (aD s))]),some (.box 26 [(pI 0),(.p bM)]),some (.box 3 [(pI 0)]),some (.box 3 [(pI 0)]),some (.box 27 [(pI 0)]),some (.box 158 [(pI kd),(.own 13),(pI 0),(pI 0),(pI 0)]),some (.box 156 [(.ptr 5 0)]),some (.box 3 [(pI (((nr+1):Nat):Int))]),some (.box 3 [(pI my)]),some (.box 3 [(pI (((bf+(xl.length+1)):Nat):Int))]),some (.box 4 [(pB dn)]),some .dead,some .dead,some (.row 78 (R.length+1) (((R.map rwE).flatten)++[(PV.sl Ae.length ((Ae.map cE).flatten))]))]⟩:St).t,by kernel_rfl⟩
 exact raw.cast (by rw [D5,D6])
theorem aZa{s:List UInt8}{R:List (List Cel)}{xl:List UInt8}{Ae:List Cel}(h0:inR (((nr+1):Nat):Int))(h1:xl.length<4294967281)(h2:1≤([32]:List UInt8).length)(h3:dn=false)(h4:xb=true)(h5:(((nr+1):Nat):Int)≠1)(h6:inR (my+1))(h7:(((nr+1):Nat):Int)≤(my+1))(Hd:∀ u∈(aU xl ([32]:List UInt8)),u.length≤90000)(He:rdL (aJ kd) (aU xl ([32]:List UInt8)) 0 = .inl Ae)(E0:(aU xl ([32]:List UInt8)).length≠(aJ kd).length)(B2:Dx=(nr+1)):bU Tp 13 12 fC (jQ (bP s nr my bf dn kd R.length ((R.map rwE).flatten)) 27 28 11 12 xl xb) .ret (bS (bS (bS (bS (bP s Dx my bf dn kd R.length ((R.map rwE).flatten)) 5 (some (.box 158 [(pI kd),(.own 12),(pI (((nr+1):Nat):Int)),(pI (((aJ kd).length+1:Nat):Int)),(pI 11)]))) 2 (some (.box 3 [(pI (((nr+1):Nat):Int))]))) 3 (some (.box 3 [(pI (((aJ kd).length+1:Nat):Int))]))) 4 (some (.box 27 [(pI 11)]))).m:=by
 subst B2
 have raw:bU Tp 13 12 fC (jQ (bP s nr my bf dn kd R.length ((R.map rwE).flatten)) 27 28 11 12 xl xb) .ret (bS (bS (bS (bS (bP s (nr+1) my bf dn kd R.length ((R.map rwE).flatten)) 5 (some (.box 158 [(pI kd),(.own 12),(pI (((nr+1):Nat):Int)),(pI (((aJ kd).length+1:Nat):Int)),(pI 11)]))) 2 (some (.box 3 [(pI (((nr+1):Nat):Int))]))) 3 (some (.box 3 [(pI (((aJ kd).length+1:Nat):Int))]))) 4 (some (.box 27 [(pI 11)]))).m:=⟨⟨fr 149 [(1,(.ptr 0 0)),(2,(.ptr 1 0)),(3,(.ptr 2 0)),(4,(.ptr 3 0)),(5,(.ptr 4 0)),(6,(.ptr 6 0)),(7,(.ptr 7 0)),(8,(.ptr 8 0)),(9,(.ptr 9 0)),(10,(.ptr 10 0)),(24,(.ptr 5 0)),(26,(.fn 175 [] [(.ptr 11 0)]))],[some (.box 9 [(.p (aD s))]),some (.box 26 [(pI 0),(.p bM)]),some (.box 3 [(pI (((nr+1):Nat):Int))]),some (.box 3 [(pI (((aJ kd).length+1:Nat):Int))]),some (.box 27 [(pI 11)]),some (.box 158 [(pI kd),(.own 12),(pI (((nr+1):Nat):Int)),(pI (((aJ kd).length+1:Nat):Int)),(pI 11)]),some (.box 156 [(.ptr 5 0)]),some (.box 3 [(pI (((nr+1):Nat):Int))]),some (.box 3 [(pI my)]),some (.box 3 [(pI (bf:Int))]),some (.box 4 [(pB dn)]),some .dead,some (.row 78 R.length ((R.map rwE).flatten))]⟩,⟨[],[12],[],[]⟩,aA.fin (g:=⟨(rng [(0,1),(11,13),(25,1),(27,109),(142,1)]),[],[],[]⟩) (o:=[.c (.fn 176 [] [(.ptr 13 0),(.ptr 14 0)]) [(5,(.box 158 [(pI kd),(.own 12),(pI 0),(pI 0),(pI 0)])),(12,(.row 78 R.length ((R.map rwE).flatten))),(13,(.box 156 [(.ptr 5 0)])),(14,(.box 3 [(pI (((nr+1):Nat):Int))]))],.c (.p (.sl ((aU xl ([32]:List UInt8)).length) (((aU xl ([32]:List UInt8)).map stE).flatten))) [],bF,bF,bF,bF,bF,bT,.c (.tup [(.own 15),(pB false)]) [(5,(.box 158 [(pI kd),(.own 12),(pI (((nr+1):Nat):Int)),(pI (((aJ kd).length+1:Nat):Int)),(pI 11)])),(12,(.row 78 R.length ((R.map rwE).flatten))),(13,(.box 156 [(.ptr 5 0)])),(14,(.box 3 [(pI (((nr+1):Nat):Int))])),(15,(.row 80 Ae.length ((Ae.map cE).flatten)))],bF,bT,.c (.tup [(.p (.agg [(aB 0),bM])),(pI (((nr+1):Nat):Int)),(pI (((aJ kd).length+1:Nat):Int)),(pI 11)]) [(5,(.box 158 [(pI kd),(.own 12),(pI (((nr+1):Nat):Int)),(pI (((aJ kd).length+1:Nat):Int)),(pI 11)])),(12,(.row 78 R.length ((R.map rwE).flatten)))]]) (l:=[FC Tp 94 [(.ptr 5 0)] [(5,(.box 158 [(pI kd),(.own 12),(pI (((nr+1):Nat):Int)),(pI (((aJ kd).length+1:Nat):Int)),(pI 11)])),(12,(.row 78 R.length ((R.map rwE).flatten)))] 16 (.tup [(.p (.agg [(aB 0),bM])),(pI (((nr+1):Nat):Int)),(pI (((aJ kd).length+1:Nat):Int)),(pI 11)]) [(5,(.box 158 [(pI kd),(.own 12),(pI (((nr+1):Nat):Int)),(pI (((aJ kd).length+1:Nat):Int)),(pI 11)])),(12,(.row 78 R.length ((R.map rwE).flatten)))],_,false=false,FC Tp 91 [(.ptr 5 0),(.p (.sl ((aU xl ([32]:List UInt8)).length) (((aU xl ([32]:List UInt8)).map stE).flatten))),(.fn 176 [] [(.ptr 13 0),(.ptr 14 0)])] [(5,(.box 158 [(pI kd),(.own 12),(pI 0),(pI 0),(pI 0)])),(13,(.box 156 [(.ptr 5 0)])),(14,(.box 3 [(pI (((nr+1):Nat):Int))])),(12,(.row 78 R.length ((R.map rwE).flatten)))] 15 (.tup [(.own 15),(pB false)]) [(5,(.box 158 [(pI kd),(.own 12),(pI (((nr+1):Nat):Int)),(pI (((aJ kd).length+1:Nat):Int)),(pI 11)])),(12,(.row 78 R.length ((R.map rwE).flatten))),(13,(.box 156 [(.ptr 5 0)])),(14,(.box 3 [(pI (((nr+1):Nat):Int))])),(15,(.row 80 Ae.length ((Ae.map cE).flatten)))],_,_,_,_,_,_,_,_,FC Tp 89 [(.ptr 5 0),(pI (((nr+1):Nat):Int))] [(5,(.box 158 [(pI kd),(.own 12),(pI 0),(pI 0),(pI 0)])),(12,(.row 78 R.length ((R.map rwE).flatten)))] 13 (.fn 176 [] [(.ptr 13 0),(.ptr 14 0)]) [(5,(.box 158 [(pI kd),(.own 12),(pI 0),(pI 0),(pI 0)])),(12,(.row 78 R.length ((R.map rwE).flatten))),(13,(.box 156 [(.ptr 5 0)])),(14,(.box 3 [(pI (((nr+1):Nat):Int))]))],_]) (by kernel_rfl) (gc (FMM.fc (ids:=[5,12]) (jX (k:=kd) (l:=(((nr+1):Nat):Int)) (f:=(((aJ kd).length+1:Nat):Int)) (e:=(11:Int)) (n:=R.length) (cs:=((R.map rwE).flatten)) (by decide)) (by kernel_rfl)) (gc bHc (gc rfl (gc (FMM.fcN (k:=1) rfl (ids:=[5,12,13,14]) (aJh (((nr+1):Nat):Int) R 0 0 Hd He E0) (by kernel_rfl)) (gc (mD h7) (gc h6 (gc (bL h5) (gc (aX h4) (A1 h3 (gc (fk 15 (eQ xl ([32]:List UInt8) h1 h2) rfl) (gc (FMM.fcN (k:=2) rfl (ids:=[5,12]) (eU (ln:=(((nr+1):Nat):Int)) (k:=kd) (l:=(0:Int)) (f:=(0:Int)) (e:=(0:Int)) (R:=R)) (by kernel_rfl)) (gc h0 gn)))))))))))),by kernel_rfl,(⟨fr 149 [(1,(.ptr 0 0)),(2,(.ptr 1 0)),(3,(.ptr 2 0)),(4,(.ptr 3 0)),(5,(.ptr 4 0)),(6,(.ptr 6 0)),(7,(.ptr 7 0)),(8,(.ptr 8 0)),(9,(.ptr 9 0)),(10,(.ptr 10 0)),(24,(.ptr 5 0)),(26,(.fn 175 [] [(.ptr 11 0)]))],[some (.box 9 [(.p (aD s))]),some (.box 26 [(pI 0),(.p bM)]),some (.box 3 [(pI (((nr+1):Nat):Int))]),some (.box 3 [(pI (((aJ kd).length+1:Nat):Int))]),some (.box 27 [(pI 11)]),some (.box 158 [(pI kd),(.own 12),(pI (((nr+1):Nat):Int)),(pI (((aJ kd).length+1:Nat):Int)),(pI 11)]),some (.box 156 [(.ptr 5 0)]),some (.box 3 [(pI (((nr+1):Nat):Int))]),some (.box 3 [(pI my)]),some (.box 3 [(pI (bf:Int))]),some (.box 4 [(pB dn)]),some .dead,some (.row 78 R.length ((R.map rwE).flatten))]⟩:St).t,by kernel_rfl⟩
 exact raw
theorem aOu{s:List UInt8}{R:List (List Cel)}{xl:List UInt8}{Bs Bn:Int}(h0:inR (((nr+1):Nat):Int))(h1:xl.length<4294967281)(h2:1≤([32]:List UInt8).length)(h3:dn=false)(h4:xb=true)(h5:(((nr+1):Nat):Int)≠1)(h6:inR (my+1))(h7:(((nr+1):Nat):Int)≤(my+1))(Hd:∀ u∈(aU xl ([32]:List UInt8)),u.length≤90000)(He:rdL (aJ kd) (aU xl ([32]:List UInt8)) 0 = .inr (Bs,Bn))(Ba:Bn≠0)(B2:Dx=(nr+1)):bU Tp 13 12 fC (jQ (bP s nr my bf dn kd R.length ((R.map rwE).flatten)) 27 28 11 12 xl xb) .ret (bS (bS (bS (bS (bP s Dx my bf dn kd R.length ((R.map rwE).flatten)) 5 (some (.box 158 [(pI kd),(.own 12),(pI (((nr+1):Nat):Int)),(pI Bs),(pI Bn)]))) 2 (some (.box 3 [(pI (((nr+1):Nat):Int))]))) 3 (some (.box 3 [(pI Bs)]))) 4 (some (.box 27 [(pI Bn)]))).m:=by
 subst B2
 have raw:bU Tp 13 12 fC (jQ (bP s nr my bf dn kd R.length ((R.map rwE).flatten)) 27 28 11 12 xl xb) .ret (bS (bS (bS (bS (bP s (nr+1) my bf dn kd R.length ((R.map rwE).flatten)) 5 (some (.box 158 [(pI kd),(.own 12),(pI (((nr+1):Nat):Int)),(pI Bs),(pI Bn)]))) 2 (some (.box 3 [(pI (((nr+1):Nat):Int))]))) 3 (some (.box 3 [(pI Bs)]))) 4 (some (.box 27 [(pI Bn)]))).m:=⟨⟨fr 149 [(1,(.ptr 0 0)),(2,(.ptr 1 0)),(3,(.ptr 2 0)),(4,(.ptr 3 0)),(5,(.ptr 4 0)),(6,(.ptr 6 0)),(7,(.ptr 7 0)),(8,(.ptr 8 0)),(9,(.ptr 9 0)),(10,(.ptr 10 0)),(24,(.ptr 5 0)),(26,(.fn 175 [] [(.ptr 11 0)]))],[some (.box 9 [(.p (aD s))]),some (.box 26 [(pI 0),(.p bM)]),some (.box 3 [(pI (((nr+1):Nat):Int))]),some (.box 3 [(pI Bs)]),some (.box 27 [(pI Bn)]),some (.box 158 [(pI kd),(.own 12),(pI (((nr+1):Nat):Int)),(pI Bs),(pI Bn)]),some (.box 156 [(.ptr 5 0)]),some (.box 3 [(pI (((nr+1):Nat):Int))]),some (.box 3 [(pI my)]),some (.box 3 [(pI (bf:Int))]),some (.box 4 [(pB dn)]),some .dead,some (.row 78 R.length ((R.map rwE).flatten))]⟩,⟨[],[12],[],[]⟩,aA.fin (g:=⟨(rng [(0,1),(11,13),(25,1),(27,109),(142,1)]),[],[],[]⟩) (o:=[.c (.fn 176 [] [(.ptr 13 0),(.ptr 14 0)]) [(5,(.box 158 [(pI kd),(.own 12),(pI 0),(pI 0),(pI 0)])),(12,(.row 78 R.length ((R.map rwE).flatten))),(13,(.box 156 [(.ptr 5 0)])),(14,(.box 3 [(pI (((nr+1):Nat):Int))]))],.c (.p (.sl ((aU xl ([32]:List UInt8)).length) (((aU xl ([32]:List UInt8)).map stE).flatten))) [],bF,bF,bF,bF,bF,bT,.c (.tup [(.p bM),(pB false)]) [(5,(.box 158 [(pI kd),(.own 12),(pI (((nr+1):Nat):Int)),(pI Bs),(pI Bn)])),(12,(.row 78 R.length ((R.map rwE).flatten))),(13,(.box 156 [(.ptr 5 0)])),(14,(.box 3 [(pI (((nr+1):Nat):Int))]))],bF,bT,.c (.tup [(.p (.agg [(aB 0),bM])),(pI (((nr+1):Nat):Int)),(pI Bs),(pI Bn)]) [(5,(.box 158 [(pI kd),(.own 12),(pI (((nr+1):Nat):Int)),(pI Bs),(pI Bn)])),(12,(.row 78 R.length ((R.map rwE).flatten)))]]) (l:=[FC Tp 94 [(.ptr 5 0)] [(5,(.box 158 [(pI kd),(.own 12),(pI (((nr+1):Nat):Int)),(pI Bs),(pI Bn)])),(12,(.row 78 R.length ((R.map rwE).flatten)))] 15 (.tup [(.p (.agg [(aB 0),bM])),(pI (((nr+1):Nat):Int)),(pI Bs),(pI Bn)]) [(5,(.box 158 [(pI kd),(.own 12),(pI (((nr+1):Nat):Int)),(pI Bs),(pI Bn)])),(12,(.row 78 R.length ((R.map rwE).flatten)))],_,false=false,FC Tp 91 [(.ptr 5 0),(.p (.sl ((aU xl ([32]:List UInt8)).length) (((aU xl ([32]:List UInt8)).map stE).flatten))),(.fn 176 [] [(.ptr 13 0),(.ptr 14 0)])] [(5,(.box 158 [(pI kd),(.own 12),(pI 0),(pI 0),(pI 0)])),(13,(.box 156 [(.ptr 5 0)])),(14,(.box 3 [(pI (((nr+1):Nat):Int))])),(12,(.row 78 R.length ((R.map rwE).flatten)))] 15 (.tup [(.p bM),(pB false)]) [(5,(.box 158 [(pI kd),(.own 12),(pI (((nr+1):Nat):Int)),(pI Bs),(pI Bn)])),(12,(.row 78 R.length ((R.map rwE).flatten))),(13,(.box 156 [(.ptr 5 0)])),(14,(.box 3 [(pI (((nr+1):Nat):Int))]))],_,_,_,_,_,_,_,_,FC Tp 89 [(.ptr 5 0),(pI (((nr+1):Nat):Int))] [(5,(.box 158 [(pI kd),(.own 12),(pI 0),(pI 0),(pI 0)])),(12,(.row 78 R.length ((R.map rwE).flatten)))] 13 (.fn 176 [] [(.ptr 13 0),(.ptr 14 0)]) [(5,(.box 158 [(pI kd),(.own 12),(pI 0),(pI 0),(pI 0)])),(12,(.row 78 R.length ((R.map rwE).flatten))),(13,(.box 156 [(.ptr 5 0)])),(14,(.box 3 [(pI (((nr+1):Nat):Int))]))],_]) (by kernel_rfl) (gc (FMM.fc (ids:=[5,12]) (jX (k:=kd) (l:=(((nr+1):Nat):Int)) (f:=Bs) (e:=Bn) (n:=R.length) (cs:=((R.map rwE).flatten)) Ba) (by kernel_rfl)) (gc (fD Ba) (gc rfl (gc (FMM.fcN (k:=0) rfl (ids:=[5,12,13,14]) (aQo (((nr+1):Nat):Int) R 0 0 Hd He).2 (by kernel_rfl)) (gc (mD h7) (gc h6 (gc (bL h5) (gc (aX h4) (A1 h3 (gc (fk 15 (eQ xl ([32]:List UInt8) h1 h2) rfl) (gc (FMM.fcN (k:=2) rfl (ids:=[5,12]) (eU (ln:=(((nr+1):Nat):Int)) (k:=kd) (l:=(0:Int)) (f:=(0:Int)) (e:=(0:Int)) (R:=R)) (by kernel_rfl)) (gc h0 gn)))))))))))),by kernel_rfl,(⟨fr 149 [(1,(.ptr 0 0)),(2,(.ptr 1 0)),(3,(.ptr 2 0)),(4,(.ptr 3 0)),(5,(.ptr 4 0)),(6,(.ptr 6 0)),(7,(.ptr 7 0)),(8,(.ptr 8 0)),(9,(.ptr 9 0)),(10,(.ptr 10 0)),(24,(.ptr 5 0)),(26,(.fn 175 [] [(.ptr 11 0)]))],[some (.box 9 [(.p (aD s))]),some (.box 26 [(pI 0),(.p bM)]),some (.box 3 [(pI (((nr+1):Nat):Int))]),some (.box 3 [(pI Bs)]),some (.box 27 [(pI Bn)]),some (.box 158 [(pI kd),(.own 12),(pI (((nr+1):Nat):Int)),(pI Bs),(pI Bn)]),some (.box 156 [(.ptr 5 0)]),some (.box 3 [(pI (((nr+1):Nat):Int))]),some (.box 3 [(pI my)]),some (.box 3 [(pI (bf:Int))]),some (.box 4 [(pB dn)]),some .dead,some (.row 78 R.length ((R.map rwE).flatten))]⟩:St).t,by kernel_rfl⟩
 exact raw
theorem aOv{s:List UInt8}{R:List (List Cel)}{xl:List UInt8}(h0:inR (((nr+1):Nat):Int))(h1:xl.length<4294967281)(h2:1≤([32]:List UInt8).length)(h3:dn=false)(h4:xb=true)(h5:(((nr+1):Nat):Int)≠1)(h6:inR (my+1))(h7:(my+1)<(((nr+1):Nat):Int))(h8:0≤(0:Int)∧(0:Int)≤(bf:Int)∧(bf:Int)≤(s.length:Int))(h9:(s.take bf).length≤65536)(Jb:0<(aU xl ([32]:List UInt8)).length)(Jc:(lsM (aU xl ([32]:List UInt8)) (bJ (s.take bf))).2≠0)(A8:((lsM (aU xl ([32]:List UInt8)) (bJ (s.take bf))).2)≠0)(B2:Dx=(nr+1)):bU Tp 13 12 fC (jQ (bP s nr my bf dn kd R.length ((R.map rwE).flatten)) 27 28 11 12 xl xb) .ret (bS (bS (bS (bS (bP s Dx my bf true kd R.length ((R.map rwE).flatten)) 5 (some (.box 158 [(pI kd),(.own 12),(pI (((nr+1):Nat):Int)),(pI ((lsM (aU xl ([32]:List UInt8)) (bJ (s.take bf))).1)),(pI ((lsM (aU xl ([32]:List UInt8)) (bJ (s.take bf))).2))]))) 2 (some (.box 3 [(pI (((nr+1):Nat):Int))]))) 3 (some (.box 3 [(pI ((lsM (aU xl ([32]:List UInt8)) (bJ (s.take bf))).1))]))) 4 (some (.box 27 [(pI ((lsM (aU xl ([32]:List UInt8)) (bJ (s.take bf))).2))]))).m:=by
 subst B2
 have raw:bU Tp 13 12 fC (jQ (bP s nr my bf dn kd R.length ((R.map rwE).flatten)) 27 28 11 12 xl xb) .ret (bS (bS (bS (bS (bP s (nr+1) my bf true kd R.length ((R.map rwE).flatten)) 5 (some (.box 158 [(pI kd),(.own 12),(pI (((nr+1):Nat):Int)),(pI ((lsM (aU xl ([32]:List UInt8)) (bJ (s.take bf))).1)),(pI ((lsM (aU xl ([32]:List UInt8)) (bJ (s.take bf))).2))]))) 2 (some (.box 3 [(pI (((nr+1):Nat):Int))]))) 3 (some (.box 3 [(pI ((lsM (aU xl ([32]:List UInt8)) (bJ (s.take bf))).1))]))) 4 (some (.box 27 [(pI ((lsM (aU xl ([32]:List UInt8)) (bJ (s.take bf))).2))]))).m:=⟨⟨fr 149 [(1,(.ptr 0 0)),(2,(.ptr 1 0)),(3,(.ptr 2 0)),(4,(.ptr 3 0)),(5,(.ptr 4 0)),(6,(.ptr 6 0)),(7,(.ptr 7 0)),(8,(.ptr 8 0)),(9,(.ptr 9 0)),(10,(.ptr 10 0)),(24,(.ptr 5 0)),(26,(.fn 175 [] [(.ptr 11 0)]))],[some (.box 9 [(.p (aD s))]),some (.box 26 [(pI 0),(.p bM)]),some (.box 3 [(pI (((nr+1):Nat):Int))]),some (.box 3 [(pI ((lsM (aU xl ([32]:List UInt8)) (bJ (s.take bf))).1))]),some (.box 27 [(pI ((lsM (aU xl ([32]:List UInt8)) (bJ (s.take bf))).2))]),some (.box 158 [(pI kd),(.own 12),(pI (((nr+1):Nat):Int)),(pI ((lsM (aU xl ([32]:List UInt8)) (bJ (s.take bf))).1)),(pI ((lsM (aU xl ([32]:List UInt8)) (bJ (s.take bf))).2))]),some (.box 156 [(.ptr 5 0)]),some (.box 3 [(pI (((nr+1):Nat):Int))]),some (.box 3 [(pI my)]),some (.box 3 [(pI (bf:Int))]),some (.box 4 [(pB true)]),some .dead,some (.row 78 R.length ((R.map rwE).flatten))]⟩,⟨[],[12],[],[]⟩,aA.fin (g:=⟨(rng [(0,1),(11,13),(25,1),(27,109),(142,1)]),[],[],[(110000,0)]⟩) (o:=[.c (.fn 176 [] [(.ptr 13 0),(.ptr 14 0)]) [(5,(.box 158 [(pI kd),(.own 12),(pI 0),(pI 0),(pI 0)])),(12,(.row 78 R.length ((R.map rwE).flatten))),(13,(.box 156 [(.ptr 5 0)])),(14,(.box 3 [(pI (((nr+1):Nat):Int))]))],.c (.p (.sl ((aU xl ([32]:List UInt8)).length) (((aU xl ([32]:List UInt8)).map stE).flatten))) [],bF,bF,bF,bF,bF,bF,.c (.tup [(pI (bJ (s.take bf))),(pI 0)]) [],.c (.tup []) [(13,(.box 156 [(.ptr 5 0)])),(14,(.box 3 [(pI (((nr+1):Nat):Int))])),(5,(.box 158 [(pI kd),(.own 12),(pI (((nr+1):Nat):Int)),(pI ((lsM (aU xl ([32]:List UInt8)) (bJ (s.take bf))).1)),(pI ((lsM (aU xl ([32]:List UInt8)) (bJ (s.take bf))).2))])),(12,(.row 78 R.length ((R.map rwE).flatten)))],bT,.c (.tup [(.p (.agg [(aB 0),bM])),(pI (((nr+1):Nat):Int)),(pI ((lsM (aU xl ([32]:List UInt8)) (bJ (s.take bf))).1)),(pI ((lsM (aU xl ([32]:List UInt8)) (bJ (s.take bf))).2))]) [(5,(.box 158 [(pI kd),(.own 12),(pI (((nr+1):Nat):Int)),(pI ((lsM (aU xl ([32]:List UInt8)) (bJ (s.take bf))).1)),(pI ((lsM (aU xl ([32]:List UInt8)) (bJ (s.take bf))).2))])),(12,(.row 78 R.length ((R.map rwE).flatten)))]]) (l:=[FC Tp 94 [(.ptr 5 0)] [(5,(.box 158 [(pI kd),(.own 12),(pI (((nr+1):Nat):Int)),(pI ((lsM (aU xl ([32]:List UInt8)) (bJ (s.take bf))).1)),(pI ((lsM (aU xl ([32]:List UInt8)) (bJ (s.take bf))).2))])),(12,(.row 78 R.length ((R.map rwE).flatten)))] 15 (.tup [(.p (.agg [(aB 0),bM])),(pI (((nr+1):Nat):Int)),(pI ((lsM (aU xl ([32]:List UInt8)) (bJ (s.take bf))).1)),(pI ((lsM (aU xl ([32]:List UInt8)) (bJ (s.take bf))).2))]) [(5,(.box 158 [(pI kd),(.own 12),(pI (((nr+1):Nat):Int)),(pI ((lsM (aU xl ([32]:List UInt8)) (bJ (s.take bf))).1)),(pI ((lsM (aU xl ([32]:List UInt8)) (bJ (s.take bf))).2))])),(12,(.row 78 R.length ((R.map rwE).flatten)))],_,FC Tp 93 [(.p (.sl ((aU xl ([32]:List UInt8)).length) (((aU xl ([32]:List UInt8)).map stE).flatten))),(pI (bJ (s.take bf))),(.fn 176 [] [(.ptr 13 0),(.ptr 14 0)])] [(13,(.box 156 [(.ptr 5 0)])),(14,(.box 3 [(pI (((nr+1):Nat):Int))])),(5,(.box 158 [(pI kd),(.own 12),(pI 0),(pI 0),(pI 0)])),(12,(.row 78 R.length ((R.map rwE).flatten)))] 15 (.tup []) [(13,(.box 156 [(.ptr 5 0)])),(14,(.box 3 [(pI (((nr+1):Nat):Int))])),(5,(.box 158 [(pI kd),(.own 12),(pI (((nr+1):Nat):Int)),(pI ((lsM (aU xl ([32]:List UInt8)) (bJ (s.take bf))).1)),(pI ((lsM (aU xl ([32]:List UInt8)) (bJ (s.take bf))).2))])),(12,(.row 78 R.length ((R.map rwE).flatten)))],_,_,_,_,_,_,_,_,_,_,FC Tp 89 [(.ptr 5 0),(pI (((nr+1):Nat):Int))] [(5,(.box 158 [(pI kd),(.own 12),(pI 0),(pI 0),(pI 0)])),(12,(.row 78 R.length ((R.map rwE).flatten)))] 13 (.fn 176 [] [(.ptr 13 0),(.ptr 14 0)]) [(5,(.box 158 [(pI kd),(.own 12),(pI 0),(pI 0),(pI 0)])),(12,(.row 78 R.length ((R.map rwE).flatten))),(13,(.box 156 [(.ptr 5 0)])),(14,(.box 3 [(pI (((nr+1):Nat):Int))]))],_]) (by kernel_rfl) (gc (FMM.fc (ids:=[5,12]) (jX (k:=kd) (l:=(((nr+1):Nat):Int)) (f:=((lsM (aU xl ([32]:List UInt8)) (bJ (s.take bf))).1)) (e:=((lsM (aU xl ([32]:List UInt8)) (bJ (s.take bf))).2)) (n:=R.length) (cs:=((R.map rwE).flatten)) A8) (by kernel_rfl)) (gc (fD A8) (gc (FMM.fc (ids:=[13,14,5,12]) (bXc (aU xl ([32]:List UInt8)) (bJ (s.take bf)) (((nr+1):Nat):Int) kd R Jb Jc) (by kernel_rfl)) (gc (fk 15 (fO (s.take bf) h9) rfl) (gc h8 (gc (eE h7) (gc h6 (gc (bL h5) (gc (aX h4) (A1 h3 (gc (fk 15 (eQ xl ([32]:List UInt8) h1 h2) rfl) (gc (FMM.fcN (k:=2) rfl (ids:=[5,12]) (eU (ln:=(((nr+1):Nat):Int)) (k:=kd) (l:=(0:Int)) (f:=(0:Int)) (e:=(0:Int)) (R:=R)) (by kernel_rfl)) (gc h0 gn))))))))))))),by kernel_rfl,(⟨fr 149 [(1,(.ptr 0 0)),(2,(.ptr 1 0)),(3,(.ptr 2 0)),(4,(.ptr 3 0)),(5,(.ptr 4 0)),(6,(.ptr 6 0)),(7,(.ptr 7 0)),(8,(.ptr 8 0)),(9,(.ptr 9 0)),(10,(.ptr 10 0)),(24,(.ptr 5 0)),(26,(.fn 175 [] [(.ptr 11 0)]))],[some (.box 9 [(.p (aD s))]),some (.box 26 [(pI 0),(.p bM)]),some (.box 3 [(pI (((nr+1):Nat):Int))]),some (.box 3 [(pI ((lsM (aU xl ([32]:List UInt8)) (bJ (s.take bf))).1))]),some (.box 27 [(pI ((lsM (aU xl ([32]:List UInt8)) (bJ (s.take bf))).2))]),some (.box 158 [(pI kd),(.own 12),(pI (((nr+1):Nat):Int)),(pI ((lsM (aU xl ([32]:List UInt8)) (bJ (s.take bf))).1)),(pI ((lsM (aU xl ([32]:List UInt8)) (bJ (s.take bf))).2))]),some (.box 156 [(.ptr 5 0)]),some (.box 3 [(pI (((nr+1):Nat):Int))]),some (.box 3 [(pI my)]),some (.box 3 [(pI (bf:Int))]),some (.box 4 [(pB true)]),some .dead,some (.row 78 R.length ((R.map rwE).flatten))]⟩:St).t,by kernel_rfl⟩
 exact raw
theorem aOw{s:List UInt8}{R:List (List Cel)}{xl:List UInt8}(h0:inR (((nr+1):Nat):Int))(h1:xl.length<4294967281)(h2:1≤([32]:List UInt8).length)(h3:dn=false)(h4:xb=true)(h5:(((nr+1):Nat):Int)≠1)(h6:inR (my+1))(h7:(my+1)<(((nr+1):Nat):Int))(h8:0≤(0:Int)∧(0:Int)≤(bf:Int)∧(bf:Int)≤(s.length:Int))(h9:(s.take bf).length≤65536)(Jb:0<(aU xl ([32]:List UInt8)).length)(Jc:(lsM (aU xl ([32]:List UInt8)) (bJ (s.take bf))).2=0)(A8:inR (((xl.length+1):Nat):Int))(Cm:inR (((bf+(xl.length+1)):Nat):Int))(B2:Dx=(nr+1))(Fx:Iq=(bf+(xl.length+1))):bU Tp 13 12 fC (jQ (bP s nr my bf dn kd R.length ((R.map rwE).flatten)) 27 28 11 12 xl xb) .normal (bP s Dx my Iq true kd R.length ((R.map rwE).flatten)).m:=by
 subst B2 Fx
 have raw:bU Tp 13 12 fC (jQ (bP s nr my bf dn kd R.length ((R.map rwE).flatten)) 27 28 11 12 xl xb) .normal (bP s (nr+1) my (bf+(xl.length+1)) true kd R.length ((R.map rwE).flatten)).m:=⟨⟨fr 149 [(1,(.ptr 0 0)),(2,(.ptr 1 0)),(3,(.ptr 2 0)),(4,(.ptr 3 0)),(5,(.ptr 4 0)),(6,(.ptr 6 0)),(7,(.ptr 7 0)),(8,(.ptr 8 0)),(9,(.ptr 9 0)),(10,(.ptr 10 0)),(24,(.ptr 5 0)),(26,(.fn 175 [] [(.ptr 11 0)]))],[some (.box 9 [(.p (aD s))]),some (.box 26 [(pI 0),(.p bM)]),some (.box 3 [(pI 0)]),some (.box 3 [(pI 0)]),some (.box 27 [(pI 0)]),some (.box 158 [(pI kd),(.own 12),(pI 0),(pI 0),(pI 0)]),some (.box 156 [(.ptr 5 0)]),some (.box 3 [(pI (((nr+1):Nat):Int))]),some (.box 3 [(pI my)]),some (.box 3 [(pI (((bf+(xl.length+1)):Nat):Int))]),some (.box 4 [(pB true)]),some .dead,some (.row 78 R.length ((R.map rwE).flatten))]⟩,⟨[],[12],[],[]⟩,aA.fin (g:=⟨(rng [(0,1),(11,13),(25,1),(27,109),(142,1)]),[],[],[(110000,0)]⟩) (o:=[.c (.fn 176 [] [(.ptr 13 0),(.ptr 14 0)]) [(5,(.box 158 [(pI kd),(.own 12),(pI 0),(pI 0),(pI 0)])),(12,(.row 78 R.length ((R.map rwE).flatten))),(13,(.box 156 [(.ptr 5 0)])),(14,(.box 3 [(pI (((nr+1):Nat):Int))]))],.c (.p (.sl ((aU xl ([32]:List UInt8)).length) (((aU xl ([32]:List UInt8)).map stE).flatten))) [],bF,bF,bF,bF,bF,bF,.c (.tup [(pI (bJ (s.take bf))),(pI 0)]) [],.c (.tup []) [(13,(.box 156 [(.ptr 5 0)])),(14,(.box 3 [(pI (((nr+1):Nat):Int))])),(5,(.box 158 [(pI kd),(.own 12),(pI 0),(pI 0),(pI 0)])),(12,(.row 78 R.length ((R.map rwE).flatten)))],bF]) (l:=[_,_,_,FC Tp 93 [(.p (.sl ((aU xl ([32]:List UInt8)).length) (((aU xl ([32]:List UInt8)).map stE).flatten))),(pI (bJ (s.take bf))),(.fn 176 [] [(.ptr 13 0),(.ptr 14 0)])] [(13,(.box 156 [(.ptr 5 0)])),(14,(.box 3 [(pI (((nr+1):Nat):Int))])),(5,(.box 158 [(pI kd),(.own 12),(pI 0),(pI 0),(pI 0)])),(12,(.row 78 R.length ((R.map rwE).flatten)))] 15 (.tup []) [(13,(.box 156 [(.ptr 5 0)])),(14,(.box 3 [(pI (((nr+1):Nat):Int))])),(5,(.box 158 [(pI kd),(.own 12),(pI 0),(pI 0),(pI 0)])),(12,(.row 78 R.length ((R.map rwE).flatten)))],_,_,_,_,_,_,_,_,_,_,FC Tp 89 [(.ptr 5 0),(pI (((nr+1):Nat):Int))] [(5,(.box 158 [(pI kd),(.own 12),(pI 0),(pI 0),(pI 0)])),(12,(.row 78 R.length ((R.map rwE).flatten)))] 13 (.fn 176 [] [(.ptr 13 0),(.ptr 14 0)]) [(5,(.box 158 [(pI kd),(.own 12),(pI 0),(pI 0),(pI 0)])),(12,(.row 78 R.length ((R.map rwE).flatten))),(13,(.box 156 [(.ptr 5 0)])),(14,(.box 3 [(pI (((nr+1):Nat):Int))]))],_]) (by kernel_rfl) (gc Cm (gc A8 (gc aRo (gc (FMM.fc (ids:=[13,14,5,12]) (bXd (aU xl ([32]:List UInt8)) (bJ (s.take bf)) (((nr+1):Nat):Int) kd R Jb Jc) (by kernel_rfl)) (gc (fk 15 (fO (s.take bf) h9) rfl) (gc h8 (gc (eE h7) (gc h6 (gc (bL h5) (gc (aX h4) (A1 h3 (gc (fk 15 (eQ xl ([32]:List UInt8) h1 h2) rfl) (gc (FMM.fcN (k:=2) rfl (ids:=[5,12]) (eU (ln:=(((nr+1):Nat):Int)) (k:=kd) (l:=(0:Int)) (f:=(0:Int)) (e:=(0:Int)) (R:=R)) (by kernel_rfl)) (gc h0 gn)))))))))))))),by kernel_rfl,(⟨fr 149 [(1,(.ptr 0 0)),(2,(.ptr 1 0)),(3,(.ptr 2 0)),(4,(.ptr 3 0)),(5,(.ptr 4 0)),(6,(.ptr 6 0)),(7,(.ptr 7 0)),(8,(.ptr 8 0)),(9,(.ptr 9 0)),(10,(.ptr 10 0)),(24,(.ptr 5 0)),(26,(.fn 175 [] [(.ptr 11 0)]))],[some (.box 9 [(.p (aD s))]),some (.box 26 [(pI 0),(.p bM)]),some (.box 3 [(pI 0)]),some (.box 3 [(pI 0)]),some (.box 27 [(pI 0)]),some (.box 158 [(pI kd),(.own 12),(pI 0),(pI 0),(pI 0)]),some (.box 156 [(.ptr 5 0)]),some (.box 3 [(pI (((nr+1):Nat):Int))]),some (.box 3 [(pI my)]),some (.box 3 [(pI (((bf+(xl.length+1)):Nat):Int))]),some (.box 4 [(pB true)]),some .dead,some (.row 78 R.length ((R.map rwE).flatten))]⟩:St).t,by kernel_rfl⟩
 exact raw
end
end KV
end Go.Proofs
section
namespace Go.Proofs
open Go.RowKit
namespace KV
open Tryz
theorem aDx(sep:List UInt8):∀ (k:Nat) (s u:List UInt8),u∈Lib.splitK sep 0 k s→u.length≤s.length
 | 0,s,u,h=>by
  rw [Lib.splitK,List.mem_singleton] at h
  subst h;exact Bb _
 | k+1,s,u,h=>by
  rw [Lib.splitK] at h
  split at h
  ·rw [List.mem_singleton] at h
   subst h;exact Bb _
  ·rcases lA.1 h with rfl | h
   ·rw [mQ];omega
   ·have:=aDx sep k _ u h
    rw [sI] at this
    omega
theorem bNc{s sep u:List UInt8}(h:u∈aU s sep):u.length≤s.length:=aDx _ _ _ _ h
theorem aOr(sep:List UInt8):∀ (k:Nat) (s:List UInt8),0<(Lib.splitK sep 0 k s).length
 | 0,s=>by simp [Lib.splitK]
 | k+1,s=>by rw [Lib.splitK];split <;> simp
theorem aKh(s sep:List UInt8):0<(aU s sep).length:=aOr _ _ _
theorem qW:∀ (ts:List Int) (us:List (List UInt8)) (i:Nat) (cs:List Cel),rdL ts us i = .inl cs→cs.length=ts.length
 | [],us,i,cs,h=>by cases h;rfl
 | t::ts,[],i,cs,h=>by cases h
 | t::ts,u::us,i,cs,h=>by
  unfold rdL at h
  split at h
  ·cases h
  ·split at h
   ·rename_i Bh h2
    cases h;rw [eT,eT,qW ts us (i+1) Bh h2]
   ·cases h
theorem aGh:∀ (ts:List Int) (us:List (List UInt8)) (i:Nat) (p:Int × Int),rdL ts us i = .inr p→p.2≠0
 | [],us,i,p,h=>by cases h
 | t::ts,[],i,p,h=>by cases h;exact (by decide:(11:Int)≠0)
 | t::ts,u::us,i,p,h=>by
  unfold rdL at h
  split at h
  ·cases h;assumption
  ·split at h
   ·cases h
   ·rename_i p' h2
    cases h;exact aGh ts us (i+1) p h2
theorem bWz(fs:List (List UInt8)):0≤(hdM fs).2.1∧(hdM fs).2.1≤200:=by
 have h:=uI (fld fs 2) 200 (by decide)
 unfold hdM
 repeat' split
 all_goals dsimp only
 all_goals first | omega | exact ⟨h.1,h.2.1⟩
theorem aOs(a b c d e f:Int):Ew a b c d e f = -1∨Ew a b c d e f=0∨Ew a b c d e f=1:=by
 have h:∀ a b:Int,jB a b = -1∨jB a b=0∨jB a b=1:=fun a b=>by
  unfold jB
  repeat' split
  all_goals simp
 unfold Ew
 repeat' split
 all_goals exact h _ _
structure PS where
 nr:Nat
 my:Int
 bf:Nat
 dn:Bool
 kd:Int
 R:List (List Cel)
def prF(s:List UInt8)(a:PS)(x:List UInt8 × Bool):Except (PS × Int × Int × Int) PS :=
 if a.dn=true∨x.2=false then .error ({ a with nr:=a.nr+1 },((a.nr+1:Nat):Int),1,11)
 else if a.nr=0 then
  (if (hdM (aU x.1 [32])).2.2.2≠0 then .error ({ a with nr:=a.nr+1,my:=(hdM (aU x.1 [32])).2.1,kd:=Dm (hdM (aU x.1 [32])).1 },((a.nr+1:Nat):Int),(hdM (aU x.1 [32])).2.2.1,(hdM (aU x.1 [32])).2.2.2)
  else .ok { a with nr:=a.nr+1,my:=(hdM (aU x.1 [32])).2.1,kd:=Dm (hdM (aU x.1 [32])).1,bf:=a.bf+(x.1.length+1) })
 else if ((a.nr+1:Nat):Int)≤a.my+1 then
  match rdL (aJ a.kd) (aU x.1 [32]) 0 with
  | .inr p => .error ({ a with nr:=a.nr+1 },((a.nr+1:Nat):Int),p.1,p.2)
  | .inl cs =>
   if (aU x.1 [32]).length≠(aJ a.kd).length then .error ({ a with nr:=a.nr+1 },((a.nr+1:Nat):Int),(((aJ a.kd).length+1:Nat):Int),11)
   else match a.R.getLast? with
    | none => .ok { a with nr:=a.nr+1,R:=a.R++[cs],bf:=a.bf+(x.1.length+1) }
    | some c =>
     if bR a.kd c cs = -1 then .ok { a with nr:=a.nr+1,R:=a.R++[cs],bf:=a.bf+(x.1.length+1) }
     else .error ({ a with nr:=a.nr+1,R:=a.R++[cs] },((a.nr+1:Nat):Int),1,if bR a.kd c cs=0 then 5 else 4)
 else if (lsM (aU x.1 [32]) (bJ (s.take a.bf))).2≠0 then .error ({ a with nr:=a.nr+1,dn:=true },((a.nr+1:Nat):Int),(lsM (aU x.1 [32]) (bJ (s.take a.bf))).1,(lsM (aU x.1 [32]) (bJ (s.take a.bf))).2)
 else .ok { a with nr:=a.nr+1,dn:=true,bf:=a.bf+(x.1.length+1) }
def prA:PS:=⟨0,0,0,false,0,[]⟩
def prM(s:List UInt8):Int × List (List Cel) × Int × Int × Int :=
 if 65536<s.length then (0,[],0,0,10) else match itB (prF s) prA (cG s) with
  | .error e=>(0,[],e.2.1,e.2.2.1,e.2.2.2)
  | .ok a=>if a.dn=true then (a.kd,a.R,0,0,0) else (0,[],((a.nr+1:Nat):Int),1,11)
structure aKi (pre:List (List UInt8 × Bool)) (a:PS):Prop where
 nr:a.nr=pre.length
 bf:a.bf=uK pre
 ended:∀ y∈pre,y.2=true
 my:0≤a.my∧a.my≤200
 R:∀ r∈a.R,r.length=(aJ a.kd).length
 Rn:a.R.length≤a.nr
theorem aDy{s:List UInt8}{pre:List (List UInt8 × Bool)}{a a2:PS}{x:List UInt8 × Bool}(h:aKi pre a)(hf:prF s a x = .ok a2):aKi (pre++[x]) a2:=by
 obtain ⟨h1,h2,h3,h4,h5,h6⟩:=h;unfold prF at hf
 split at hf
 ·cases hf
 ·rename_i hc
  have hx:x.2=true:=by
   cases hx:x.2 with
   | true=>rfl
   | false=>exact absurd (.inr hx) hc
  have he:∀ y∈pre++[x],y.2=true:=fun y hy=>by
   rcases tY.1 hy with hy | hy
   ·exact h3 y hy
   ·rw [List.mem_singleton] at hy;subst hy;exact hx
  have hb:a.bf+(x.1.length+1)=uK (pre++[x]):=by rw [aDs,h2]
  have hn:a.nr+1=(pre++[x]).length:=by rw [Bz,h1];rfl
  split at hf
  ·rename_i h0
   split at hf
   ·cases hf
   ·cases hf
    have hR:a.R=[]:=pF (by omega)
    refine ⟨hn,hb,he,bWz _,?_,?_⟩
    ·intro r hr
     have Dv:r∈a.R:=hr;rw [hR] at Dv
     cases Dv
    ·show a.R.length≤a.nr+1
     omega
  ·split at hf
   ·split at hf
    ·cases hf
    ·rename_i cs hcs
     have hl:=qW _ _ _ _ hcs;have hR:∀ r∈a.R++[cs],r.length=(aJ a.kd).length:=fun r hr=>by
      rcases tY.1 hr with hr | hr
      ·exact h5 r hr
      ·rw [List.mem_singleton] at hr;subst hr;exact hl
     split at hf
     ·cases hf
     ·split at hf
      ·cases hf
       exact ⟨hn,hb,he,h4,hR,by show (a.R++[cs]).length≤a.nr+1;rw [Bz,List.length_singleton];omega⟩
      ·split at hf
       ·cases hf
        exact ⟨hn,hb,he,h4,hR,by show (a.R++[cs]).length≤a.nr+1;rw [Bz,List.length_singleton];omega⟩
       ·cases hf
   ·split at hf
    ·cases hf
    ·cases hf
     exact ⟨hn,hb,he,h4,h5,by show a.R.length≤a.nr+1;omega⟩
theorem uN{s:List UInt8}:∀ (l pre:List (List UInt8 × Bool)) (a a2:PS),aKi pre a→itB (prF s) a l = .ok a2→aKi (pre++l) a2
 | [],pre,a,a2,h,hi=>by cases hi;rw [List.append_nil];exact h
 | x::l,pre,a,a2,h,hi=>by
  cases hf:prF s a x with
  | error e=>simp only [itB,hf] at hi;cases hi
  | ok a' =>
   simp only [itB,hf] at hi
   have:=uN l (pre++[x]) a' a2 (aDy h hf) hi;rw [List.append_assoc] at this
   exact this
theorem aGi:aKi [] prA:=⟨rfl,rfl,fun y h=>(by simp at h),(by decide),fun r h=>(by cases h),Bb _⟩
abbrev prS(s:List UInt8)(a:PS):St:=bP s a.nr a.my a.bf a.dn a.kd a.R.length ((a.R.map rwE).flatten)
abbrev prR(s:List UInt8)(e:PS × Int × Int × Int):St:=bS (bS (bS (bS (prS s e.1) 5 (some (.box 158 [.p (aB e.1.kd),.own 12,.p (aB e.2.1),.p (aB e.2.2.1),.p (aB e.2.2.2)]))) 2 (some (.box 3 [.p (aB e.2.1)]))) 3 (some (.box 3 [.p (aB e.2.2.1)]))) 4 (some (.box 27 [.p (aB e.2.2.2)]))
theorem aRn(r:List Cel):iK (rwE r)=true:=by
 show (iK (r.map cE).flatten && true)=true;have:∀ l:List Cel,iK (l.map cE).flatten=true:=fun l=>by
  induction l with
  | nil=>rfl
  | cons c l ih=>exact ih
 rw [this];rfl
theorem aKj:∀ {l m:List PV},iK l=true→iK m=true→iK (l++m)=true
 | [],_,_,h=>h
 | x::l,m,h,h2=>by
  rw [iK,B0] at h
  rw [List.cons_append,iK,h.1,aKj h.2 h2];rfl
theorem pV:∀ R:List (List Cel),iK (R.map rwE).flatten=true
 | []=>rfl
 | r::R=>by rw [fV,vG];exact aKj (aRn r) (pV R)
theorem nE(R:List (List Cel))(c:List Cel):((R++[c]).map rwE).flatten=(R.map rwE).flatten++[PV.sl c.length ((c.map cE).flatten)]:=by simp [rwE,aL]
theorem aYr{s:List UInt8}(hs:s.length≤65536){pre:List (List UInt8 × Bool)}{x:List UInt8 × Bool}{a:PS}(hp:pre++[x] <+: cG s)(h:aKi pre a) :
  (∀ a',prF s a x = .ok a'→bU Tp 13 12 (sub (cd Tryz.f15) [1,1,1,1,0,1,0,1]) (jQ (prS s a) 27 28 11 12 x.1 x.2) .normal (prS s a').m) ∧
  (∀ e,prF s a x = .error e→bU Tp 13 12 (sub (cd Tryz.f15) [1,1,1,1,0,1,0,1]) (jQ (prS s a) 27 28 11 12 x.1 x.2) .ret (prR s e).m):=by
 obtain ⟨xl,xb⟩:=x;obtain ⟨nr,my,bf,dn,kd,R⟩:=a;obtain ⟨h1,h2,h3,h4,h5,h6⟩:=h;dsimp only at h1 h2 h3 h4 h5 h6
 have hfar:=aDt pre (xl,xb) s hp h3;dsimp only at hfar
 have hfg:=aRl pre;have i1:inR (((nr+1:Nat)):Int):=aT (by omega)
 have i2:inR (((xl.length+1:Nat)):Int):=aT (by omega)
 have i3:inR (((bf+(xl.length+1):Nat)):Int):=aT (by omega)
 have i4:inR (my+1):=by unfold inR;omega
 have Gi:xl.length<4294967281:=by omega
 have Fc:1≤([32]:List UInt8).length:=by decide
 have hf:∀ u∈aU xl [32],u.length≤90000:=fun u hu=>by have:=bNc hu;omega
 unfold prF;dsimp only
 by_cases hd:dn=true
 ·rw [if_pos (.inl hd)]
  refine ⟨fun _ h=>(by cases h),fun _ h => ?_⟩
  cases h;exact aYs i1 Gi Fc hd rfl
 ·have Ga:dn=false:=by simpa using hd
  by_cases hb:xb=false
  ·rw [if_pos (.inr hb)]
   refine ⟨fun _ h=>(by cases h),fun _ h => ?_⟩
   cases h;exact aYt i1 Gi Fc Ga hb rfl
  ·have Ap:xb=true:=by simpa using hb
   rw [if_neg (by simp [Ga,Ap])]
   by_cases h0:nr=0
   ·rw [if_pos h0]
    have z1:(((nr+1:Nat)):Int)=(1:Int):=by omega
    by_cases he:(hdM (aU xl [32])).2.2.2=0
    ·rw [if_neg (by simp [he])]
     refine ⟨fun _ h => ?_,fun _ h=>(by cases h)⟩
     cases h;exact aYv i1 Gi Fc Ga Ap z1 he i2 i3 rfl rfl rfl rfl
    ·rw [if_pos he]
     refine ⟨fun _ h=>(by cases h),fun _ h => ?_⟩
     cases h;exact aYu i1 Gi Fc Ga Ap z1 he he rfl rfl rfl
   ·rw [if_neg h0]
    have z2:(((nr+1:Nat)):Int)≠(1:Int):=by omega
    by_cases hm:(((nr+1:Nat)):Int)≤my+1
    ·rw [if_pos hm]
     cases hr:rdL (aJ kd) (aU xl [32]) 0 with
     | inr p =>
      obtain ⟨fd,er⟩:=p;refine ⟨fun _ h=>(by cases h),fun _ h => ?_⟩
      cases h;exact aOu i1 Gi Fc Ga Ap z2 i4 hm hf hr (aGh _ _ _ _ hr) rfl
     | inl cs =>
      have hl:=qW _ _ _ _ hr;dsimp only
      by_cases hfl:(aU xl [32]).length=(aJ kd).length
      ·rw [if_neg (by simp [hfl])]
       have hkc:aN kd≤(cs.length:Int):=by rw [hl];exact uE kd
       cases hg:R.getLast? with
       | none =>
        have hR:R=[]:=List.getLast?_eq_none_iff.1 hg;refine ⟨fun _ h => ?_,fun _ h=>(by cases h)⟩
        cases h;subst hR;exact aYz i1 Gi Fc Ga Ap z2 i4 hm hf hr hfl (by simp) (by simp) i2 i3 rfl rfl rfl (by simp [rwE,aL])
       | some c =>
        have hRn:0<R.length:=by
         cases R with
         | nil=>simp at hg
         | cons y l=>simp
        have hc:R[R.length-1]? = some c:=by rw [List.getLast?_eq_getElem?] at hg;exact hg
        have hat:R[((R.length:Int)-(1:Int)).toNat]? = some c:=by
         rw [show ((R.length:Int)-(1:Int)).toNat=R.length-1 by omega];exact hc
        have hkl:aN kd≤(c.length:Int):=by rw [h5 c (Ch hc)];exact uE kd
        have i5:inR ((R.length:Int)-(1:Int)):=by unfold inR;omega
        have z3:(0:Int)<(R.length:Int):=by omega
        have z4:0≤((R.length:Int)-(1:Int))∧((R.length:Int)-(1:Int))<(R.length:Int):=by omega
        have hap:[(PV.sl cs.length ((cs.map cE).flatten))].length=1*1∧R.length+1≤1000000:=⟨rfl,by omega⟩
        dsimp only
        rcases aOs (aK kd c 0) (aK kd c 1) (aK kd c 2) (aK kd cs 0) (aK kd cs 1) (aK kd cs 2) with hk | hk | hk
        ·have F9:bR kd c cs = -1:=hk
         rw [if_pos F9];refine ⟨fun _ h => ?_,fun _ h=>(by cases h)⟩
         cases h;exact aYw i1 Gi Fc Ga Ap z2 i4 hm hf hr hfl z3 i5 z4 hat hkl hkc F9 hap i2 i3 rfl rfl (by simp) (nE R cs)
        ·have F9:bR kd c cs=0:=hk
         rw [if_neg (by rw [F9];decide),if_pos F9]
         refine ⟨fun _ h=>(by cases h),fun _ h => ?_⟩
         cases h;exact aYx i1 Gi Fc Ga Ap z2 i4 hm hf hr hfl z3 i5 z4 hat hkl hkc F9 hap rfl (by simp) (nE R cs)
        ·have F9:bR kd c cs=1:=hk
         rw [if_neg (by rw [F9];decide),if_neg (by rw [F9];decide)]
         refine ⟨fun _ h=>(by cases h),fun _ h => ?_⟩
         cases h;exact aYy i1 Gi Fc Ga Ap z2 i4 hm hf hr hfl z3 i5 z4 hat hkl hkc F9 hap rfl (by simp) (nE R cs)
      ·rw [if_pos hfl]
       refine ⟨fun _ h=>(by cases h),fun _ h => ?_⟩
       cases h;exact aZa i1 Gi Fc Ga Ap z2 i4 hm hf hr hfl rfl
    ·rw [if_neg hm]
     have z5:(my+(1:Int))<(((nr+1:Nat)):Int):=by omega
     have z6:0≤(0:Int)∧(0:Int)≤(bf:Int)∧(bf:Int)≤(s.length:Int):=by omega
     have hbf:(bf:Int)≤(s.length:Int):=by omega
     have htk:(s.take bf).length≤65536:=by rw [mQ];omega
     by_cases hz:(lsM (aU xl [32]) (bJ (s.take bf))).2=0
     ·rw [if_neg (by simp [hz])]
      refine ⟨fun _ h => ?_,fun _ h=>(by cases h)⟩
      cases h;exact aOw i1 Gi Fc Ga Ap z2 i4 z5 z6 htk (aKh _ _) hz i2 i3 rfl rfl
     ·rw [if_pos hz]
      refine ⟨fun _ h=>(by cases h),fun _ h => ?_⟩
      cases h;exact aOv i1 Gi Fc Ga Ap z2 i4 z5 z6 htk (aKh _ _) hz hz rfl
theorem bHa{s:List UInt8}(hs:s.length≤65536) :
  (∀ a,itB (prF s) prA (cG s) = .ok a→aA Tp 0 (sub (cd Tryz.f15) [1,1,1,1,0,1,0]) (pW s) .normal (prS s a))∧(∀ e,itB (prF s) prA (cG s) = .error e→aA Tp 0 (sub (cd Tryz.f15) [1,1,1,1,0,1,0]) (pW s) .ret (prR s e)):=by
 refine aAo (k:=0) (kb:=13) (kk:=12) (gi:=26) (p1:=27) (p2:=28) (bx:=11) (g0:=⟨[],[12],[],[(105001,78),(110000,0)]⟩) s (by omega) (pW s) (prS s) (prR s) (pW s).t (prF s) prA
  (s2T 27 28 11 12) (I8 27 28 11 12) (asg := .seq (aOx 6 27 11 9 "read.go:128") (aOx 7 28 12 4 "read.go:128")) (body := sub (cd Tryz.f15) [1, 1, 1, 1, 0, 1, 0, 1]) (by kernel_rfl) rfl rfl rfl (by show 12 ≤ 12; omega) ⟨(pW s).t, by kernel_rfl⟩ (fun _ => rfl) (fun _ => rfl)
  (fun a => .no (by rfl)) (fun e => .no (by rfl)) (fun a=>(eL (by rfl)).2) (fun e=>(eL (by rfl)).2) (eL (by rfl)).2 (fun a => ?_) (fun e => ?_) (fun a=>by show 13≤13;omega) (by kernel_rfl)
  (fun a x l K W h=>M6 a x l K W h) (fun a x C M W h=>bNd (fun _=>rfl) (fun _=>rfl) a x h) (fun _ _=>rfl) (fun pre x a hp hi=>aYr hs hp (by have:=uN pre [] prA a aGi hi;exact this))
 ·show (iK (a.R.map rwE).flatten && true)=true
  rw [pV];rfl
 ·show (iK (e.1.R.map rwE).flatten && true)=true
  rw [pV];rfl
theorem aGj(s:List UInt8){base:Nat}:FV Tp 15 [.p (aD s)] base (.tup [.p (.agg [aB (prM s).1,bY (prM s).2.1]),.p (aB (prM s).2.2.1),.p (aB (prM s).2.2.2.1),.p (aB (prM s).2.2.2.2)]) []:=by
 refine FV.frz ?_ (by rfl)
 unfold prM
 by_cases hs:65536<s.length
 ·rw [if_pos hs]
  exact FMM.wk (bXe (by omega)) rfl
 ·rw [if_neg hs]
  have hL:=bHa (s:=s) (by omega)
  cases hi:itB (prF s) prA (cG s) with
  | error e =>
   exact FMM.wk (bXh (by omega) (hL.2 e hi)) rfl
  | ok a =>
   have hok:=uN (cG s) [] prA a aGi hi;have hnr:a.nr≤65536:=by
    have h1:=hok.nr;rw [List.nil_append] at h1
    have:=sM _ s (Bb _);omega
   dsimp only
   by_cases hd:a.dn=true
   ·rw [if_pos hd]
    have:=bXg (s:=s) (by omega) (hL.1 a hi) hd
    rw [fB] at this
    exact this
   ·rw [if_neg hd]
    exact FMM.wk (bXf (by omega) (hL.1 a hi) (by simpa using hd) (aT (by omega)) rfl) rfl
end KV
end Go.Proofs
end
section
namespace Go.Proofs
open Go.RowKit
namespace KV
open Tryz
theorem aJx(a sep:List UInt8):Lib.join [a] sep=a:=by simp [Lib.join,List.intercalate]
theorem uJ:∀ s:List UInt8,Lib.join (spB s) [32]=s
 | []=>by rw [spB,aJx]
 | c::r=>by
  have ih:=uJ r;obtain ⟨f,fs,he⟩:∃ f fs,spB r=f::fs:=by
   cases e:spB r with
   | nil=>exact absurd e (bWw r)
   | cons f fs=>exact ⟨f,fs,rfl⟩
  rw [spB];rw [he] at ih ⊢
  by_cases h:c=32
  ·subst h
   rw [if_pos rfl,sJ,ih];rfl
  ·rw [if_neg h]
   dsimp only;cases fs with
   | nil=>rw [aJx] at ih ⊢;rw [ih]
   | cons g gs=>rw [sJ] at ih ⊢;rw [← ih];rfl
def txL(ls:List (List UInt8)):List UInt8:=(ls.map (· ++ [10])).flatten
theorem jP(l:List UInt8)(ls:List (List UInt8)):txL (l::ls)=l++10::txL ls:=by simp [txL]
theorem xQ(a b:List (List UInt8)):txL (a++b)=txL a++txL b:=by simp [txL]
theorem bGq:∀ ls:List (List UInt8),uK (ls.map (fun l=>(l,true)))=(txL ls).length
 | []=>rfl
 | l::ls=>by
  rw [fV,uK,bGq ls,jP];simp;omega
theorem aJy:∀ (k:Nat) (s:List UInt8),s.length≤k→(∀ y∈cG s,y.2=true)→txL ((cG s).map (·.1))=s
 | 0,s,h,_=>by
  have:s=[]:=pF (by omega)
  subst this;rfl
 | k+1,s,h,hy=>by
  by_cases hs:s=[]
  ·subst hs;rfl
  ·have hlt:=vT (s:=s) (x:=[10]) hs (by simp)
   rw [gP hs] at hy ⊢
   have ht:=hy ((Lib.cut s [10]).1,(Lib.cut s [10]).2.2) (mP ..);have ih:=aJy k (Lib.cut s [10]).2.1 (by omega) (fun y h=>hy y (C7 _ h))
   rw [fV,jP,ih]
   rcases (bWx s).1 with ⟨_,h3⟩ | ⟨h3,_⟩
   ·exact h3.symm
   ·rw [h3] at ht;cases ht
def aGa(k:Int)(x:List Cel):List UInt8:=Lib.join (iG k x) [32]
def wV(k n:Int):List UInt8:=Lib.join [[107,108,105,115,116,101,114],uC k,Lib.itoa n] [32]
def xH(v:Int):List UInt8:=Lib.join [[115,117,109],Lib.itoa v] [32]
structure aRk (k:Int) (x:List Cel):Prop where
 len:x.length=(aJ k).length
 ck:∀ (j:Nat) t c,(aJ k)[j]? = some t→x[j]? = some c→ckM t c=0
theorem bGr:∀ (ts:List Int) (us:List (List UInt8)) (i:Nat) (x:List Cel),(∀ t∈ts,t=0∨t=1∨t=2∨t=3)→us.length=ts.length→rdL ts us i = .inl x→List.zipWith wrM ts x=us∧(∀ (j:Nat) t c,ts[j]? = some t→x[j]? = some c→ckM t c=0)
 | [],us,i,x,_,hl,h=>by
  cases h;have:us=[]:=pF (by simpa using hl)
  subst this;exact ⟨rfl,fun j t c h=>by simp at h⟩
 | t::ts,[],i,x,_,hl,h=>by cases h
 | t::ts,u::us,i,x,ht,hl,h=>by
  unfold rdL at h
  split at h
  ·cases h
  ·rename_i hz
   split at h
   ·rename_i cs h2
    cases h;obtain ⟨q1,q2⟩:=bGr ts us (i+1) cs (fun t h=>ht t (C7 _ h)) (by simpa using hl) h2
    have hq:rdM t u=((rdM t u).1,0):=Prod.ext rfl (by simpa using hz)
    obtain ⟨p1,p2⟩:=cBf (ht t (mP ..)) hq;refine ⟨by rw [List.zipWith_cons_cons,p1,q1],fun j t' c h1 h2 => ?_⟩
    cases j with
    | zero=>cases h1;cases h2;exact p2
    | succ j=>exact q2 j t' c h1 h2
   ·cases h
theorem bGs(k:Int):∀ t∈aJ k,t=0∨t=1∨t=2∨t=3:=fun t h=>by
 obtain ⟨j,hj⟩:=List.mem_iff_getElem?.1 h;exact jO hj
theorem aJz(k:Int):0<(aJ k).length:=by
 unfold aJ
 repeat' split
 all_goals decide
theorem aYl{k:Int}{u:List UInt8}{x:List Cel}{i:Nat}(hl:(spB u).length=(aJ k).length)(h:rdL (aJ k) (spB u) i = .inl x):aRk k x∧u=aGa k x:=by
 obtain ⟨q1,q2⟩:=bGr _ _ _ _ (bGs k) hl h;refine ⟨⟨qW _ _ _ _ h,q2⟩,?_⟩;have:aGa k x=Lib.join (spB u) [32]:=by unfold aGa iG;rw [q1]
 rw [this,uJ]
theorem bMz{u:List UInt8}(h:¬ dS u<0):within (dS u) 0 4=true∧uC (dS u)=u:=by
 unfold dS at h ⊢
 by_cases h0:u=([115,116,97,114,116,115]:List UInt8)
 ·subst h0;decide
 ·rw [if_neg h0] at h ⊢
  by_cases h1:u=([112,97,115,115,101,115]:List UInt8)
  ·subst h1;decide
  ·rw [if_neg h1] at h ⊢
   by_cases h2:u=([116,97,114,103,101,116,115]:List UInt8)
   ·subst h2;decide
   ·rw [if_neg h2] at h ⊢
    by_cases h3:u=([106,117,100,103,101,109,101,110,116,115]:List UInt8)
    ·subst h3;decide
    ·rw [if_neg h3] at h ⊢
     by_cases h4:u=([99,117,112,115]:List UInt8)
     ·subst h4;decide
     ·rw [if_neg h4] at h
      exact absurd (by decide) h
theorem bWu{k:Int}(h:within k 0 4=true):Dm k=k:=by
 have:=cM.1 h;unfold Dm;split <;> omega
theorem aOn{u:List UInt8}(h:(hdM (spB u)).2.2.2=0):within (hdM (spB u)).1 0 4=true∧0≤(hdM (spB u)).2.1∧(hdM (spB u)).2.1≤200∧u=wV (hdM (spB u)).1 (hdM (spB u)).2.1:=by
 have hj:=uJ u;generalize spB u=fs at h hj ⊢
 have hb:=uI (fld fs 2) 200 (by decide)
 unfold hdM at h ⊢
 by_cases c1:fs.length=0∨fld fs 0≠[107,108,105,115,116,101,114]
 ·rw [if_pos c1] at h;exact absurd h (by decide)
 ·rw [if_neg c1] at h ⊢
  by_cases c2:fs.length=1
  ·rw [if_pos c2] at h;exact absurd h (by decide)
  ·rw [if_neg c2] at h ⊢
   by_cases c3:dS (fld fs 1)<0
   ·rw [if_pos c3] at h;exact absurd h (show ¬ ((12:Int)=0) by decide)
   ·rw [if_neg c3] at h ⊢
    by_cases c4:fs.length=2
    ·rw [if_pos c4] at h;exact absurd h (show ¬ ((11:Int)=0) by decide)
    ·rw [if_neg c4] at h ⊢
     by_cases c5:(bH (fld fs 2) 200).2≠0
     ·rw [if_pos c5] at h;exact absurd h c5
     ·rw [if_neg c5] at h ⊢
      by_cases c6:3<fs.length
      ·rw [if_pos c6] at h;exact absurd h (show ¬ ((11:Int)=0) by decide)
      ·rw [if_neg c6]
       dsimp only;obtain ⟨w1,w2⟩:=bMz c3;have hn:bH (fld fs 2) 200=((bH (fld fs 2) 200).1,0):=Prod.ext rfl (by simpa using c5)
       obtain ⟨_,_,n3⟩:=aGg (by decide) hn
       refine ⟨w1,hb.1,hb.2.1,?_⟩
       match fs,c1,c2,c4,c6,hj,w2,n3 with
       | [],c1,_,_,_,_,_,_=>exact absurd (.inl rfl) c1
       | [_],_,c2,_,_,_,_,_=>exact absurd rfl c2
       | [_,_],_,_,c4,_,_,_,_=>exact absurd rfl c4
       | [a,b,c],c1,_,_,_,hj,w2,n3 =>
        have ea:a=[107,108,105,115,116,101,114]:=by
         apply Classical.byContradiction;exact fun q=>c1 (.inr q)
        unfold wV;rw [w2,n3,← ea];exact hj.symm
       | _::_::_::_::_,_,_,_,c6,_,_,_=>exact absurd (by simp) c6
theorem aOo{u:List UInt8}{v:Int}(h:(lsM (spB u) v).2=0):u=xH v:=by
 have hj:=uJ u;generalize spB u=fs at h hj ⊢
 unfold lsM at h
 by_cases c1:fld fs 0≠[115,117,109]
 ·rw [if_pos c1] at h;exact absurd h (by decide)
 ·rw [if_neg c1] at h
  by_cases c2:fs.length<2
  ·rw [if_pos c2] at h;exact absurd h (by decide)
  ·rw [if_neg c2] at h
   by_cases c3:lsC fs v≠0
   ·rw [if_pos c3] at h;exact absurd h c3
   ·rw [if_neg c3] at h
    by_cases c4:2<fs.length
    ·rw [if_pos c4] at h;exact absurd h (by decide)
    ·have c3:lsC fs v=0:=by simpa using c3
     have hn:bH (fld fs 1) 65520=(v,0):=by
      unfold lsC at c3
      split at c3
      ·exact absurd c3 (by decide)
      ·rename_i q
       refine Prod.ext ?_ c3;apply Classical.byContradiction;exact fun e=>q (.inr ⟨c3,e⟩)
     obtain ⟨_,_,n3⟩:=aGg (by decide) hn
     match fs,c1,c2,c4,hj,n3 with
     | [],_,c2,_,_,_=>exact absurd (by simp) c2
     | [_],_,c2,_,_,_=>exact absurd (by simp) c2
     | [a,b],c1,_,_,hj,n3 =>
      have ea:a=[115,117,109]:=by
       apply Classical.byContradiction;exact c1
      unfold xH;rw [n3,← ea];exact hj.symm
     | _::_::_::_,_,_,c4,_,_=>exact absurd (by simp) c4
def kX(k:Int)(R:List (List Cel)):List (List UInt8):=wV k (R.length:Int)::R.map (aGa k)
theorem aKa(k:Int):∀ (R:List (List Cel)) (h:List UInt8),R.foldl (fun o x=>o++lnM (iG k x)) h=h++txL (R.map (aGa k))
 | [],h=>by simp [txL]
 | x::R,h=>by
  rw [bKi,aKa k R,fV,jP,List.append_assoc]
  congr 1
  show lnM (iG k x)++_=_;unfold lnM aGa;simp
theorem aAk(k:Int)(R:List (List Cel)):kC k R=txL (kX k R):=by
 unfold kC kX;rw [aKa,jP];show lN k R.length++_=_;unfold lN lnM wV;simp
theorem aGb{k:Int}{R:List (List Cel)}(h:dW k R=0):pO k R=(txL (kX k R++[xH (kV (kC k R))]),0):=by
 unfold pO;rw [if_neg (by simp [h]),aAk,xQ]
 congr 2
 show lnM _=_;rw [jP];unfold lnM xH;simp [txL]
end KV
end Go.Proofs
end
section
namespace Go.Proofs
open Go.RowKit
namespace KV
open Tryz
theorem aAj{k:Int}:∀ (done:List (List Cel)) (x:List Cel),sK k done=0→(∀ c,done.getLast? = some c→bR k c x = -1)→sK k (done++[x])=0
 | [],x,_,_=>rfl
 | [a],x,_,h=>by
  have:=h a rfl;rw [List.cons_append,List.nil_append,sK,if_neg (by omega),if_neg (by omega)]
  rfl
 | a::b::l,x,h0,h=>by
  rw [sK] at h0
  rw [List.cons_append,List.cons_append,sK]
  split at h0
  ·cases h0
  ·split at h0
   ·cases h0
   ·rename_i h1 h2
    rw [if_neg h1,if_neg h2];exact aAj (b::l) x h0 (fun c hc=>h c (by rw [List.getLast?_cons_cons];exact hc))
structure aJv (k:Int) (R:List (List Cel)):Prop where
 w:within k 0 4=true
 n:R.length≤200
 ok:∀ x∈R,aRk k x
 ord:sK k R=0
theorem aRh{k:Int}{R:List (List Cel)}(h:dW k R=0):aJv k R:=by
 have hR:=aAe h;refine ⟨hR.w,hR.n,fun x hx=>⟨hR.len x hx,hR.ck x hx⟩,?_⟩
 unfold dW at h
 split at h
 ·cases h
 ·split at h
  ·cases h
  ·split at h
   ·rename_i q;exact absurd h q
   ·exact h
theorem bGm{k:Int}{R:List (List Cel)}(h:aJv k R):dW k R=0:=by
 have hp:=aJz k;have hne:R.all Dw=true:=iD.2 fun x hx=>by
  have:=(h.ok x hx).len;unfold Dw;exact decide_eq_true (by omega)
 have hfit:R.all (eX k)=true:=iD.2 fun x hx=>by
  have:=(h.ok x hx).len;unfold eX;simp [this]
 have hno:∀ e:Int,e≠0→R.any (aAi k e)=false:=fun e he=>by
  cases q:R.any (aAi k e) with
  | false=>rfl
  | true =>
   exfalso
   obtain ⟨x,hx,q2⟩:=List.any_eq_true.1 q;unfold aAi at q2
   obtain ⟨c,hc,q3⟩:=List.any_eq_true.1 q2;obtain ⟨j,hj⟩:=List.mem_iff_getElem?.1 hc;obtain ⟨t,a,z,h1,h2,rfl⟩:=aFu hj;have:=(h.ok x hx).ck j t (a,z) h1 h2;have q4:ckM t (a,z)=e:=by simpa using q3
   omega
 have hch:kW k R=0:=by
  unfold kW;rw [if_neg (by rw [hfit];simp),if_neg (by rw [hno 3 (by decide)];simp),if_neg (by rw [hno 11 (by decide)];simp)]
 unfold dW;rw [if_neg (by rw [h.w];simp),if_neg (by rw [hne];have:=h.n;simp;omega),if_neg (by rw [hch];simp)]
 exact h.ord
theorem bMv(b:List UInt8):0≤kV b∧kV b≤65520:=by
 unfold kV
 split
 ·have:=aQs b;omega
 ·omega
theorem aYk(k:Int):(uC k).length≤10:=by
 unfold uC
 repeat' split
 all_goals simp
theorem bGn{k:Int}{R:List (List Cel)}(hG:aJv k R):(lN k R.length).length≤1000:=by
 have hn:=hG.n;have hw:=aYk k;have hi:=itl (n:=(R.length:Int)) (by omega)
 have:=mX 30 [[107,108,105,115,116,101,114],uC k,Lib.itoa (R.length:Int)] (fun s hs=>by
  simp only [lA,List.not_mem_nil,or_false] at hs
  rcases hs with rfl | rfl | rfl
  ·simp
  ·omega
  ·omega)
 simp only [eT,List.length_nil] at this
 unfold lN lnM;rw [Bz];simp;omega
theorem aJw{k:Int}{R:List (List Cel)}(hc:dW k R=0):(kC k R).length≤61000:=by
 have hG:=aRh hc;have:=aAf (aAe hc) R (lN k R.length) (fun x hx=>hx)
 have h1:=bGn hG;have h2:=hG.n;have ev:kC k R=R.foldl (fun o x=>o++lnM (iG k x)) (lN k R.length):=rfl
 rw [← ev] at this
 omega
theorem bGo{v:Int}(h0:0≤v)(h:v≤65520):(xH v).length≤100:=by
 have hs:=itl (n:=v) (by omega)
 have:=mX 30 [[115,117,109],Lib.itoa v] (fun s hs=>by
  simp only [lA,List.not_mem_nil,or_false] at hs
  rcases hs with rfl | rfl
  ·simp
  ·omega)
 simp only [eT,List.length_nil] at this
 unfold xH;omega
theorem bMw{k:Int}{R:List (List Cel)}(hc:dW k R=0):(pO k R).1.length≤62000:=by
 rw [aGb hc,xQ,← aAk];have h1:=aJw hc;obtain ⟨h2,h3⟩:=bMv (kC k R);have:=bGo h2 h3;rw [Bz,jP];simp [txL];omega
theorem bMx{s:List UInt8}{a:PS}{x:List UInt8 × Bool}{e:PS × Int × Int × Int}(h:prF s a x = .error e):e.2.2.2≠0∧1≤e.2.1∧e.2.1=((a.nr+1:Nat):Int):=by
 unfold prF at h
 split at h
 ·cases h;exact ⟨(show (11:Int)≠0 by decide),by dsimp only;omega,rfl⟩
 ·split at h
  ·split at h
   ·rename_i q
    cases h;exact ⟨q,by dsimp only;omega,rfl⟩
   ·cases h
  ·split at h
   ·split at h
    ·rename_i p q
     cases h;exact ⟨aGh _ _ _ _ q,by dsimp only;omega,rfl⟩
    ·split at h
     ·cases h;exact ⟨(show (11:Int)≠0 by decide),by dsimp only;omega,rfl⟩
     ·split at h
      ·cases h
      ·split at h
       ·cases h
       ·cases h
        refine ⟨?_,by dsimp only;omega,rfl⟩
        dsimp only
        split <;> decide
   ·split at h
    ·rename_i q
     cases h;exact ⟨q,by dsimp only;omega,rfl⟩
    ·cases h
structure PrT (s:List UInt8) (pre:List (List UInt8 × Bool)) (a:PS):Prop where
 z:a.nr=0→pre=[]∧a.dn=false∧a.R=[]∧a.kd=0
 w:within a.kd 0 4=true
 ok:∀ x∈a.R,aRk a.kd x
 ord:sK a.kd a.R=0
 ex:0<a.nr→∃ my:Int,a.my=my∧0≤my∧my≤200∧(a.R.length:Int)≤my ∧
  (a.dn=false→a.nr=a.R.length+1∧pre=((wV a.kd my::a.R.map (aGa a.kd)).map fun l=>(l,true))) ∧
  (a.dn=true→my=(a.R.length:Int)∧pre=((kX a.kd a.R++[xH (bJ (s.take (txL (kX a.kd a.R)).length))]).map fun l=>(l,true)))
theorem cBd(s:List UInt8):PrT s [] prA:=⟨fun _=>⟨rfl,rfl,rfl,rfl⟩,by decide,fun x h=>(by cases h),rfl,fun h=>absurd h (by decide)⟩
theorem bGp{s:List UInt8}{pre:List (List UInt8 × Bool)}{a a2:PS}{x:List UInt8 × Bool}(h:PrT s pre a)(hO:aKi pre a)(hf:prF s a x = .ok a2):PrT s (pre++[x]) a2:=by
 obtain ⟨hz,hw,hok,hord,hex⟩:=h;unfold prF at hf
 split at hf
 ·cases hf
 ·rename_i hc
  have hd:a.dn=false:=by
   cases e:a.dn with
   | false=>rfl
   | true=>exact absurd (.inl e) hc
  have Fc:x.2=true:=by
   cases e:x.2 with
   | true=>rfl
   | false=>exact absurd (.inr e) hc
  have ex:x=(x.1,true):=Prod.ext rfl Fc
  split at hf
  ·rename_i h0
   obtain ⟨z1,z2,z3,z4⟩:=hz h0
   split at hf
   ·cases hf
   ·rename_i hh
    cases hf;rw [xR] at hh ⊢
    obtain ⟨q1,q2,q3,q4⟩:=aOn (by simpa using hh)
    have hm:=bWu q1;refine ⟨fun e=>by simp at e,by rw [hm];exact q1,fun y hy => ?_,?_,fun _=>⟨_,rfl,q2,q3,?_,fun _=>⟨?_,?_⟩,fun e => ?_⟩⟩
    ·have H2:y∈a.R:=hy
     rw [z3] at H2;cases H2
    ·show sK _ a.R=0
     rw [z3];rfl
    ·show (a.R.length:Int)≤_
     rw [z3];exact q2
    ·show a.nr+1=a.R.length+1
     rw [h0,z3];rfl
    ·show pre++[x]=(wV (Dm (hdM (spB x.1)).1) (hdM (spB x.1)).2.1::a.R.map (aGa (Dm (hdM (spB x.1)).1))).map fun l=>(l,true)
     rw [z1,z3,hm,← q4];show [x]=[(x.1,true)];rw [← ex]
    ·have e':a.dn=true:=e
     rw [hd] at e';cases e'
  ·rename_i h0
   obtain ⟨my,m1,m2,m3,m4,m5,m6⟩:=hex (by omega)
   obtain ⟨p1,p2⟩:=m5 hd
   split at hf
   ·rename_i hle
    split at hf
    ·cases hf
    ·rename_i cs hcs
     rw [xR] at hcs
     split at hf
     ·cases hf
     ·rename_i hl
      rw [xR] at hl
      have hl:(spB x.1).length=(aJ a.kd).length:=by
       apply Classical.byContradiction;exact hl
      obtain ⟨r1,r2⟩:=aYl hl hcs;have key:(∀ c,a.R.getLast? = some c→bR a.kd c cs = -1)→PrT s (pre++[x]) { a with nr:=a.nr+1,R:=a.R++[cs],bf:=a.bf+(x.1.length+1) }:=fun hlast=>by
       refine ⟨fun e=>by simp at e,hw,fun y hy => ?_,aAj _ _ hord hlast,fun _=>⟨my,m1,m2,m3,?_,fun _=>⟨?_,?_⟩,fun e => ?_⟩⟩
       ·have H2:y∈a.R++[cs]:=hy
        rcases tY.1 H2 with H2 | H2
        ·exact hok y H2
        ·rw [List.mem_singleton] at H2;subst H2;exact r1
       ·show ((a.R++[cs]).length:Int)≤my
        rw [Bz,List.length_singleton];omega
       ·show a.nr+1=(a.R++[cs]).length+1
        rw [Bz,List.length_singleton];omega
       ·show pre++[x]=(wV a.kd my::(a.R++[cs]).map (aGa a.kd)).map fun l=>(l,true)
        rw [p2,rB,fV,fV,rB,fV,List.map_nil,fV,List.map_nil,← r2,← ex];rfl
       ·have e':a.dn=true:=e
        rw [hd] at e';cases e'
      split at hf
      ·rename_i hg
       cases hf;exact key fun c hc=>by rw [hg] at hc;cases hc
      ·rename_i c hg
       split at hf
       ·rename_i Ju
        cases hf;exact key fun c' Dq=>by rw [hg] at Dq;cases Dq;exact Ju
       ·cases hf
   ·rename_i hle
    split at hf
    ·cases hf
    ·rename_i hl
     cases hf;rw [xR] at hl
     have hq:=aOo (by simpa using hl)
     have hmy:my=(a.R.length:Int):=by omega
     refine ⟨fun e=>by simp at e,hw,hok,hord,fun _=>⟨my,m1,m2,m3,m4,fun e=>(by cases e),fun _=>⟨hmy,?_⟩⟩⟩
     show pre++[x]=(kX a.kd a.R++[xH (bJ (s.take (txL (kX a.kd a.R)).length))]).map fun l=>(l,true)
     have hb:pre=(kX a.kd a.R).map fun l=>(l,true):=by rw [p2,hmy];rfl
     have hbf:a.bf=(txL (kX a.kd a.R)).length:=by rw [hO.bf,hb,bGq]
     rw [hbf] at hq
     rw [rB,← hb,fV,List.map_nil,← hq,← ex]
theorem aRi{s:List UInt8}:∀ (l pre:List (List UInt8 × Bool)) (a a2:PS),PrT s pre a→aKi pre a→itB (prF s) a l = .ok a2→PrT s (pre++l) a2
 | [],pre,a,a2,h,_,hi=>by cases hi;rw [List.append_nil];exact h
 | x::l,pre,a,a2,h,hO,hi=>by
  cases hf:prF s a x with
  | error e=>rw [bGv _ hf] at hi;cases hi
  | ok b =>
   rw [bGu _ hf] at hi
   have:=aRi l (pre++[x]) b a2 (bGp h hO hf) (aDy hO hf) hi
   rwa [List.append_assoc] at this
theorem aRj{s:List UInt8}:∀ (l:List (List UInt8 × Bool)) (a:PS) (e:PS × Int × Int × Int),itB (prF s) a l = .error e→e.2.2.2≠0∧1≤e.2.1∧e.2.1≤(a.nr+l.length:Int)
 | [],a,e,h=>by cases h
 | x::l,a,e,h=>by
  cases hf:prF s a x with
  | error e' =>
   rw [bGv _ hf] at h;cases h
   obtain ⟨q1,q2,q3⟩:=bMx hf;exact ⟨q1,q2,by rw [q3,eT];omega⟩
  | ok b =>
   rw [bGu _ hf] at h
   obtain ⟨q1,q2,q3⟩:=aRj l b e h;have:b.nr=a.nr+1:=by
    unfold prF at hf
    repeat' split at hf
    all_goals first | (cases hf;done) | (cases hf;rfl)
   exact ⟨q1,q2,by rw [eT];omega⟩
theorem bMy{s:List UInt8}(h:(prM s).2.2.2.2=0):dW (prM s).1 (prM s).2.1=0∧pO (prM s).1 (prM s).2.1=(s,0)∧(prM s).2.2.1=0∧(prM s).2.2.2.1=0:=by
 unfold prM at h ⊢
 by_cases hs:65536<s.length
 ·rw [if_pos hs] at h;exact absurd h (by decide)
 ·rw [if_neg hs] at h ⊢
  cases hi:itB (prF s) prA (cG s) with
  | error e =>
   rw [hi] at h
   exact absurd h (aRj _ _ _ hi).1
  | ok a =>
   rw [hi] at h
   dsimp only at h ⊢
   by_cases hd:a.dn=true
   ·rw [if_pos hd] at h ⊢
    have hO:=uN (cG s) [] prA a aGi hi;have hT:=aRi (cG s) [] prA a (cBd s) aGi hi;rw [List.nil_append] at hO hT
    have hn:0<a.nr:=by
     apply Nat.pos_of_ne_zero;intro e;obtain ⟨_,z2,_⟩:=hT.z e;rw [z2] at hd;cases hd
    obtain ⟨my,m1,m2,m3,m4,_,m6⟩:=hT.ex hn;obtain ⟨p1,p2⟩:=m6 hd;have hG:aJv a.kd a.R:=⟨hT.w,by omega,hT.ok,hT.ord⟩
    have hc:=bGm hG;have htx:=aJy _ s (Bb _) hO.ended;rw [p2,zW] at htx
    have hid:(kX a.kd a.R++[xH (bJ (s.take (txL (kX a.kd a.R)).length))]).map ((fun y:List UInt8 × Bool=>y.1) ∘ fun l=>(l,true))=kX a.kd a.R++[xH (bJ (s.take (txL (kX a.kd a.R)).length))]:=by
     rw [show ((fun y:List UInt8 × Bool=>y.1) ∘ fun l=>(l,true))=id from rfl,List.map_id]
    rw [hid] at htx
    have htk:s.take (txL (kX a.kd a.R)).length=kC a.kd a.R:=by
     rw [← htx,xQ,List.take_left,aAk]
    rw [htk] at htx
    have hbl:=aJw hc;have hsv:kV (kC a.kd a.R)=bJ (kC a.kd a.R):=if_pos (by omega)
    refine ⟨hc,?_,rfl,rfl⟩;rw [aGb hc,hsv,htx]
   ·rw [if_neg hd] at h
    exact absurd h (show ¬ ((11:Int)=0) by decide)
end KV
end Go.Proofs
end
namespace Go.Proofs
namespace KV
open Tryz
section

theorem bHi(k:Int):1≤aN k∧aN k≤3:=by
 unfold aN
 repeat' split
 all_goals decide
end
section

theorem bNe(R:List (List Cel))(cs:List Cel):((R++[cs]).map rwE).flatten=(R.map rwE).flatten++[PV.sl cs.length ((cs.map cE).flatten)]:=by simp [rwE,aL]
end
end KV
end Go.Proofs
section
namespace Go.Proofs
open Go.RowKit
namespace KV
open Tryz
theorem cAn{d:Int}(h:0≤d∧(d<2∨d=0)):∃ b,(([120,111]:List UInt8).drop d.toNat).take 1=[b]∧isr b=true∧1≤(([120,111]:List UInt8).drop d.toNat).length:=by
 have:d=0∨d=1:=by omega
 rcases this with rfl | rfl
 ·exact ⟨120,rfl,by decide,by decide⟩
 ·exact ⟨111,rfl,by decide,by decide⟩
theorem bRi{d:Int}(h:0≤d∧(d<26∨d=0)):isl (UInt8.ofNat (IntKind.wrap .i32 (97+d)).toNat)=true∧0≤IntKind.wrap .i32 (97+d)∧IntKind.wrap .i32 (97+d)<128:=by
 have hw:=bEq (x:=97+d) (by omega)
 rw [hw];refine ⟨?_,by omega,by omega⟩
 have e:(UInt8.ofNat (97+d).toNat).toNat=(97+d).toNat:=by rw [UInt8.toNat_ofNat'];omega
 simp only [isl,e,B0,decide_eq_true_eq];omega
section
variable {l:List Int} {nx st k most:Int} {i:Nat} {R:List (List Cel)}
theorem bEe{j:Nat}{r:List Cel}{mb tb:Int}:∀ (m q:Nat) (z:List UInt8) (mc tc:Int),(((dJ 5 8 l mb tb).1)-(q:Int)).toNat=m→(q:Int)≤(dJ 5 8 l mb tb).1→q≤8→z.length=q→(∀ b∈z,isr b=true)→0≤mc→mc≤900000000+q →
  ∃ z' E7 Gb,aF Tp 1 (sub (cd Tryz.f25) a7) (pJ l nx st k most i R j r mb tb q z mc tc) (.exit 7) (pJ l nx st k most i R j r mb tb ((dJ 5 8 l mb tb).1).toNat z' E7 Gb)∧(z'.length:Int)=(dJ 5 8 l mb tb).1∧(∀ b∈z',isr b=true)∧mc≤E7∧E7≤mc+m
 | 0,q,z,mc,tc,hm,hq,h8,hz,ha,h0,h1=>by
  have e:((dJ 5 8 l mb tb).1).toNat=q:=by omega
  rw [e];exact ⟨z,mc,tc,.exit (aVm (by omega)) (by simp),by omega,ha,by omega,by omega⟩
 | m+1,q,z,mc,tc,hm,hq,h8,hz,ha,h0,h1=>by
  have hb:=nZ 5 8 l mb tb;have hd:=jK 2 l mc tc;obtain ⟨b,e1,e2,e3⟩:=cAn ⟨hd.1,hd.2.1⟩;obtain ⟨z',E7,Gb,L,p1,p2,p3,p4⟩:=bEe (j:=j) (r:=r) (mb:=mb) (tb:=tb) m (q+1) (z++[b]) (aV 2 l mc tc).2.1 (aV 2 l mc tc).2.2 (by omega) (by omega) (by omega) (by rw [Bz,hz];rfl) (fun c hc=>by
   rcases tY.1 hc with h | h
   ·exact ha c h
   ·rw [List.mem_singleton] at h;subst h;exact e2) (by omega) (by omega)
  exact ⟨z',E7,Gb,.step (aVl (by omega) (by omega) (by omega) (by omega) (by rw [e1];simp;omega) (aT (by omega)) rfl (by rw [e1]) rfl rfl) L,p1,p2,by omega,by omega⟩
theorem bEf{j:Nat}{r:List Cel}{mb tb:Int}:∀ (m q:Nat) (z:List UInt8) (mc tc:Int),(((dJ 1 12 l mb tb).1)-(q:Int)).toNat=m→(q:Int)≤(dJ 1 12 l mb tb).1→q≤12→z.length=q→(∀ b∈z,isl b=true)→0≤mc→mc≤900000000+q →
  ∃ z' E7 Gb,aF Tp 1 (sub (cd Tryz.f25) a8) (pK l nx st k most i R j r mb tb q z mc tc) (.exit 5) (pK l nx st k most i R j r mb tb ((dJ 1 12 l mb tb).1).toNat z' E7 Gb)∧(z'.length:Int)=(dJ 1 12 l mb tb).1∧(∀ b∈z',isl b=true)∧mc≤E7∧E7≤mc+m
 | 0,q,z,mc,tc,hm,hq,h8,hz,ha,h0,h1=>by
  have e:((dJ 1 12 l mb tb).1).toNat=q:=by omega
  rw [e];exact ⟨z,mc,tc,.exit (aVo (by omega)) (by simp),by omega,ha,by omega,by omega⟩
 | m+1,q,z,mc,tc,hm,hq,h8,hz,ha,h0,h1=>by
  have hb:=nZ 1 12 l mb tb;have hd:=jK 26 l mc tc;obtain ⟨e2,e3,e4⟩:=bRi ⟨hd.1,hd.2.1⟩;obtain ⟨z',E7,Gb,L,p1,p2,p3,p4⟩:=bEf (j:=j) (r:=r) (mb:=mb) (tb:=tb) m (q+1) (z++[UInt8.ofNat (IntKind.wrap .i32 (97+(aV 26 l mc tc).1)).toNat]) (aV 26 l mc tc).2.1 (aV 26 l mc tc).2.2 (by omega) (by omega) (by omega) (by rw [Bz,hz];rfl) (fun c hc=>by
   rcases tY.1 hc with h | h
   ·exact ha c h
   ·rw [List.mem_singleton] at h;subst h;exact e2) (by omega) (by omega)
  exact ⟨z',E7,Gb,.step (aVn (by omega) (by omega) (by show _∧_;omega) ⟨e3,e4⟩ (by rw [List.length_singleton];omega) (aT (by omega)) rfl rfl rfl rfl) L,p1,p2,by omega,by omega⟩
theorem uA(r:List Cel)(a:Int)(z:List UInt8):((r++[(a,z)]).map cE).flatten=(r.map cE).flatten++[aB a,aD z]:=by simp [cE]
structure aUz (k:Int) (i j:Nat) (r:List Cel):Prop where
 len:r.length=j
 ck:∀ (q:Nat) t c,(aJ k)[q]? = some t→r[q]? = some c→ckM t c=0
 key:0<j→∃ e:Int,0≤e∧e≤2∧r[0]? = some (3*(i:Int)+e,[])
theorem aVa{j:Nat}{r:List Cel}{t a:Int}{z:List UInt8}(h:aUz k i j r)(ht:(aJ k)[j]? = some t)(hc:ckM t (a,z)=0)(hk:j=0→∃ e:Int,0≤e∧e≤2∧a=3*(i:Int)+e∧z=[]):aUz k i (j+1) (r++[(a,z)]):=by
 obtain ⟨h1,h2,h3⟩:=h;refine ⟨by rw [Bz,h1];rfl,fun q t' c g1 g2 => ?_,fun _ => ?_⟩
 ·by_cases hq:q<r.length
  ·rw [aFn hq] at g2
   exact h2 q t' c g1 g2
  ·rw [aBn (by omega)] at g2
   have Ar:q-r.length=0:=by
    apply Classical.byContradiction;intro e;rw [List.getElem?_eq_none (by simp;omega)] at g2;cases g2
   rw [Ar] at g2
   cases g2;have:q=j:=by omega
   subst this;rw [ht] at g1;cases g1
   exact hc
 ·by_cases hj:j=0
  ·obtain ⟨e,e1,e2,e3,e4⟩:=hk hj
   have:r=[]:=pF (by omega)
   subst this;exact ⟨e,e1,e2,by rw [e3,e4];rfl⟩
  ·obtain ⟨e,e1,e2,e3⟩:=h3 (by omega)
   exact ⟨e,e1,e2,by rw [aFn (by omega)];exact e3⟩
theorem aVb(k:Int):(aJ k)[0]? = some 0:=by
 unfold aJ
 repeat' split
 all_goals rfl
theorem bEg{a:Int}(h:0≤a∧a≤999999):ckM 0 (a,[])=0:=by
 have:within a 0 999999=true:=cM.2 h;simp [ckM,this]
theorem bRj{a:Int}(h:0≤a∧a≤360000):ckM 1 (a,[])=0:=by
 have:within a 0 360000=true:=cM.2 h;simp [ckM,this]
theorem bRk{z:List UInt8}(h:5≤(z.length:Int)∧(z.length:Int)≤8)(ha:∀ b∈z,isr b=true):ckM 2 (0,z)=0:=by
 have:mY z=true:=by
  unfold mY;rw [cM.2 h,iD.2 ha];rfl
 simp [ckM,this]
theorem bRl{z:List UInt8}(h:1≤(z.length:Int)∧(z.length:Int)≤12)(ha:∀ b∈z,isl b=true):ckM 3 (0,z)=0:=by
 have:mZ z=true:=by
  unfold mZ;rw [cM.2 h,iD.2 ha];rfl
 simp [ckM,this]
theorem bEh{a b:Int}(h1:0≤a)(h2:a≤60)(h3:0≤b)(h4:b≤99):0≤a*b∧a*b≤5940:=⟨Int.mul_nonneg h1 h3,by have:=Int.mul_le_mul h2 h4 h3 (by omega);omega⟩
theorem bEi(hi:i≤100000):∀ (m j:Nat) (r:List Cel) (mb tb:Int),(aJ k).length-j=m→j≤(aJ k).length→aUz k i j r→0≤mb→mb+20*m≤900000000 →
  ∃ r' Ep Gd,aF Tp 1 (sub (cd Tryz.f25) an) (eI l nx st k most i R j r.length ((r.map cE).flatten) mb tb) (.exit 2) (eI l nx st k most i R (aJ k).length r'.length ((r'.map cE).flatten) Ep Gd)∧aUz k i (aJ k).length r'∧mb≤Ep∧Ep≤mb+20*m
 | 0,j,r,mb,tb,hm,hj,hr,h0,h1=>by
  have:j=(aJ k).length:=by omega
  subst this;exact ⟨r,mb,tb,.exit (aVk (by omega)) (by simp),hr,by omega,by omega⟩
 | m+1,j,r,mb,tb,hm,hj,hr,h0,h1=>by
  have hcl:=jN k;have hrl:=hr.len;obtain ⟨t,ht⟩:∃ t,(aJ k)[j]? = some t:=⟨(aJ k)[j]'(by omega),B4 (by omega)⟩
  have Ll:(aJ k).length-(j+1)=m:=by omega
  have Pu:j+1≤(aJ k).length:=by omega
  have go:∀ (a:Int) (z:List UInt8) (Ep Gd:Int),ckM t (a,z)=0→(j=0→∃ e:Int,0≤e∧e≤2∧a=3*(i:Int)+e∧z=[])→mb≤Ep→Ep≤mb+20 →
    aA Tp 1 (sub (cd Tryz.f25) an) (eI l nx st k most i R j r.length ((r.map cE).flatten) mb tb) .normal (eI l nx st k most i R (j+1) (r++[(a,z)]).length (((r++[(a,z)]).map cE).flatten) Ep Gd) →
    ∃ r' Ep Gd,aF Tp 1 (sub (cd Tryz.f25) an) (eI l nx st k most i R j r.length ((r.map cE).flatten) mb tb) (.exit 2) (eI l nx st k most i R (aJ k).length r'.length ((r'.map cE).flatten) Ep Gd)∧aUz k i (aJ k).length r'∧mb≤Ep∧Ep≤mb+20*((m+1:Nat):Int):=fun a z Pv Pw hc hk g1 g2 hs=>by
   obtain ⟨r',Ep,Gd,L,q1,q2,q3⟩:=bEi hi m (j+1) (r++[(a,z)]) Pv Pw Ll Pu (aVa hr ht hc hk) (by omega) (by omega)
   exact ⟨r',Ep,Gd,.step hs L,q1,by omega,by omega⟩
  by_cases Mk:j=0
  ·have Lm:=aVb k
   rw [Mk,Lm] at ht
   obtain rfl:=(Option.some.inj ht);have Px:(aJ k)[j]? = some 0:=by rw [Mk];exact Lm
   have d1:=jK 60 l mb tb;have d2:=nZ 1 99 l (aV 60 l mb tb).2.1 (aV 60 l mb tb).2.2;have d3:=jK 3 l (dJ 1 99 l (aV 60 l mb tb).2.1 (aV 60 l mb tb).2.2).2.1 (dJ 1 99 l (aV 60 l mb tb).2.1 (aV 60 l mb tb).2.2).2.2;have hmul:=bEh d1.1 (b:=(dJ 1 99 l (aV 60 l mb tb).2.1 (aV 60 l mb tb).2.2).1) (by omega) (by omega) (by omega)
   exact go _ [] _ _ (bEg (by omega)) (fun _=>⟨_,d3.1,by omega,rfl,rfl⟩) (by omega) (by omega)
    (aVf (by omega) Px (by omega) (by omega) (by decide) (by show _∧_;omega) (by omega) (by show _∧_;omega) (by omega) (by show _∧_;omega) ⟨rfl,by omega⟩ (aT (by omega)) rfl (by simp) (uA _ _ _) rfl rfl)
  ·have nk:∀ {p:Prop},j=0→p:=fun e=>absurd e Mk
   rcases jO ht with rfl | rfl | rfl | rfl
   ·have d1:=jK 60 l mb tb
    have d2:=nZ 1 99 l (aV 60 l mb tb).2.1 (aV 60 l mb tb).2.2;have hmul:=bEh d1.1 (b:=(dJ 1 99 l (aV 60 l mb tb).2.1 (aV 60 l mb tb).2.2).1) (by omega) (by omega) (by omega)
    exact go _ [] _ _ (bEg (by omega)) (fun e=>nk e) (by omega) (by omega)
     (aVg (by omega) ht (by omega) (by omega) (by decide) (by show _∧_;omega) (by omega) ⟨rfl,by omega⟩ (aT (by omega)) rfl (by simp) (uA _ _ _) rfl rfl)
   ·have d1:=jK 360001 l mb tb
    exact go _ [] _ _ (bRj (by omega)) (fun e=>nk e) (by omega) (by omega)
     (aVh (by omega) ht (by omega) (by omega) ⟨rfl,by omega⟩ (aT (by omega)) rfl (by simp) (uA _ _ _) rfl rfl)
   ·have d1:=nZ 5 8 l mb tb
    obtain ⟨z',E7,Gb,L,p1,p2,p3,p4⟩:=bEe (l:=l) (nx:=nx) (st:=st) (k:=k) (most:=most) (i:=i) (R:=R) (j:=j) (r:=r) (mb:=mb) (tb:=tb) _ 0 [] (dJ 5 8 l mb tb).2.1 (dJ 5 8 l mb tb).2.2 rfl (by omega) (by omega) rfl (fun b hb=>by simp at hb) (by omega) (by omega)
    exact go 0 z' E7 Gb (bRk (by omega) p2) (fun e=>nk e) (by omega) (by omega)
     (aVi (by omega) ht (by omega) (by decide) L (by omega) ⟨rfl,by omega⟩ (aT (by omega)) rfl (by simp) (uA _ _ _))
   ·have d1:=nZ 1 12 l mb tb
    obtain ⟨z',E7,Gb,L,p1,p2,p3,p4⟩:=bEf (l:=l) (nx:=nx) (st:=st) (k:=k) (most:=most) (i:=i) (R:=R) (j:=j) (r:=r) (mb:=mb) (tb:=tb) _ 0 [] (dJ 1 12 l mb tb).2.1 (dJ 1 12 l mb tb).2.2 rfl (by omega) (by omega) rfl (fun b hb=>by simp at hb) (by omega) (by omega)
    exact go 0 z' E7 Gb (bRl (by omega) p2) (fun e=>nk e) (by omega) (by omega)
     (aVj (by omega) ht (by omega) (by decide) L (by omega) ⟨rfl,by omega⟩ (aT (by omega)) rfl (by simp) (uA _ _ _))
structure bKp (k:Int) (i:Nat) (R:List (List Cel)):Prop where
 len:R.length=i
 ok:∀ x∈R,aRk k x
 ord:sK k R=0
 key:∀ c,R.getLast? = some c→∃ v z,c[0]? = some (v,z)∧v<3*(i:Int)
theorem aVc{r:List Cel}(h:bKp k i R)(hr:aUz k i (aJ k).length r):bKp k (i+1) (R++[r]):=by
 obtain ⟨h1,h2,h3,h4⟩:=h;have hp:=aJz k;obtain ⟨e,e1,e2,e3⟩:=hr.key hp;have kb:=bHi k;refine ⟨by rw [Bz,h1];rfl,fun x hx => ?_,aAj R r h3 fun c hc => ?_,fun c hc => ?_⟩
 ·rcases tY.1 hx with hx | hx
  ·exact h2 x hx
  ·rw [List.mem_singleton] at hx;subst hx
   exact ⟨hr.len,hr.ck⟩
 ·obtain ⟨v,z,hv,hlt⟩:=h4 c hc
  have k1:aK k c 0=v:=by unfold aK;rw [if_pos (by omega),hv];rfl
  have k2:aK k r 0=3*(i:Int)+e:=by unfold aK;rw [if_pos (by omega),e3];rfl
  have:jB (aK k c 0) (aK k r 0) = -1:=by unfold jB;rw [if_pos (by omega)]
  unfold bR Ew;rw [this,if_pos (by decide)]
 ·rw [List.getLast?_concat] at hc
  cases hc;exact ⟨_,_,e3,by omega⟩
theorem bEj(N:Nat)(hN:(aV (most+1) l nx st).1=(N:Int))(Py:N≤100000):∀ (m i:Nat) (R:List (List Cel)) (ma ta:Int),N-i=m→i≤N→bKp k i R→0≤ma→ma+80*m≤800000000 →
  ∃ R' J9 Ml,aF Tp 1 (sub (cd Tryz.f25) bm) (pH l nx st k most i R.length ((R.map rwE).flatten) ma ta) (.exit 0) (pH l nx st k most N R'.length ((R'.map rwE).flatten) J9 Ml)∧bKp k N R'∧ma≤J9∧J9≤ma+80*m
 | 0,i,R,ma,ta,hm,hi,hR,h0,h1=>by
  have:i=N:=by omega
  subst this;exact ⟨R,ma,ta,.exit (aVe (by omega)) (by simp),hR,by omega,by omega⟩
 | m+1,i,R,ma,ta,hm,hi,hR,h0,h1=>by
  have hcl:=jN k;have hRl:=hR.len;obtain ⟨r,mb,tb,L,q1,q2,q3⟩:=bEi (l:=l) (nx:=nx) (st:=st) (k:=k) (most:=most) (i:=i) (R:=R) (by omega) _ 0 [] ma ta rfl (by omega) ⟨rfl,fun q t c _ g=>by simp at g,fun g=>by omega⟩ h0 (by omega)
  obtain ⟨R',J9,Ml,L2,p1,p2,p3⟩:=bEj N hN Py m (i+1) (R++[r]) mb tb (by omega) (by omega) (aVc hR q1) (by omega) (by omega)
  exact ⟨R',J9,Ml,.step (aVd (by omega) L ⟨rfl,by omega⟩ (aT (by omega)) rfl (by simp) (bNe _ _)) L2,p1,by omega,by omega⟩
end
theorem bRm(l:List Int)(nx st k most:Int)(hk:within k 0 4=true)(hn:0≤nx∧nx≤1000000)(hm:0≤most∧most≤200):∃ R Ka Ai,aJv k R∧(R.length:Int)≤most∧nx≤Ka∧Ka≤nx+100000 ∧
  FMM Tp 25 [.ptr 0 0,.p (aB k),.p (aB most)] [some (pL l nx st)] (.p (.agg [aB k,bY R])) [some (pL l Ka Ai)]:=by
 have d:=jK (most+1) l nx st;obtain ⟨N,hN⟩:∃ N:Nat,(aV (most+1) l nx st).1=(N:Int):=⟨((aV (most+1) l nx st).1).toNat,by omega⟩
 obtain ⟨R,Ka,Ai,L,h1,h2,h3⟩:=bEj (l:=l) (nx:=nx) (st:=st) (k:=k) (most:=most) N hN (by omega) _ 0 [] (aV (most+1) l nx st).2.1 (aV (most+1) l nx st).2.2 rfl (by omega) ⟨rfl,fun x h=>by simp at h,rfl,fun c h=>by simp at h⟩ (by omega) (by omega)
 have:=bRn (l:=l) (nx:=nx) (st:=st) (k:=k) (most:=most) (by show _∧_;omega) (by omega) L
 rw [fB] at this
 exact ⟨R,Ka,Ai,⟨hk,by rw [h1.len];omega,h1.ok,h1.ord⟩,by rw [h1.len];omega,by omega,by omega,this⟩
end KV
end Go.Proofs
end
namespace Go.Proofs
namespace KV
open Tryz
section
open Go.RowKit
abbrev bEd(l:List Int)(nx st k most:Int)(R:List (List Cel))(m t:Int):Prop:=FMM Tp 25 [.ptr 0 0,.p (aB k),.p (aB most)] [some (pL l nx st)] (.p (.agg [aB k,bY R])) [some (pL l m t)]
theorem bKo(k most:Int)(l:List Int)(nx st:Int){R:List (List Cel)}{m t:Int}(h:bEd l nx st k most R m t):FMM Tp 25 [.ptr 0 0,.p (aB k),.p (aB most)] [some (pL l nx st)] (.p (.agg [aB k,bY R])) [some (pL l m t)]:=h
theorem cAm(l:List Int):FMM Tp 26 [.p (.sl l.length (l.map dR))] [] (.ptr 0 0) [some (pL l 0 17)]:=cAo
end
section
variable {v w f4 f5:Int}{i i':Nat}
open Go.RowKit
noncomputable abbrev aJf:Code:=pS (cd Tryz.f6) 6 [0,1,0,0]
theorem bEa:((0:Int) == 0)=true:=by first | decide | simp
theorem bEb:((0:Int) != 0)=false:=by first | decide | simp
theorem bRg{k:Int}{R:List (List Cel)}{T:List UInt8}(h:pO k R=(T,0)){base:Nat}:FV Tp 28 [.p (.agg [aB k,bY R])] base (.tup [.p (aD T),.p (aB 0)]) []:=by
 have:=aNr k R (base:=base);rw [h] at this
 exact this
theorem bEc{v n r:Int}(hn:0<n∧n≤1000000)(h:aAa v n=r){base:Nat}:FV Tp 34 [.p (aB v),.p (aB n)] base (pI r) []:=by
 rw [← h];exact bEp v n hn
def iF(v w:Int)(R0:List (List Cel))(T3:List UInt8)(f4 f5:Int)(i Xn:Nat)(Xc:List PV):St:=⟨fr 237 [(3,(.p (.v (.int .u8 w)))),(9,(.ptr 0 0)),(10,(.p (aD T3))),(11,(pI 0)),(12,(pI f4)),(13,(pI f5)),(98,(.own 1)),(99,(pI 4)),(100,(pI (i:Int)))],[some (.box 26 [(pI (mU v)),(.p (.sl R0.length (R0.map aL)))]),some (.row 9 Xn Xc)]⟩
theorem bRh{l:List Int}{g:Int}{R0:List (List Cel)}{m1 t2:Int}{T3:List UInt8}{Ph:Nat}{X'7:List (List UInt8)}{c8 c9 Lf:UInt8}(h0:bEd l 0 17 (mU v) 12 R0 m1 t2)(h1:pO (mU v) R0=(T3,0))(h2:(2:Int)≤(T3.length:Int))(h3:0<(T3.length:Int)∧(T3.length:Int)≤1000000)(h4:aAa g (T3.length:Int)=f4)(h5:inR ((T3.length:Int)-1))(h6:0<((T3.length:Int)-1)∧((T3.length:Int)-1)≤1000000)(h7:aAa g ((T3.length:Int)-1)=f5)(h8:0≤(0:Int)∧(0:Int)≤f4∧f4≤(T3.length:Int))(h9:(T3.take f4.toNat).length+[UInt8.ofNat (w).toNat].length≤4611686018427387904)(Ba:inR (f4+1))(C6:0≤(f4+1)∧(f4+1)≤(T3.length:Int)∧(T3.length:Int)≤(T3.length:Int))(A8:((T3.take f4.toNat)++[UInt8.ofNat (w).toNat]).length+(T3.drop ((f4+1).toNat)).length≤4611686018427387904)(Cm:0≤(0:Int)∧(0:Int)≤f5∧f5≤(T3.length:Int))(Dh:inR (f5+1))(Eo:inR (f5+2))(Gu:0≤(f5+1)∧(f5+1)≤(f5+2)∧(f5+2)≤(T3.length:Int))(Gm:(T3.take f5.toNat).length+((T3.drop ((f5+1).toNat)).take ((f5+2).toNat-(f5+1).toNat)).length≤4611686018427387904)(Ik:0≤f5∧f5≤(f5+1)∧(f5+1)≤(T3.length:Int))(Lg:((T3.take f5.toNat)++((T3.drop ((f5+1).toNat)).take ((f5+2).toNat-(f5+1).toNat))).length+((T3.drop f5.toNat).take ((f5+1).toNat-f5.toNat)).length≤4611686018427387904)(Lh:0≤(f5+2)∧(f5+2)≤(T3.length:Int)∧(T3.length:Int)≤(T3.length:Int))(N9:(((T3.take f5.toNat)++((T3.drop ((f5+1).toNat)).take ((f5+2).toNat-(f5+1).toNat)))++((T3.drop f5.toNat).take ((f5+1).toNat-f5.toNat))).length+(T3.drop ((f5+2).toNat)).length≤4611686018427387904)(Pi:0≤(0:Int)∧(0:Int)≤((T3.length:Int)-1)∧((T3.length:Int)-1)≤(T3.length:Int))(Pj:T3.length+[UInt8.ofNat (w).toNat].length≤4611686018427387904)(J8:aF Tp 0 aJf (iF v w R0 T3 f4 f5 0 4 [(aD (((T3.take f4.toNat)++[UInt8.ofNat (w).toNat])++(T3.drop ((f4+1).toNat)))),(aD ((((T3.take f5.toNat)++((T3.drop ((f5+1).toNat)).take ((f5+2).toNat-(f5+1).toNat)))++((T3.drop f5.toNat).take ((f5+1).toNat-f5.toNat)))++(T3.drop ((f5+2).toNat)))),(aD (T3.take (((T3.length:Int)-1).toNat))),(aD (T3++[UInt8.ofNat (w).toNat]))]) (.exit 0) (iF v w R0 T3 f4 f5 Ph X'7.length ((X'7.map stE).flatten)))(Pk:T3.length≤65536)(Pl:(((T3.take f4.toNat)++[UInt8.ofNat (w).toNat])++(T3.drop ((f4+1).toNat))).length≤65536)(Pm:((((T3.take f5.toNat)++((T3.drop ((f5+1).toNat)).take ((f5+2).toNat-(f5+1).toNat)))++((T3.drop f5.toNat).take ((f5+1).toNat-f5.toNat)))++(T3.drop ((f5+2).toNat))).length≤65536)(Pn:0≤f4)(Po:T3[f4.toNat]? = some c8)(Lk:(((bJ T3) == (bJ (((T3.take f4.toNat)++[UInt8.ofNat (w).toNat])++(T3.drop ((f4+1).toNat))))) == ((c8.toNat:Int) == w))=true)(Pp:0≤f5)(Pq:T3[f5.toNat]? = some c9)(Pr:0≤(f5+1))(Ps:T3[(f5+1).toNat]? = some Lf)(Oa:(((bJ T3) == (bJ ((((T3.take f5.toNat)++((T3.drop ((f5+1).toNat)).take ((f5+2).toNat-(f5+1).toNat)))++((T3.drop f5.toNat).take ((f5+1).toNat-f5.toNat)))++(T3.drop ((f5+2).toNat))))) == ((c9.toNat:Int) == (Lf.toNat:Int)))=true)(Pt:bQa){base:Nat}:FV Tp 6 [(.p (.sl l.length (l.map dR))),(pI v),(pI g),(.p (.v (.int .u8 w)))] base (pB true) []:=have k1:=mq [] 0 (cAm l);have k2:=mq [0] 1 (bKo (mU v) 12 l 0 17 h0);have k3:=fk 2 (bRg h1) rfl;have k4:=fk 2 (fO T3 Pk) rfl;have k5:=fk 3 (fO (((T3.take f4.toNat)++[UInt8.ofNat (w).toNat])++(T3.drop ((f4+1).toNat))) Pl) rfl;have k6:=fk 3 (fO ((((T3.take f5.toNat)++((T3.drop ((f5+1).toNat)).take ((f5+2).toNat-(f5+1).toNat)))++((T3.drop f5.toNat).take ((f5+1).toNat-f5.toNat)))++(T3.drop ((f5+2).toNat))) Pm) rfl;FV.fi func6 ([k1.o,.c (pI (mU v)) [],k2.o,k3.o]++rF 5++[.c (pI f4) [],.c (pI f5) [],J8.k 4 (gI b7 [1,5]),k4.o,k5.o,k6.o]++rT 12++[.x (.v (.int .u8 (c8.toNat:Int)))]++rT 10++[.x (.v (.int .u8 (c9.toNat:Int))),bT,bT,bT,bT,.x (.v (.int .u8 (Lf.toNat:Int))),bT,bT,bT,bT,.c (pB true) [],bT]) (gc Oa (gc (fk 3 (Pt _) rfl) (gc Oa (A1 Lk (gt ((T3[(f5+1).toNat]?).map (fun b:UInt8=>PV.v (.int .u8 (b.toNat:Int)))=some (.v (.int .u8 (Lf.toNat:Int)))) (xV Ps) (gc Pr (gc Lk (gc Dh (A1 Lk (gt ((T3[f5.toNat]?).map (fun b:UInt8=>PV.v (.int .u8 (b.toNat:Int)))=some (.v (.int .u8 (c9.toNat:Int)))) (xV Pq) (gc Pp (Ht Lk (F6 bEa (gt ((T3[f4.toNat]?).map (fun b:UInt8=>PV.v (.int .u8 (b.toNat:Int)))=some (.v (.int .u8 (c8.toNat:Int)))) (xV Po) (gc Pn (Ib bEa (F6 bEa (gc k6 (gc N9 (gc Lh (gc Eo (gc Lg (gc Ik (gc Dh (gc Gm (gc Gu (gc Eo (gc Dh (gc Cm (gc k5 (gc A8 (gc C6 (gc Ba (gc h9 (gt ([(PV.v (.int .u8 w))].length=1*1) (by first | decide | simp) (gc h8 (gc k4 (gc J8.code (gc Pj (gt ([(PV.v (.int .u8 w))].length=1*1) (by first | decide | simp) (gc Pi (gc h5 (gc N9 (gc Lh (gc Eo (gc Lg (gc Ik (gc Dh (gc Gm (gc Gu (gc Eo (gc Dh (gc Cm (gc A8 (gc C6 (gc Ba (gc h9 (gt ([(PV.v (.int .u8 w))].length=1*1) (by first | decide | simp) (gc h8 (gc (fk 2 (bEc h6 h7) rfl) (gc h5 (gc (fk 2 (bEc h3 h4) rfl) (gc (bC h2) (F6 bEb (gc k3 (gc k2 (gc (fk 1 (bRv v) rfl) (gc k1 gn))))))))))))))))))))))))))))))))))))))))))))))))))))))))))))))))))))
theorem aUv{R0:List (List Cel)}{T3:List UInt8}{X:List (List UInt8)}{Aa:List UInt8}(h0:(i:Int)<4)(h1:0≤(i:Int)∧(i:Int)<(X.length:Int))(h2:X[i]? = some (Aa))(h3:Aa=T3)(h4:co i)(Aj:i'=(i+1)):aA Tp 0 aJf (iF v w R0 T3 f4 f5 i X.length ((X.map stE).flatten)) .normal (iF v w R0 T3 f4 f5 i' X.length ((X.map stE).flatten)):=by
 subst Aj;exact aA.fi (gI b7 [0,1]) [bT,.x (aD Aa),bT] (gc h4 (gt ((decide (Aa=T3))=true) (decide_eq_true h3) (gt (((X.map stE).flatten)[(i*1)]? = some (aD Aa)) (aM (E:=stE) (i:=i) (f:=0) (k:=1) (fun _=>rfl) h2 rfl) (gc h1 (g0 h0)))))
section
variable{T3:List UInt8}{X:List (List UInt8)}{Aa:List UInt8}(h0:(i:Int)<4)(h1:0≤(i:Int)∧(i:Int)<(X.length:Int))(h2:X[i]? = some (Aa))(h3:Aa≠T3)(h4:inR ((Aa.length:Int).tdiv 2))(h5:0≤(0:Int)∧(0:Int)≤((Aa.length:Int).tdiv 2)∧((Aa.length:Int).tdiv 2)≤(Aa.length:Int))(h6:(Aa.take (((Aa.length:Int).tdiv 2).toNat)).length≤65536)(h7:(0:Int)≤(bJ (Aa.take (((Aa.length:Int).tdiv 2).toNat))))
include h0 h1 h2 h3 h4 h5 h6 h7
theorem aUw{R0:List (List Cel)}(h8:((prM Aa).2.2.2.2)=0)(h9:((prM Aa).2.1).length≤100000)(Ba:∀ r∈((prM Aa).2.1),r.length≤100000)(C6:(decide (((prM Aa).1)=(mU v)∧((prM Aa).2.1)=R0))=false)(A8:((pO ((prM Aa).1) ((prM Aa).2.1)).2)=0)(Cm:((pO ((prM Aa).1) ((prM Aa).2.1)).1)=Aa)(Dh:co i)(Aj:i'=(i+1)):aA Tp 0 aJf (iF v w R0 T3 f4 f5 i X.length ((X.map stE).flatten)) .normal (iF v w R0 T3 f4 f5 i' X.length ((X.map stE).flatten)):=by
 subst Aj;have k1:=fk 2 (fO (Aa.take (((Aa.length:Int).tdiv 2).toNat)) h6) rfl;have k2:=fk 2 (aGj Aa) rfl;have k3:=fk 3 (bEv ((prM Aa).1) ((prM Aa).2.1) (mU v) R0 h9 Ba) rfl;have k4:=fk 3 (aNr ((prM Aa).1) ((prM Aa).2.1)) rfl;exact aA.fi (gI b7 [0,1]) ([bT,.x (aD Aa),bF,k1.o,k2.o]++rF 6++[bT,bT,bT,k3.o,bF,bT,bF,bF,bT,k4.o]++rF 5) (gc Dh (gc (aX (decide_eq_true Cm)) (F6 (bV A8) (gc k4 (gc (dF h8) (gc C6 (gc (bC h7) (gc (dF h8) (gc (bC h7) (gc k3 (A1 (dF h8) (A1 (bC h7) (A1 bEb (gc k2 (gc k1 (gc h5 (gc h4 (gt ((2:Int)≠0) (by first | decide | simp) (gt ((decide (Aa=T3))=false) (decide_eq_false h3) (gt (((X.map stE).flatten)[(i*1)]? = some (aD Aa)) (aM (E:=stE) (i:=i) (f:=0) (k:=1) (fun _=>rfl) h2 rfl) (gc h1 (g0 h0))))))))))))))))))))))
theorem aUx{R0:List (List Cel)}(h8:((prM Aa).2.2.2.2)≠0)(h9:co i)(Aj:i'=(i+1)):aA Tp 0 aJf (iF v w R0 T3 f4 f5 i X.length ((X.map stE).flatten)) .normal (iF v w R0 T3 f4 f5 i' X.length ((X.map stE).flatten)):=by
 subst Aj;have k1:=fk 2 (fO (Aa.take (((Aa.length:Int).tdiv 2).toNat)) h6) rfl;have k2:=fk 2 (aGj Aa) rfl;exact aA.fi (gI b7 [0,1]) ([bT,.x (aD Aa),bF,k1.o,k2.o]++rF 13) (gc h9 (gc (bL h8) (gc (bC h7) (gc (bL h8) (gc (bC h7) (A1 (bL h8) (A1 (bC h7) (A1 bEb (gc k2 (gc k1 (gc h5 (gc h4 (gt ((2:Int)≠0) (by first | decide | simp) (gt ((decide (Aa=T3))=false) (decide_eq_false h3) (gt (((X.map stE).flatten)[(i*1)]? = some (aD Aa)) (aM (E:=stE) (i:=i) (f:=0) (k:=1) (fun _=>rfl) h2 rfl) (gc h1 (g0 h0)))))))))))))))))
end
theorem aUy{R0:List (List Cel)}{T3:List UInt8}{X:List (List UInt8)}(h0:(4:Int)≤(i:Int)):aA Tp 0 aJf (iF v w R0 T3 f4 f5 i X.length ((X.map stE).flatten)) (.exit 0) (iF v w R0 T3 f4 f5 i X.length ((X.map stE).flatten)):=aA.fi (gI b7 [0,1]) [bF] (gc (bC h0) gn)
end
end KV
end Go.Proofs
section
namespace Go.Proofs
open Go.RowKit
namespace KV
open Tryz
def hF(s:List UInt8)(o:Int):Int:=s.foldl (fun o b=>31*o+(b.toNat:Int)) o
theorem bDw:∀ (s:List UInt8) (o o':Int),0≤o→o=o' % 65521→s.foldl (fun o b=>(31*o+(b.toNat:Int)).tmod 65521) o=hF s o' % 65521
 | [],o,o',_,h=>h
 | b::s,o,o',h0,h=>by
  have hb:=xW b;have e:(31*o+(b.toNat:Int)).tmod 65521=(31*o'+(b.toNat:Int)) % 65521:=by
   rw [Int.tmod_eq_emod_of_nonneg (by omega)];omega
  exact bDw s _ (31*o'+(b.toNat:Int)) (by show 0≤(31*o+(b.toNat:Int)).tmod 65521;rw [e];omega) e
theorem xN(s:List UInt8):bJ s=hF s 0 % 65521:=bDw s 0 0 (by decide) (by decide)
theorem bDx(p q:List UInt8)(o:Int):hF (p++q) o=hF q (hF p o):=by unfold hF;rw [bKh]
theorem aFq:∀ (q:List UInt8) (o:Int),hF q o=o*31 ^ q.length+hF q 0
 | [],o=>by simp [hF]
 | b::q,o=>by
  have e1:hF (b::q) o=hF q (31*o+(b.toNat:Int)):=rfl;have e2:hF (b::q) 0=hF q (31*0+(b.toNat:Int)):=rfl;rw [e1,e2,aFq q (31*o+(b.toNat:Int)),aFq q (31*0+(b.toNat:Int)),eT,Int.pow_succ,Int.add_mul,Int.mul_zero,Int.zero_add];have:31*o*31 ^ q.length=o*(31 ^ q.length*31):=by rw [Int.mul_comm 31 o,Int.mul_assoc,Int.mul_comm 31]
  omega
theorem vI(d:Int):∀ k:Nat,(d*31 ^ k) % 65521=0→d % 65521=0
 | 0,h=>by simpa using h
 | k+1,h=>by
  rw [Int.pow_succ,← Int.mul_assoc] at h
  exact vI d k (by omega)
theorem bDy(p q:List UInt8)(c:UInt8):hF (p++c::q) 0=(31*hF p 0+(c.toNat:Int))*31 ^ q.length+hF q 0:=by
 rw [bDx];exact aFq q _
theorem bDz(p q:List UInt8)(c d:UInt8):hF (p++c::d::q) 0=(31*(31*hF p 0+(c.toNat:Int))+(d.toNat:Int))*31 ^ q.length+hF q 0:=by
 rw [bDx];exact aFq q _
theorem bKm(p q:List UInt8)(c b:UInt8):bJ (p++c::q)=bJ (p++b::q)↔c.toNat=b.toNat:=by
 refine ⟨fun h => ?_,fun h=>by rw [UInt8.toNat_inj.1 h]⟩
 rw [xN,xN,bDy,bDy] at h
 have e:((c.toNat:Int)-(b.toNat:Int))*31 ^ q.length=(31*hF p 0+(c.toNat:Int))*31 ^ q.length-(31*hF p 0+(b.toNat:Int))*31 ^ q.length:=by
  rw [← Int.sub_mul];congr 1;omega
 have:=vI ((c.toNat:Int)-(b.toNat:Int)) q.length (by rw [e];omega)
 have h1:=xW c;have h2:=xW b;omega
theorem bKn(p q:List UInt8)(c d:UInt8):bJ (p++c::d::q)=bJ (p++d::c::q)↔c.toNat=d.toNat:=by
 refine ⟨fun h => ?_,fun h=>by rw [UInt8.toNat_inj.1 h]⟩
 rw [xN,xN,bDz,bDz] at h
 have e:30*(((c.toNat:Int)-(d.toNat:Int))*31 ^ q.length)=(31*(31*hF p 0+(c.toNat:Int))+(d.toNat:Int))*31 ^ q.length-(31*(31*hF p 0+(d.toNat:Int))+(c.toNat:Int))*31 ^ q.length:=by
  rw [← Int.sub_mul,← Int.mul_assoc];congr 1;omega
 have:=vI ((c.toNat:Int)-(d.toNat:Int)) q.length (by omega)
 have h1:=xW c;have h2:=xW d;omega
theorem aUu{v w:Int}{R:List (List Cel)}{T x:List UInt8}{f4 f5:Int}{i:Nat}{X:List (List UInt8)}(hT:pO (mU v) R=(T,0))(hX:X.length=4)(hx:X[i]? = some x)(hl:x.length≤65536) :
  aA Tp 0 (sub (cd Tryz.f6) ba) (iF v w R T f4 f5 i X.length ((X.map stE).flatten)) .normal (iF v w R T f4 f5 (i+1) X.length ((X.map stE).flatten)):=by
 have hi:=bI hx
 by_cases he:x=T
 ·exact aUv (by omega) (by omega) hx he (aT (by omega)) rfl
 ·have ht:(x.length:Int).tdiv 2=((x.length / 2:Nat):Int):=by rw [Int.tdiv_eq_ediv_of_nonneg (by omega)];omega
  have hsb:=fun s:List UInt8=>(aOm s 0 (by decide)).1
  by_cases hz:(prM x).2.2.2.2=0
  ·obtain ⟨p1,p2,p3,p4⟩:=bMy hz
   have hG:=aRh p1;have hne:decide ((prM x).1=mU v∧(prM x).2.1=R)=false:=decide_eq_false fun ⟨q1,q2⟩=>by
    rw [q1,q2,hT] at p2
    exact he (congrArg Prod.fst p2).symm
   have hGn:=hG.n;exact aUw (by omega) (by omega) hx he (by rw [ht];unfold inR;omega) (by rw [ht];omega) (by rw [mQ];omega) (hsb _) hz (by omega) (fun r hr=>by
    rw [(hG.ok r hr).len];have:=jN (prM x).1;omega) hne (by rw [p2]) (by rw [p2]) (aT (by omega)) rfl
  ·exact aUx (by omega) (by omega) hx he (by rw [ht];unfold inR;omega) (by rw [ht];omega) (by rw [mQ];omega) (hsb _) hz (aT (by omega)) rfl
theorem aJe{T:List UInt8}{i:Nat}(h:i<T.length):∃ p c q,T=p++c::q∧p.length=i:=⟨T.take i,T[i],T.drop (i+1),by rw [← bDs h,aUl],by rw [mQ];omega⟩
theorem bOp{b:Bool}{p:Prop}[Decidable p]{q:Prop}[Decidable q](h:p↔q)(e:b=decide q):(decide p == b)=true:=by
 rw [e]
 by_cases hp:p
 ·rw [decide_eq_true hp,decide_eq_true (h.1 hp)];rfl
 ·rw [decide_eq_false hp,decide_eq_false (fun e=>hp (h.2 e))];rfl
theorem bRf(l:List Int)(v g w:Int)(hw:0≤w∧w≤255)(ha:bQa){base:Nat}:FV Tp 6 [.p (.sl l.length (l.map dR)),.p (aB v),.p (aB g),.p (.v (.int .u8 w))] base (.p (blP true)) []:=by
 obtain ⟨R,m,t,hG,hn,_,_,hM⟩:=bRm l 0 17 (mU v) 12 (bKq v) (by decide) (by decide)
 have hc:=bGm hG;have hpl:=bMw hc;have Ei:2≤(pO (mU v) R).1.length:=by
  rw [aGb hc];show 2≤(txL (kX (mU v) R++[xH (kV (kC (mU v) R))])).length;rw [xQ,Bz];show 2≤(txL (wV (mU v) _::_)).length+_;rw [jP,Bz,eT];have:1≤(txL [xH (kV (kC (mU v) R))]).length:=by rw [jP,Bz,eT];omega
  omega
 obtain ⟨T,hT⟩:∃ T,pO (mU v) R=(T,0):=⟨(pO (mU v) R).1,by rw [aGb hc]⟩
 rw [hT] at hpl Ei
 dsimp only at hpl Ei
 obtain ⟨f4,h4⟩:∃ f,aAa g (T.length:Int)=f:=⟨_,rfl⟩;obtain ⟨f5,h5⟩:∃ f,aAa g ((T.length:Int)-(1:Int))=f:=⟨_,rfl⟩;have b4:=aFr g (n:=(T.length:Int)) (by omega)
 have b5:=aFr g (n:=(T.length:Int)-(1:Int)) (by omega)
 rw [h4] at b4
 rw [h5] at b5
 obtain ⟨i,rfl⟩:∃ i:Nat,f4=(i:Int):=⟨f4.toNat,by omega⟩
 obtain ⟨k,rfl⟩:∃ k:Nat,f5=(k:Int):=⟨f5.toNat,by omega⟩
 have hwb:(UInt8.ofNat w.toNat).toNat=w.toNat:=by rw [UInt8.toNat_ofNat'];omega
 have X1l:(((T.take ((i:Int)).toNat)++[UInt8.ofNat (w).toNat])++(T.drop (((i:Int)+(1:Int)).toNat))).length≤65536:=by
  rw [Bz,Bz,mQ,sI,List.length_singleton];omega
 have X2l:((((T.take ((k:Int)).toNat)++((T.drop (((k:Int)+(1:Int)).toNat)).take (((k:Int)+(2:Int)).toNat-((k:Int)+(1:Int)).toNat)))++((T.drop ((k:Int)).toNat).take (((k:Int)+(1:Int)).toNat-((k:Int)).toNat)))++(T.drop (((k:Int)+(2:Int)).toNat))).length≤65536:=by
  simp only [Bz,mQ,sI];omega
 have X3l:(T.take (((T.length:Int)-(1:Int)).toNat)).length≤65536:=by rw [mQ];omega
 have X4l:(T++[UInt8.ofNat (w).toNat]).length≤65536:=by rw [Bz,List.length_singleton];omega
 have L:=aF.range (P:=Tp) (k:=0) (b:=(sub (cd Tryz.f6) ba)) (e := .exit 0) (fun j (_:Unit)=>iF v w R T (i:Int) (k:Int) j 4 (([(((T.take ((i:Int)).toNat)++[UInt8.ofNat (w).toNat])++(T.drop (((i:Int)+(1:Int)).toNat))),((((T.take ((k:Int)).toNat)++((T.drop (((k:Int)+(1:Int)).toNat)).take (((k:Int)+(2:Int)).toNat-((k:Int)+(1:Int)).toNat)))++((T.drop ((k:Int)).toNat).take (((k:Int)+(1:Int)).toNat-((k:Int)).toNat)))++(T.drop (((k:Int)+(2:Int)).toNat))),T.take (((T.length:Int)-(1:Int)).toNat),T++[UInt8.ofNat (w).toNat]].map stE).flatten)) (fun _=>iF v w R T (i:Int) (k:Int) 4 ([(((T.take ((i:Int)).toNat)++[UInt8.ofNat (w).toNat])++(T.drop (((i:Int)+(1:Int)).toNat))),((((T.take ((k:Int)).toNat)++((T.drop (((k:Int)+(1:Int)).toNat)).take (((k:Int)+(2:Int)).toNat-((k:Int)+(1:Int)).toNat)))++((T.drop ((k:Int)).toNat).take (((k:Int)+(1:Int)).toNat-((k:Int)).toNat)))++(T.drop (((k:Int)+(2:Int)).toNat))),T.take (((T.length:Int)-(1:Int)).toNat),T++[UInt8.ofNat (w).toNat]]:List (List UInt8)).length (([(((T.take ((i:Int)).toNat)++[UInt8.ofNat (w).toNat])++(T.drop (((i:Int)+(1:Int)).toNat))),((((T.take ((k:Int)).toNat)++((T.drop (((k:Int)+(1:Int)).toNat)).take (((k:Int)+(2:Int)).toNat-((k:Int)+(1:Int)).toNat)))++((T.drop ((k:Int)).toNat).take (((k:Int)+(1:Int)).toNat-((k:Int)).toNat)))++(T.drop (((k:Int)+(2:Int)).toNat))),T.take (((T.length:Int)-(1:Int)).toNat),T++[UInt8.ofNat (w).toNat]].map stE).flatten)) (fun _ _=>()) (fun _ _=>True) (by simp) [(((T.take ((i:Int)).toNat)++[UInt8.ofNat (w).toNat])++(T.drop (((i:Int)+(1:Int)).toNat))),((((T.take ((k:Int)).toNat)++((T.drop (((k:Int)+(1:Int)).toNat)).take (((k:Int)+(2:Int)).toNat-((k:Int)+(1:Int)).toNat)))++((T.drop ((k:Int)).toNat).take (((k:Int)+(1:Int)).toNat-((k:Int)).toNat)))++(T.drop (((k:Int)+(2:Int)).toNat))),T.take (((T.length:Int)-(1:Int)).toNat),T++[UInt8.ofNat (w).toNat]] (a0:=()) trivial
  (fun j x o hx _=>⟨trivial,aUu hT rfl hx (by
   have:=Ch hx;simp only [lA,List.mem_nil_iff,or_false] at this
   rcases this with rfl | rfl | rfl | rfl
   ·exact X1l
   ·exact X2l
   ·exact X3l
   ·exact X4l)⟩)
  (fun o _=>aUy (X:=[(((T.take ((i:Int)).toNat)++[UInt8.ofNat (w).toNat])++(T.drop (((i:Int)+(1:Int)).toNat))),((((T.take ((k:Int)).toNat)++((T.drop (((k:Int)+(1:Int)).toNat)).take (((k:Int)+(2:Int)).toNat-((k:Int)+(1:Int)).toNat)))++((T.drop ((k:Int)).toNat).take (((k:Int)+(1:Int)).toNat-((k:Int)).toNat)))++(T.drop (((k:Int)+(2:Int)).toNat))),T.take (((T.length:Int)-(1:Int)).toNat),T++[UInt8.ofNat (w).toNat]]) (i:=4) (by decide))
 obtain ⟨p,c,q,e1,l1⟩:=aJe (T:=T) (i:=i) (by omega)
 obtain ⟨p',c',q0,e2,l2⟩:=aJe (T:=T) (i:=k) (by omega)
 obtain ⟨d',q',rfl⟩:∃ d' q',q0=d'::q':=by
  cases q0 with
  | nil=>exfalso;have:=congrArg List.length e2;simp at this;omega
  | cons d' q'=>exact ⟨d',q',rfl⟩
 have x1:((T.take ((i:Int)).toNat)++[UInt8.ofNat (w).toNat])++(T.drop (((i:Int)+(1:Int)).toNat))=p++UInt8.ofNat w.toNat::q:=by
  rw [show ((i:Int)).toNat=p.length by omega,show ((i:Int)+(1:Int)).toNat=(p++[c]).length by rw [Bz,List.length_singleton];omega,e1,List.take_left,show p++c::q=(p++[c])++q by simp,List.drop_left]
  simp
 have x2:(((T.take ((k:Int)).toNat)++((T.drop (((k:Int)+(1:Int)).toNat)).take (((k:Int)+(2:Int)).toNat-((k:Int)+(1:Int)).toNat)))++((T.drop ((k:Int)).toNat).take (((k:Int)+(1:Int)).toNat-((k:Int)).toNat)))++(T.drop (((k:Int)+(2:Int)).toNat))=p'++d'::c'::q':=by
  have g0:T.take ((k:Int)).toNat=p':=by rw [show ((k:Int)).toNat=p'.length by omega,e2,List.take_left]
  have g1:T.drop ((k:Int)).toNat=c'::d'::q':=by rw [show ((k:Int)).toNat=p'.length by omega,e2,List.drop_left]
  have g2:T.drop (((k:Int)+(1:Int)).toNat)=d'::q':=by rw [show ((k:Int)+(1:Int)).toNat=(p'++[c']).length by rw [Bz,List.length_singleton];omega,e2,show p'++c'::d'::q'=(p'++[c'])++d'::q' by simp,List.drop_left]
  have g3:T.drop (((k:Int)+(2:Int)).toNat)=q':=by rw [show ((k:Int)+(2:Int)).toNat=(p'++[c',d']).length by rw [Bz];simp;omega,e2,show p'++c'::d'::q'=(p'++[c',d'])++q' by simp,List.drop_left]
  rw [g0,g1,g2,g3,show ((k:Int)+(2:Int)).toNat-((k:Int)+(1:Int)).toNat=1 by omega,show ((k:Int)+(1:Int)).toNat-((k:Int)).toNat=1 by omega]
  simp
 have J7:T[((i:Int)).toNat]? = some c:=by rw [show ((i:Int)).toNat=p.length by omega,e1,aBn (Bb _),aNf];rfl
 have at2:T[((k:Int)).toNat]? = some c':=by rw [show ((k:Int)).toNat=p'.length by omega,e2,aBn (Bb _),aNf];rfl
 have at3:T[((k:Int)+(1:Int)).toNat]? = some d':=by rw [show ((k:Int)+(1:Int)).toNat=p'.length+1 by omega,e2,aBn (by omega),show p'.length+1-p'.length=1 by omega];rfl
 have s1:((bJ T == bJ (((T.take ((i:Int)).toNat)++[UInt8.ofNat (w).toNat])++(T.drop (((i:Int)+(1:Int)).toNat)))) == ((c.toNat:Int) == w))=true:=by
  rw [x1]
  conv=>lhs;lhs;lhs;rw [e1]
  have:=bKm p q c (UInt8.ofNat w.toNat);rw [hwb] at this
  exact bOp this (by by_cases h:c.toNat=w.toNat <;> simp [h] <;> omega)
 have s2:((bJ T == bJ ((((T.take ((k:Int)).toNat)++((T.drop (((k:Int)+(1:Int)).toNat)).take (((k:Int)+(2:Int)).toNat-((k:Int)+(1:Int)).toNat)))++((T.drop ((k:Int)).toNat).take (((k:Int)+(1:Int)).toNat-((k:Int)).toNat)))++(T.drop (((k:Int)+(2:Int)).toNat)))) == ((c'.toNat:Int) == (d'.toNat:Int)))=true:=by
  rw [x2]
  conv=>lhs;lhs;lhs;rw [e2]
  exact bOp (bKn p' q' c' d') (by by_cases h:c'.toNat=d'.toNat <;> simp [h] <;> omega)
 have nT:T.length≤62000:=hpl;refine bRh hM hT (by omega) (by omega) h4 (by show _∧_;omega) (by omega) h5 (by omega) ?_ (by show _∧_;omega) (by omega) ?_ (by omega) (by show _∧_;omega) (by show _∧_;omega) (by omega) ?_ (by omega) ?_ (by omega) ?_ (by omega) ?_ L (by omega) X1l X2l (by omega) J7 s1 (by omega) at2 (by omega) at3 s2 ha
 all_goals simp only [Bz,mQ,sI,List.length_singleton];omega
end KV
end Go.Proofs
end
section
namespace Go.Proofs
open Go.RowKit
namespace KV
open Tryz
abbrev itV(it:Nat):Value := .pointer (some ⟨it,0,none⟩)
def iM(W:World)(it:Nat)(s:ByteArray)(pos:Nat):World:={ W with heap:=W.heap.setIfInBounds it (.stringIter s pos) }
theorem aZy{P:Program}{W:World}{it pos:Nat}{s:ByteArray}{ty:TypeId}(h:W.heap[it]? = some (.stringIter s pos))(hp:pos<s.size) :
  (Instr.next (itV it) true ty).run P W = .ok (.tuple #[.bool true,.int .i64 pos,.int .i32 (Utf8.decode s pos).1]) (iM W it s (pos+(Utf8.decode s pos).2)):=by
 simp only [Instr.next,getObj,setObj,Sem.run_bind,Sem.run,h,Result.andThen,hp,if_true];simp [goInt,Sem.run,h,iM]
theorem aZz{P:Program}{W:World}{it pos:Nat}{s:ByteArray}{ty:TypeId}(h:W.heap[it]? = some (.stringIter s pos))(hp:¬ pos<s.size) :
  (Instr.next (itV it) true ty).run P W = .ok (.tuple #[.bool false]) W:=by
 simp [Instr.next,getObj,Sem.run,h,hp]
theorem jR{W:World}{it pos c:Nat}{s:ByteArray}(h:c≠it):(iM W it s pos).heap[c]? = W.heap[c]? := by
 simp [iM,Array.getElem?_setIfInBounds,Ne.symm h]
theorem bHu{W:World}{it pos:Nat}{s:ByteArray}(h:it<W.heap.size):(iM W it s pos).heap[it]? = some (.stringIter s pos):=by
 simp [iM,h]
theorem sQ{W:World}{it pos:Nat}{s:ByteArray}:(iM W it s pos).heap.size=W.heap.size:=by simp [iM]
structure aRx (C:Cx) (M:Mem) (w0 W:World) (it:Nat):Prop where
 nF:¬ C.F it
 nL:∀ (id:Nat) (o:AO),M[id]? = some (some o)→o.live=true→C.ι id≠some it
 lt:it<W.heap.size
 ge:w0.heap.size≤it
variable {P:Program} {C C0:Cx} {M M0:Mem} {w0 W:World}
theorem bYj{it pos:Nat}{s:ByteArray}(hM:aW P C M W)(hL:aRx C M w0 W it):aW P C M (iM W it s pos):=by
 have hFz:∀ c,C.F c→(iM W it s pos).heap[c]? = W.heap[c]? := fun c hc=>jR (fun e=>hL.nF (e ▸ hc))
 have hLe:Le C C M M W (iM W it s pos):=⟨fun _ o h=>⟨o,h⟩,fun _ _ _ _ _ cs h=>⟨cs,h⟩,fun _ o h o' h' hl=>by rw [h] at h';cases h';exact ⟨hl,rfl,rfl⟩,fun _ h=>h,hFz⟩
 refine ⟨fun i ty n cs hm => ?_,fun i ty cs hm => ?_,fun i es cl hm => ?_,hM.inj,hM.nF,fun c hc=>by rw [sQ];exact hM.Fs c hc,fun i o c ho hl hb=>by rw [sQ];exact hM.lt i o c ho hl hb,hM.lib.le hLe⟩
 ·rcases hM.row _ _ _ _ hm with h4 | ⟨c,arr,inf,q0,q1,q2,q3,q4,q5,q6,q7,q8⟩
  ·exact .inl h4
  ·exact .inr ⟨c,arr,inf,q0,(jR (fun (e:c=it)=>hL.nL _ _ hm rfl (by rw [← e];exact q0))).trans q1,q2,q3,q4,q5,q6,fun j hj=>(q7 j hj).mono hLe.F hLe.fz,q8⟩
 ·obtain ⟨c,arr,q0,q1,q2,q3,q4⟩:=hM.box _ _ _ hm
  exact ⟨c,arr,q0,(jR (fun (e:c=it)=>hL.nL _ _ hm rfl (by rw [← e];exact q0))).trans q1,q2,fun j hj=>(q3 j hj).mono hLe,q4⟩
 ·obtain ⟨c,arr,q0,q1,q2,q3⟩:=hM.mp _ _ _ hm
  refine ⟨c,arr,q0,(jR (fun (e:c=it)=>hL.nL _ _ hm rfl (by rw [← e];exact q0))).trans q1,q2,fun j hj => ?_⟩
  obtain ⟨en,r1,r2,r3,r4⟩:=q3 j hj;exact ⟨en,r1,r2,r3,r4.mono hLe.F hLe.fz⟩
theorem cBp{it pos:Nat}{s:ByteArray}(hL:aRx C M w0 W it):Le C C M M W (iM W it s pos) :=
 ⟨fun _ o h=>⟨o,h⟩,fun _ _ _ _ _ cs h=>⟨cs,h⟩,fun _ o h o' h' hl=>by rw [h] at h';cases h';exact ⟨hl,rfl,rfl⟩,fun _ h=>h,fun c hc=>jR (fun e=>hL.nF (e ▸ hc))⟩
theorem cBq{it pos:Nat}{s:ByteArray}(f:Fr C0 M0 w0 C M W)(hL:aRx C M w0 W it):Fr C0 M0 w0 C M (iM W it s pos):=by
 refine ⟨f.os,f.tape,f.out,by rw [sQ];exact f.size,fun c hc hn=>(jR (fun e => ?_)).trans (f.keep c hc hn),f.ids,f.row,f.liv,f.new,f.F1,f.F2⟩
 have:=hL.ge;omega
inductive Runes (s:ByteArray):Nat→List (Nat × Nat)→Prop
 | nil {pos:Nat} (h:¬ pos<s.size):Runes s pos []
 | cons {pos:Nat} {c wd:Nat} {l:List (Nat × Nat)} (h:pos<s.size) (hd:Utf8.decode s pos=(c,wd)) (hr:Runes s (pos+wd) l):Runes s pos ((pos,c)::l)
abbrev nxR(id gi d c Em Ek:Nat)(p1 p2:String):Code := .region id #[{ dst:=some d,op := .next (.tmp gi) true,type:=Em,pos:=p1,after := #[],guard:=none },{ dst:=some c,op := .extract (.tmp d) 0,type:=Ek,pos:=p2,after := #[{ on:=0,ground:=Ground.data }],guard:=none }] false
def nxT(T:List AV)(d c pos r:Nat):List AV:=put (put T (some d) (.tup [.p (blP true),.p (aB (pos:Int)),.p (.v (.int .i32 (r:Int)))])) (some c) (.p (blP true))
theorem cBr{ro:Option Nat}{n id gi d c Em Ek pos:Nat}{p1 p2:String}{s:ByteArray}{Q:Exit→Act→World→Prop}{a:Act}{it:Nat}(hg:a.eval (.tmp gi)=itV it)(hW:W.heap[it]? = some (.stringIter s pos))(hp:pos<s.size){K:Act→World→Prop}
  (hd:d<a.tmps.size)
  (h:K ((a.put (some d) (.tuple #[.bool true,.int .i64 pos,.int .i32 (Utf8.decode s pos).1])).put (some c) (.bool true)) (iM W it s (pos+(Utf8.decode s pos).2))):(nxR id gi d c Em Ek p1 p2).wpIn (Fen ro) n Tp (Exit.then K Q) a W:=by
 refine wpIn_region_lit (wpListIn_plain rfl fun K' H3 => ?_)
 unfold Oper.wpIn;refine ⟨fun f hf => ?_,?_⟩
 ·simp [Oper.about] at hf
 rw [Oper.semAt_plain _ _ _ (by intro c Dq;cases Dq)]
 simp only [execOp,hg,Sem.run_bind,aZy hW hp,Result.andThen,Sem.run_pure];refine H3 _ _ (wpListIn_plain rfl fun K2 Jh => ?_)
 unfold Oper.wpIn;refine ⟨fun f hf => ?_,?_⟩
 ·simp [Oper.about] at hf
 rw [Oper.semAt_plain _ _ _ (by intro c Dq;cases Dq)]
 have he:(a.put (some d) (.tuple #[.bool true,.int .i64 pos,.int .i32 (Utf8.decode s pos).1])).eval (.tmp d) = .tuple #[.bool true,.int .i64 pos,.int .i32 (Utf8.decode s pos).1]:=by
  simp [Act.put,Act.eval,hd]
 simp only [execOp,he];simp [Instr.extract,Sem.run];exact Jh _ _ (wpListIn_nil h)
theorem bYk{ro:Option Nat}{n id gi d c Em Ek pos:Nat}{p1 p2:String}{s:ByteArray}{Q:Exit→Act→World→Prop}{a:Act}{it:Nat}(hg:a.eval (.tmp gi)=itV it)(hW:W.heap[it]? = some (.stringIter s pos))(hp:¬ pos<s.size){K:Act→World→Prop}
  (hd:d<a.tmps.size)
  (h:K ((a.put (some d) (.tuple #[.bool false])).put (some c) (.bool false)) W):(nxR id gi d c Em Ek p1 p2).wpIn (Fen ro) n Tp (Exit.then K Q) a W:=by
 refine wpIn_region_lit (wpListIn_plain rfl fun K' H3 => ?_)
 unfold Oper.wpIn;refine ⟨fun f hf => ?_,?_⟩
 ·simp [Oper.about] at hf
 rw [Oper.semAt_plain _ _ _ (by intro c Dq;cases Dq)]
 simp only [execOp,hg,Sem.run_bind,aZz hW hp,Result.andThen,Sem.run_pure];refine H3 _ _ (wpListIn_plain rfl fun K2 Jh => ?_)
 unfold Oper.wpIn;refine ⟨fun f hf => ?_,?_⟩
 ·simp [Oper.about] at hf
 rw [Oper.semAt_plain _ _ _ (by intro c Dq;cases Dq)]
 have he:(a.put (some d) (.tuple #[.bool false])).eval (.tmp d) = .tuple #[.bool false]:=by
  simp [Act.put,Act.eval,hd]
 simp only [execOp,he];simp [Instr.extract,Sem.run];exact Jh _ _ (wpListIn_nil h)
abbrev rgR(id i0 m gi Em Ek tx:Nat)(p1 p2:String):Code := .region id #[{ dst:=some m,op := .move (.tmp i0),type:=Em,pos:=p1,after := #[],guard:=none },{ dst:=some gi,op := .range tx (.tmp m),type:=Ek,pos:=p2,after := #[{ on:=0,ground:=Ground.data }],guard:=none }] false
theorem cBs{ro:Option Nat}{n id i0 m gi Em Ek:Nat}{p1 p2:String}{s:ByteArray}{Q:Exit→Act→World→Prop}{a:Act}(hi:a.eval (.tmp i0) = .string s){K:Act→World→Prop}(hm:m<a.tmps.size)
  (h:K ((a.put (some m) (.string s)).put (some gi) (itV W.heap.size)) (W.alloc (.stringIter s 0))):(rgR id i0 m gi Em Ek 9 p1 p2).wpIn (Fen ro) n Tp (Exit.then K Q) a W:=by
 refine wpIn_region_lit (wpListIn_plain rfl fun K' H3 => ?_)
 unfold Oper.wpIn;refine ⟨fun f hf => ?_,?_⟩
 ·simp [Oper.about] at hf
 rw [Oper.semAt_plain _ _ _ (by intro c Dq;cases Dq)]
 simp only [execOp,hi,Sem.run_pure];refine H3 _ _ (wpListIn_plain rfl fun K2 Jh => ?_)
 unfold Oper.wpIn;refine ⟨fun f hf => ?_,?_⟩
 ·simp [Oper.about] at hf
 rw [Oper.semAt_plain _ _ _ (by intro c Dq;cases Dq)]
 have he:(a.put (some m) (.string s)).eval (.tmp m) = .string s:=by
  simp [Act.put,Act.eval,hm]
 simp only [execOp,he];have hr:(Instr.range 9 (.string s)).run Tp W = .ok (itV W.heap.size) (W.alloc (.stringIter s 0)):=by
  exact run_range_string W 9 s Tryz.underlying9
 simp only [Sem.run_bind,hr,Result.andThen,Sem.run_pure];exact Jh _ _ (wpListIn_nil h)
theorem aRy{u v:Value}(h:Rep C M W (.p (.v u)) v):v=u:=by cases h with | p _ _ h=>cases h;rfl
theorem aKt{F:Fence}{n:Nat}{c:Code}{Q Q':Exit→Act→World→Prop}{a:Act}{w:World}(h:LoopIn F n P c Q a w)(hq:∀ e a w,Q e a w→Q' e a w):LoopIn F n P c Q' a w:=fun b k cs hro hb hr=>let ⟨e,a',w',q,r⟩:=h b k cs hro hb hr;⟨e,a',w',hq _ _ _ q,r⟩
abbrev aPb(C0:Cx)(M0:Mem)(w0:World)(st:St)(a:Act)(W:World)(it pos:Nat)(s:ByteArray):Prop:=Sim Tp (C0.with ((it,.stringIter s pos)::C0.R)) M0 w0 st a W
theorem aRz{st:St}{a:Act}{it pos:Nat}{s:ByteArray}(h:aPb C0 M0 w0 st a W it pos s):W.heap[it]? = some (.stringIter s pos):=by
 obtain ⟨C,_,_,_,_,hR,_⟩:=h;exact (hR (it,.stringIter s pos) (mP ..)).1
theorem bAa{st:St}{a a':Act}{T':List AV}{it pos F3:Nat}{s:ByteArray}(hR:∀ p∈C0.R,p.1≠it)(hpk:xD st.m)(h:aPb C0 M0 w0 st a W it pos s)(ha:a'.defers=a.defers)
  (hT:∀ C,cP C st.m (iM W it s F3) st.t a.tmps→cP C st.m (iM W it s F3) T' a'.tmps):aPb C0 M0 w0 ⟨T',st.m⟩ a' (iM W it s F3) it F3 s:=by
 obtain ⟨C,hS,hM,hF,⟨l,e1,e2,e3⟩,hRes,_⟩:=h;obtain ⟨q1,q2,q3,q4,q5⟩:=hRes (it,.stringIter s pos) (mP ..);have hlt:it<W.heap.size:=(lR.1 q1).1;have hL:aRx C st.m w0 W it:=⟨q4,q5,hlt,q2⟩;refine ⟨C,hT C (hS.le (cBp hL)),bYj hM hL,(cBq hF.unbased hL).based _,⟨l,by rw [ha];exact e1,e2,fun D hD => ?_⟩,fun p hp => ?_,.no hpk⟩
 ·obtain ⟨r1,r2,r3⟩:=e3 D hD
  refine ⟨(jR (fun e => ?_)).trans r1,r2,r3⟩
  subst e;have:=q1.symm.trans r1;cases this
 ·rcases lA.1 hp with rfl | hp
  ·exact ⟨bHu hlt,q2,by simp,q4,q5⟩
  ·obtain ⟨r1,r2,r3,r4,r5⟩:=hRes p (C7 _ hp)
   exact ⟨(jR (hR p hp)).trans r1,r2,r3,r4,r5⟩
theorem eM{a:Act}{d:Option Nat}{u:Value}:(a.put d u).defers=a.defers:=by unfold Act.put;split <;> rfl
theorem aAv{a:Act}{d:Option Nat}{u:Value}:(a.put d u).tmps.size=a.tmps.size:=by unfold Act.put;split <;> simp
theorem bHv{a:Act}{d:Nat}(h:d<a.tmps.size):(a.put (some d) (a.tmps.getD d undef)).tmps=a.tmps:=by
 simp only [Act.put];apply Array.ext_getElem?;intro i
 by_cases e:d=i
 ·subst e
  simp [h,Array.getD]
 ·simp [e]
theorem aGr{a:Act}{d:Nat}{u:Value}(h:d<a.tmps.size):(a.put (some d) u).eval (.tmp d)=u:=by simp [Act.put,Act.eval,h]
theorem bNm{β:Type}{k id gi d c Em Ek e0 it:Nat}{p1 p2:String}{body LB:Code}{s:ByteArray}(S:β→PV→St)(f:β→Nat × Nat→β)(b0:β)(L:List (Nat × Nat))
  (hLB:LB = .seq (nxR id gi d c Em Ek p1 p2) (.seq (.cond (.tmp c) .skip (.exit e0)) body)) (hnrf:nrf body=true)
  (hg:∀ b g,(S b g).t[gi]? = some (.p g)) (hd:∀ b g,d<(S b g).t.length) (hc:∀ b g,c<(S b g).t.length) (hT:∀ b g,put (put (S b g).t (some d) .any) (some c) .any=(S b g).t) (hpk:∀ b g,xD (S b g).m)
  (hb:∀ pre x g,pre++[x] <+: L→aA Tp k body ⟨nxT (S (pre.foldl f b0) g).t d c x.1 x.2,(S (pre.foldl f b0) g).m⟩ .normal (S (f (pre.foldl f b0) x) g))
  (hR:∀ p∈C0.R,p.1≠it) (hk:M0.length≤k) {ro:Option Nat} {n:Nat}:∀ (l:List (Nat × Nat)) (pos:Nat) (pre:List (Nat × Nat)) (a:Act) (W:World),Runes s pos l→pre++l=L→aPb C0 M0 w0 (S (pre.foldl f b0) (.v (itV it))) a W it pos s →
   LoopIn (Fen ro) n Tp LB (fun e' a' w'=>e' = .exit e0∧∃ F3,aPb C0 M0 w0 (S (L.foldl f b0) (.v (itV it))) a' w' it F3 s) a W:=by
 intro l
 induction l with
 | nil =>
  intro pos pre a W hr hp hs;have hn:¬ pos<s.size:=by cases hr;assumption
  rw [List.append_nil] at hp
  subst hp;subst hLB;have hat:=aRz hs;obtain ⟨C,hS,hM,hF,hD⟩:=hs;have hsz:a.tmps.size=(S (pre.foldl f b0) (.v (itV it))).t.length:=hS.size;have hgi:a.eval (.tmp gi)=itV it:=aRy (hS.at (hg (pre.foldl f b0) (.v (itV it))))
  refine LoopIn.step (wpIn_seq (bYk hgi hat hn (by rw [hsz];exact hd _ _) (wpIn_seq (wpIn_cond_false (aGr (by rw [aAv,hsz];exact hc _ _)) (wpIn_exit ?_)))))
  refine ⟨rfl,pos,C,?_,hM,hF,by rw [eM,eM];exact hD⟩
  have:=cP.put (d:=some c) (cP.put (d:=some d) (v := .tuple #[.bool false]) hS (.any _)) (v := .bool false) (.any _);rw [hT] at this
  exact this
 | cons x l ih =>
  intro pos pre a W hr hp hs;subst hLB;have hat:=aRz hs;have Hm:=hs;obtain ⟨C,hS,hM,hF,hD⟩:=Hm;have hsz:a.tmps.size=(S (pre.foldl f b0) (.v (itV it))).t.length:=hS.size;have hgi:a.eval (.tmp gi)=itV it:=aRy (hS.at (hg (pre.foldl f b0) (.v (itV it))))
  cases hr with
  | cons hlt hdc Dv =>
  rename_i r wd;refine LoopIn.step (wpIn_seq (cBr hgi hat hlt (by rw [hsz];exact hd _ _) (wpIn_seq (wpIn_cond_true (aGr (by rw [aAv,hsz];exact hc _ _)) (wpIn_skip ?_)))))
  rw [hdc];have Df:aPb C0 M0 w0 ⟨nxT (S (pre.foldl f b0) (.v (itV it))).t d c pos r,(S (pre.foldl f b0) (.v (itV it))).m⟩ ((a.put (some d) (.tuple #[.bool true,.int .i64 pos,.int .i32 (r:Int)])).put (some c) (.bool true)) (iM W it s (pos+wd)) it (pos+wd) s:=by
   refine bAa hR (hpk _ _) hs (by rw [eM,eM]) fun C' L3 => ?_
   refine cP.put (cP.put L3 (.tup _ _ rfl fun i hi => ?_)) (.p _ _ (.v _))
   match i,hi with
   | 0,_=>exact .p _ _ (.v _)
   | 1,_=>exact .p _ _ (.v _)
   | 2,_=>exact .p _ _ (.v _)
  refine wpIn_mono (hb pre (pos,r) (.v (itV it)) ⟨l,by rw [← hp];simp⟩ _ _ _ _ _ hk Df ro (.inr hnrf) n) ?_
  rintro e' a' w' ⟨rfl,Fh⟩;exact ih (pos+wd) (pre++[(pos,r)]) a' w' Dv (by rw [← hp];simp) (by rw [bKh];exact Fh)
theorem bHw{β:Type}{k i0 m Oo id gi d c Em Ek Je Oq e0:Nat}{p1 p2 p3 p4:String}{body cc:Code}(s:List UInt8)(S:β→St)(G:β→PV→St)(f:β→Nat × Nat→β)(b0:β)(L:List (Nat × Nat))(hLr:Runes ⟨s.toArray⟩ 0 L)
  (hcc:cc = .seq (rgR Oo i0 m gi Je Oq 9 p3 p4) (.block e0 (.loop (.seq (nxR id gi d c Em Ek p1 p2) (.seq (.cond (.tmp c) .skip (.exit e0)) body))))) (hnrf:nrf body=true)
  (Qn:(S b0).t[i0]? = some (.p (aD s))) (hm:m<(S b0).t.length) (Qo:∀ g,put (put (S b0).t (some m) .any) (some gi) (.p g)=(G b0 g).t) (hGm:∀ b g,(G b g).m=(S b).m) (hGe:∀ b g,put (G b g).t (some gi) .any=(S b).t)
  (hg:∀ b g,(G b g).t[gi]? = some (.p g)) (hgs:∀ b g,gi<(G b g).t.length) (hd:∀ b g,d<(G b g).t.length) (hc:∀ b g,c<(G b g).t.length) (hT:∀ b g,put (put (G b g).t (some d) .any) (some c) .any=(G b g).t) (hpk:∀ b,xD (S b).m)
  (hb:∀ pre x g,pre++[x] <+: L→aA Tp k body ⟨nxT (G (pre.foldl f b0) g).t d c x.1 x.2,(G (pre.foldl f b0) g).m⟩ .normal (G (f (pre.foldl f b0) x) g)) :
  aA Tp k cc (S b0) .normal (S (L.foldl f b0)):=by
 intro C0 M0 w0 a w hk hs ro hro n;subst hcc;obtain ⟨C,hS,hM,hF,⟨l,e1,e2,e3⟩,hRes,hP⟩:=hs;have hsz:a.tmps.size=(S b0).t.length:=hS.size;have hst:a.eval (.tmp i0) = .string ⟨s.toArray⟩:=aRy (hS.at Qn)
 obtain ⟨W,hW⟩:∃ W,W=w.alloc (.stringIter ⟨s.toArray⟩ 0):=⟨_,rfl⟩;have hWs:W.heap.size=w.heap.size+1:=by rw [hW];simp [World.alloc,-World.alloc_eq]
 have hWo:∀ b,b<w.heap.size→W.heap[b]? = w.heap[b]? := fun b hb=>by rw [hW];simp [World.alloc,-World.alloc_eq,Array.getElem?_push];omega
 have hWa:W.heap[w.heap.size]? = some (.stringIter ⟨s.toArray⟩ 0):=by rw [hW];simp [World.alloc,-World.alloc_eq]
 obtain ⟨f1,m1⟩:=oR (C:=C) (kb:=some w.heap.size) (w':=W) hM (by rw [hW];rfl) (by rw [hW];rfl) (by rw [hW];rfl) (by omega) hWo
 have hnl:∀ (i:Nat) (o:AO),(S b0).m[i]? = some (some o)→o.live=true→C.ι i≠some w.heap.size:=fun i o ho hl he=>absurd (hM.lt i o _ ho hl he) (Nat.lt_irrefl _)
 have hRne:∀ p∈C0.R,p.1≠w.heap.size:=fun p hp e=>by
  have:=(hRes p hp).1;rw [e,Array.getElem?_eq_none (Bb _)] at this
  cases this
 refine wpIn_seq (cBs hst (by rw [hsz];exact hm) ?_)
 rw [← hW];have Da:aPb C0 M0 w0 (G b0 (.v (itV w.heap.size))) ((a.put (some m) (.string ⟨s.toArray⟩)).put (some gi) (itV w.heap.size)) W w.heap.size 0 ⟨s.toArray⟩:=by
  have hSl:cP (C.after w W (some w.heap.size)) (S b0).m W (G b0 (.v (itV w.heap.size))).t ((a.put (some m) (.string ⟨s.toArray⟩)).put (some gi) (itV w.heap.size)).tmps:=by
   rw [← Qo];exact cP.put (cP.put (hS.le (hM.le f1)) (.any _)) (.p _ _ (.v _))
  refine ⟨C.after w W (some w.heap.size),by rw [hGm];exact hSl,by rw [hGm];exact m1,by rw [hGm];exact (hF.trans f1).based _,?_⟩
  rw [eM,eM,hGm];obtain ⟨h1,h2,h3⟩:=kH.fr (C0:=C0) ⟨⟨l,e1,e2,e3⟩,hRes,hP⟩ hM .refl f1;refine ⟨h1,fun p hp => ?_,.no (hpk _)⟩
  rcases lA.1 hp with rfl | hp
  ·refine ⟨hWa,hF.size,by simp,fun hf => ?_,hnl⟩
   rcases hf with hf | ⟨_,hf⟩
   ·exact absurd (hM.Fs _ hf) (Nat.lt_irrefl _)
   ·simp at hf
  ·exact h2 p hp
 refine wpIn_block (LoopIn.wp (aKt (bNm G f b0 L rfl hnrf hg hd hc hT (fun b g=>by rw [hGm];exact hpk b) hb hRne hk L 0 [] _ W hLr rfl Da) ?_))
 rintro e' a' w' ⟨rfl,F3,Df⟩;simp only [Exit.inBlock,if_true];refine ⟨rfl,?_⟩;obtain ⟨C2,I5,F7,Et,Co,Dp,_⟩:=Df;rw [hGm] at I5 F7 Et Dp
 refine ⟨C2,?_,F7,Et.unbased,Co,fun p hp=>Dp p (C7 _ hp),.no (hpk _)⟩
 have:=cP.put (d:=some gi) (v:=a'.tmps.getD gi undef) I5 (.any _);rw [hGe,bHv (by rw [I5.size];exact hgs _ _)] at this
 exact this
end KV
end Go.Proofs
end
section
namespace Go.Proofs
open Go.RowKit
namespace KV
open Tryz
def aAu(cs:List UInt8)(r:Nat):Bool:=decide (0≤Lib.indexByte cs r.toUInt8)
theorem bYh(cs:List UInt8)(r:Nat)(h:r<128){base:Nat}:FV Tp 216 [.p (aD cs),.p (.v (.int .i32 (r:Int)))] base (.p (blP (aAu cs r))) []:=FV.ofc rfl fun C w us hus hM=>by
 obtain rfl:=Gw rfl rfl hus;refine (Tryz.strings_ContainsRune_ascii ⟨cs.toArray⟩ (r:Int) w (by omega) (by omega)).mono ?_
 rintro e w' ⟨rfl,rfl⟩;exact ⟨_,rfl,Below.refl _ _,.p _ _ (.v _)⟩
abbrev xoR(id i j k Em Ek Je:Nat)(p1 p2 p3:String)(q:Array Edge):Code := .region id #[{ dst:=some j,op := .move (.tmp i),type:=Em,pos:=p1,after := #[],guard:=none },{ dst:=some k,op := .unOp .xor 3 (.tmp j),type:=Ek,pos:=p2,after := #[{ on:=0,ground:=Ground.data }],guard:=none },{ dst:=some i,op := .assign (.tmp k),type:=Je,pos:=p3,after:=q,guard:=none }] false
theorem bYi{kk id i j k Em Ek Je:Nat}{p1 p2 p3:String}{q:Array Edge}{cc:Code}{st Ai:St}{v:Int}(hcc:cc=xoR id i j k Em Ek Je p1 p2 p3 q)(hi:st.t[i]? = some (.p (aB v)))(hj:j<st.t.length)(hk:k<st.t.length)(hv:0≤v∧v<9223372036854775808)
  (hp:put (put (put st.t (some j) .any) (some k) .any) (some i) (.p (aB (-1-v)))=Ai.t) (hm:Ai.m=st.m):aA Tp kk cc st .normal Ai:=by
 intro C0 M0 w0 a w hk0 hs ro hro n;subst hcc;obtain ⟨C,hS,hM,hF,hD⟩:=hs;have hsz:a.tmps.size=st.t.length:=hS.size;have Ql:a.eval (.tmp i) = .int .i64 v:=aRy (hS.at hi)
 refine wpIn_region_lit (wpListIn_plain rfl fun K' H3 => ?_)
 unfold Oper.wpIn;refine ⟨fun f hf => ?_,?_⟩
 ·simp [Oper.about] at hf
 rw [Oper.semAt_plain _ _ _ (by intro c Dq;cases Dq)]
 simp only [execOp,Ql,Sem.run_pure];refine H3 _ _ (wpListIn_plain rfl fun K2 Jh => ?_)
 unfold Oper.wpIn;refine ⟨fun f hf => ?_,?_⟩
 ·simp [Oper.about] at hf
 rw [Oper.semAt_plain _ _ _ (by intro c Dq;cases Dq)]
 have he:(a.put (some j) (.int .i64 v)).eval (.tmp j) = .int .i64 v:=aGr (by rw [hsz];exact hj)
 have hb:bits .xor .i64 (-1) v = -1-v:=by
  have:=i64_not v.toNat (by omega)
  rw [show ((v.toNat:Nat):Int)=v from by omega] at this
  exact this
 have hx:(Op.unary .xor (.int .i64 v)).run Tp w = .ok (.int .i64 (-1-v)) w:=by
  rw [unary_xor,← hb];rfl
 simp only [execOp,he,Sem.run_bind,hx,Result.andThen,Sem.run_pure];refine Jh _ _ (wpListIn_plain rfl fun K3 Km => ?_)
 unfold Oper.wpIn;refine ⟨fun f hf => ?_,?_⟩
 ·simp [Oper.about] at hf
 rw [Oper.semAt_plain _ _ _ (by intro c Dq;cases Dq)]
 have Qm:((a.put (some j) (.int .i64 v)).put (some k) (.int .i64 (-1-v))).eval (.tmp k) = .int .i64 (-1-v):=aGr (by rw [aAv,hsz];exact hk)
 simp only [execOp,Qm,Sem.run_pure];refine Km _ _ (wpListIn_nil ⟨rfl,C,?_,by rw [hm];exact hM,by rw [hm];exact hF,by rw [eM,eM,eM,hm];exact hD⟩)
 rw [hm,← hp];exact cP.put (cP.put (cP.put hS (.any _)) (.any _)) (.p _ _ (.v _))
def fZ:Nat→List UInt8→List (Nat × Nat)
 | _,[]=>[]
 | i,b::r=>(i,b.toNat)::fZ (i+1) r
theorem aEb(s:List UInt8)(h:∀ b∈s,b.toNat<128):∀ (l:List UInt8) (i:Nat),s.drop i=l→Runes ⟨s.toArray⟩ i (fZ i l)
 | [],i,hl => .nil (by
  have:=congrArg List.length hl;simp [ByteArray.size] at this ⊢;omega)
 | b::r,i,hl=>by
  have h0:i<s.length:=by
   have:=congrArg List.length hl;simp at this;omega
  have hb:s[i]=b:=by
   have:=congrArg (·[0]?) hl
   simpa [h0] using this
  have hsz:i<(⟨s.toArray⟩:ByteArray).size:=by simpa [ByteArray.size] using h0
  have hg:(⟨s.toArray⟩:ByteArray)[i]'hsz=b:=hb;refine .cons hsz ((decode_ascii ⟨s.toArray⟩ i hsz (by rw [hg,← hb];exact h _ (gR h0))).trans (by rw [hg])) (aEb s h r (i+1) ?_)
  rw [← List.tail_drop,hl];rfl
end KV
end Go.Proofs
end
section
namespace Go.Proofs
open Go.RowKit Go.Maps
namespace KV
open Tryz
set_option maxRecDepth 1000000
abbrev k3V(a b c:Int):Value := .agg #[.int .i64 a,.int .i64 b,.int .i64 c]
theorem Jm:Tryz.prog.underlying 186=some (.array 3 3):=by kernel_rfl
theorem u3:Tryz.prog.underlying 3=some (.int .i64):=by kernel_rfl
theorem It:Tryz.prog.keyType 186=true:=by kernel_rfl
theorem Nw:Tryz.prog.cellsOf 186=3:=by kernel_rfl
theorem c3:Tryz.prog.cellsOf 3=1:=by kernel_rfl
theorem laid:laidOutB Tp=true:=by kernel_rfl
theorem tsz:Nat.ble (Tryz.prog.types.size+2) 10000=true:=by kernel_rfl
theorem Kz:Nat.ble 187 Tryz.prog.types.size=true:=by kernel_rfl
theorem Eb:Keyed Tp 186:=Keyed.of_law (deep_law_gate laid (Nat.le_of_ble_eq_true tsz) (Nat.le_of_ble_eq_true Kz) It (by rw [Jm]))
theorem Nx(a b c:Int):(k3V a b c).formed Tp 186=true:=by kernel_rfl
theorem K0{d:Nat}{a:Int}(ha:(Lit.int .i64 a).wf=true):Tryz.prog.keyLits (d+1) 3 [.int .i64 a]=some [.int .i64 a]:=by
 rw [Program.keyLits]
 rotate_left
 ·exact .i64
 ·exact u3
 simp [ha]
theorem H8{d:Nat}{a b c:Int}(ha:(Lit.int .i64 a).wf=true)(hb:(Lit.int .i64 b).wf=true)(hc:(Lit.int .i64 c).wf=true):Tryz.prog.keyLits (d+2) 186 [.int .i64 a,.int .i64 b,.int .i64 c]=some [.int .i64 a,.int .i64 b,.int .i64 c]:=by
 have h:∀ x∈[a,b,c],Tryz.prog.keyLits (d+1) 3 [.int .i64 x]=some [.int .i64 x]:=fun x hx=>by
  simp at hx
  rcases hx with rfl | rfl | rfl <;> exact K0 (by assumption)
 have h0:=h a (by simp)
 have h1:=h b (by simp)
 have h2:=h c (by simp)
 rw [Program.keyLits]
 rotate_left
 ·exact 3
 ·exact 3
 ·exact Jm
 simp [Nw,c3,List.range_succ,h0,h1,h2]
theorem bZz{a b c:Int}(ha:(Lit.int .i64 a).wf=true)(hb:(Lit.int .i64 b).wf=true)(hc:(Lit.int .i64 c).wf=true):∃ l,keyOf Tp 186 (k3V a b c)=some l:=by
 obtain ⟨d,hd⟩:∃ d,Tryz.prog.types.size+1=d+2:=⟨Tryz.prog.types.size-1,by have:=Nat.le_of_ble_eq_true Kz;omega⟩
 unfold keyOf;rw [Jm];simp only [It,Nx,Bool.and_self,if_true,hd];have:(k3V a b c).cells.toList=[.int .i64 a,.int .i64 b,.int .i64 c]:=rfl;rw [this,H8 ha hb hc];exact ⟨_,rfl⟩
theorem Jl{a:Int}(h : -1000000000≤a∧a≤1000000000):(Lit.int .i64 a).wf=true:=by
 have e1:IntKind.i64.min = -9223372036854775808:=rfl;have e2:IntKind.i64.max=9223372036854775807:=rfl;simp only [Lit.wf,e1,e2,B0,decide_eq_true_eq];omega
end KV
end Go.Proofs
end
namespace Go.Proofs
namespace KV
open Tryz
section
variable {k:Int}{i base:Nat}

noncomputable abbrev bJb:Code:=sub (cd Tryz.f149) [1,1,0,1,0,0]
theorem bZu{r:List Cel}(h0:(r.length:Int)=0):FMM Tp 150 [(.p (.sl r.length ((r.map cE).flatten)))] [] (.p bM) []:=FMM.fi 0 gE func150 [bT] (gc (dF h0) gn)
theorem bZv{r:List Cel}(h0:(r.length:Int)≠0)(h1:0≤(r.length:Int)∧(r.length:Int)≤(r.length:Int)∧(r.length:Int)≤1000000)(h2:((r.map cE).flatten).length=r.length*2∧r.length=r.length):FMM Tp 150 [(.p (.sl r.length ((r.map cE).flatten)))] [] (.p (.sl r.length ((r.map cE).flatten))) []:=FMM.fi 0 ⟨[],[],[0],[]⟩ func150 [bF] (gc h2 (gc h1 (gc (bL h0) gn)))
theorem bZw{r t:List Cel}(h0:(0:Int)<(r.length:Int)):FV Tp 106 [(.p (.agg [(.sl r.length ((r.map cE).flatten)),(.sl t.length ((t.map cE).flatten))]))] base (.p (.sl r.length ((r.map cE).flatten))) []:=FV.fi func106 [bT] (g0 h0)
theorem bZx{r t:List Cel}(h0:(r.length:Int)≤0):FV Tp 106 [(.p (.agg [(.sl r.length ((r.map cE).flatten)),(.sl t.length ((t.map cE).flatten))]))] base (.p (.sl t.length ((t.map cE).flatten))) []:=FV.fi func106 [bF] (gc (bC h0) gn)
abbrev iL(k:Int)(r:List Cel):Value:=k3V (aK k r 0) (aK k r 1) (aK k r 2)
def bN(k:Int)(L:List (List Cel)):List (Value × PV):=L.map fun r=>(iL k r,aL r)
def qE(k:Int)(R:List (List Cel))(i:Nat)(me:List (Value × PV))(mk:Nat):St:=⟨fr 22 [(1,(.ptr 0 0)),(2,(.p (.v (.map none)))),(3,(.mp 1)),(8,(.p (.sl R.length (R.map aL)))),(9,(pI (R.length:Int))),(10,(pI (i:Int)))],[some (.box 26 [(pI k),(.p (.sl R.length (R.map aL)))]),some (.mp me mk)]⟩
theorem bZy{R:List (List Cel)}{Aq:Nat}{Cs:List (List Cel)}(hl0:aF Tp 0 bJb (qE k R 0 [] 0) (.exit 0) (qE k R Aq ((bN k) Cs) Cs.length)):FMM Tp 149 [(.p (.agg [(aB k),(.sl R.length (R.map aL))]))] [] (.mp 0) [some (.mp ((bN k) Cs) Cs.length)]:=FMM.fi 0 ⟨[],[1],[],[]⟩ func149 [hl0.k 8 (gI [0,1,4,4,11,10] [0,1])] (gc hl0.code gn)
theorem bBn{R m:List (List Cel)}{Ab:List Cel}{i':Nat}{m':List (List Cel)}(h0:(i:Int)<(R.length:Int))(h1:R[i]? = some Ab)(h2:aN k≤(Ab.length:Int))(h3:eH Tp 186 ((bN k) m) (k3V (aK k Ab 0) (aK k Ab 1) (aK k Ab 2)))(h4:(gQ ((bN k) m) (k3V (aK k Ab 0) (aK k Ab 1) (aK k Ab 2)))=false)(h5:co i)(Aj:i'=(i+1))(E2:(bN k) m'=(((bN k) m)++[((k3V (aK k Ab 0) (aK k Ab 1) (aK k Ab 2)),(.sl Ab.length ((Ab.map cE).flatten)))]))(E3:m'.length=(m.length+1)):aA Tp 0 bJb (qE k R i ((bN k) m) m.length) .normal (qE k R i' ((bN k) m') m'.length):=by
 subst Aj;have k1:=fk 2 (eC k Ab h2) rfl;rw [E2,E3];exact aA.fi (gI [0,1,4,4,11,10] [0,1]) [bT,.x (.sl Ab.length ((Ab.map cE).flatten)),k1.o,bF] (gc h5 (gc h4 (gc h3 (gc k1 (gc (atm aL h1) (gc (ixn aL h1) (g0 h0)))))))
theorem bBo{R m:List (List Cel)}(h0:(R.length:Int)≤(i:Int)):aA Tp 0 bJb (qE k R i ((bN k) m) m.length) (.exit 0) (qE k R i ((bN k) m) m.length):=aA.fi (gI [0,1,4,4,11,10] [0,1]) [bF] (gc (bC h0) gn)
end
end KV
end Go.Proofs
section
namespace Go.Proofs
open Go.RowKit Go.Maps
namespace KV
open Tryz
set_option maxRecDepth 1000000
theorem FMM.wkp{P:Program}{f:Nat}{args:List AV}{M M':Mem}{x:PV}(h:FMM P f args M (.p x) M'):FMM P f args M (.p (wkP x)) M':=fun C w us hus hM n=>by
 refine (h C w us hus hM n).mono ?_;rintro e w' ⟨u,rfl,C',hF,Eh,hr⟩;exact ⟨u,rfl,C',hF,Eh,aGl hr⟩
theorem cS.wk{C:Cx}{M:Mem}{w:World}:∀ {args:List AV} {us:List Value},cS C M w args us→cS C M w (args.map Kn) us
 | [],_,h=>by cases h;exact .nil
 | x::l,_,h=>by
  cases h with
  | cons _ _ u us h1 h2=>exact .cons _ _ _ _ (aGl h1) h2.wk
theorem FV.argwk{P:Program}{f base:Nat}{args Am:List AV}{y:AV}{L:Upd}(h:FV P f Am base y L)(e:args.map Kn=Am):FV P f args base y L:=by
 obtain ⟨r,M1,h1,h2⟩:=h;refine ⟨r,M1,fun C w us hus hM n => ?_,h2⟩
 subst e;exact h1 C w us hus.wk hM n
theorem aF.count{P:Program}{k:Nat}{b:Code}{e:Ex}{R:St}(N:Nat)(S:Nat→St)(hs:∀ i,i<N→aA P k b (S i) .normal (S (i+1)))(hx:aA P k b (S N) e R)(he:e ≠ .normal):aF P k b (S 0) e R:=by
 have key:∀ d i,i+d=N→aF P k b (S i) e R:=by
  intro d
  induction d with
  | zero =>
   intro i hi;obtain rfl:i=N:=by omega
   exact .exit hx he
  | succ d ih=>intro i hi;exact .step (hs i (by omega)) (ih (i+1) (by omega))
 exact key N 0 (by omega)

theorem qD(r:List Cel)(h:r.length≤1000000){base:Nat}:FV Tp 150 [.p (aL r)] base (.p (aL r)) []:=by
 refine FV.frz ?_ rfl
 by_cases h0:r.length=0
 ·have:r=[]:=pF h0
  subst this;exact FMM.wkp (bZu (r:=[]) (by simp))
 ·exact bZv (by omega) (by omega) ⟨bSn r,rfl⟩
def Av(k:Int)(r:List Cel):List Int:=[aK k r 0,aK k r 1,aK k r 2]
def kF(k:Int)(r:List Cel):Prop:=∀ x∈Av k r,-1000000000≤x∧x≤1000000000
instance (k:Int) (r:List Cel):Decidable (kF k r):=by unfold kF;infer_instance
theorem kN{k:Int}{r:List Cel}(h:kF k r):∃ l,keyOf Tp 186 (iL k r)=some l :=
 bZz (Jl (h _ (by simp [Av]))) (Jl (h _ (by simp [Av]))) (Jl (h _ (by simp [Av])))
theorem aGy{k:Int}{r t:List Cel}(h:Av k r=Av k t):iL k r=iL k t:=by
 unfold Av at h
 simp only [List.cons.injEq,and_true] at h
 unfold iL;rw [h.1,h.2.1,h.2.2]
theorem uR{k:Int}{L:List (List Cel)}{r:List Cel}(hL:∀ x∈L,kF k x)(hr:kF k r)(hn:(L.map (Av k)).Nodup):eH Tp 186 (bN k L) (iL k r):=by
 refine ⟨Eb,fun e he => ?_,kN hr,fun e he h => ?_,?_⟩
 ·obtain ⟨x,hx,rfl⟩:=tZ.1 he
  exact kN (hL x hx)
 ·obtain ⟨x,hx,rfl⟩:=tZ.1 he
  exact aGy h
 ·unfold bN
  rw [zW];exact hn
theorem nH(k:Int)(L:List (List Cel))(r:List Cel):gQ (bN k L) (iL k r)=L.any fun x=>decide (Av k x=Av k r):=by
 unfold gQ bN;rw [List.any_map];rfl
def kG(k:Int)(L:List (List Cel))(r:List Cel):Option (List Cel):=L.find? fun x=>decide (Av k x=Av k r)
theorem qZ(k:Int)(L:List (List Cel))(r:List Cel):gK (bN k L) (iL k r)=(kG k L r).map aL:=by
 unfold gK bN kG;rw [List.find?_map];have e:((fun e:Value × PV=>decide (jU e.1=jU (iL k r))) ∘ fun r=>(iL k r,aL r))=fun x=>decide (Av k x=Av k r):=rfl
 rw [e];cases List.find? (fun x=>decide (Av k x=Av k r)) L <;> rfl
theorem nI{k:Int}{L:List (List Cel)}{r:List Cel}:(L.any fun x=>decide (Av k x=Av k r))=(kG k L r).isSome:=by
 unfold kG;rw [Bool.eq_iff_iff,List.find?_isSome,List.any_eq_true]
theorem aEg(k:Int)(L:List (List Cel))(r:List Cel):bN k (L++[r])=bN k L++[(iL k r,aL r)]:=by
 unfold bN;rw [rB];rfl
structure fT (k:Int) (R:List (List Cel)):Prop where
 n:R.length≤1000
 len:∀ x∈R,aN k≤(x.length:Int)∧x.length≤1000
 ky:∀ x∈R,kF k x
 nd:(R.map (Av k)).Nodup
theorem aPk{k:Int}{R:List (List Cel)}(h:fT k R):FMM Tp 149 [.p (.agg [aB k,bY R])] [] (.mp 0) [some (.mp (bN k R) R.length)]:=by
 have hn:=h.n;have L:=aF.count (P:=Tp) (k:=0) (b:=(sub (cd Tryz.f149) bu)) (e := .exit 0) (R:=qE k R R.length (bN k R) R.length) R.length (fun i=>qE k R i (bN k (R.take i)) (R.take i).length)
  (fun i hi=>by
   have hx:R[i]? = some R[i]:=B4 hi;have et:R.take (i+1)=R.take i++[R[i]]:=by rw [List.take_add_one,hx];rfl
   have hm:=gR hi;have hnt:((R.take i).map (Av k)).Nodup:=by rw [List.map_take];exact h.nd.sublist (List.take_sublist i _)
   have hno:((R.take i).any fun x=>decide (Av k x=Av k R[i]))=false:=by
    rw [List.any_eq_false];intro y hy hd;obtain ⟨j,hj,e⟩:=List.mem_iff_getElem.1 hy;rw [mQ] at hj
    rw [List.getElem_take] at e
    have hd:=of_decide_eq_true hd;rw [← e] at hd
    have:=List.pairwise_iff_getElem.1 h.nd j i (by rw [mR];omega) (by rw [mR];omega) (by omega)
    rw [gS,gS] at this
    exact this hd
   exact bBn (m:=R.take i) (m':=R.take (i+1)) (by omega) hx (h.len _ hm).1 (uR (fun x hx=>h.ky x (List.mem_of_mem_take hx)) (h.ky _ hm) hnt) (by rw [nH];exact hno) (aT (by omega)) rfl (by rw [et];exact aEg k (R.take i) R[i]) (by simp;omega))
  (by rw [List.take_length];exact bBo (by omega)) (by simp)
 exact bZy L
end KV
end Go.Proofs
end
namespace Go.Proofs
namespace KV
open Tryz
section
variable {j k j' r0 Fa:Int}{i i' Aq:Nat}

noncomputable abbrev wX:Code:=sub (cd Tryz.f242) [1,0,0,1,0,0,1,0,0]
noncomputable abbrev aEf:Code:=sub (cd Tryz.f242) [1,0,0]
noncomputable abbrev aSm:Code:=sub (cd Tryz.f266) [1,0,0,1,0,0,1,0,0]
theorem bIl:inR (1:Int):=by unfold inR;omega
section
variable{r t:List Cel}(h0:aN k≤(r.length:Int))(h1:aN k≤(t.length:Int))(Al:r0=(bR k r t))
include h0 h1 Al
theorem cBz{R:List (List Cel)}:FMM Tp 151 [(.p (.sl r.length ((r.map cE).flatten))),(.p (.sl t.length ((t.map cE).flatten))),(.ptr 0 0)] [some (.box 26 [(pI k),(.p (.sl R.length (R.map aL)))])] (pI r0) [some (.box 26 [(pI k),(.p (.sl R.length (R.map aL)))])]:=by
 subst Al;have k1:=fk 1 (lT k r t h0 h1) rfl;exact FMM.fi 1 gE func151 [k1.o] (gc k1 gn)
theorem cCa:FMM Tp 168 [(.p (.sl r.length ((r.map cE).flatten))),(.p (.sl t.length ((t.map cE).flatten))),(.ptr 0 0)] [some (.box 23 [(pI k)])] (pI r0) [some (.box 23 [(pI k)])]:=by
 subst Al;have k1:=fk 1 (lT k r t h0 h1) rfl;exact FMM.fi 1 gE func168 [k1.o] (gc k1 gn)
end
theorem bQl(r t:List Cel)(k:Int)(R:List (List Cel))(h1:aN k≤(r.length:Int))(h2:aN k≤(t.length:Int)):FMM Tp 151 [.p (.sl r.length ((r.map cE).flatten)),.p (.sl t.length ((t.map cE).flatten)),.ptr 0 0] [some (.box 26 [(pI k),(.p (.sl R.length (R.map aL)))])] (pI (bR k r t)) [some (.box 26 [(pI k),(.p (.sl R.length (R.map aL)))])]:=cBz h1 h2 rfl
theorem bQm(r t:List Cel)(k:Int)(h1:aN k≤(r.length:Int))(h2:aN k≤(t.length:Int)):FMM Tp 168 [.p (.sl r.length ((r.map cE).flatten)),.p (.sl t.length ((t.map cE).flatten)),.ptr 0 0] [some (.box 23 [(pI k)])] (pI (bR k r t)) [some (.box 23 [(pI k)])]:=cCa h1 h2 rfl
abbrev Chg:=List Cel × List Cel
def chE(c:Chg):List PV:=[aL c.1,aL c.2]
def crM(c:Chg):List Cel:=if 0<c.1.length then c.1 else c.2
theorem mC(r t:List Cel){base:Nat}:FV Tp 106 [.p (.agg [.sl r.length ((r.map cE).flatten),.sl t.length ((t.map cE).flatten)])] base (.p (.sl (crM (r,t)).length (((crM (r,t)).map cE).flatten))) []:=by
 unfold crM
 by_cases h:0<r.length
 ·rw [if_pos h];exact bZw (by omega)
 ·rw [if_neg h];exact bZx (by omega)
theorem cCb{b a d c:List Cel}(h0:aN k≤((crM (b,a)).length:Int))(h1:aN k≤((crM (d,c)).length:Int))(Al:r0=(bR k (crM (b,a)) (crM (d,c)))):FMM Tp 185 [(.p (.agg [(.sl b.length ((b.map cE).flatten)),(.sl a.length ((a.map cE).flatten))])),(.p (.agg [(.sl d.length ((d.map cE).flatten)),(.sl c.length ((c.map cE).flatten))])),(.ptr 0 0)] [some (.box 23 [(pI k)])] (pI r0) [some (.box 23 [(pI k)])]:=by
 subst Al;have k1:=fk 3 (mC b a) rfl;have k2:=fk 11 (mC d c) rfl;have k3:=fk 19 (lT k (crM (b,a)) (crM (d,c)) h0 h1) rfl;exact FMM.fi 1 gE func185 [k1.o,k2.o,k3.o] (gc k3 (gc k2 (gc k1 gn)))
theorem bQn(x y:Chg)(k:Int)(h1:aN k≤((crM x).length:Int))(h2:aN k≤((crM y).length:Int)):FMM Tp 185 [.p (.agg [aL x.1,aL x.2]),.p (.agg [aL y.1,aL y.2]),.ptr 0 0] [some (.box 23 [(pI k)])] (pI (bR k (crM x) (crM y))) [some (.box 23 [(pI k)])]:=cCb h1 h2 rfl
def wY(D:List (List Cel))(k:Int)(R:List (List Cel))(i En:Nat)(Ec:List PV):St:=⟨fr 53 [(0,(.own 0)),(1,(pI 0)),(2,(pI (D.length:Int))),(3,(.fn 151 [] [(.ptr 1 0)])),(8,(pI (i:Int)))],[some (.row 78 En Ec),some (.box 26 [(pI k),(.p (.sl R.length (R.map aL)))])]⟩
theorem cCc{D R E'1:List (List Cel)}(hl0:aF Tp 2 aEf (wY D k R 1 D.length ((D.map rwE).flatten)) (.exit 0) (wY D k R Aq E'1.length ((E'1.map rwE).flatten))):FMM Tp 242 [(.own 0),(pI 0),(pI (D.length:Int)),(.fn 151 [] [(.ptr 1 0)])] [some (.row 78 D.length ((D.map rwE).flatten)),some (.box 26 [(pI k),(.p (.sl R.length (R.map aL)))])] (.tup []) [some (.row 78 E'1.length ((E'1.map rwE).flatten)),some (.box 26 [(pI k),(.p (.sl R.length (R.map aL)))])]:=FMM.fi 2 gE func242 [hl0.k 3 (gZ cf)] (gc hl0.code (gc bIl gn))
def rM(D:List (List Cel))(k:Int)(R:List (List Cel))(i:Nat)(j:Int)(Gn:Nat)(Gc:List PV):St:=⟨fr 53 [(0,(.own 0)),(1,(pI 0)),(2,(pI (D.length:Int))),(3,(.fn 151 [] [(.ptr 1 0)])),(8,(pI (i:Int))),(9,(pI j)),(12,(pI (i:Int))),(13,(pI (D.length:Int))),(14,(pB (decide ((i:Int)<(D.length:Int))))),(17,(pI (i:Int)))],[some (.row 78 Gn Gc),some (.box 26 [(pI k),(.p (.sl R.length (R.map aL)))])]⟩
theorem bIm{D R E G'101 E':List (List Cel)}(h0:(i:Int)<(D.length:Int))(An:aF Tp 2 wX (rM D k R i (i:Int) E.length ((E.map rwE).flatten)) (.exit 2) (rM D k R i Fa G'101.length ((G'101.map rwE).flatten)))(h2:co i)(Aj:i'=(i+1))(Ed:E'.length=G'101.length)(Ee:(E'.map rwE).flatten=((G'101.map rwE).flatten)):aA Tp 2 aEf (wY D k R i E.length ((E.map rwE).flatten)) .normal (wY D k R i' E'.length ((E'.map rwE).flatten)):=by
 subst Aj;rw [Ed,Ee];exact aA.fi (gZ cf) [bT,An.k 5 (gZ bl)] (gc h2 (gc An.code (g0 h0)))
theorem bIn{D R E:List (List Cel)}(h0:(D.length:Int)≤(i:Int)):aA Tp 2 aEf (wY D k R i E.length ((E.map rwE).flatten)) (.exit 0) (wY D k R i E.length ((E.map rwE).flatten)):=aA.fi (gZ cf) [bF] (gc (bC h0) gn)
section
variable{G:List (List Cel)}{A0 Aw:List Cel}(h0:(0:Int)<j)(h1:0≤j∧j<(G.length:Int))(h2:G[j.toNat]? = some (A0))(h3:inR (j-1))(h4:0≤(j-1)∧(j-1)<(G.length:Int))(h5:G[(j-1).toNat]? = some (Aw))(Hi:aN k≤(A0.length:Int))(Hj:aN k≤(Aw.length:Int))
include h0 h1 h2 h3 h4 h5 Hi Hj
theorem bIo{D R G':List (List Cel)}(h8:(bR k A0 Aw)<0)(h9:(j.toNat*1)<((G.map rwE).flatten).length)(Ba:((j-1).toNat*1)<(((G.map rwE).flatten).set (j.toNat*1) (.sl Aw.length ((Aw.map cE).flatten))).length)(Bv:j'=(j-1))(Hk:G'.length=G.length)(Hl:(G'.map rwE).flatten=((((G.map rwE).flatten).set (j.toNat*1) (.sl Aw.length ((Aw.map cE).flatten))).set ((j-1).toNat*1) (.sl A0.length ((A0.map cE).flatten)))):aA Tp 2 wX (rM D k R i j G.length ((G.map rwE).flatten)) .normal (rM D k R i j' G'.length ((G'.map rwE).flatten)):=by
 subst Bv;have k1:=mq [1] 2 (bQl A0 Aw k R Hi Hj);rw [Hk,Hl];exact aA.fi (gZ bl) (rT 5++[.x (.sl A0.length ((A0.map cE).flatten))]++rT 5++[.x (.sl Aw.length ((Aw.map cE).flatten)),bT,k1.o,bT,bT,bT,.x (.sl Aw.length ((Aw.map cE).flatten)),.x (.sl A0.length ((A0.map cE).flatten))]) (gc h3 (gc Ba (gc h4 (gc h9 (gc h1 (gt (((G.map rwE).flatten)[(j.toNat*1)]? = some (.sl A0.length ((A0.map cE).flatten))) (aM (E:=rwE) (i:=j.toNat) (f:=0) (k:=1) (fun _=>rfl) h2 rfl) (gc h1 (gt (((G.map rwE).flatten)[((j-1).toNat*1)]? = some (.sl Aw.length ((Aw.map cE).flatten))) (aM (E:=rwE) (i:=(j-1).toNat) (f:=0) (k:=1) (fun _=>rfl) h5 rfl) (gc h4 (A9 h3 (gc (cN h8) (A9 (cN h0) (gc k1 (gc (cN h0) (gt (((G.map rwE).flatten)[((j-1).toNat*1)]? = some (.sl Aw.length ((Aw.map cE).flatten))) (aM (E:=rwE) (i:=(j-1).toNat) (f:=0) (k:=1) (fun _=>rfl) h5 rfl) (gc (cN h0) (gc h4 (gc (cN h0) (gc h3 (A1 (cN h0) (gt (((G.map rwE).flatten)[(j.toNat*1)]? = some (.sl A0.length ((A0.map cE).flatten))) (aM (E:=rwE) (i:=j.toNat) (f:=0) (k:=1) (fun _=>rfl) h2 rfl) (gc (cN h0) (gc h1 (A1 (cN h0) (g0 h0)))))))))))))))))))))))))
theorem bIp{D R:List (List Cel)}(h8:(0:Int)≤(bR k A0 Aw)):aA Tp 2 wX (rM D k R i j G.length ((G.map rwE).flatten)) (.exit 2) (rM D k R i j G.length ((G.map rwE).flatten)):=have k1:=mq [1] 2 (bQl A0 Aw k R Hi Hj);aA.fi (gZ bl) (rT 5++[.x (.sl A0.length ((A0.map cE).flatten))]++rT 5++[.x (.sl Aw.length ((Aw.map cE).flatten)),bT,k1.o,bT,bT,bF]) (gc (bC h8) (A9 (cN h0) (gc k1 (gc (cN h0) (gt (((G.map rwE).flatten)[((j-1).toNat*1)]? = some (.sl Aw.length ((Aw.map cE).flatten))) (aM (E:=rwE) (i:=(j-1).toNat) (f:=0) (k:=1) (fun _=>rfl) h5 rfl) (gc (cN h0) (gc h4 (gc (cN h0) (gc h3 (A1 (cN h0) (gt (((G.map rwE).flatten)[(j.toNat*1)]? = some (.sl A0.length ((A0.map cE).flatten))) (aM (E:=rwE) (i:=j.toNat) (f:=0) (k:=1) (fun _=>rfl) h2 rfl) (gc (cN h0) (gc h1 (A1 (cN h0) (g0 h0)))))))))))))))
end
theorem bIq{D R G:List (List Cel)}(h0:j≤0):aA Tp 2 wX (rM D k R i j G.length ((G.map rwE).flatten)) (.exit 2) (rM D k R i j G.length ((G.map rwE).flatten)):=aA.fi (gZ bl) (rF 13) (Ib (bC h0) (Cy (bC h0) gn))
def wZ(D:List (List Cel))(k:Int)(i En:Nat)(Ec:List PV):St:=⟨fr 53 [(0,(.own 0)),(1,(pI 0)),(2,(pI (D.length:Int))),(3,(.fn 168 [] [(.ptr 1 0)])),(8,(pI (i:Int)))],[some (.row 78 En Ec),some (.box 23 [(pI k)])]⟩
theorem cCd{D E'1:List (List Cel)}(hl0:aF Tp 2 aEf (wZ D k 1 D.length ((D.map rwE).flatten)) (.exit 0) (wZ D k Aq E'1.length ((E'1.map rwE).flatten))):FMM Tp 242 [(.own 0),(pI 0),(pI (D.length:Int)),(.fn 168 [] [(.ptr 1 0)])] [some (.row 78 D.length ((D.map rwE).flatten)),some (.box 23 [(pI k)])] (.tup []) [some (.row 78 E'1.length ((E'1.map rwE).flatten)),some (.box 23 [(pI k)])]:=FMM.fi 2 gE func242 [hl0.k 3 (gZ cf)] (gc hl0.code (gc bIl gn))
def rN(D:List (List Cel))(k:Int)(i:Nat)(j:Int)(Gn:Nat)(Gc:List PV):St:=⟨fr 53 [(0,(.own 0)),(1,(pI 0)),(2,(pI (D.length:Int))),(3,(.fn 168 [] [(.ptr 1 0)])),(8,(pI (i:Int))),(9,(pI j)),(12,(pI (i:Int))),(13,(pI (D.length:Int))),(14,(pB (decide ((i:Int)<(D.length:Int))))),(17,(pI (i:Int)))],[some (.row 78 Gn Gc),some (.box 23 [(pI k)])]⟩
theorem bIr{D E G'101 E':List (List Cel)}(h0:(i:Int)<(D.length:Int))(An:aF Tp 2 wX (rN D k i (i:Int) E.length ((E.map rwE).flatten)) (.exit 2) (rN D k i Fa G'101.length ((G'101.map rwE).flatten)))(h2:co i)(Aj:i'=(i+1))(Ed:E'.length=G'101.length)(Ee:(E'.map rwE).flatten=((G'101.map rwE).flatten)):aA Tp 2 aEf (wZ D k i E.length ((E.map rwE).flatten)) .normal (wZ D k i' E'.length ((E'.map rwE).flatten)):=by
 subst Aj;rw [Ed,Ee];exact aA.fi (gZ cf) [bT,An.k 5 (gZ bl)] (gc h2 (gc An.code (g0 h0)))
theorem bIs{D E:List (List Cel)}(h0:(D.length:Int)≤(i:Int)):aA Tp 2 aEf (wZ D k i E.length ((E.map rwE).flatten)) (.exit 0) (wZ D k i E.length ((E.map rwE).flatten)):=aA.fi (gZ cf) [bF] (gc (bC h0) gn)
section
variable{G:List (List Cel)}{A0 Aw:List Cel}(h0:(0:Int)<j)(h1:0≤j∧j<(G.length:Int))(h2:G[j.toNat]? = some (A0))(h3:inR (j-1))(h4:0≤(j-1)∧(j-1)<(G.length:Int))(h5:G[(j-1).toNat]? = some (Aw))(Hi:aN k≤(A0.length:Int))(Hj:aN k≤(Aw.length:Int))
include h0 h1 h2 h3 h4 h5 Hi Hj
theorem bIt{D G':List (List Cel)}(h8:(bR k A0 Aw)<0)(h9:(j.toNat*1)<((G.map rwE).flatten).length)(Ba:((j-1).toNat*1)<(((G.map rwE).flatten).set (j.toNat*1) (.sl Aw.length ((Aw.map cE).flatten))).length)(Bv:j'=(j-1))(Hk:G'.length=G.length)(Hl:(G'.map rwE).flatten=((((G.map rwE).flatten).set (j.toNat*1) (.sl Aw.length ((Aw.map cE).flatten))).set ((j-1).toNat*1) (.sl A0.length ((A0.map cE).flatten)))):aA Tp 2 wX (rN D k i j G.length ((G.map rwE).flatten)) .normal (rN D k i j' G'.length ((G'.map rwE).flatten)):=by
 subst Bv;have k1:=mq [1] 2 (bQm A0 Aw k Hi Hj);rw [Hk,Hl];exact aA.fi (gZ bl) (rT 5++[.x (.sl A0.length ((A0.map cE).flatten))]++rT 5++[.x (.sl Aw.length ((Aw.map cE).flatten)),bT,k1.o,bT,bT,bT,.x (.sl Aw.length ((Aw.map cE).flatten)),.x (.sl A0.length ((A0.map cE).flatten))]) (gc h3 (gc Ba (gc h4 (gc h9 (gc h1 (gt (((G.map rwE).flatten)[(j.toNat*1)]? = some (.sl A0.length ((A0.map cE).flatten))) (aM (E:=rwE) (i:=j.toNat) (f:=0) (k:=1) (fun _=>rfl) h2 rfl) (gc h1 (gt (((G.map rwE).flatten)[((j-1).toNat*1)]? = some (.sl Aw.length ((Aw.map cE).flatten))) (aM (E:=rwE) (i:=(j-1).toNat) (f:=0) (k:=1) (fun _=>rfl) h5 rfl) (gc h4 (A9 h3 (gc (cN h8) (A9 (cN h0) (gc k1 (gc (cN h0) (gt (((G.map rwE).flatten)[((j-1).toNat*1)]? = some (.sl Aw.length ((Aw.map cE).flatten))) (aM (E:=rwE) (i:=(j-1).toNat) (f:=0) (k:=1) (fun _=>rfl) h5 rfl) (gc (cN h0) (gc h4 (gc (cN h0) (gc h3 (A1 (cN h0) (gt (((G.map rwE).flatten)[(j.toNat*1)]? = some (.sl A0.length ((A0.map cE).flatten))) (aM (E:=rwE) (i:=j.toNat) (f:=0) (k:=1) (fun _=>rfl) h2 rfl) (gc (cN h0) (gc h1 (A1 (cN h0) (g0 h0)))))))))))))))))))))))))
theorem bIu{D:List (List Cel)}(h8:(0:Int)≤(bR k A0 Aw)):aA Tp 2 wX (rN D k i j G.length ((G.map rwE).flatten)) (.exit 2) (rN D k i j G.length ((G.map rwE).flatten)):=have k1:=mq [1] 2 (bQm A0 Aw k Hi Hj);aA.fi (gZ bl) (rT 5++[.x (.sl A0.length ((A0.map cE).flatten))]++rT 5++[.x (.sl Aw.length ((Aw.map cE).flatten)),bT,k1.o,bT,bT,bF]) (gc (bC h8) (A9 (cN h0) (gc k1 (gc (cN h0) (gt (((G.map rwE).flatten)[((j-1).toNat*1)]? = some (.sl Aw.length ((Aw.map cE).flatten))) (aM (E:=rwE) (i:=(j-1).toNat) (f:=0) (k:=1) (fun _=>rfl) h5 rfl) (gc (cN h0) (gc h4 (gc (cN h0) (gc h3 (A1 (cN h0) (gt (((G.map rwE).flatten)[(j.toNat*1)]? = some (.sl A0.length ((A0.map cE).flatten))) (aM (E:=rwE) (i:=j.toNat) (f:=0) (k:=1) (fun _=>rfl) h2 rfl) (gc (cN h0) (gc h1 (A1 (cN h0) (g0 h0)))))))))))))))
end
theorem bIv{D G:List (List Cel)}(h0:j≤0):aA Tp 2 wX (rN D k i j G.length ((G.map rwE).flatten)) (.exit 2) (rN D k i j G.length ((G.map rwE).flatten)):=aA.fi (gZ bl) (rF 13) (Ib (bC h0) (Cy (bC h0) gn))
def xA(D:List (List Cel × List Cel))(k:Int)(i En:Nat)(Ec:List PV):St:=⟨fr 53 [(0,(.own 0)),(1,(pI 0)),(2,(pI (D.length:Int))),(3,(.fn 185 [] [(.ptr 1 0)])),(8,(pI (i:Int)))],[some (.row 112 En Ec),some (.box 23 [(pI k)])]⟩
theorem cCe{D E'1:List (List Cel × List Cel)}(hl0:aF Tp 2 (sub (cd Tryz.f266) [1,0,0]) (xA D k 1 D.length ((D.map chE).flatten)) (.exit 0) (xA D k Aq E'1.length ((E'1.map chE).flatten))):FMM Tp 266 [(.own 0),(pI 0),(pI (D.length:Int)),(.fn 185 [] [(.ptr 1 0)])] [some (.row 112 D.length ((D.map chE).flatten)),some (.box 23 [(pI k)])] (.tup []) [some (.row 112 E'1.length ((E'1.map chE).flatten)),some (.box 23 [(pI k)])]:=FMM.fi 2 gE func266 [hl0.k 3 (gZ cf)] (gc hl0.code (gc bIl gn))
def rO(D:List (List Cel × List Cel))(k:Int)(i:Nat)(j:Int)(Gn:Nat)(Gc:List PV):St:=⟨fr 53 [(0,(.own 0)),(1,(pI 0)),(2,(pI (D.length:Int))),(3,(.fn 185 [] [(.ptr 1 0)])),(8,(pI (i:Int))),(9,(pI j)),(12,(pI (i:Int))),(13,(pI (D.length:Int))),(14,(pB (decide ((i:Int)<(D.length:Int))))),(17,(pI (i:Int)))],[some (.row 112 Gn Gc),some (.box 23 [(pI k)])]⟩
theorem bIw{D E G'101 E':List (List Cel × List Cel)}(h0:(i:Int)<(D.length:Int))(An:aF Tp 2 aSm (rO D k i (i:Int) E.length ((E.map chE).flatten)) (.exit 2) (rO D k i Fa G'101.length ((G'101.map chE).flatten)))(h2:co i)(Aj:i'=(i+1))(Ed:E'.length=G'101.length)(Ee:(E'.map chE).flatten=((G'101.map chE).flatten)):aA Tp 2 (sub (cd Tryz.f266) [1,0,0]) (xA D k i E.length ((E.map chE).flatten)) .normal (xA D k i' E'.length ((E'.map chE).flatten)):=by
 subst Aj;rw [Ed,Ee];exact aA.fi (gZ cf) [bT,An.k 5 (gZ bl)] (gc h2 (gc An.code (g0 h0)))
theorem bIx{D E:List (List Cel × List Cel)}(h0:(D.length:Int)≤(i:Int)):aA Tp 2 (sub (cd Tryz.f266) [1,0,0]) (xA D k i E.length ((E.map chE).flatten)) (.exit 0) (xA D k i E.length ((E.map chE).flatten)):=aA.fi (gZ cf) [bF] (gc (bC h0) gn)
section
variable{G:List (List Cel × List Cel)}{Ay Az Be Bf:List Cel}(h0:(0:Int)<j)(h1:0≤j∧j<(G.length:Int))(h2:G[j.toNat]? = some (Ay,Az))(h3:inR (j-1))(h4:0≤(j-1)∧(j-1)<(G.length:Int))(h5:G[(j-1).toNat]? = some (Be,Bf))(Hi:aN k≤((crM (Ay,Az)).length:Int))(Hj:aN k≤((crM (Be,Bf)).length:Int))
include h0 h1 h2 h3 h4 h5 Hi Hj
theorem bIy{D G':List (List Cel × List Cel)}(h8:(bR k (crM (Ay,Az)) (crM (Be,Bf)))<0)(h9:[(PV.sl Be.length ((Be.map cE).flatten)),(.sl Bf.length ((Bf.map cE).flatten))].length=2∧(j.toNat*2)+2≤((G.map chE).flatten).length)(Ba:[(PV.sl Ay.length ((Ay.map cE).flatten)),(.sl Az.length ((Az.map cE).flatten))].length=2∧((j-1).toNat*2)+2≤(((G.map chE).flatten).take (j.toNat*2)++[(PV.sl Be.length ((Be.map cE).flatten)),(.sl Bf.length ((Bf.map cE).flatten))]++((G.map chE).flatten).drop ((j.toNat*2)+2)).length)(Bv:j'=(j-1))(Hk:G'.length=G.length)(Hl:(G'.map chE).flatten=((((G.map chE).flatten).take (j.toNat*2)++[(PV.sl Be.length ((Be.map cE).flatten)),(.sl Bf.length ((Bf.map cE).flatten))]++((G.map chE).flatten).drop ((j.toNat*2)+2)).take ((j-1).toNat*2)++[(PV.sl Ay.length ((Ay.map cE).flatten)),(.sl Az.length ((Az.map cE).flatten))]++(((G.map chE).flatten).take (j.toNat*2)++[(PV.sl Be.length ((Be.map cE).flatten)),(.sl Bf.length ((Bf.map cE).flatten))]++((G.map chE).flatten).drop ((j.toNat*2)+2)).drop (((j-1).toNat*2)+2))):aA Tp 2 aSm (rO D k i j G.length ((G.map chE).flatten)) .normal (rO D k i j' G'.length ((G'.map chE).flatten)):=by
 subst Bv;have k1:=mq [1] 2 (bQn (Ay,Az) (Be,Bf) k Hi Hj);rw [Hk,Hl];exact aA.fi (gZ bl) (rT 5++[.x (.agg [(.sl Ay.length ((Ay.map cE).flatten)),(.sl Az.length ((Az.map cE).flatten))])]++rT 5++[.x (.agg [(.sl Be.length ((Be.map cE).flatten)),(.sl Bf.length ((Bf.map cE).flatten))]),bT,k1.o,bT,bT,bT,.x (.agg [(.sl Be.length ((Be.map cE).flatten)),(.sl Bf.length ((Bf.map cE).flatten))]),.x (.agg [(.sl Ay.length ((Ay.map cE).flatten)),(.sl Az.length ((Az.map cE).flatten))])]) (gc h3 (gc Ba (gc h4 (gc h9 (gc h1 (gc (bE (E:=chE) (i:=j.toNat) (k:=2) (fun _=>rfl) h2 rfl) (gc (cC (E:=chE) (i:=j.toNat) (k:=2) (fun _=>rfl) h2) (gc h1 (gc (bE (E:=chE) (i:=(j-1).toNat) (k:=2) (fun _=>rfl) h5 rfl) (gc (cC (E:=chE) (i:=(j-1).toNat) (k:=2) (fun _=>rfl) h5) (gc h4 (A9 h3 (gc (cN h8) (A9 (cN h0) (gc k1 (gc (cN h0) (gc (bE (E:=chE) (i:=(j-1).toNat) (k:=2) (fun _=>rfl) h5 rfl) (gc (cC (E:=chE) (i:=(j-1).toNat) (k:=2) (fun _=>rfl) h5) (gc (cN h0) (gc h4 (gc (cN h0) (gc h3 (A1 (cN h0) (gc (bE (E:=chE) (i:=j.toNat) (k:=2) (fun _=>rfl) h2 rfl) (gc (cC (E:=chE) (i:=j.toNat) (k:=2) (fun _=>rfl) h2) (gc (cN h0) (gc h1 (A1 (cN h0) (g0 h0)))))))))))))))))))))))))))))
theorem bIz{D:List (List Cel × List Cel)}(h8:(0:Int)≤(bR k (crM (Ay,Az)) (crM (Be,Bf)))):aA Tp 2 aSm (rO D k i j G.length ((G.map chE).flatten)) (.exit 2) (rO D k i j G.length ((G.map chE).flatten)):=have k1:=mq [1] 2 (bQn (Ay,Az) (Be,Bf) k Hi Hj);aA.fi (gZ bl) (rT 5++[.x (.agg [(.sl Ay.length ((Ay.map cE).flatten)),(.sl Az.length ((Az.map cE).flatten))])]++rT 5++[.x (.agg [(.sl Be.length ((Be.map cE).flatten)),(.sl Bf.length ((Bf.map cE).flatten))]),bT,k1.o,bT,bT,bF]) (gc (bC h8) (A9 (cN h0) (gc k1 (gc (cN h0) (gc (bE (E:=chE) (i:=(j-1).toNat) (k:=2) (fun _=>rfl) h5 rfl) (gc (cC (E:=chE) (i:=(j-1).toNat) (k:=2) (fun _=>rfl) h5) (gc (cN h0) (gc h4 (gc (cN h0) (gc h3 (A1 (cN h0) (gc (bE (E:=chE) (i:=j.toNat) (k:=2) (fun _=>rfl) h2 rfl) (gc (cC (E:=chE) (i:=j.toNat) (k:=2) (fun _=>rfl) h2) (gc (cN h0) (gc h1 (A1 (cN h0) (g0 h0)))))))))))))))))
end
theorem bJa{D G:List (List Cel × List Cel)}(h0:j≤0):aA Tp 2 aSm (rO D k i j G.length ((G.map chE).flatten)) (.exit 2) (rO D k i j G.length ((G.map chE).flatten)):=aA.fi (gZ bl) (rF 13) (Ib (bC h0) (Cy (bC h0) gn))
end
section

def gD{α:Type}(c:α→α→Int):Nat→List α→List α
 | 0,D=>D
 | j+1,D=>match D[j+1]?,D[j]? with
  | some x,some y=>if c x y<0 then gD c j ((D.set (j+1) y).set j x) else D
  | _,_=>D
def aBb{α:Type}(c:α→α→Int):Nat→Nat→List α→List α
 | 0,_,D=>D
 | n+1,i,D=>aBb c n (i+1) (gD c i D)
def isG{α:Type}(c:α→α→Int)(D:List α):List α:=aBb c (D.length-1) 1 D
theorem qX{α:Type}(c:α→α→Int):∀ (j:Nat) (D:List α),(gD c j D).length=D.length
 | 0,D=>rfl
 | j+1,D=>by
  unfold gD
  split
  ·split
   ·rw [qX c j];simp
   ·rfl
  ·rfl
theorem qY{α:Type}(c:α→α→Int){z:α}:∀ (j:Nat) (D:List α),z∈gD c j D→z∈D
 | 0,D,h=>h
 | j+1,D,h=>by
  unfold gD at h
  split at h
  ·rename_i x y hx hy
   split at h
   ·have h1:=qY c j _ h
    rcases List.mem_or_eq_of_mem_set h1 with h2 | rfl
    ·rcases List.mem_or_eq_of_mem_set h2 with h3 | rfl
     ·exact h3
     ·exact Ch hy
    ·exact Ch hx
   ·exact h
  ·exact h
theorem bOk{α:Type}{E:α→List PV}{k:Nat}(hE:∀ a,(E a).length=k){l:List α}{i:Nat}(hi:i<l.length)(e:α):((l.set i e).map E).flatten=((l.map E).flatten).take (i*k)++E e++((l.map E).flatten).drop (i*k+k):=by
 have h1:l.set i e=l.take i++e::l.drop (i+1):=by rw [List.set_eq_take_append_cons_drop,if_pos hi]
 have h2:l=l.take i++l[i]::l.drop (i+1):=by rw [← bDs hi,aUl]
 have hlen:((l.take i).map E).flatten.length=i*k:=by rw [qU hE,mQ];congr 1;omega
 have h3:(l.map E).flatten=((l.take i).map E).flatten++(E l[i]++((l.drop (i+1)).map E).flatten):=by
  have e2:=congrArg (fun l=>(l.map E).flatten) h2
  simp only [rB,fV,bKg,vG] at e2
  exact e2
 rw [h1,h3,← hlen,List.take_left,rB,fV,bKg,vG];have hd:(((l.take i).map E).flatten++(E l[i]++((l.drop (i+1)).map E).flatten)).drop (((l.take i).map E).flatten.length+k)=((l.drop (i+1)).map E).flatten:=by
  rw [← hE l[i],← Bz,← List.append_assoc,List.drop_left]
 rw [hd,List.append_assoc]
def gT(k:Int)(x y:Chg):Int:=bR k (crM x) (crM y)
theorem bQi{D:List (List Cel)}{k:Int}{R:List (List Cel)}{i:Nat}:∀ (j:Nat) (G:List (List Cel)),j<G.length→G.length≤12→(∀ x∈G,aN k≤(x.length:Int))→∃ j',aF Tp 2 (sub (cd Tryz.f242) bh) (rM D k R i (j:Int) G.length ((G.map rwE).flatten)) (.exit 2) (rM D k R i j' (gD (bR k) j G).length (((gD (bR k) j G).map rwE).flatten))
 | 0,G,hj,hg,hk=>⟨_,.exit (bIq (by omega)) (by simp)⟩
 | j+1,G,hj,hg,hk=>by
  have hx:G[j+1]? = some G[j+1]:=B4 hj;have hy:G[j]? = some (G[j]'(by omega)):=B4 (by omega)
  have kx:=hk _ (gR hj);have ky:=hk _ (gR (show j<G.length by omega))
  have z1:(0:Int)<((j+1:Nat):Int):=by omega
  have z2:0≤((j+1:Nat):Int)∧((j+1:Nat):Int)<(G.length:Int):=by omega
  have z3:inR (((j+1:Nat):Int)-(1:Int)):=by unfold inR;omega
  have z4:0≤(((j+1:Nat):Int)-(1:Int))∧(((j+1:Nat):Int)-(1:Int))<(G.length:Int):=by omega
  have e1:((j+1:Nat):Int).toNat=j+1:=by omega
  have e2:(((j+1:Nat):Int)-(1:Int)).toNat=j:=by omega
  have e3:(((j+1:Nat):Int)-(1:Int))=(j:Int):=by omega
  generalize G[j+1]=x at hx kx
  generalize G[j]'(by omega)=y at hy ky
  unfold gD;rw [hx,hy];dsimp only
  by_cases hc:bR k x y<0
  ·rw [if_pos hc]
   obtain ⟨j',L⟩:=bQi (D:=D) (k:=k) (R:=R) (i:=i) j ((G.set (j+1) y).set j x) (by simp;omega) (by simp;omega) (fun z hz=>by
    rcases List.mem_or_eq_of_mem_set hz with h2 | rfl
    ·rcases List.mem_or_eq_of_mem_set h2 with h3 | rfl
     ·exact hk z h3
     ·exact ky
    ·exact kx)
   refine ⟨j',.step (bIo z1 z2 (by rw [e1];exact hx) z3 z4 (by rw [e2];exact hy) kx ky hc (by rw [e1,fB];simp;omega) (by rw [e1,e2,fB];simp;omega) e3.symm (by simp) ?_) L⟩
   rw [e1,e2];rw [fB,fB,List.map_set,List.map_set,Nat.mul_one,Nat.mul_one];rfl
  ·rw [if_neg hc]
   exact ⟨_,.exit (bIp z1 z2 (by rw [e1];exact hx) z3 z4 (by rw [e2];exact hy) kx ky (Int.not_lt.1 hc)) (by simp)⟩
theorem bIh{D:List (List Cel)}{k:Int}{R:List (List Cel)}(A8:D.length≤12):∀ (n i:Nat) (E:List (List Cel)),i+n=D.length→E.length=D.length→(∀ x∈E,aN k≤(x.length:Int))→aF Tp 2 (sub (cd Tryz.f242) [1,0,0]) (wY D k R i E.length ((E.map rwE).flatten)) (.exit 0) (wY D k R D.length (aBb (bR k) n i E).length (((aBb (bR k) n i E).map rwE).flatten))
 | 0,i,E,hi,hl,hk=>by
  have:i=D.length:=by omega
  subst this;exact .exit (bIn (by omega)) (by simp)
 | n+1,i,E,hi,hl,hk=>by
  obtain ⟨j',L⟩:=bQi (D:=D) (k:=k) (R:=R) (i:=i) i E (by omega) (by omega) hk
  have h1:=qX (bR k) i E;unfold aBb;exact .step (bIm (G'101:=gD (bR k) i E) (E':=gD (bR k) i E) (by omega) L (aT (by omega)) rfl rfl rfl) (bIh A8 n (i+1) _ (by omega) (by omega) (fun x hx=>hk x (qY _ _ _ hx)))
theorem cBw{D:List (List Cel)}{k:Int}{R:List (List Cel)}(A8:D.length≤12)(h1:1≤D.length)(hk:∀ x∈D,aN k≤(x.length:Int)):FMM Tp 242 [.own 0,.p (aB 0),.p (aB (D.length:Nat)),.fn 151 [] [.ptr 1 0]] [some (.row 78 D.length ((D.map rwE).flatten)),some (.box 26 [(.p (aB k)),(.p (.sl R.length (R.map aL)))])] (.tup []) [some (.row 78 ((isG (bR k) D).length) (((isG (bR k) D).map rwE).flatten)),some (.box 26 [(.p (aB k)),(.p (.sl R.length (R.map aL)))])]:=by
 exact cCc (E'1:=isG (bR k) D) (bIh (k:=k) (R:=R) A8 (D.length-1) 1 D (by omega) rfl hk)
theorem bQj{D:List (List Cel)}{k:Int}{i:Nat}:∀ (j:Nat) (G:List (List Cel)),j<G.length→G.length≤12→(∀ x∈G,aN k≤(x.length:Int))→∃ j',aF Tp 2 (sub (cd Tryz.f242) bh) (rN D k i (j:Int) G.length ((G.map rwE).flatten)) (.exit 2) (rN D k i j' (gD (bR k) j G).length (((gD (bR k) j G).map rwE).flatten))
 | 0,G,hj,hg,hk=>⟨_,.exit (bIv (by omega)) (by simp)⟩
 | j+1,G,hj,hg,hk=>by
  have hx:G[j+1]? = some G[j+1]:=B4 hj;have hy:G[j]? = some (G[j]'(by omega)):=B4 (by omega)
  have kx:=hk _ (gR hj);have ky:=hk _ (gR (show j<G.length by omega))
  have z1:(0:Int)<((j+1:Nat):Int):=by omega
  have z2:0≤((j+1:Nat):Int)∧((j+1:Nat):Int)<(G.length:Int):=by omega
  have z3:inR (((j+1:Nat):Int)-(1:Int)):=by unfold inR;omega
  have z4:0≤(((j+1:Nat):Int)-(1:Int))∧(((j+1:Nat):Int)-(1:Int))<(G.length:Int):=by omega
  have e1:((j+1:Nat):Int).toNat=j+1:=by omega
  have e2:(((j+1:Nat):Int)-(1:Int)).toNat=j:=by omega
  have e3:(((j+1:Nat):Int)-(1:Int))=(j:Int):=by omega
  generalize G[j+1]=x at hx kx
  generalize G[j]'(by omega)=y at hy ky
  unfold gD;rw [hx,hy];dsimp only
  by_cases hc:bR k x y<0
  ·rw [if_pos hc]
   obtain ⟨j',L⟩:=bQj (D:=D) (k:=k) (i:=i) j ((G.set (j+1) y).set j x) (by simp;omega) (by simp;omega) (fun z hz=>by
    rcases List.mem_or_eq_of_mem_set hz with h2 | rfl
    ·rcases List.mem_or_eq_of_mem_set h2 with h3 | rfl
     ·exact hk z h3
     ·exact ky
    ·exact kx)
   refine ⟨j',.step (bIt z1 z2 (by rw [e1];exact hx) z3 z4 (by rw [e2];exact hy) kx ky hc (by rw [e1,fB];simp;omega) (by rw [e1,e2,fB];simp;omega) e3.symm (by simp) ?_) L⟩
   rw [e1,e2];rw [fB,fB,List.map_set,List.map_set,Nat.mul_one,Nat.mul_one];rfl
  ·rw [if_neg hc]
   exact ⟨_,.exit (bIu z1 z2 (by rw [e1];exact hx) z3 z4 (by rw [e2];exact hy) kx ky (Int.not_lt.1 hc)) (by simp)⟩
theorem bIi{D:List (List Cel)}{k:Int}(A8:D.length≤12):∀ (n i:Nat) (E:List (List Cel)),i+n=D.length→E.length=D.length→(∀ x∈E,aN k≤(x.length:Int))→aF Tp 2 (sub (cd Tryz.f242) [1,0,0]) (wZ D k i E.length ((E.map rwE).flatten)) (.exit 0) (wZ D k D.length (aBb (bR k) n i E).length (((aBb (bR k) n i E).map rwE).flatten))
 | 0,i,E,hi,hl,hk=>by
  have:i=D.length:=by omega
  subst this;exact .exit (bIs (by omega)) (by simp)
 | n+1,i,E,hi,hl,hk=>by
  obtain ⟨j',L⟩:=bQj (D:=D) (k:=k) (i:=i) i E (by omega) (by omega) hk
  have h1:=qX (bR k) i E;unfold aBb;exact .step (bIr (G'101:=gD (bR k) i E) (E':=gD (bR k) i E) (by omega) L (aT (by omega)) rfl rfl rfl) (bIi A8 n (i+1) _ (by omega) (by omega) (fun x hx=>hk x (qY _ _ _ hx)))
theorem cBx{D:List (List Cel)}{k:Int}(A8:D.length≤12)(h1:1≤D.length)(hk:∀ x∈D,aN k≤(x.length:Int)):FMM Tp 242 [.own 0,.p (aB 0),.p (aB (D.length:Nat)),.fn 168 [] [.ptr 1 0]] [some (.row 78 D.length ((D.map rwE).flatten)),some (.box 23 [(.p (aB k))])] (.tup []) [some (.row 78 ((isG (bR k) D).length) (((isG (bR k) D).map rwE).flatten)),some (.box 23 [(.p (aB k))])]:=by
 exact cCd (E'1:=isG (bR k) D) (bIi (k:=k) A8 (D.length-1) 1 D (by omega) rfl hk)
theorem aGx{G:List Chg}{j:Nat}(y:Chg)(hj:j<G.length):((G.set j y).map chE).flatten=(G.map chE).flatten.take (j*2)++[aL y.1,aL y.2]++(G.map chE).flatten.drop (j*2+2):=bOk (E:=chE) (k:=2) (fun _=>rfl) hj y
theorem bZt{G:List Chg}{j:Nat}{y:Chg}(hj:j+1<G.length):j*2+2≤((G.map chE).flatten.take ((j+1)*2)++[aL y.1,aL y.2]++(G.map chE).flatten.drop ((j+1)*2+2)).length:=by
 rw [← aGx y hj,qU (E:=chE) (k:=2) (fun _=>rfl),aNe];omega
theorem bIj{G:List Chg}{j:Nat}{x y:Chg}(hj:j+1<G.length):(((G.set (j+1) y).set j x).map chE).flatten=((G.map chE).flatten.take ((j+1)*2)++[aL y.1,aL y.2]++(G.map chE).flatten.drop ((j+1)*2+2)).take (j*2)++[aL x.1,aL x.2]++((G.map chE).flatten.take ((j+1)*2)++[aL y.1,aL y.2]++(G.map chE).flatten.drop ((j+1)*2+2)).drop (j*2+2):=by
 rw [← aGx y hj,aGx x (by simp;omega)]
theorem bQk{D:List Chg}{k:Int}{i:Nat}:∀ (j:Nat) (G:List Chg),j<G.length→G.length≤12→(∀ x∈G,aN k≤((crM x).length:Int))→∃ j',aF Tp 2 (sub (cd Tryz.f266) bh) (rO D k i (j:Int) G.length ((G.map chE).flatten)) (.exit 2) (rO D k i j' (gD (gT k) j G).length (((gD (gT k) j G).map chE).flatten))
 | 0,G,hj,hg,hk=>⟨_,.exit (bJa (by omega)) (by simp)⟩
 | j+1,G,hj,hg,hk=>by
  have hx:G[j+1]? = some G[j+1]:=B4 hj;have hy:G[j]? = some (G[j]'(by omega)):=B4 (by omega)
  have kx:=hk _ (gR hj);have ky:=hk _ (gR (show j<G.length by omega))
  have z1:(0:Int)<((j+1:Nat):Int):=by omega
  have z2:0≤((j+1:Nat):Int)∧((j+1:Nat):Int)<(G.length:Int):=by omega
  have z3:inR (((j+1:Nat):Int)-(1:Int)):=by unfold inR;omega
  have z4:0≤(((j+1:Nat):Int)-(1:Int))∧(((j+1:Nat):Int)-(1:Int))<(G.length:Int):=by omega
  have e1:((j+1:Nat):Int).toNat=j+1:=by omega
  have e2:(((j+1:Nat):Int)-(1:Int)).toNat=j:=by omega
  have e3:(((j+1:Nat):Int)-(1:Int))=(j:Int):=by omega
  generalize G[j+1]=x at hx kx
  generalize G[j]'(by omega)=y at hy ky
  unfold gD;rw [hx,hy];dsimp only;obtain ⟨xb,xa⟩:=x;obtain ⟨yb,ya⟩:=y
  by_cases hc:gT k (xb,xa) (yb,ya)<0
  ·rw [if_pos hc]
   obtain ⟨j',L⟩:=bQk (D:=D) (k:=k) (i:=i) j ((G.set (j+1) (yb,ya)).set j (xb,xa)) (by simp;omega) (by simp;omega) (fun z hz=>by
    rcases List.mem_or_eq_of_mem_set hz with h2 | rfl
    ·rcases List.mem_or_eq_of_mem_set h2 with h3 | rfl
     ·exact hk z h3
     ·exact ky
    ·exact kx)
   refine ⟨j',.step (bIy z1 z2 (by rw [e1];exact hx) z3 z4 (by rw [e2];exact hy) kx ky hc ⟨rfl,by rw [e1,qU (E:=chE) (k:=2) (fun _=>rfl)];omega⟩ ⟨rfl,by rw [e1,e2];exact bZt (y:=(yb,ya)) hj⟩ e3.symm (by simp) ?_) L⟩
   rw [e1,e2];exact bIj (x:=(xb,xa)) (y:=(yb,ya)) hj
  ·rw [if_neg hc]
   exact ⟨_,.exit (bIz z1 z2 (by rw [e1];exact hx) z3 z4 (by rw [e2];exact hy) kx ky (Int.not_lt.1 hc)) (by simp)⟩
theorem bIk{D:List Chg}{k:Int}(A8:D.length≤12):∀ (n i:Nat) (E:List Chg),i+n=D.length→E.length=D.length→(∀ x∈E,aN k≤((crM x).length:Int))→aF Tp 2 (sub (cd Tryz.f266) [1,0,0]) (xA D k i E.length ((E.map chE).flatten)) (.exit 0) (xA D k D.length (aBb (gT k) n i E).length (((aBb (gT k) n i E).map chE).flatten))
 | 0,i,E,hi,hl,hk=>by
  have:i=D.length:=by omega
  subst this;exact .exit (bIx (by omega)) (by simp)
 | n+1,i,E,hi,hl,hk=>by
  obtain ⟨j',L⟩:=bQk (D:=D) (k:=k) (i:=i) i E (by omega) (by omega) hk
  have h1:=qX (gT k) i E;unfold aBb;exact .step (bIw (G'101:=gD (gT k) i E) (E':=gD (gT k) i E) (by omega) L (aT (by omega)) rfl rfl rfl) (bIk A8 n (i+1) _ (by omega) (by omega) (fun x hx=>hk x (qY _ _ _ hx)))
theorem cBy{D:List Chg}{k:Int}(A8:D.length≤12)(h1:1≤D.length)(hk:∀ x∈D,aN k≤((crM x).length:Int)):FMM Tp 266 [.own 0,.p (aB 0),.p (aB (D.length:Nat)),.fn 185 [] [.ptr 1 0]] [some (.row 112 D.length ((D.map chE).flatten)),some (.box 23 [(.p (aB k))])] (.tup []) [some (.row 112 ((isG (gT k) D).length) (((isG (gT k) D).map chE).flatten)),some (.box 23 [(.p (aB k))])]:=by
 exact cCe (E'1:=isG (gT k) D) (bIk (k:=k) A8 (D.length-1) 1 D (by omega) rfl hk)
end
section
variable {k l:Int}

noncomputable abbrev aSl:Code:=sub (cd Tryz.f200) [1,1,0,0]
theorem bZe{D:List (List Cel)}{k:Int}{R:List (List Cel)}{n:Int}(hn:n=(D.length:Int))(A8:D.length≤12)(h1:1≤D.length)(hk:∀ x∈D,aN k≤(x.length:Int)):FMM Tp 242 [.own 0,.p (aB 0),.p (aB n),.fn 151 [] [.ptr 1 0]] [some (.row 78 D.length ((D.map rwE).flatten)),some (.box 26 [(pI k),(.p (.sl R.length (R.map aL)))])] (.tup []) [some (.row 78 ((isG (bR k) D).length) (((isG (bR k) D).map rwE).flatten)),some (.box 26 [(pI k),(.p (.sl R.length (R.map aL)))])]:=by
 subst hn;exact cBw A8 h1 hk
theorem bZf{D:List (List Cel)}{k n:Int}(hn:n=(D.length:Int))(A8:D.length≤12)(h1:1≤D.length)(hk:∀ x∈D,aN k≤(x.length:Int)):FMM Tp 242 [.own 0,.p (aB 0),.p (aB n),.fn 168 [] [.ptr 1 0]] [some (.row 78 D.length ((D.map rwE).flatten)),some (.box 23 [(pI k)])] (.tup []) [some (.row 78 ((isG (bR k) D).length) (((isG (bR k) D).map rwE).flatten)),some (.box 23 [(pI k)])]:=by
 subst hn;exact cBx A8 h1 hk
theorem bZg{D:List (List Cel × List Cel)}{k n:Int}(hn:n=(D.length:Int))(A8:D.length≤12)(h1:1≤D.length)(hk:∀ x∈D,aN k≤((crM x).length:Int)):FMM Tp 266 [.own 0,.p (aB 0),.p (aB n),.fn 185 [] [.ptr 1 0]] [some (.row 112 D.length ((D.map chE).flatten)),some (.box 23 [(pI k)])] (.tup []) [some (.row 112 ((isG (gT k) D).length) (((isG (gT k) D).map chE).flatten)),some (.box 23 [(pI k)])]:=by
 subst hn;exact cBy A8 h1 hk
theorem aGt(x:Int)(h:0≤x∧x≤12){base:Nat}:FV Tp 201 [.p (.v (.int .u64 x))] base (pI ((Lib.bitLen x.toNat:Nat):Int)) []:=FV.ofc rfl fun C w us hus hM=>by
 obtain rfl:=Iu rfl hus;refine (Tryz.bits_Len x w h.1 (by omega)).mono ?_
 rintro e w' ⟨rfl,rfl⟩;exact ⟨_,rfl,⟨rfl,rfl,rfl,Bb _,fun _ _=>rfl⟩,.p _ _ (.v _)⟩
theorem F5{n:Nat}(h:n≤12):0≤IntKind.wrap .u64 (n:Int)∧IntKind.wrap .u64 (n:Int)≤12:=by
 have:IntKind.u64.wrap (n:Int)=n:=by simp [IntKind.wrap,IntKind.bits,IntKind.signed];omega
 rw [this];omega
def aGu(D:List (List Cel))(k:Int)(R:List (List Cel))(l:Int)(En:Nat)(Ec:List PV):St:=⟨fr 148 [(0,(.own 0)),(1,(pI 0)),(2,(pI (D.length:Int))),(3,(pI l)),(4,(.fn 151 [] [(.ptr 1 0)]))],[some (.row 78 En Ec),some (.box 26 [(pI k),(.p (.sl R.length (R.map aL)))])]⟩
theorem bZh{D R E'0:List (List Cel)}(hl0:aF Tp 2 aSl (aGu D k R l D.length ((D.map rwE).flatten)) .ret (aGu D k R l E'0.length ((E'0.map rwE).flatten))):FMM Tp 200 [(.own 0),(pI 0),(pI (D.length:Int)),(pI l),(.fn 151 [] [(.ptr 1 0)])] [some (.row 78 D.length ((D.map rwE).flatten)),some (.box 26 [(pI k),(.p (.sl R.length (R.map aL)))])] (.tup []) [some (.row 78 E'0.length ((E'0.map rwE).flatten)),some (.box 26 [(pI k),(.p (.sl R.length (R.map aL)))])]:=FMM.fi 2 gE func200 [hl0.k 5 (gZ [5,143])] (gc hl0.code gn)
theorem bBk{D R E E':List (List Cel)}(h0:inR ((D.length:Int)-0))(h1:((D.length:Int)-0)≤12)(Df:E.length≤12)(Fh:1≤E.length)(Jd:∀ x∈E,aN k≤(x.length:Int))(Hz:(D.length:Int)=(E.length:Int))(Ed:E'.length=(isG (bR k) E).length)(Ee:(E'.map rwE).flatten=(((isG (bR k) E).map rwE).flatten)):aA Tp 2 aSl (aGu D k R l E.length ((E.map rwE).flatten)) .ret (aGu D k R l E'.length ((E'.map rwE).flatten)):=by
 have k1:=mq [0,1] 2 (bZe (D:=E) (k:=k) (R:=R) Hz Df Fh Jd);rw [Ed,Ee];exact aA.fi (gZ [5,143]) [bT,k1.o] (gc k1 (gc (mD h1) (gc h0 gn)))
def aGv(D:List (List Cel))(k l:Int)(En:Nat)(Ec:List PV):St:=⟨fr 148 [(0,(.own 0)),(1,(pI 0)),(2,(pI (D.length:Int))),(3,(pI l)),(4,(.fn 168 [] [(.ptr 1 0)]))],[some (.row 78 En Ec),some (.box 23 [(pI k)])]⟩
theorem bZi{D E'0:List (List Cel)}(hl0:aF Tp 2 aSl (aGv D k l D.length ((D.map rwE).flatten)) .ret (aGv D k l E'0.length ((E'0.map rwE).flatten))):FMM Tp 200 [(.own 0),(pI 0),(pI (D.length:Int)),(pI l),(.fn 168 [] [(.ptr 1 0)])] [some (.row 78 D.length ((D.map rwE).flatten)),some (.box 23 [(pI k)])] (.tup []) [some (.row 78 E'0.length ((E'0.map rwE).flatten)),some (.box 23 [(pI k)])]:=FMM.fi 2 gE func200 [hl0.k 5 (gZ [5,143])] (gc hl0.code gn)
theorem bBl{D E E':List (List Cel)}(h0:inR ((D.length:Int)-0))(h1:((D.length:Int)-0)≤12)(Df:E.length≤12)(Fh:1≤E.length)(Jd:∀ x∈E,aN k≤(x.length:Int))(Hz:(D.length:Int)=(E.length:Int))(Ed:E'.length=(isG (bR k) E).length)(Ee:(E'.map rwE).flatten=(((isG (bR k) E).map rwE).flatten)):aA Tp 2 aSl (aGv D k l E.length ((E.map rwE).flatten)) .ret (aGv D k l E'.length ((E'.map rwE).flatten)):=by
 have k1:=mq [0,1] 2 (bZf (D:=E) (k:=k) Hz Df Fh Jd);rw [Ed,Ee];exact aA.fi (gZ [5,143]) [bT,k1.o] (gc k1 (gc (mD h1) (gc h0 gn)))
def aGw(D:List (List Cel × List Cel))(k l:Int)(En:Nat)(Ec:List PV):St:=⟨fr 148 [(0,(.own 0)),(1,(pI 0)),(2,(pI (D.length:Int))),(3,(pI l)),(4,(.fn 185 [] [(.ptr 1 0)]))],[some (.row 112 En Ec),some (.box 23 [(pI k)])]⟩
theorem bZj{D E'0:List (List Cel × List Cel)}(hl0:aF Tp 2 (sub (cd Tryz.f222) [1,1,0,0]) (aGw D k l D.length ((D.map chE).flatten)) .ret (aGw D k l E'0.length ((E'0.map chE).flatten))):FMM Tp 222 [(.own 0),(pI 0),(pI (D.length:Int)),(pI l),(.fn 185 [] [(.ptr 1 0)])] [some (.row 112 D.length ((D.map chE).flatten)),some (.box 23 [(pI k)])] (.tup []) [some (.row 112 E'0.length ((E'0.map chE).flatten)),some (.box 23 [(pI k)])]:=FMM.fi 2 gE func222 [hl0.k 5 (gZ [5,143])] (gc hl0.code gn)
theorem bBm{D E E':List (List Cel × List Cel)}(h0:inR ((D.length:Int)-0))(h1:((D.length:Int)-0)≤12)(Df:E.length≤12)(Fh:1≤E.length)(Jd:∀ x∈E,aN k≤((crM x).length:Int))(Hz:(D.length:Int)=(E.length:Int))(Ed:E'.length=(isG (gT k) E).length)(Ee:(E'.map chE).flatten=(((isG (gT k) E).map chE).flatten)):aA Tp 2 (sub (cd Tryz.f222) [1,1,0,0]) (aGw D k l E.length ((E.map chE).flatten)) .ret (aGw D k l E'.length ((E'.map chE).flatten)):=by
 have k1:=mq [0,1] 2 (bZg (D:=E) (k:=k) Hz Df Fh Jd);rw [Ed,Ee];exact aA.fi (gZ [5,143]) [bT,k1.o] (gc k1 (gc (mD h1) (gc h0 gn)))
theorem bZk{D:List (List Cel)}{k:Int}{R:List (List Cel)}(l:Int)(A8:D.length≤12)(h1:1≤D.length)(hk:∀ x∈D,aN k≤(x.length:Int)):FMM Tp 200 [.own 0,.p (aB 0),.p (aB (D.length:Int)),.p (aB l),.fn 151 [] [.ptr 1 0]] [some (.row 78 D.length ((D.map rwE).flatten)),some (.box 26 [(pI k),(.p (.sl R.length (R.map aL)))])] (.tup []) [some (.row 78 ((isG (bR k) D).length) (((isG (bR k) D).map rwE).flatten)),some (.box 26 [(pI k),(.p (.sl R.length (R.map aL)))])] :=
 bZh (E'0:=isG (bR k) D) (.exit (bBk (E':=isG (bR k) D) (by show _∧_;omega) (by omega) A8 h1 hk rfl rfl rfl) (by simp))
abbrev bOj(D:List (List Cel)):=IntKind.wrap .u64 (D.length:Int)
theorem bZl{D R:List (List Cel)}(Gg:0≤(IntKind.wrap .u64 (D.length:Int))∧(IntKind.wrap .u64 (D.length:Int))≤12)(Da:D.length≤12)(Df:1≤D.length)(Fh:∀ x∈D,aN k≤(x.length:Int)):FMM Tp 137 [(.own 0),(.fn 151 [] [(.ptr 1 0)])] [some (.row 78 D.length ((D.map rwE).flatten)),some (.box 26 [(pI k),(.p (.sl R.length (R.map aL)))])] (.tup []) [some (.row 78 ((isG (bR k) D).length) (((isG (bR k) D).map rwE).flatten)),some (.box 26 [(pI k),(.p (.sl R.length (R.map aL)))])]:=have k1:=fk 2 (aGt (bOj D) Gg) rfl;have k2:=mq [0,1] 2 (bZk (D:=D) (k:=k) (R:=R) ((Lib.bitLen (bOj D).toNat:Nat):Int) Da Df Fh);FMM.fi 2 gE func137 [k1.o,k2.o] (gc k2 (gc k1 gn))
theorem bZm{D:List (List Cel)}{k:Int}{R:List (List Cel)}(A8:D.length≤12)(h1:1≤D.length)(hk:∀ x∈D,aN k≤(x.length:Int)):FMM Tp 137 [.own 0,.fn 151 [] [.ptr 1 0]] [some (.row 78 D.length ((D.map rwE).flatten)),some (.box 26 [(pI k),(.p (.sl R.length (R.map aL)))])] (.tup []) [some (.row 78 ((isG (bR k) D).length) (((isG (bR k) D).map rwE).flatten)),some (.box 26 [(pI k),(.p (.sl R.length (R.map aL)))])]:=bZl (F5 A8) A8 h1 hk
theorem bZn{D:List (List Cel)}{k:Int}(l:Int)(A8:D.length≤12)(h1:1≤D.length)(hk:∀ x∈D,aN k≤(x.length:Int)):FMM Tp 200 [.own 0,.p (aB 0),.p (aB (D.length:Int)),.p (aB l),.fn 168 [] [.ptr 1 0]] [some (.row 78 D.length ((D.map rwE).flatten)),some (.box 23 [(pI k)])] (.tup []) [some (.row 78 ((isG (bR k) D).length) (((isG (bR k) D).map rwE).flatten)),some (.box 23 [(pI k)])] :=
 bZi (E'0:=isG (bR k) D) (.exit (bBl (E':=isG (bR k) D) (by show _∧_;omega) (by omega) A8 h1 hk rfl rfl rfl) (by simp))
theorem bZo{D:List (List Cel)}(Gg:0≤(IntKind.wrap .u64 (D.length:Int))∧(IntKind.wrap .u64 (D.length:Int))≤12)(Da:D.length≤12)(Df:1≤D.length)(Fh:∀ x∈D,aN k≤(x.length:Int)):FMM Tp 137 [(.own 0),(.fn 168 [] [(.ptr 1 0)])] [some (.row 78 D.length ((D.map rwE).flatten)),some (.box 23 [(pI k)])] (.tup []) [some (.row 78 ((isG (bR k) D).length) (((isG (bR k) D).map rwE).flatten)),some (.box 23 [(pI k)])]:=have k1:=fk 2 (aGt (bOj D) Gg) rfl;have k2:=mq [0,1] 2 (bZn (D:=D) (k:=k) ((Lib.bitLen (bOj D).toNat:Nat):Int) Da Df Fh);FMM.fi 2 gE func137 [k1.o,k2.o] (gc k2 (gc k1 gn))
theorem bZp{D:List (List Cel)}{k:Int}(A8:D.length≤12)(h1:1≤D.length)(hk:∀ x∈D,aN k≤(x.length:Int)):FMM Tp 137 [.own 0,.fn 168 [] [.ptr 1 0]] [some (.row 78 D.length ((D.map rwE).flatten)),some (.box 23 [(pI k)])] (.tup []) [some (.row 78 ((isG (bR k) D).length) (((isG (bR k) D).map rwE).flatten)),some (.box 23 [(pI k)])]:=bZo (F5 A8) A8 h1 hk
theorem bZq{D:List (List Cel × List Cel)}{k:Int}(l:Int)(A8:D.length≤12)(h1:1≤D.length)(hk:∀ x∈D,aN k≤((crM x).length:Int)):FMM Tp 222 [.own 0,.p (aB 0),.p (aB (D.length:Int)),.p (aB l),.fn 185 [] [.ptr 1 0]] [some (.row 112 D.length ((D.map chE).flatten)),some (.box 23 [(pI k)])] (.tup []) [some (.row 112 ((isG (gT k) D).length) (((isG (gT k) D).map chE).flatten)),some (.box 23 [(pI k)])] :=
 bZj (E'0:=isG (gT k) D) (.exit (bBm (E':=isG (gT k) D) (by show _∧_;omega) (by omega) A8 h1 hk rfl rfl rfl) (by simp))
theorem bZr{D:List (List Cel × List Cel)}(Gg:0≤(IntKind.wrap .u64 (D.length:Int))∧(IntKind.wrap .u64 (D.length:Int))≤12)(Da:D.length≤12)(Df:1≤D.length)(Fh:∀ x∈D,aN k≤((crM x).length:Int)):FMM Tp 184 [(.own 0),(.fn 185 [] [(.ptr 1 0)])] [some (.row 112 D.length ((D.map chE).flatten)),some (.box 23 [(pI k)])] (.tup []) [some (.row 112 ((isG (gT k) D).length) (((isG (gT k) D).map chE).flatten)),some (.box 23 [(pI k)])]:=have k1:=fk 2 (aGt (IntKind.wrap .u64 (D.length:Int)) Gg) rfl;have k2:=mq [0,1] 2 (bZq (D:=D) (k:=k) ((Lib.bitLen (IntKind.wrap .u64 (D.length:Int)).toNat:Nat):Int) Da Df Fh);FMM.fi 2 gE func184 [k1.o,k2.o] (gc k2 (gc k1 gn))
theorem bZs{D:List (List Cel × List Cel)}{k:Int}(A8:D.length≤12)(h1:1≤D.length)(hk:∀ x∈D,aN k≤((crM x).length:Int)):FMM Tp 184 [.own 0,.fn 185 [] [.ptr 1 0]] [some (.row 112 D.length ((D.map chE).flatten)),some (.box 23 [(pI k)])] (.tup []) [some (.row 112 ((isG (gT k) D).length) (((isG (gT k) D).map chE).flatten)),some (.box 23 [(pI k)])]:=bZr (F5 A8) A8 h1 hk
end
end KV
end Go.Proofs
section
namespace Go.Proofs
open Go.RowKit
namespace KV
open Tryz
variable {P:Program} {C:Cx} {w:World} {ty n:Nat} {cs Bh:List PV}
theorem eO{o:AO}{id:Nat}{x:AO}(h:([some x]:Mem)[id]? = some (some o)):id=0∧o=x:=by
 cases id with
 | zero=>simp at h;exact ⟨rfl,h.symm⟩
 | succ i=>simp at h
theorem bBp{x:AV}{u:Value}(h:Rep C [some (.row ty n cs)] w x u):Rep C [some (.row ty n Bh)] w x u:=by
 have ex:∀ {id:Nat},(∃ o:AO,([some (.row ty n cs)]:Mem)[id]? = some (some o))→∃ o:AO,([some (.row ty n Bh)]:Mem)[id]? = some (some o):=fun ⟨o,h⟩=>by
  obtain ⟨rfl,_⟩:=eO h;exact ⟨_,rfl⟩
 induction h with
 | p x u h=>exact .p x u h
 | any u=>exact .any u
 | kb b=>exact .kb b
 | yld l=>exact .yld l
 | own id u h0 ha h =>
  refine .own id u h0 (ex ha) fun C3 n' c hm => ?_
  obtain ⟨rfl,e⟩:=eO hm;cases e;exact h _ _ cs rfl
 | arr id off n u h0 ha h =>
  refine .arr id off n u h0 (ex ha) fun o hm hl => ?_
  obtain ⟨rfl,e⟩:=eO hm;exact h _ rfl rfl
 | ptr id off u h0 ha h hp =>
  refine .ptr id off u h0 (ex ha) (fun o hm hl => ?_) hp
  obtain ⟨rfl,e⟩:=eO hm;exact h _ rfl rfl
 | mp id u h0 ha h =>
  refine .mp id u h0 (ex ha) fun o hm hl => ?_
  obtain ⟨rfl,e⟩:=eO hm;exact h _ rfl rfl
 | pa id q u h0 ha h =>
  refine .pa id q u h0 (ex ha) fun o hm hl => ?_
  obtain ⟨rfl,e⟩:=eO hm;exact h _ rfl rfl
 | rp cs off b o us h1 h2 h3=>exact .rp cs off b o us h1 h2 h3
 | agg cs vs h0 h1 _ ih=>exact .agg cs vs h0 h1 ih
 | tup cs vs h1 _ ih=>exact .tup cs vs h1 ih
 | fn f cs ds us vs h1 h2 _ _ Gj Gk=>exact .fn f cs ds us vs h1 h2 Gj Gk
theorem aBc:∀ {args:List AV} {us:List Value},cS C [some (.row ty n cs)] w args us→cS C [some (.row ty n Bh)] w args us
 | [],_,h=>by cases h;exact .nil
 | x::l,_,h=>by
  cases h with
  | cons _ _ u us h1 h2=>exact .cons _ _ _ _ (bBp h1) (aBc h2)
theorem bBq(hM:aW P C [some (.row ty n cs)] w):aW P C [some (.row ty n (cs.map wkP))] w:=by
 refine ⟨fun id t' n' c hm => ?_,fun id t' c hm => ?_,fun id e c hm => ?_,fun i i' o o' b h1 l1 h2 l2 e1 e2 => ?_,fun id o b h l e => ?_,hM.Fs,fun id o b h l e => ?_,hM.lib⟩
 ·obtain ⟨rfl,e⟩:=eO hm
  cases e
  rcases hM.row 0 _ _ _ rfl with ⟨h1,h2,h3⟩ | ⟨b,arr,i,q1,q2,q3,q4,q5,q6,q7,q8,q9⟩
  ·exact .inl ⟨h1,h2,by rw [h3];rfl⟩
  ·refine .inr ⟨b,arr,i,q1,q2,q3,q4,by rw [mR];exact q5,q6,q7,fun j hj => ?_,fun j hj=>q9 j (by simpa using hj)⟩
   rw [gS];exact aRq (q8 j (by simpa using hj))
 ·obtain ⟨_,e⟩:=eO hm;cases e
 ·obtain ⟨_,e⟩:=eO hm;cases e
 ·obtain ⟨rfl,_⟩:=eO h1
  obtain ⟨rfl,_⟩:=eO h2;rfl
 ·obtain ⟨rfl,_⟩:=eO h
  exact hM.nF 0 _ b rfl rfl e
 ·obtain ⟨rfl,_⟩:=eO h
  exact hM.lt 0 _ b rfl rfl e
theorem bJc{C':Cx}{M':Mem}{w':World}(f:Fr C [some (.row ty n Bh)] w C' M' w'):Fr C [some (.row ty n cs)] w C' M' w':=by
 refine ⟨f.os,f.tape,f.out,f.size,fun b hb hn=>f.keep b hb fun id o h l e => ?_,fun id o h => ?_,fun id o h t' n' c hm => ?_,fun id o h o' hm hl => ?_,fun id o b h l e => ?_,f.F1,fun b h => ?_⟩
 ·obtain ⟨rfl,_⟩:=eO h
  exact hn 0 _ rfl rfl e
 ·obtain ⟨rfl,_⟩:=eO h
  exact f.ids 0 _ rfl
 ·obtain ⟨rfl,_⟩:=eO h
  obtain ⟨_,e⟩:=f.row 0 _ rfl _ _ _ hm;cases e;exact ⟨cs,rfl⟩
 ·obtain ⟨rfl,rfl⟩:=eO h
  rfl
 ·rcases f.new id o b h l e with h1 | ⟨Ef,o0,h1,h2,h3⟩
  ·exact .inl h1
  ·obtain ⟨rfl,_⟩:=eO h1
   exact .inr ⟨0,_,rfl,rfl,h3⟩
 ·rcases f.F2 b h with h1 | h1 | ⟨Ef,o0,h1,h2,h3⟩
  ·exact .inl h1
  ·exact .inr (.inl h1)
  ·obtain ⟨rfl,_⟩:=eO h1
   exact .inr (.inr ⟨0,_,rfl,rfl,h3⟩)
theorem FMM.rowwk{f:Nat}{args:List AV}{r:AV}{M':Mem}(h:FMM P f args [some (.row ty n (cs.map wkP))] r M'):FMM P f args [some (.row ty n cs)] r M':=fun C w us hus hM k=>by
 refine (h C w us (aBc hus) (bBq hM) k).mono ?_;rintro e w' ⟨u,rfl,C',hF,Eh,hr⟩;exact ⟨u,rfl,C',bJc hF,Eh,hr⟩
end KV
end Go.Proofs
end
namespace Go.Proofs
namespace KV
open Tryz
section
variable {e k:Int}{i j i' j' qn Lv:Nat}

noncomputable abbrev aKz:Code:=sub (cd Tryz.f104) [1,1,1,0,1,0,0]
noncomputable abbrev aLa:Code:=sub (cd Tryz.f104) [1,1,1,1,0,1,0,0]
theorem bZc{D:List (List Cel × List Cel)}(Hm:D.length≤12)(Da:1≤D.length)(Df:∀ x∈D,aN k≤((crM x).length:Int)):FMM Tp 109 [(pI k),(.own 0)] [some (.row 112 D.length ((D.map chE).flatten))] (.own 0) [some (.row 112 ((isG (gT k) D).length) (((isG (gT k) D).map chE).flatten))]:=have k1:=mq [0,1] 2 (bZs (D:=D) (k:=k) Hm Da Df);FMM.fi 1 gE func109 [k1.o] (gc k1 gn)
theorem cBv{k:Int}{n:Nat}{cs:List PV}{D:List Chg}(hn:n=D.length)(hc:cs.map wkP=(D.map chE).flatten)(A8:D.length≤12)(h1:1≤D.length)(hk:∀ x∈D,aN k≤((crM x).length:Int)):FMM Tp 109 [.p (aB k),.own 0] [some (.row 112 n cs)] (.own 0) [some (.row 112 (isG (gT k) D).length (((isG (gT k) D).map chE).flatten))]:=by
 subst hn;refine FMM.rowwk ?_;rw [hc];exact bZc A8 h1 hk
def kA(k:Int)(A:List (List Cel))(e:Int)(B:List (List Cel))(i on:Nat)(oc:List PV):St:=⟨fr 69 [(2,(.ptr 0 0)),(3,(.ptr 1 0)),(4,(.p bM)),(5,(.mp 2)),(6,(.mp 3)),(7,(.own 4)),(18,(.p (.sl A.length (A.map aL)))),(19,(pI (A.length:Int))),(20,(pI (i:Int)))],[some (.box 26 [(pI k),(.p (.sl A.length (A.map aL)))]),some (.box 26 [(pI e),(.p (.sl B.length (B.map aL)))]),some (.mp (bN k A) A.length),some (.mp (bN e B) B.length),some (.row 112 on oc)]⟩
def kB(k:Int)(A B:List (List Cel))(j qn:Nat)(qc:List PV):St:=⟨fr 69 [(2,(.ptr 0 0)),(4,(.p bM)),(5,(.mp 1)),(7,(.own 2)),(44,(.p (.sl B.length (B.map aL)))),(45,(pI (B.length:Int))),(46,(pI (j:Int)))],[some (.box 26 [(pI k),(.p (.sl A.length (A.map aL)))]),some (.mp (bN k A) A.length),some (.row 112 qn qc)]⟩
theorem bZd{A B:List (List Cel)}{Aq:Nat}{Ak:List (List Cel × List Cel)}{Kt Kw:Nat}{Kx:List PV}{D4:List (List Cel × List Cel)}(Q4:fT k A)(Ls:fT e B)(Bp:aF Tp 0 aKz (kA k A e B 0 0 []) (.exit 0) (kA k A e B Aq Ak.length ((Ak.map chE).flatten)))(Ej:aF Tp 0 aLa (kB k A B 0 Ak.length ((Ak.map chE).flatten)) (.exit 2) (kB k A B Kt Kw Kx))(J5:Kw=D4.length)(Q5:Kx.map wkP=(D4.map chE).flatten)(Nh:D4.length≤12)(Nq:1≤D4.length)(Nr:∀ x∈D4,aN k≤((crM x).length:Int)):FMM Tp 104 [(.p (.agg [(aB k),(.sl A.length (A.map aL))])),(.p (.agg [(aB e),(.sl B.length (B.map aL))]))] [] (.p (.sl ((isG (gT k) D4).length) (((isG (gT k) D4).map chE).flatten))) []:=have k1:=mq [2] 3 (cBv (k:=k) (D:=D4) J5 Q5 Nh Nq Nr);FMM.fi 0 ⟨[],[],[2],[]⟩ func104 [.c (.mp 2) [(2,(.mp (bN k A) A.length))],.c (.mp 10) [(10,(.mp (bN e B) B.length))],Bp.k 6 (gN be [0,1,2,10,11] [(7,112)]),Ej.k 4 (gI az [0,2,4]),k1.o] (gc k1 (gc Ej.code (gc Bp.code (gt (FC Tp 149 [(.p (.agg [(aB e),(.sl B.length (B.map aL))]))] [] 10 (.mp 10) [(10,(.mp (bN e B) B.length))]) (FMM.fcN (k:=1) rfl (ids:=[]) (aPk Ls) (by kernel_rfl)) (gt (FC Tp 149 [(.p (.agg [(aB k),(.sl A.length (A.map aL))]))] [] 2 (.mp 2) [(2,(.mp (bN k A) A.length))]) (FMM.fcN (k:=1) rfl (ids:=[]) (aPk Q4) (by kernel_rfl)) gn)))))
section
variable{A B:List (List Cel)}{Ab B9:List Cel}(h0:(i:Int)<(A.length:Int))(h1:A[i]? = some Ab)(h2:aN k≤(Ab.length:Int))(h3:eH Tp 186 (bN e B) (k3V (aK k Ab 0) (aK k Ab 1) (aK k Ab 2)))(h4:(gQ (bN e B) (k3V (aK k Ab 0) (aK k Ab 1) (aK k Ab 2)))=true)(h5:gK (bN e B) (k3V (aK k Ab 0) (aK k Ab 1) (aK k Ab 2))=some (.sl B9.length ((B9.map cE).flatten)))(H5:Ab.length≤100000)
include h0 h1 h2 h3 h4 h5 H5
theorem bBc{o o':List (List Cel × List Cel)}(h7:(decide (Ab=B9))=false)(Nv:Ab.length≤1000000)(Q6:B9.length≤1000000)(Ba:[(PV.sl Ab.length ((Ab.map cE).flatten)),(.sl B9.length ((B9.map cE).flatten))].length=1*2∧o.length+1≤1000000)(C6:co i)(Aj:i'=(i+1))(Dk:o'.length=(o.length+1))(Dl:(o'.map chE).flatten=(((o.map chE).flatten)++[(PV.sl Ab.length ((Ab.map cE).flatten)),(.sl B9.length ((B9.map cE).flatten))])):aA Tp 0 aKz (kA k A e B i o.length ((o.map chE).flatten)) .normal (kA k A e B i' o'.length ((o'.map chE).flatten)):=by
 subst Aj;have k1:=fk 5 (eC k Ab h2) rfl;have k2:=fk 5 (pM Ab B9 H5) rfl;have k3:=fk 5 (qD Ab Nv) rfl;have k4:=fk 5 (qD B9 Q6) rfl;rw [Dk,Dl];exact aA.fi (gI be [0,1,2,3,6]) [bT,.x (.sl Ab.length ((Ab.map cE).flatten)),k1.o,bT,.x (.sl B9.length ((B9.map cE).flatten)),k2.o,bT,k3.o,k4.o] (gc C6 (gc Ba (gt ([(PV.sl Ab.length ((Ab.map cE).flatten)),(.sl B9.length ((B9.map cE).flatten))].length=2) (by first | decide | simp) (gc k4 (gc k3 (gc (cZ h7) (gc k2 (gc h5 (gc h4 (gc h3 (gc k1 (gc (atm aL h1) (gc (ixn aL h1) (g0 h0))))))))))))))
theorem bBd{o:List (List Cel × List Cel)}(h7:(decide (Ab=B9))=true)(h8:co i)(Aj:i'=(i+1)):aA Tp 0 aKz (kA k A e B i o.length ((o.map chE).flatten)) .normal (kA k A e B i' o.length ((o.map chE).flatten)):=by
 subst Aj;have k1:=fk 5 (eC k Ab h2) rfl;have k2:=fk 5 (pM Ab B9 H5) rfl;exact aA.fi (gI be cb) [bT,.x (.sl Ab.length ((Ab.map cE).flatten)),k1.o,bT,.x (.sl B9.length ((B9.map cE).flatten)),k2.o,bF] (gc h8 (gc (aX h7) (gc k2 (gc h5 (gc h4 (gc h3 (gc k1 (gc (atm aL h1) (gc (ixn aL h1) (g0 h0))))))))))
end
theorem bBe{A B:List (List Cel)}{o:List (List Cel × List Cel)}{Ab:List Cel}{o':List (List Cel × List Cel)}(h0:(i:Int)<(A.length:Int))(h1:A[i]? = some Ab)(h2:aN k≤(Ab.length:Int))(h3:eH Tp 186 (bN e B) (k3V (aK k Ab 0) (aK k Ab 1) (aK k Ab 2)))(h4:(gQ (bN e B) (k3V (aK k Ab 0) (aK k Ab 1) (aK k Ab 2)))=false)(Ji:Ab.length≤100000)(h6:(decide (Ab=([]:List Cel)))=false)(Ku:Ab.length≤1000000)(Nv:([]:List Cel).length≤1000000)(h9:[(PV.sl Ab.length ((Ab.map cE).flatten)),(.sl 0 [])].length=1*2∧o.length+1≤1000000)(Ba:co i)(Aj:i'=(i+1))(Dk:o'.length=(o.length+1))(Dl:(o'.map chE).flatten=(((o.map chE).flatten)++[(PV.sl Ab.length ((Ab.map cE).flatten)),(.sl 0 [])])):aA Tp 0 aKz (kA k A e B i o.length ((o.map chE).flatten)) .normal (kA k A e B i' o'.length ((o'.map chE).flatten)):=by
 subst Aj;have k1:=fk 5 (eC k Ab h2) rfl;have k2:=fk 5 (qD Ab Ku) rfl;rw [Dk,Dl];exact aA.fi (gI be [0,1,2,3,6]) [bT,.x (.sl Ab.length ((Ab.map cE).flatten)),k1.o,bF,.c (pB (decide (Ab=([]:List Cel)))) [],bT,k2.o,.c (.p (.sl 0 [])) []] (gc Ba (gc h9 (gt ([(PV.sl Ab.length ((Ab.map cE).flatten)),(.sl 0 [])].length=2) (by first | decide | simp) (gt (FC Tp 150 [(.p bM)] [] 5 (.p (.sl 0 [])) []) (FV.fc (FV.argwk (qD ([]:List Cel) Nv) rfl) rfl) (gc k2 (gc (cZ h6) (gt (FC Tp 107 [(.p (.sl Ab.length ((Ab.map cE).flatten))),(.p bM)] [] 5 (pB (decide (Ab=([]:List Cel)))) []) (FV.fc (FV.argwk (pM Ab ([]:List Cel) Ji) rfl) rfl) (gc h4 (gc h3 (gc k1 (gc (atm aL h1) (gc (ixn aL h1) (g0 h0)))))))))))))
theorem bBf{A B:List (List Cel)}{o:List (List Cel × List Cel)}(h0:(A.length:Int)≤(i:Int)):aA Tp 0 aKz (kA k A e B i o.length ((o.map chE).flatten)) (.exit 0) (kA k A e B i o.length ((o.map chE).flatten)):=aA.fi (gI be cb) [bF] (gc (bC h0) gn)
section
variable{A B:List (List Cel)}{Ac Bl:List Cel}(h0:(j:Int)<(B.length:Int))(h1:B[j]? = some Ac)(h2:aN k≤(Ac.length:Int))(h3:eH Tp 186 (bN k A) (k3V (aK k Ac 0) (aK k Ac 1) (aK k Ac 2)))(h4:(gQ (bN k A) (k3V (aK k Ac 0) (aK k Ac 1) (aK k Ac 2)))=true)(h5:gK (bN k A) (k3V (aK k Ac 0) (aK k Ac 1) (aK k Ac 2))=some (.sl Bl.length ((Bl.map cE).flatten)))
include h0 h1 h2 h3 h4 h5
theorem bBg{qc Ky:List PV}(h6:(Bl.length:Int)=0)(Ku:Ac.length≤1000000)(h8:[bM,(.sl Ac.length ((Ac.map cE).flatten))].length=1*2∧qn+1≤1000000)(h9:co j)(Bv:j'=(j+1))(Jj:Lv=(qn+1))(Jk:Ky=(qc++[bM,(.sl Ac.length ((Ac.map cE).flatten))])):aA Tp 0 aLa (kB k A B j qn qc) .normal (kB k A B j' Lv Ky):=by
 subst Bv Jj Jk;have k1:=fk 3 (eC k Ac h2) rfl;have k2:=fk 3 (qD Ac Ku) rfl;exact aA.fi (gI az [0,1,4]) [bT,.x (.sl Ac.length ((Ac.map cE).flatten)),k1.o,bT,.x (.sl Bl.length ((Bl.map cE).flatten)),bT,k2.o] (gc h9 (gc h8 (gt ([bM,(.sl Ac.length ((Ac.map cE).flatten))].length=2) (by first | decide | simp) (gc k2 (gc (dF h6) (gc h5 (gc h4 (gc h3 (gc k1 (gc (atm aL h1) (gc (ixn aL h1) (g0 h0))))))))))))
theorem bBh{qc:List PV}(h6:(Bl.length:Int)≠0)(h7:co j)(Bv:j'=(j+1)):aA Tp 0 aLa (kB k A B j qn qc) .normal (kB k A B j' qn qc):=by
 subst Bv;have k1:=fk 3 (eC k Ac h2) rfl;exact aA.fi (gI az [0,1,2]) [bT,.x (.sl Ac.length ((Ac.map cE).flatten)),k1.o,bT,.x (.sl Bl.length ((Bl.map cE).flatten)),bF] (gc h7 (gc (bL h6) (gc h5 (gc h4 (gc h3 (gc k1 (gc (atm aL h1) (gc (ixn aL h1) (g0 h0)))))))))
end
theorem bBi{A B:List (List Cel)}{qc:List PV}{Ac:List Cel}{Ky:List PV}(h0:(j:Int)<(B.length:Int))(h1:B[j]? = some Ac)(h2:aN k≤(Ac.length:Int))(h3:eH Tp 186 (bN k A) (k3V (aK k Ac 0) (aK k Ac 1) (aK k Ac 2)))(h4:(gQ (bN k A) (k3V (aK k Ac 0) (aK k Ac 1) (aK k Ac 2)))=false)(Ji:Ac.length≤1000000)(h6:[bM,(.sl Ac.length ((Ac.map cE).flatten))].length=1*2∧qn+1≤1000000)(h7:co j)(Bv:j'=(j+1))(Jj:Lv=(qn+1))(Jk:Ky=(qc++[bM,(.sl Ac.length ((Ac.map cE).flatten))])):aA Tp 0 aLa (kB k A B j qn qc) .normal (kB k A B j' Lv Ky):=by
 subst Bv Jj Jk;have k1:=fk 3 (eC k Ac h2) rfl;have k2:=fk 3 (qD Ac Ji) rfl;exact aA.fi (gI az [0,1,4]) [bT,.x (.sl Ac.length ((Ac.map cE).flatten)),k1.o,bF,bT,k2.o] (gc h7 (gc h6 (gt ([bM,(.sl Ac.length ((Ac.map cE).flatten))].length=2) (by first | decide | simp) (gc k2 (gt (((0:Int) == 0)=true) (by first | decide | simp) (gc h4 (gc h3 (gc k1 (gc (atm aL h1) (gc (ixn aL h1) (g0 h0)))))))))))
theorem bBj{A B:List (List Cel)}{qc:List PV}(h0:(B.length:Int)≤(j:Int)):aA Tp 0 aLa (kB k A B j qn qc) (.exit 2) (kB k A B j qn qc):=aA.fi (gI az [0,1,2]) [bF] (gc (bC h0) gn)
end
end KV
end Go.Proofs
section
namespace Go.Proofs
open Go.RowKit
namespace KV
open Tryz
set_option maxRecDepth 1000000
def nG(k:Int)(B:List (List Cel))(r:List Cel):Option Chg:=if r=(kG k B r).getD [] then none else some (r,(kG k B r).getD [])
def sR(k:Int)(A:List (List Cel))(r:List Cel):Option Chg:=if ((kG k A r).getD []).length=0 then some ([],r) else none
def dfL(k:Int)(A B:List (List Cel)):List Chg:=A.filterMap (nG k B)++B.filterMap (sR k A)
def dfM(k:Int)(A B:List (List Cel)):List Chg:=isG (gT k) (dfL k A B)
theorem aEe(k:Int):1≤aN k:=by
 unfold aN
 repeat' split
 all_goals decide
theorem bOh{k:Int}{L:List (List Cel)}{r y:List Cel}(h:kG k L r=some y):y∈L:=bKf h
theorem bIf{k:Int}{A B:List (List Cel)}(hA:fT k A)(hB:fT k B):∀ x∈dfL k A B,aN k≤((crM x).length:Int):=by
 have hp:=aEe k;intro x hx
 rcases tY.1 hx with hx | hx
 ·obtain ⟨r,hr,he⟩:=List.mem_filterMap.1 hx
  unfold nG at he
  split at he
  ·cases he
  ·cases he
   have:=(hA.len r hr).1;unfold crM;rw [if_pos (by show 0<r.length;omega)];exact this
 ·obtain ⟨r,hr,he⟩:=List.mem_filterMap.1 hx
  unfold sR at he
  split at he
  ·cases he
   have:=(hB.len r hr).1;unfold crM;rw [if_neg (by simp)];exact this
  ·cases he
theorem bZb(c:Chg):(chE c).map wkP=chE c:=rfl
theorem bOi(L:List Chg):((L.map chE).flatten).map wkP=(L.map chE).flatten:=by
 induction L with
 | nil=>rfl
 | cons c L ih=>rw [fV,vG,rB,ih,bZb]
def nlE(c:Chg):List PV:=[bM,aL c.2]
theorem cBu{k:Int}{A:List (List Cel)}:∀ B:List (List Cel),(((B.filterMap (sR k A)).map nlE).flatten).map wkP=((B.filterMap (sR k A)).map chE).flatten:=fun B=>by
 have:∀ L:List Chg,(∀ c∈L,c.1=[])→((L.map nlE).flatten).map wkP=(L.map chE).flatten:=fun L hL=>by
  induction L with
  | nil=>rfl
  | cons c L ih =>
   rw [fV,fV,vG,vG,rB,ih (fun x hx=>hL x (by simp [hx]))]
   congr 1
   have h:=hL c (by simp)
   obtain ⟨a,b⟩:=c;dsimp only at h
   subst h;rfl
 refine this _ fun c hc => ?_
 obtain ⟨r,_,he⟩:=List.mem_filterMap.1 hc;unfold sR at he
 split at he
 ·cases he;rfl
 ·cases he
theorem aKy(L:List Chg)(c:Chg):((L++[c]).map chE).flatten=(L.map chE).flatten++chE c:=by simp
theorem bIg(L:List Chg)(c:Chg):((L++[c]).map nlE).flatten=(L.map nlE).flatten++nlE c:=by simp
theorem uQ{α β:Type}(f:α→Option β){l:List α}{i:Nat}{x:α}(h:l[i]? = some x):(l.take (i+1)).filterMap f=(l.take i).filterMap f++(f x).toList:=by
 rw [List.take_add_one,h];rw [List.filterMap_append];cases hf:f x <;> simp [hf]
theorem aBa{α β:Type}(f:α→Option β)(l:List α)(i:Nat):((l.take i).filterMap f).length≤l.length:=iE (List.length_filterMap_le _ _) (by simp;omega)
theorem aPj{k:Int}{A B:List (List Cel)}(hA:fT k A)(hB:fT k B)(A8:(dfL k A B).length≤12)(h1:1≤(dfL k A B).length) :
  FMM Tp 104 [.p (.agg [aB k,bY A]),.p (.agg [aB k,bY B])] [] (.p (.sl (dfM k A B).length ((dfM k A B).map chE).flatten)) []:=by
 have hAn:=hA.n;have hBn:=hB.n;have L1:=aF.count (P:=Tp) (k:=0) (b:=(sub (cd Tryz.f104) bm)) (e := .exit 0) (R:=kA k A k B A.length (A.filterMap (nG k B)).length (((A.filterMap (nG k B)).map chE).flatten)) A.length
  (fun i=>kA k A k B i ((A.take i).filterMap (nG k B)).length ((((A.take i).filterMap (nG k B)).map chE).flatten))
  (fun i hi=>by
   have hx:A[i]? = some A[i]:=B4 hi;have hm:=gR hi;have hl:=hA.len _ hm;have hK:eH Tp 186 (bN k B) (iL k A[i]):=uR hB.ky (hA.ky _ hm) hB.nd;have hfl:=aBa (nG k B) A i;rw [uQ (nG k B) hx];generalize A[i]=x at hx hm hl hK
   have hhit:=nH k B x;have hlook:=qZ k B x;rw [nI] at hhit
   have hf:nG k B x=if x=(kG k B x).getD [] then none else some (x,(kG k B x).getD []):=rfl
   rw [hf];generalize (A.take i).filterMap (nG k B)=o at hfl
   cases hlk:kG k B x with
   | some y =>
    rw [hlk] at hhit hlook
    have hy:=hB.len y (bOh hlk)
    by_cases he:x=y
    ·rw [Option.getD_some,if_pos he,Option.toList_none,List.append_nil]
     exact bBd (by omega) hx hl.1 hK hhit hlook (by omega) (by simp [he]) (aT (by omega)) rfl
    ·rw [Option.getD_some,if_neg he]
     exact bBc (o':=o++[(x,y)]) (by omega) hx hl.1 hK hhit hlook (by omega) (by simp [he]) (by omega) (by omega) ⟨rfl,by omega⟩ (aT (by omega)) rfl (by simp) (aKy o (x,y))
   | none =>
    rw [hlk] at hhit hlook
    have hp:=aEe k;have he:¬ x=[]:=fun e=>by rw [e] at hl;simp at hl;omega
    rw [Option.getD_none,if_neg he];exact bBe (o':=o++[(x,[])]) (by omega) hx hl.1 hK hhit (by omega) (by simp [he]) (by omega) (by simp) ⟨rfl,by omega⟩ (aT (by omega)) rfl (by simp) (aKy o (x,[])))
  (by rw [List.take_length];exact bBf (by omega)) (by simp)
 have L2:=aF.count (P:=Tp) (k:=0) (b:=(sub (cd Tryz.f104) bi)) (e := .exit 2) (R:=kB k A B B.length (dfL k A B).length (((A.filterMap (nG k B)).map chE).flatten++((B.filterMap (sR k A)).map nlE).flatten)) B.length
  (fun j=>kB k A B j ((A.filterMap (nG k B)).length+((B.take j).filterMap (sR k A)).length) (((A.filterMap (nG k B)).map chE).flatten++(((B.take j).filterMap (sR k A)).map nlE).flatten))
  (fun j hj=>by
   have hx:B[j]? = some B[j]:=B4 hj;have hm:=gR hj;have hl:=hB.len _ hm;have hK:eH Tp 186 (bN k A) (iL k B[j]):=uR hA.ky (hB.ky _ hm) hA.nd;have hfl:=aBa (sR k A) B j;have hfa:(A.filterMap (nG k B)).length≤A.length:=List.length_filterMap_le _ _;rw [uQ (sR k A) hx];generalize B[j]=x at hx hm hl hK
   have hhit:=nH k A x;have hlook:=qZ k A x;rw [nI] at hhit
   have hf:sR k A x=if ((kG k A x).getD []).length=0 then some ([],x) else none:=rfl
   rw [hf];generalize (B.take j).filterMap (sR k A)=q at hfl
   generalize A.filterMap (nG k B)=o at hfa
   have hap:((o.map chE).flatten++(q.map nlE).flatten)++[bM,aL x]=(o.map chE).flatten++((q++[([],x)]).map nlE).flatten:=by rw [bIg,List.append_assoc];rfl
   cases hlk:kG k A x with
   | some y =>
    rw [hlk] at hhit hlook
    by_cases he:y.length=0
    ·rw [Option.getD_some,if_pos he]
     refine bBg (by omega) hx hl.1 hK hhit hlook (by omega) (by omega) ⟨rfl,by omega⟩ (aT (by omega)) rfl ?_ hap.symm
     show o.length+(q++[(([]:List Cel),x)]).length=_;rw [Bz,List.length_singleton];omega
    ·rw [Option.getD_some,if_neg he,Option.toList_none,List.append_nil]
     exact bBh (by omega) hx hl.1 hK hhit hlook (by omega) (aT (by omega)) rfl
   | none =>
    rw [hlk] at hhit hlook
    rw [Option.getD_none,if_pos (by simp)]
    refine bBi (by omega) hx hl.1 hK hhit (by omega) ⟨rfl,by omega⟩ (aT (by omega)) rfl ?_ hap.symm
    show o.length+(q++[(([]:List Cel),x)]).length=_;rw [Bz,List.length_singleton];omega)
  (by
   rw [List.take_length];have:(dfL k A B).length=(A.filterMap (nG k B)).length+(B.filterMap (sR k A)).length:=by unfold dfL;rw [Bz]
   rw [this];exact bBj (by omega)) (by simp)
 have e0:((A.filterMap (nG k B)).length+((B.take 0).filterMap (sR k A)).length)=(A.filterMap (nG k B)).length:=by simp
 have e1:(((A.filterMap (nG k B)).map chE).flatten++(((B.take 0).filterMap (sR k A)).map nlE).flatten)=((A.filterMap (nG k B)).map chE).flatten:=by simp
 rw [e0,e1] at L2
 refine bZd (D4:=dfL k A B) hA hB L1 L2 rfl ?_ A8 h1 (bIf hA hB);unfold dfL;rw [rB,bOi,cBu,rB,bKg]
end KV
end Go.Proofs
end
namespace Go.Proofs
namespace KV
open Tryz
section
variable {k:Int}{q q':Nat}

noncomputable abbrev aSk:Code:=sub (cd Tryz.f56) [1,0,1,0,0]
def qC(k:Int)(A B:List (List Cel))(q:Nat):St:=⟨fr 29 [(2,(.ptr 0 0)),(3,(.ptr 1 0)),(11,(.p (.agg [(aB k),(.sl A.length (A.map aL)),(aB k),(.sl B.length (B.map aL))]))),(12,(pI (q:Int)))],[some (.box 26 [(pI k),(.p (.sl A.length (A.map aL)))]),some (.box 26 [(pI k),(.p (.sl B.length (B.map aL)))])]⟩
theorem bYz{A B:List (List Cel)}{Hb:Nat}(hl0:aF Tp 0 aSk (qC k A B 0) (.exit 0) (qC k A B Hb))(h1:k=k)(I2:fT k A)(Q2:fT k B)(Nl:(dfL k A B).length≤12)(Q3:1≤(dfL k A B).length):FMM Tp 56 [(.p (.agg [(aB k),(.sl A.length (A.map aL))])),(.p (.agg [(aB k),(.sl B.length (B.map aL))]))] [] (.tup [(.p (.sl ((dfM k A B).length) (((dfM k A B).map chE).flatten))),(pI 0)]) []:=have k1:=fk 2 (FV.frz (aPj I2 Q2 Nl Q3) rfl) rfl;FMM.fi 0 gE func56 [hl0.k 6 (gI bt [0,1]),bF,k1.o] (gc k1 (gc (bV h1) (gc hl0.code gn)))
theorem bAz{A B:List (List Cel)}(Ar:q=0)(h1:(dW k A)=0)(D7:q'=1):aA Tp 0 aSk (qC k A B q) .normal (qC k A B q'):=by
 subst Ar;subst D7;exact aA.fi (gI bt [0,1]) [bT,.c (pI (dW k A)) [],bF] (gt (inR 1) (by show _∧_;omega) (gc (bV h1) (gc (fk 3 (iH k A) rfl) (gt (0+2≤[(aB k),(.sl A.length (A.map aL)),(aB k),(.sl B.length (B.map aL))].length) (by first | decide | simp) (gt (0≤(0:Int)∧(0:Int)<2) (by first | decide | simp) (gt ((decide ((0:Int)<2))=true) (by first | decide | simp) gn))))))
theorem bBa{A B:List (List Cel)}(Ar:q=1)(h1:(dW k B)=0)(D7:q'=2):aA Tp 0 aSk (qC k A B q) .normal (qC k A B q'):=by
 subst Ar;subst D7;exact aA.fi (gI bt [0,1]) [bT,.c (pI (dW k B)) [],bF] (gt (inR 2) (by show _∧_;omega) (gc (bV h1) (gc (fk 3 (iH k B) rfl) (gt (2+2≤[(aB k),(.sl A.length (A.map aL)),(aB k),(.sl B.length (B.map aL))].length) (by first | decide | simp) (gt (0≤(1:Int)∧(1:Int)<2) (by first | decide | simp) (gt ((decide ((1:Int)<2))=true) (by first | decide | simp) gn))))))
theorem bBb{A B:List (List Cel)}(Ar:q=2)(D7:q'=2):aA Tp 0 aSk (qC k A B q) (.exit 0) (qC k A B q'):=by
 subst Ar;subst D7;exact aA.fi (gI bt [0,1]) [bF] (gt ((decide ((2:Int)<2))=false) (by first | decide | simp) gn)
theorem bZa{k:Int}{A B:List (List Cel)}(cA:dW k A=0)(cB:dW k B=0)(hA:fT k A)(hB:fT k B)(A8:(dfL k A B).length≤12)(h1:1≤(dfL k A B).length){base:Nat}:FV Tp 56 [.p (.agg [aB k,bY A]),.p (.agg [aB k,bY B])] base (.tup [.p (.sl (dfM k A B).length (((dfM k A B).map chE).flatten)),.p (aB 0)]) [] :=
 FV.frz (bYz (.step (bAz rfl cA rfl) (.step (bBa rfl cB rfl) (.exit (bBb rfl rfl) (by simp)))) rfl hA hB A8 h1) rfl
end
section
variable {r0:Bool}{k:Int}{i j i' Aq base:Nat}

noncomputable abbrev oO:Code:=sub (cd Tryz.f254) [1,0,1,0,0]
noncomputable abbrev bId:Code:=sub (cd Tryz.f53) [1,1,1,0,1,0,0]
noncomputable abbrev bIe:Code:=pS (cd Tryz.f53) 6 [0,1,0,0]
theorem bYr{c:Chg}(Al:r0=(decide (((crM c).length:Int) > 0))):FV Tp 144 [(.p (.agg [(.sl c.1.length ((c.1.map cE).flatten)),(.sl c.2.length ((c.2.map cE).flatten))]))] base (pB r0) []:=by
 subst Al;have k1:=fk 1 (mC c.1 c.2) rfl;exact FV.fi func144 [k1.o] (gc k1 gn)
def neC(c:Chg):Bool:=decide (((crM c).length:Int) > 0)
theorem bYs(c:Chg){base:Nat}:FV Tp 144 [.p (.agg [aL c.1,aL c.2])] base (pB (neC c)) []:=bYr rfl
theorem bYt{c:Chg}(h0:(c.1.length:Int)=0):FV Tp 146 [(.p (.agg [(.sl c.1.length ((c.1.map cE).flatten)),(.sl c.2.length ((c.2.map cE).flatten))])),(.rp [(aB k)] 0)] base (pB true) []:=FV.fi func146 (rT 5) (Cy (dF h0) gn)
theorem bYu{c:Chg}(h0:(c.1.length:Int)≠0)(h1:(c.2.length:Int)=0):FV Tp 146 [(.p (.agg [(.sl c.1.length ((c.1.map cE).flatten)),(.sl c.2.length ((c.2.map cE).flatten))])),(.rp [(aB k)] 0)] base (pB true) []:=FV.fi func146 (rF 5++rT 10) (Ib (dF h1) (A9 (dF h1) (Cy (bL h0) gn)))
section
variable{c:Chg}(h0:(c.1.length:Int)≠0)(h1:(c.2.length:Int)≠0)(h2:aN k≤(c.1.length:Int))(h3:aN k≤(c.2.length:Int))
include h0 h1 h2 h3
theorem bYv(h4:(bR k c.1 c.2)=0)(Ji:c.1.length≤100000)(Al:r0=(!(decide (c.1=c.2)))):FV Tp 146 [(.p (.agg [(.sl c.1.length ((c.1.map cE).flatten)),(.sl c.2.length ((c.2.map cE).flatten))])),(.rp [(aB k)] 0)] base (pB r0) []:=by
 subst Al;have k1:=fk 1 (lT k c.1 c.2 h2 h3) rfl;have k2:=fk 1 (pM c.1 c.2 Ji) rfl;exact FV.fi func146 (rF 6++[.x (aB k)]++rF 5++[k1.o,bF,bF]++rT 5++[k2.o,bT,bF,bT,bF]) (gc (bL h1) (gc (dF h4) (gc (bL h1) (gc (dF h4) (gc k2 (Cy (dF h4) (A9 (bL h1) (gc k1 (Cy (bL h1) (gr (aB k) (gc (bL h1) (Cy (bL h0) gn))))))))))))
theorem bYw(h4:(bR k c.1 c.2)≠0):FV Tp 146 [(.p (.agg [(.sl c.1.length ((c.1.map cE).flatten)),(.sl c.2.length ((c.2.map cE).flatten))])),(.rp [(aB k)] 0)] base (pB false) []:=have k1:=fk 1 (lT k c.1 c.2 h2 h3) rfl;FV.fi func146 (rF 6++[.x (aB k)]++rF 5++[k1.o]++rF 11) (gc (bL h1) (gc (bL h4) (gc (bL h1) (Ht (bL h4) (A9 (bL h1) (gc k1 (Cy (bL h1) (gr (aB k) (gc (bL h1) (Cy (bL h0) gn))))))))))
end
theorem bNq{x:Chg}(Al:r0=(!(neC x))):FMM Tp 205 [(.p (.agg [(.sl x.1.length ((x.1.map cE).flatten)),(.sl x.2.length ((x.2.map cE).flatten))])),(.ptr 0 0)] [some (.box 243 [(.fn 144 [] [])])] (pB r0) [some (.box 243 [(.fn 144 [] [])])]:=by
 subst Al;exact FMM.fi 1 gE func205 [.c (pB (neC x)) []] (gc (fk 2 (bYs x) rfl) gn)
theorem aSi(x:Chg)  : FMM Tp 205 [.p (.agg [aL x.1,aL x.2]),.ptr 0 0] [some (.box 243 [(.fn 144 [] [])])] (pB (!(neC x))) [some (.box 243 [(.fn 144 [] [])])]:=bNq rfl
def fQ(l:List (List Cel × List Cel))(i:Nat):St:=⟨fr 19 [(0,(.p (.sl l.length ((l.map chE).flatten)))),(1,(.fn 205 [] [(.ptr 0 0)])),(7,(pI (l.length:Int))),(8,(pI (i:Int)))],[some (.box 243 [(.fn 144 [] [])])]⟩
theorem bNr{l:List (List Cel × List Cel)}(hl0:aF Tp 1 oO (fQ l 0) (.exit 0) (fQ l Aq)):FMM Tp 254 [(.p (.sl l.length ((l.map chE).flatten))),(.fn 205 [] [(.ptr 0 0)])] [some (.box 243 [(.fn 144 [] [])])] (pI (-1)) [some (.box 243 [(.fn 144 [] [])])]:=FMM.fi 1 gE func254 [hl0.k 6 (gZ ce)] (gc hl0.code gn)
theorem bNs{l:List (List Cel × List Cel)}(hl0:aF Tp 1 oO (fQ l 0) .ret (cK (fQ l Aq) [(4,(pI (Aq:Int)))])):FMM Tp 254 [(.p (.sl l.length ((l.map chE).flatten))),(.fn 205 [] [(.ptr 0 0)])] [some (.box 243 [(.fn 144 [] [])])] (pI (Aq:Int)) [some (.box 243 [(.fn 144 [] [])])]:=FMM.fi 1 gE func254 [hl0.k 6 (gZ ce)] (gc hl0.code gn)
section
variable{l:List (List Cel × List Cel)}{Ag Ah:List Cel}(h0:(i:Int)<(l.length:Int))(h1:l[i]? = some (Ag,Ah))
include h0 h1
theorem aPd(h2:(neC (Ag,Ah))=false):aA Tp 1 oO (fQ l i) .ret (cK (fQ l i) [(4,(pI (i:Int)))]):=have k1:=mq [0] 1 (aSi (Ag,Ah));aA.fi (gZ bq) [bT,.x (.agg [(.sl Ag.length ((Ag.map cE).flatten)),(.sl Ah.length ((Ah.map cE).flatten))]),k1.o,bT] (gc (cZ h2) (gc k1 (gc (bE (E:=chE) (i:=i) (k:=2) (fun _=>rfl) h1 rfl) (gc (cC (E:=chE) (i:=i) (k:=2) (fun _=>rfl) h1) (gc (bD (E:=chE) (k:=2) (i:=(i:Int)) (fun _=>rfl) (by decide) (Bu _) h1) (g0 h0))))))
theorem aPe(h2:(neC (Ag,Ah))=true)(h3:co i)(Aj:i'=(i+1)):aA Tp 1 oO (fQ l i) .normal (fQ l i'):=by
 subst Aj;have k1:=mq [0] 1 (aSi (Ag,Ah));exact aA.fi (gZ ce) [bT,.x (.agg [(.sl Ag.length ((Ag.map cE).flatten)),(.sl Ah.length ((Ah.map cE).flatten))]),k1.o,bF] (gc h3 (gc (aX h2) (gc k1 (gc (bE (E:=chE) (i:=i) (k:=2) (fun _=>rfl) h1 rfl) (gc (cC (E:=chE) (i:=i) (k:=2) (fun _=>rfl) h1) (gc (bD (E:=chE) (k:=2) (i:=(i:Int)) (fun _=>rfl) (by decide) (Bu _) h1) (g0 h0)))))))
end
theorem aPf{l:List (List Cel × List Cel)}(h0:(l.length:Int)≤(i:Int)):aA Tp 1 oO (fQ l i) (.exit 0) (fQ l i):=aA.fi (gZ ce) [bF] (gc (bC h0) gn)
theorem bNt(l:List Chg)(hl:l.length≤100000):FMM Tp 254 [.p (.sl l.length ((l.map chE).flatten)),(.fn 205 [] [(.ptr 0 0)])] [some (.box 243 [(.fn 144 [] [])])] (pI (mT (fun x => !(neC x)) l)) [some (.box 243 [(.fn 144 [] [])])]:=by
 rcases aF.find (P:=Tp) (k:=1) (b:=oO) (fun i=>fQ l i) (fun i _=>cK (fQ l i) [(4,.p (aB (i:Int)))]) (fQ l l.length) .ret (.exit 0) (by simp) (by simp) (fun x => !(neC x)) l
  (fun i x hx hp=>aPe (by have:=bI hx;omega) hx (by simpa using hp) (aT (by have:=bI hx;omega)) rfl)
  (fun i x hx hp=>aPd (by have:=bI hx;omega) hx (by simpa using hp))
  (aPf (l:=l) (i:=l.length) (by omega)) with ⟨i,x,h1,h2,h3,h4⟩ | ⟨h1,h2,h3⟩
 ·rw [iU h2];exact bNs h4
 ·rw [iV h1];exact bNr h3
theorem bNu{l:List (List Cel × List Cel)}(h0:l.length≤100000)(Al:r0=(decide ((mT (fun x => !(neC x)) l) ≥ 0))):FMM Tp 204 [(.p (.sl l.length ((l.map chE).flatten))),(.fn 205 [] [(.ptr 0 0)])] [some (.box 243 [(.fn 144 [] [])])] (pB r0) [some (.box 243 [(.fn 144 [] [])])]:=by
 subst Al;have k1:=mq [0] 1 (bNt l h0);exact FMM.fi 1 gE func204 [k1.o] (gc k1 gn)
theorem bNv(l:List Chg)(hl:l.length≤100000):FMM Tp 204 [.p (.sl l.length ((l.map chE).flatten)),(.fn 205 [] [(.ptr 0 0)])] [some (.box 243 [(.fn 144 [] [])])] (pB (l.any (fun x => !(neC x)))) [some (.box 243 [(.fn 144 [] [])])]:=bNu hl (kT _ _).symm
theorem bNw{l:List (List Cel × List Cel)}(h0:l.length≤100000)(Al:r0=(!(l.any (fun x => !(neC x))))):FV Tp 143 [(.p (.sl l.length ((l.map chE).flatten))),(.fn 144 [] [])] base (pB r0) []:=by
 subst Al;have k1:=mq [0] 1 (bNv l h0);exact FV.fi func143 [k1.o] (gc k1 gn)
theorem bNx(l:List Chg)(hl:l.length≤100000){base:Nat}:FV Tp 143 [.p (.sl l.length ((l.map chE).flatten)),(.fn 144 [] [])] base (pB (l.all (neC))) []:=bNw hl (by rw [List.all_eq_not_any_not])
def ckL(k:Int)(c:Chg):Prop:=(c.1.length=0∨aN k≤(c.1.length:Int))∧(c.2.length=0∨aN k≤(c.2.length:Int))∧c.1.length≤100000
def pZ(k:Int)(c:Chg):Bool:=decide (c.1.length=0) || (decide (c.2.length=0) || (decide (bR k c.1 c.2=0) && !(decide (c.1=c.2))))
theorem bYx(c:Chg)(k:Int)(h:ckL k c){base:Nat}:FV Tp 146 [.p (.agg [aL c.1,aL c.2]),.rp [aB k] 0] base (pB (pZ k c)) []:=by
 obtain ⟨h1,h2,h3⟩:=h;unfold pZ
 by_cases q1:c.1.length=0
 ·rw [decide_eq_true q1,Bool.true_or];exact bYt (by omega)
 ·rw [decide_eq_false q1,Bool.false_or]
  by_cases q2:c.2.length=0
  ·rw [decide_eq_true q2,Bool.true_or];exact bYu (by omega) (by omega)
  ·rw [decide_eq_false q2,Bool.false_or]
   have k1:=h1.resolve_left q1;have k2:=h2.resolve_left q2
   by_cases q3:bR k c.1 c.2=0
   ·rw [decide_eq_true q3,aUp];exact bYv (by omega) (by omega) k1 k2 q3 h3 rfl
   ·rw [decide_eq_false q3,Bool.false_and];exact bYw (by omega) (by omega) k1 k2 q3
theorem bNy{x:Chg}(Q0:ckL k x)(Al:r0=(!(pZ k x))):FMM Tp 205 [(.p (.agg [(.sl x.1.length ((x.1.map cE).flatten)),(.sl x.2.length ((x.2.map cE).flatten))])),(.ptr 0 0)] [some (.box 243 [(.fn 146 [] [(.rp [(aB k)] 0)])])] (pB r0) [some (.box 243 [(.fn 146 [] [(.rp [(aB k)] 0)])])]:=by
 subst Al;exact FMM.fi 1 gE func205 [.c (pB (pZ k x)) []] (gc (fk 2 (bYx x k Q0) rfl) gn)
theorem aSj(x:Chg)(k:Int)(hx:ckL k x):FMM Tp 205 [.p (.agg [aL x.1,aL x.2]),.ptr 0 0] [some (.box 243 [(.fn 146 [] [(.rp [(aB k)] 0)])])] (pB (!(pZ k x))) [some (.box 243 [(.fn 146 [] [(.rp [(aB k)] 0)])])]:=bNy hx rfl
def fR(l:List (List Cel × List Cel))(k:Int)(i:Nat):St:=⟨fr 19 [(0,(.p (.sl l.length ((l.map chE).flatten)))),(1,(.fn 205 [] [(.ptr 0 0)])),(7,(pI (l.length:Int))),(8,(pI (i:Int)))],[some (.box 243 [(.fn 146 [] [(.rp [(aB k)] 0)])])]⟩
theorem bNz{l:List (List Cel × List Cel)}(hl0:aF Tp 1 oO (fR l k 0) (.exit 0) (fR l k Aq)):FMM Tp 254 [(.p (.sl l.length ((l.map chE).flatten))),(.fn 205 [] [(.ptr 0 0)])] [some (.box 243 [(.fn 146 [] [(.rp [(aB k)] 0)])])] (pI (-1)) [some (.box 243 [(.fn 146 [] [(.rp [(aB k)] 0)])])]:=FMM.fi 1 gE func254 [hl0.k 6 (gZ ce)] (gc hl0.code gn)
theorem bOa{l:List (List Cel × List Cel)}(hl0:aF Tp 1 oO (fR l k 0) .ret (cK (fR l k Aq) [(4,(pI (Aq:Int)))])):FMM Tp 254 [(.p (.sl l.length ((l.map chE).flatten))),(.fn 205 [] [(.ptr 0 0)])] [some (.box 243 [(.fn 146 [] [(.rp [(aB k)] 0)])])] (pI (Aq:Int)) [some (.box 243 [(.fn 146 [] [(.rp [(aB k)] 0)])])]:=FMM.fi 1 gE func254 [hl0.k 6 (gZ ce)] (gc hl0.code gn)
section
variable{l:List (List Cel × List Cel)}{Ag Ah:List Cel}(h0:(i:Int)<(l.length:Int))(h1:l[i]? = some (Ag,Ah))(Ei:ckL k (Ag,Ah))
include h0 h1 Ei
theorem aPg(h3:(pZ k (Ag,Ah))=false):aA Tp 1 oO (fR l k i) .ret (cK (fR l k i) [(4,(pI (i:Int)))]):=have k1:=mq [0] 1 (aSj (Ag,Ah) k Ei);aA.fi (gZ bq) [bT,.x (.agg [(.sl Ag.length ((Ag.map cE).flatten)),(.sl Ah.length ((Ah.map cE).flatten))]),k1.o,bT] (gc (cZ h3) (gc k1 (gc (bE (E:=chE) (i:=i) (k:=2) (fun _=>rfl) h1 rfl) (gc (cC (E:=chE) (i:=i) (k:=2) (fun _=>rfl) h1) (gc (bD (E:=chE) (k:=2) (i:=(i:Int)) (fun _=>rfl) (by decide) (Bu _) h1) (g0 h0))))))
theorem aPh(h3:(pZ k (Ag,Ah))=true)(h4:co i)(Aj:i'=(i+1)):aA Tp 1 oO (fR l k i) .normal (fR l k i'):=by
 subst Aj;have k1:=mq [0] 1 (aSj (Ag,Ah) k Ei);exact aA.fi (gZ ce) [bT,.x (.agg [(.sl Ag.length ((Ag.map cE).flatten)),(.sl Ah.length ((Ah.map cE).flatten))]),k1.o,bF] (gc h4 (gc (aX h3) (gc k1 (gc (bE (E:=chE) (i:=i) (k:=2) (fun _=>rfl) h1 rfl) (gc (cC (E:=chE) (i:=i) (k:=2) (fun _=>rfl) h1) (gc (bD (E:=chE) (k:=2) (i:=(i:Int)) (fun _=>rfl) (by decide) (Bu _) h1) (g0 h0)))))))
end
theorem aPi{l:List (List Cel × List Cel)}(h0:(l.length:Int)≤(i:Int)):aA Tp 1 oO (fR l k i) (.exit 0) (fR l k i):=aA.fi (gZ ce) [bF] (gc (bC h0) gn)
theorem bOb(l:List Chg)(k:Int)(hl:l.length≤100000)(hL:∀ x∈l,ckL k x):FMM Tp 254 [.p (.sl l.length ((l.map chE).flatten)),(.fn 205 [] [(.ptr 0 0)])] [some (.box 243 [(.fn 146 [] [(.rp [(aB k)] 0)])])] (pI (mT (fun x => !(pZ k x)) l)) [some (.box 243 [(.fn 146 [] [(.rp [(aB k)] 0)])])]:=by
 rcases aF.find (P:=Tp) (k:=1) (b:=oO) (fun i=>fR l k i) (fun i _=>cK (fR l k i) [(4,.p (aB (i:Int)))]) (fR l k l.length) .ret (.exit 0) (by simp) (by simp) (fun x => !(pZ k x)) l
  (fun i x hx hp=>aPh (by have:=bI hx;omega) hx (hL _ (Ch hx)) (by simpa using hp) (aT (by have:=bI hx;omega)) rfl)
  (fun i x hx hp=>aPg (by have:=bI hx;omega) hx (hL _ (Ch hx)) (by simpa using hp))
  (aPi (l:=l) (i:=l.length) (by omega)) with ⟨i,x,h1,h2,h3,h4⟩ | ⟨h1,h2,h3⟩
 ·rw [iU h2];exact bOa h4
 ·rw [iV h1];exact bNz h3
theorem bOc{l:List (List Cel × List Cel)}(h0:l.length≤100000)(Fo:∀ x∈l,ckL k x)(Al:r0=(decide ((mT (fun x => !(pZ k x)) l) ≥ 0))):FMM Tp 204 [(.p (.sl l.length ((l.map chE).flatten))),(.fn 205 [] [(.ptr 0 0)])] [some (.box 243 [(.fn 146 [] [(.rp [(aB k)] 0)])])] (pB r0) [some (.box 243 [(.fn 146 [] [(.rp [(aB k)] 0)])])]:=by
 subst Al;have k1:=mq [0] 1 (bOb l k h0 Fo);exact FMM.fi 1 gE func204 [k1.o] (gc k1 gn)
theorem bOd(l:List Chg)(k:Int)(hl:l.length≤100000)(hL:∀ x∈l,ckL k x):FMM Tp 204 [.p (.sl l.length ((l.map chE).flatten)),(.fn 205 [] [(.ptr 0 0)])] [some (.box 243 [(.fn 146 [] [(.rp [(aB k)] 0)])])] (pB (l.any (fun x => !(pZ k x)))) [some (.box 243 [(.fn 146 [] [(.rp [(aB k)] 0)])])]:=bOc hl hL (kT _ _).symm
theorem bOe{l:List (List Cel × List Cel)}(h0:l.length≤100000)(Fo:∀ x∈l,ckL k x)(Al:r0=(!(l.any (fun x => !(pZ k x))))):FV Tp 143 [(.p (.sl l.length ((l.map chE).flatten))),(.fn 146 [] [(.rp [(aB k)] 0)])] base (pB r0) []:=by
 subst Al;have k1:=mq [0] 1 (bOd l k h0 Fo);exact FV.fi func143 [k1.o] (gc k1 gn)
theorem bOf(l:List Chg)(k:Int)(hl:l.length≤100000)(hL:∀ x∈l,ckL k x){base:Nat}:FV Tp 143 [.p (.sl l.length ((l.map chE).flatten)),(.fn 146 [] [(.rp [(aB k)] 0)])] base (pB (l.all (pZ k))) []:=bOe hl hL (by rw [List.all_eq_not_any_not])
theorem bOg(k:Int)(R:List (List Cel))(h:R.length≤100000){base:Nat}:FV Tp 145 [.p (aB k),.p (.sl R.length ((R.map rwE).flatten))] base (pI (kW k R)) []:=by rw [fB];exact aFv k R h
def qA(k:Int)(l:List (List Cel × List Cel))(i rn:Nat)(rc:List PV):St:=⟨fr 67 [(1,(.p (.sl l.length ((l.map chE).flatten)))),(2,(.ptr 0 0)),(4,(pI 0)),(5,(.own 1)),(23,(.p (.sl l.length ((l.map chE).flatten)))),(24,(pI (l.length:Int))),(25,(pI (i:Int)))],[some (.box 23 [(pI k)]),some (.row 78 rn rc)]⟩
def qB(k:Int)(l:List (List Cel × List Cel))(j:Nat):St:=⟨fr 67 [(1,(.p (.sl l.length ((l.map chE).flatten)))),(2,(.ptr 0 0)),(9,(pI (j:Int)))],[some (.box 23 [(pI k)])]⟩
theorem bYy{l:List (List Cel × List Cel)}{H7:List (List Cel)}{Kt:Nat}(h0:(within k 0 4)=true)(h1:(l.length:Int)≤400)(h2:l.length≤100000)(h3:(l.all (neC))=true)(Fb:aF Tp 0 bId (qA k l 0 0 []) (.exit 1) (qA k l Aq H7.length ((H7.map rwE).flatten)))(h5:H7.length≤100000)(h6:(kW k H7)=0)(Q1:∀ x∈l,ckL k x)(h8:(l.all (pZ k))=true)(Ks:aF Tp 0 bIe (qB k l 1) (.exit 3) (qB k l Kt)):FV Tp 53 [(pI k),(.p (.sl l.length ((l.map chE).flatten)))] base (pI 0) []:=have k1:=fk 1 (pQ k) rfl;have k2:=fk 1 (bNx l h2) rfl;FV.fi func53 [k1.o,bF,bF,bF,k2.o,bF,bF,bF,Fb.k 6 (gN ax [0,1] [(5,78)]),.c (pI (kW k H7)) [],bF,.c (pB (l.all (pZ k))) [],bF,Ks.k 4 (gI [0,1,3,6,10,57] [0])] (gc Ks.code (gc (aX h8) (gt (FC Tp 143 [(.p (.sl l.length ((l.map chE).flatten))),(.fn 146 [] [(.ptr 0 0)])] [(0,(.box 23 [(pI k)]))] 2 (pB (l.all (pZ k))) []) (fv (bOf l k h2 Q1)) (gc (bV h6) (gt (FC Tp 145 [(pI k),(.own 1)] [(1,(.row 78 H7.length ((H7.map rwE).flatten)))] 2 (pI (kW k H7)) []) (fv (bOg k H7 h5)) (gc Fb.code (gc (aX h3) (A9 (bC h1) (gc k2 (A9 (bC h1) (gc (aX h0) (gc k1 gn))))))))))))
theorem bAv{l:List (List Cel × List Cel)}{r:List (List Cel)}{Ag Ah:List Cel}{r':List (List Cel)}(h0:(i:Int)<(l.length:Int))(h1:l[i]? = some (Ag,Ah))(h2:[(PV.sl Ag.length ((Ag.map cE).flatten)),(.sl Ah.length ((Ah.map cE).flatten))].length=2*1∧r.length+2≤1000000)(h3:co i)(Aj:i'=(i+1))(Di:r'.length=(r.length+2))(Dj:(r'.map rwE).flatten=(((r.map rwE).flatten)++[(PV.sl Ag.length ((Ag.map cE).flatten)),(.sl Ah.length ((Ah.map cE).flatten))])):aA Tp 0 bId (qA k l i r.length ((r.map rwE).flatten)) .normal (qA k l i' r'.length ((r'.map rwE).flatten)):=by
 subst Aj;rw [Di,Dj];exact aA.fi (gI ax [0,4]) [bT,.x (.agg [(.sl Ag.length ((Ag.map cE).flatten)),(.sl Ah.length ((Ah.map cE).flatten))])] (gc h3 (gc h2 (gc (bE (E:=chE) (i:=i) (k:=2) (fun _=>rfl) h1 rfl) (gc (cC (E:=chE) (i:=i) (k:=2) (fun _=>rfl) h1) (gc (bD (E:=chE) (k:=2) (i:=(i:Int)) (fun _=>rfl) (by decide) (Bu _) h1) (g0 h0))))))
theorem bAw{l:List (List Cel × List Cel)}{r:List (List Cel)}(h0:(l.length:Int)≤(i:Int)):aA Tp 0 bId (qA k l i r.length ((r.map rwE).flatten)) (.exit 1) (qA k l i r.length ((r.map rwE).flatten)):=aA.fi (gI ax [0,1]) [bF] (gc (bC h0) gn)
theorem bAx{l:List (List Cel × List Cel)}{Ay Az Be Bf:List Cel}{j':Nat}(h0:(j:Int)<(l.length:Int))(h1:inR ((j:Int)-1))(h2:l[((j:Int)-1).toNat]? = some (Ay,Az))(h3:0≤((j:Int)-1))(h4:l[j]? = some (Be,Bf))(h5:aN k≤((crM (Ay,Az)).length:Int))(h6:aN k≤((crM (Be,Bf)).length:Int))(h7:(bR k (crM (Ay,Az)) (crM (Be,Bf)))<0)(h8:co j)(Bv:j'=(j+1)):aA Tp 0 bIe (qB k l j) .normal (qB k l j'):=by
 subst Bv;have k1:=fk 1 (mC (Ay,Az).1 (Ay,Az).2) rfl;have k2:=fk 9 (mC (Be,Bf).1 (Be,Bf).2) rfl;have k3:=fk 17 (lT k (crM (Ay,Az)) (crM (Be,Bf)) h5 h6) rfl;exact aA.fi (gI [0,1,3,6,10,57] [0]) [bT,.x (.agg [(.sl Ay.length ((Ay.map cE).flatten)),(.sl Az.length ((Az.map cE).flatten))]),k1.o,.x (.agg [(.sl Be.length ((Be.map cE).flatten)),(.sl Bf.length ((Bf.map cE).flatten))]),k2.o,k3.o,bF] (gc h8 (gc (eE h7) (gc k3 (gc k2 (gc (bE (E:=chE) (i:=j) (k:=2) (fun _=>rfl) h4 rfl) (gc (cC (E:=chE) (i:=j) (k:=2) (fun _=>rfl) h4) (gc (bD (E:=chE) (k:=2) (i:=(j:Int)) (fun _=>rfl) (by decide) (Bu _) h4) (gc k1 (gc (bE (E:=chE) (i:=((j:Int)-1).toNat) (k:=2) (fun _=>rfl) h2 rfl) (gc (cC (E:=chE) (i:=((j:Int)-1).toNat) (k:=2) (fun _=>rfl) h2) (gc (bD (E:=chE) (k:=2) (i:=((j:Int)-1)) (fun _=>rfl) (by decide) h3 h2) (gc h1 (g0 h0)))))))))))))
theorem bAy{l:List (List Cel × List Cel)}(h0:(l.length:Int)≤(j:Int)):aA Tp 0 bIe (qB k l j) (.exit 3) (qB k l j):=aA.fi (gI [0,1,3,6,10,57] [0]) [bF] (gc (bC h0) gn)
end
end KV
end Go.Proofs
section
namespace Go.Proofs
open Go.RowKit
namespace KV
open Tryz
set_option maxRecDepth 1000000
def oN(l:List Chg):List (List Cel):=l.flatMap fun c=>[c.1,c.2]
def cCk(k:Int)(l:List Chg):Bool:=(l.zip l.tail).all fun p=>decide (bR k (crM p.1) (crM p.2)<0)
structure bNp (k:Int) (l:List Chg):Prop where
 w:within k 0 4=true
 n:l.length≤400
 ne:l.all neC=true
 ck:kW k (oN l)=0
 pai:l.all (pZ k)=true
 L:∀ x∈l,ckL k x
 kk:∀ x∈l,aN k≤((crM x).length:Int)
 ord:cCk k l=true
theorem aAz(l:List Chg)(c:Chg):oN (l++[c])=oN l++[c.1,c.2]:=by simp [oN]
theorem vX:∀ l:List Chg,(oN l).length=2*l.length
 | []=>rfl
 | c::l=>by
  have:=vX l;show ([c.1,c.2]++oN l).length=2*(l.length+1);rw [Bz,this];show 2+_=_;omega
theorem bYq{k:Int}{l:List Chg}(h:bNp k l){base:Nat}:FV Tp 53 [.p (aB k),.p (.sl l.length ((l.map chE).flatten))] base (.p (aB 0)) []:=by
 have hn:=h.n;have L1:=aF.count (P:=Tp) (k:=0) (b:=(sub (cd Tryz.f53) bm)) (e := .exit 1) (R:=qA k l l.length (oN l).length (((oN l).map rwE).flatten)) l.length
  (fun i=>qA k l i (oN (l.take i)).length (((oN (l.take i)).map rwE).flatten))
  (fun i hi=>by
   have hx:l[i]? = some l[i]:=B4 hi;have et:l.take (i+1)=l.take i++[l[i]]:=by rw [List.take_add_one,hx];rfl
   have hl:=vX (l.take i);rw [mQ] at hl
   generalize l[i]=x at hx et
   obtain ⟨b,a⟩:=x;exact bAv (r:=oN (l.take i)) (r':=oN (l.take (i+1))) (by omega) hx ⟨rfl,by omega⟩ (aT (by omega)) rfl (by rw [et,aAz];simp) (by rw [et,aAz];simp [rwE,aL]))
  (by rw [List.take_length];exact bAw (by omega)) (by simp)
 have L2:∀ d j,1≤j→j+d=max 1 l.length→aF Tp 0 (sub (cd Tryz.f53) ba) (qB k l j) (.exit 3) (qB k l (max 1 l.length)):=by
  intro d
  induction d with
  | zero =>
   intro j hj hd;obtain rfl:j=max 1 l.length:=by omega
   exact .exit (bAy (by omega)) (by simp)
  | succ d ih =>
   intro j hj hd;have hlt:j<l.length:=by omega
   have hx:l[j]? = some l[j]:=B4 hlt;have hy:l[j-1]? = some (l[j-1]'(by omega)):=B4 (by omega)
   have ho:bR k (crM (l[j-1]'(by omega))) (crM l[j])<0:=by
    have:=iD.1 h.ord (l[j-1]'(by omega),l[j]) (by
     refine Ch (i:=j-1) ?_;rw [List.getElem?_zip_eq_some];refine ⟨hy,?_⟩;rw [List.getElem?_tail,show j-1+1=j by omega]
     exact hx)
    exact of_decide_eq_true this
   have kx:=h.kk _ (gR hlt);have ky:=h.kk _ (gR (show j-1<l.length by omega))
   have Qz:l[((j:Int)-(1:Int)).toNat]? = some (l[j-1]'(by omega)):=by rw [show ((j:Int)-(1:Int)).toNat=j-1 by omega];exact hy
   refine .step (bAx (by omega) (by show _∧_;omega) Qz (by omega) hx ky kx ho (aT (by omega)) rfl) (ih (j+1) (by omega) (by omega))
 exact bYy h.w (by omega) (by omega) h.ne L1 (by rw [vX];omega) h.ck h.L h.pai (L2 (max 1 l.length-1) 1 (Bb _) (by omega))
end KV
end Go.Proofs
end
