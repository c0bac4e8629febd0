/- a part of the proof -/
import Derived.Test.YtkfdniccmcolgaaGreatQbo
import Derived.Test.YtkfdniccmcolgaaGreatQbk
import Derived.Test.YtkfdniccmcolgaaGreatQaw
set_option linter.all false
set_option maxHeartbeats 4000000
set_option maxRecDepth 100000
namespace Go.Va
def Bnd.get(b:Bnd)(c:UInt8):Int×Int:=if 97≤c.toNat then (b.S1 (c.toNat - 97),b.S2 (c.toNat - 97)) else (b.P (c.toNat - 65),0)
def Bnd.put(b:Bnd)(c:UInt8)(v:Int×Int):Option Bnd:=if 97≤c.toNat then b.segment (c.toNat - 97) (v.1 - 1,v.2 - 1) else b.point (c.toNat - 65) (v.1 - 1)
abbrev Cs:=UInt8×(Int×Int)
section
variable (b:Bnd)
end
def run:List Cs→Bnd→Option Bnd
 |[],b=>some b
 |s::r,b=>match b.put s.1 s.2 with|none=>none|some b'=>run r b'
theorem run_append: ∀(a a':List Cs) (b:Bnd),run (a++a') b=match run a b with|none=>none|some c=>run a' c
 |[],a',b=>rfl
 |s::a,a',b=>by
  show(match b.put s.1 s.2 with|none=>none|some b'=>run (a++a') b')=(match (match b.put s.1 s.2 with|none=>none|some b'=>run a b')with|none=>none|some c=>run a' c)
  cases b.put s.1 s.2 with
  |none=>rfl
  |some b'=>exact run_append a a' b'
section
variable (π:UInt8→UInt8)
end
structure Exch (r:Rul) (π:UInt8→UInt8):Prop where
 inv: ∀c,π (π c)=c
 cls: ∀c,97≤(π c).toNat↔97≤c.toNat
 lt: ∀c,Cu c→Cu (π c)
 prem: ∃p q,r.prem=[p,q]∧q.kind=p.kind∧q.n=p.n∧q.letters=p.letters.map π
 guards: ∀P∈r.guards,P.letters.map π=P.letters
 concl: ∀P∈r.concl,∀c:Bnd,normF (D9 c ⟨P.kind,P.letters.map π,P.n⟩)=normF (D9 c P)
theorem isCmp_G':IsCmp (fun _:Grd=>True) cmpG:=⟨fun x y _ _=>isCmp_K.rng _ _ trivial trivial,fun x y _ _=>isCmp_K.anti _ _ trivial trivial,fun x y z _ _ _=>isCmp_K.tr _ _ _ trivial trivial trivial⟩
theorem isCmp_lexG:IsCmp (fun _=>True) Bx where
 rng:=by
  intro x
  induction x with
  |nil=>intro y _ _;cases y<;>simp[Bx]
  |cons a x ih=>
   intro y _ _;cases y with
   |nil=>simp[Bx]
   |cons b y=>
    have h:=isCmp_G'.rng a b trivial trivial;have h2:=ih y trivial trivial;unfold Bx;split<;>omega
 anti:=by
  intro x
  induction x with
  |nil=>intro y _ _;cases y<;>simp[Bx]
  |cons a x ih=>
   intro y _ _;cases y with
   |nil=>simp[Bx]
   |cons b y=>
    have h:=isCmp_G'.anti a b trivial trivial;have h2:=ih y trivial trivial;unfold Bx;split<;>split<;>omega
 tr:=by
  intro x
  induction x with
  |nil=>intro y z _ _ _;cases y<;>cases z<;>simp[Bx]
  |cons a x ih=>
   intro y z _ _ _;cases y with
   |nil=>cases z<;>simp[Bx]
   |cons b y=>
    cases z with
    |nil=>simp[Bx]
    |cons c z=>
     have h2:=ih y z trivial trivial trivial;have t:=isCmp_G'.tr a b c trivial trivial trivial;have t2:=isCmp_G'.tr c b a trivial trivial trivial;have a1:=isCmp_G'.anti a b trivial trivial;have a2:=isCmp_G'.anti b c trivial trivial;have a3:=isCmp_G'.anti a c trivial trivial;simp only[Bx];by_cases h1:cmpG a b=0<;>by_cases h4:cmpG b c=0<;>by_cases h3:cmpG a c=0<;>simp only[h1,h4,h3,ne_eq,not_true_eq_false,not_false_eq_true,if_false,if_true]<;>intro k1 k2
     ·exact h2 k1 k2
     all_goals first
      |(have:=t (by omega) (by omega);exact⟨by omega,fun h=>by first|exact h.elim|omega⟩)
      |exact⟨by omega,fun h=>by first|exact h.elim|omega⟩
theorem NK: ∀(x y:List Grd),Bx x y=0↔x=y
 |[],[]=>by simp[Bx]
 |[],_::_=>by simp[Bx]
 |_::_,[]=>by simp[Bx]
 |a::x,b::y=>by
  have:=NK x y
  unfold Bx;split
  ·rename_i h
   constructor
   ·intro h2;exact absurd h2 h
   ·intro h2;simp at h2;exact absurd (cmpG_zero.2 h2.1) h
  ·rename_i h
   rw[this]
   have e:a=b:=cmpG_zero.1 (Classical.byContradiction fun hn=>h hn)
   simp[e]
theorem LX(a:List Grd):BF a a=false:=by
 unfold BF;rw[if_neg (by simp),(NK a a).2 rfl]
 rfl
theorem Tg{a b c:List Grd}(h1:BF a b=true)(h2:BF b c=true):BF a c=true:=by
 unfold BF at*;have t:=isCmp_lexG.tr a b c trivial trivial trivial;by_cases e1:a.length=b.length<;>by_cases e2:b.length=c.length
 ·rw[if_neg (by omega)]at h1 h2 ⊢
  simp only[decide_eq_true_eq]at*;have:=t (by omega) (by omega)
  omega
 ·rw[if_neg (by omega)]at h1
  rw[if_pos (by omega)]at h2 ⊢
  simp only[decide_eq_true_eq]at*;omega
 ·rw[if_pos (by omega)]at h1
  rw[if_neg (by omega)]at h2
  rw[if_pos (by omega)]
  simp only[decide_eq_true_eq]at*;omega
 ·rw[if_pos (by omega)]at h1 h2
  simp only[decide_eq_true_eq]at*;rw[if_pos (by omega),decide_eq_true_eq]
  omega
def Dc(nl:List Fct)(P:List AR)(f:Fct)(g:List Grd):Prop:=(∃x∈P,normF x.1=f∧x.2=g)∧ ¬(f.kind=0∨Dd f=true∨CH f nl=true)
structure Least (nl:List Fct) (P:List AR) (l:List Fnd):Prop where
 sub: ∀x∈l,Dc nl P x.fact x.grds
 top: ∀f g,Dc nl P f g→ ∃x∈l,x.fact=f∧BF g x.grds=false
theorem YU{nl:List Fct}{P:List AR}{l:List Fnd}(hl:FndOk l)(h:Least nl P l)(x:AR)(hx:(normF x.1).kind≠0→(normF x.1).Rt):Least nl (P++[x]) (Ef nl l (normF x.1) x.2):=by
 have up: ∀{f g},Dc nl P f g→Dc nl (P++[x]) f g:=fun⟨⟨y,hy,e⟩,h⟩=>⟨⟨y,List.mem_append_left _ hy,e⟩,h⟩
 have dn: ∀{f g},Dc nl (P++[x]) f g→Dc nl P f g∨(normF x.1=f∧x.2=g):=fun⟨⟨y,hy,e⟩,h⟩=>by
  rcases List.mem_append.1 hy with hy|hy
  ·exact .inl ⟨⟨y,hy,e⟩,h⟩
  ·rw[List.mem_singleton]at hy;subst hy;exact .inr e
 by_cases hs:(normF x.1).kind=0∨Dd (normF x.1)=true∨CH (normF x.1) nl=true
 ·rw[G5 hs]
  refine⟨fun y hy=>up (h.sub y hy),fun f g hf=> ?_⟩
  rcases dn hf with hf'|⟨rfl,rfl⟩
  ·exact h.top f g hf'
  ·exact absurd hs hf.2
 ·have hrt:=hx fun h=>hs (.inl h)
  have hin:Dc nl (P++[x]) (normF x.1) x.2:=⟨⟨x,by simp,rfl,rfl⟩,hs⟩
  rcases K1 (normF x.1) (l.map Fnd.fact) 0 with⟨hi,hno⟩|⟨k,hkl,hi,hz⟩
  ·rw[Ox hs hi]
   refine⟨fun y hy=> ?_,fun f g hf=> ?_⟩
   ·rcases List.mem_append.1 hy with hy|hy
    ·exact up (h.sub y hy)
    ·rw[List.mem_singleton]at hy;subst hy;exact hin
   ·rcases dn hf with hf'|⟨rfl,rfl⟩
    ·obtain⟨y,hy,e,he⟩:=h.top f g hf'
     exact⟨y,List.mem_append_left _ hy,e,he⟩
    ·exact⟨⟨normF x.1,x.2⟩,by simp,rfl,LX _⟩
  ·rw[List.length_map]at hkl
   rw[Nat.zero_add]at hi
   rw[PQ hs hkl hi]
   rw[List.getElem_map]at hz
   have hfk:normF x.1=l[k].fact:=(Et hrt (hl.rt _ (Ak hkl))).1 hz
   have uniq: ∀y∈l,y.fact=normF x.1→y=l[k]:=fun y hy e=>by
    obtain⟨i,hi,rfl⟩:=List.mem_iff_getElem.1 hy
    have hp:=List.pairwise_iff_getElem.1 hl.nd;rcases Nat.lt_trichotomy i k with h1|h1|h1
    ·exact absurd (e.trans hfk) (hp i k hi hkl h1)
    ·subst h1;rfl
    ·exact absurd (e.trans hfk).symm (hp k i hkl hi h1)
   by_cases he:BF x.2 l[k].grds=true
   ·rw[if_pos he]
    refine⟨fun y hy=> ?_,fun f g hf=> ?_⟩
    ·rcases List.mem_or_eq_of_mem_set hy with hy|rfl
     ·exact up (h.sub y hy)
     ·rw[←hfk];exact hin
    ·have hmem:(⟨l[k].fact,x.2⟩:Fnd)∈l.set k ⟨l[k].fact,x.2⟩:=List.mem_set hkl _;rcases dn hf with hf'|⟨rfl,rfl⟩
     ·obtain⟨y,hy,e,hee⟩:=h.top f g hf'
      by_cases hyk:y=l[k]
      ·refine⟨_,hmem,by rw[←hyk];exact e,?_⟩
       rw[Bool.eq_false_iff]
       intro hc;have:=Tg hc he;rw[hyk]at hee;rw[hee]at this;cases this
      ·obtain⟨i,hi2,rfl⟩:=List.mem_iff_getElem.1 hy
       have hik:k≠i:=fun e=>hyk (by subst e;rfl)
       refine⟨l[i],?_,e,hee⟩
       rw[List.mem_iff_getElem]
       exact⟨i,by simpa using hi2,by rw[List.getElem_set_ne hik]⟩
     ·exact⟨_,hmem,hfk.symm,LX _⟩
   ·rw[if_neg he]
    refine⟨fun y hy=>up (h.sub y hy),fun f g hf=> ?_⟩
    rcases dn hf with hf'|⟨rfl,rfl⟩
    ·exact h.top f g hf'
    ·exact⟨l[k],Ak hkl,hfk.symm,by simpa using he⟩
theorem Qx{nl:List Fct}: ∀(Q P:List AR) (l:List Fnd),FndOk l→Least nl P l→(∀x∈Q,FY x)→Least nl (P++Q) (runF nl l Q)
 |[],P,l,_,h,_=>by rw[List.append_nil];exact h
 |x::Q,P,l,hl,h,hQ=>by
  have hx:=hQ x (by simp)
  have:=Qx Q (P++[x]) (Ef nl l (normF x.1) x.2) (VA hl (Ca hx.1) hx.2) (YU hl h x (Ca hx.1)) fun y hy=>hQ y (by simp[hy])
  rw[List.append_assoc]at this
  exact this
theorem PC{nl:List Fct}{P:List AR}(hP: ∀x∈P,FY x):Least nl P (runF nl [] P):=by
 have:=Qx (nl:=nl) P [] [] .nil ⟨by simp,fun f g h=>by obtain⟨⟨x,hx,_⟩,_⟩:=h;cases hx⟩ hP
 exact this
theorem Pa(p q:Int×Int):AC p q<0↔p.1<q.1∨p.1=q.1∧p.2<q.2:=by
 unfold AC Bm Bm Bm Az;by_cases h1:p.1<q.1
 ·simp[h1]
 ·by_cases h2:q.1<p.1
  ·simp[h1,h2];omega
  ·by_cases h3:p.2<q.2
   ·simp[h1,h2,h3];omega
   ·by_cases h4:q.2<p.2
    ·simp[h1,h2,h3,h4]
    ·simp[h1,h2,h3,h4]
theorem jbc{l l':List Int}(h:l.Perm l'):BE l=BE l':=by
 refine Mj ?_ ?_
 ·rw[Hy];exact(Ln l).trans h
 ·rw[Hy];exact M5 l
end Go.Va
namespace Go.Va
open Go.Proofs
theorem Y9(p q:Int×Int):AC p q=0↔p=q:=by
 obtain⟨a,b⟩:=p
 obtain⟨c,d⟩:=q
 unfold AC Bm Bm Bm;simp only[Prod.mk.injEq];rcases Dv a c with⟨h,e⟩|⟨h,e⟩|⟨h,e⟩<;>rcases Dv b d with⟨h',e'⟩|⟨h',e'⟩|⟨h',e'⟩<;>rw[e,e']<;>simp<;>omega
theorem Qh(p q r s:Int×Int):Bm [AC p q,AC r s]<0↔AC p q<0∨(p=q∧AC r s<0):=by
 have:=Y9 p q
 unfold Bm Bm Bm;by_cases h:AC p q=0
 ·rw[if_pos h]
  have e:=this.1 h;by_cases h2:AC r s=0
  ·rw[if_pos h2,h2,h];simp
  ·rw[if_neg h2,h];simp[e]
 ·rw[if_neg h]
  have e: ¬p=q:=fun e=>h (this.2 e)
  simp[e]
theorem EF(l:List Int):BE (BE l)=BE l:=by
 have h:(BE l).Perm l:=by rw[Hy];exact Ln l
 exact jbc h
theorem Fm{k a b c d:Int}{n:Bool}{m e:List Nat}(hk:k=3∨k=4):normG ⟨k,[a,b,c,d],n,m,e⟩=B6 k (Ah a b) (Ah c d):=by
 unfold normG;rcases hk with rfl|rfl<;>simp
theorem GI{a b c d:Int}{n:Bool}{m e:List Nat}:normG ⟨2,[a,b,c,d],n,m,e⟩=DX (Ah a b) (Ah c d):=by
 unfold normG;simp
theorem FN{a b c d:Int}{n:Bool}{m e:List Nat}:normG ⟨9,[a,b,c,d],n,m,e⟩=Cr n (val m) (val e) (Ah a b) (Ah c d):=by
 unfold normG;simp
theorem GD{a b c d e f g h:Int}{n:Bool}{m o:List Nat}:normG ⟨7,[a,b,c,d,e,f,g,h],n,m,o⟩=Ci (Ah a b) (Ah c d) (Ah e f) (Ah g h):=by
 unfold normG;simp
theorem De{k:Int}{l:List Int}{n:Bool}{m e:List Nat}(hk:k=1∨k=6∨k=8):normG ⟨k,l,n,m,e⟩=⟨k,BE l,false,[],[]⟩:=by
 unfold normG;rcases hk with rfl|rfl|rfl<;>simp
theorem Ez{p q:Int×Int}(h:AC q p<0): ¬AC p q<0:=by
 rw[Pa]at h ⊢
 omega
theorem F9{k:Int}(hk:k=3∨k=4){p q:Int×Int}(hp:p.1≤p.2)(hq:q.1≤q.2):normG (B6 k p q)=B6 k p q:=by
 unfold B6;split
 ·rename_i h
  rw[Fm hk,Bf hp,Bf hq]
  unfold B6;rw[if_neg (Ez h)]
 ·rename_i h
  rw[Fm hk,Bf hp,Bf hq]
  unfold B6;rw[if_neg h]
theorem KY{p q:Int×Int}(hp:p.1≤p.2)(hq:q.1≤q.2):normG (DX p q)=DX p q:=by
 unfold DX;split
 ·rw[De (.inl rfl),EF]
 ·rename_i h1
  split
  ·rw[De (.inl rfl),EF]
  ·rename_i h2
   unfold B6;split
   ·rename_i h
    rw[GI,Bf hp,Bf hq]
    unfold DX;rw[if_neg (by omega),if_neg (by omega)]
    unfold B6;rw[if_neg (Ez h)]
   ·rename_i h
    rw[GI,Bf hp,Bf hq]
    unfold DX;rw[if_neg h1,if_neg h2];unfold B6;rw[if_neg h]
theorem SS{neg:Bool}{m e:Nat}(e0:e≠0){p q:Int×Int}(hp:p.1≤p.2)(hq:q.1≤q.2):normG (Cr neg m e p q)=Cr neg m e p q:=by
 have back:m≠0→ ¬toZ neg m=e→ ¬toZ neg e=m:=fun m0 h h2=>by
  unfold toZ at h h2;cases neg
  ·simp at h h2;omega
  ·simp at h h2;omega
 by_cases h1:toZ neg m=e
 ·have e1:Cr neg m e p q=B6 4 p q:=by unfold Cr;rw[if_pos h1]
  rw[e1]
  exact F9 (.inr rfl) hp hq
 by_cases h2:m≠0∧AC q p<0
 ·have e1:Cr neg m e p q=⟨9,[q.1,q.2,p.1,p.2],neg,limbs e,limbs m⟩:=by unfold Cr;rw[if_neg h1,if_pos h2]
  rw[e1,FN,Bf hp,Bf hq,Am,Am]
  unfold Cr;rw[if_neg (back h2.1 h1),if_neg fun h=>Ez h2.2 h.2,if_neg]
  rintro⟨_,e,_⟩
  subst e;exact Ez h2.2 h2.2
 by_cases h3:m≠0∧p=q∧Az (toZ neg e*e) (toZ neg m*m)<0
 ·have e1:Cr neg m e p q=⟨9,[p.1,p.2,q.1,q.2],neg,limbs e,limbs m⟩:=by unfold Cr;rw[if_neg h1,if_neg h2,if_pos h3]
  rw[e1,FN,Bf hp,Bf hq,Am,Am]
  unfold Cr;rw[if_neg (back h3.1 h1),if_neg fun h=>h2 ⟨h3.1,h.2⟩,if_neg]
  rintro⟨_,_,h⟩
  have h4:=h3.2.2;have z1:=Dv (toZ neg e*e) (toZ neg m*m);have z2:=Dv (toZ neg m*m) (toZ neg e*e);generalize toZ neg e*(e:Int)=A at*;generalize toZ neg m*(m:Int)=B at*;omega
 ·have e1:Cr neg m e p q=⟨9,[p.1,p.2,q.1,q.2],neg,limbs m,limbs e⟩:=by unfold Cr;rw[if_neg h1,if_neg h2,if_neg h3]
  rw[e1,FN,Bf hp,Bf hq,Am,Am,e1]
theorem KN(p q:Int×Int)(hp:p.1≤p.2)(hq:q.1≤q.2):(srt2 p q).1.1≤(srt2 p q).1.2∧(srt2 p q).2.1≤(srt2 p q).2.2∧srt2 (srt2 p q).1 (srt2 p q).2=srt2 p q:=by
 have key: ∀a b:Int×Int,¬AC b a<0→srt2 a b=(a,b):=fun a b h=>by unfold srt2;rw[if_neg h]
 by_cases h:AC q p<0
 ·have e:srt2 p q=(q,p):=by unfold srt2;rw[if_pos h]
  rw[e]
  exact⟨hq,hp,key _ _ (Ez h)⟩
 ·rw[key p q h]
  exact⟨hp,hq,key _ _ h⟩
theorem RY{u v w z:Int×Int}(hu:u.1≤u.2)(hv:v.1≤v.2)(hw:w.1≤w.2)(hz:z.1≤z.2):normG (Ci u v w z)=Ci u v w z:=by
 obtain⟨a1,a2,a3⟩:=KN v w hv hw
 obtain⟨b1,b2,b3⟩:=KN u z hu hz
 unfold Ci;generalize srt2 v w=A at*;generalize srt2 u z=B at*;obtain⟨A1,A2⟩:=A;obtain⟨B1,B2⟩:=B;simp only at*;by_cases h:Bm [AC A1 B1,AC A2 B2]<0
 ·rw[if_pos h,GD,Bf a1,Bf a2,Bf b1,Bf b2]
  unfold Ci;rw[a3,b3];simp only;rw[if_neg];rw[Qh,Pa,Pa]at h ⊢;obtain⟨A11,A12⟩:=A1;obtain⟨A21,A22⟩:=A2;obtain⟨B11,B12⟩:=B1;obtain⟨B21,B22⟩:=B2;simp only[Prod.mk.injEq]at*;omega
 ·rw[if_neg h,GD,Bf a1,Bf a2,Bf b1,Bf b2]
  unfold Ci;rw[a3,b3];simp only;rw[if_neg h]
theorem OE{f:Fct}(h:f.Rt):normF (normF f)=normF f:=by
 have hrt:=HW h;have e1:normF f=normG f:=by unfold normF;rw[if_pos h.ok]
 have e2:normF (normG f)=normG (normG f):=by unfold normF;rw[if_pos hrt.ok]
 rw[e1,e2]
 clear e1 e2 hrt;obtain⟨h1,h2,h3,h4⟩:=h.parts;have hm:=h.mild;obtain⟨k,l,n,m,d⟩:=f;simp only at h1 h2 h3 h4;rcases EI h1 with rfl|rfl|rfl|rfl|rfl|rfl|rfl|rfl|rfl
 ·rw[De (.inl rfl),De (.inl rfl),EF]
 ·obtain⟨a,b,c,e,rfl⟩:=By (by simpa [arity]using h2)
  rw[GI]
  exact KY (BC _ _) (BC _ _)
 ·obtain⟨a,b,c,e,rfl⟩:=By (by simpa [arity]using h2)
  rw[Fm (.inl rfl)]
  exact F9 (.inl rfl) (BC _ _) (BC _ _)
 ·obtain⟨a,b,c,e,rfl⟩:=By (by simpa [arity]using h2)
  rw[Fm (.inr rfl)]
  exact F9 (.inr rfl) (BC _ _) (BC _ _)
 ·obtain⟨a,b,c,rfl⟩:=Da (by simpa [arity]using h2)
  have e: ∀(x y z:Int) (n:Bool) (m e:List Nat),normG ⟨5,[x,y,z],n,m,e⟩=⟨5,[x,lo y z,hi y z],false,[],[]⟩:=fun x y z n m e=>by unfold normG;simp
  have e2:=Bf (BC b c);unfold Ah at e2;rw[Prod.mk.injEq]at e2;rw[e,e];simp only at e2;rw[e2.1,e2.2]
 ·rw[De (.inr (.inl rfl)),De (.inr (.inl rfl)),EF]
 ·obtain⟨a,b,c,e,a',b',c',e',rfl⟩:=E4 (by simpa [arity]using h2)
  rw[GD]
  exact RY (BC _ _) (BC _ _) (BC _ _) (BC _ _)
 ·rw[De (.inr (.inr rfl)),De (.inr (.inr rfl)),EF]
 ·obtain⟨a,b,c,e,rfl⟩:=By (by simpa [arity]using h2)
  rw[FN]
  rw[if_pos rfl]at h4
  exact SS (C7 h4 hm.oa hm.od).2.2.1 (BC _ _) (BC _ _)
end Go.Va
namespace Go.Va
open Int (natCast_add natCast_mul natCast_emod natCast_ediv natCast_pow)
open Go.Proofs
def SU:List (List Nat):=(Aj [0,1,0,7,15,0,32,0,224,480,1023])
@[simp]def UQ:List Seg:=[.any [] [] (Ao [[2],[30],[5],[31,32],[33],[3],[35],[5],[36,37],[38]]),.one]
theorem J0(a b:Int):CallsF Tryz.prog 88 [.c (.int .i64 a),.c (.int .i64 b)] (.u (.c (.d (.int .i64 (Az a b))))):=by
 refine Ae (T:=tb) Ad mixed Tryz.func88 rfl (by decide) (Ac rfl) rfl ?_;unfold St.init
 unfold Az;by_cases h:a<b
 ·simp -implicitDefEqProofs[jJ,-natCast_add,-natCast_mul,h]
 ·by_cases h2:b<a
  ·simp -implicitDefEqProofs[jJ,-natCast_add,-natCast_mul,h,h2]
  ·simp -implicitDefEqProofs[jJ,-natCast_add,-natCast_mul,h,h2]
def Fct.Val(f:Fct):Prop:=f.kind=9→BR f.neg f.abs f.den=true
theorem Fct.Val.num{f:Fct}(h:f.Val)(hm:f.Mild):f.Num:=fun h9=>(C7 (h h9) hm.oa hm.od).2.2.1
theorem Fct.Rt.val{f:Fct}(h:f.Rt):f.Val:=fun h9=>by
 have:=h.parts.2.2.2
 rwa [if_pos h9]at this
theorem Ux{x y:List Int}{i:Nat}(hx:i≤x.length)(hy:i≤y.length)(h:i=x.length∨i=y.length):AL (x.drop i) (y.drop i)=Az x.length y.length:=by
 unfold Az;rcases h with h|h
 ·subst h;rw[List.drop_length,Ue,List.length_drop];by_cases h2:x.length<y.length
  ·rw[if_pos (by omega),if_pos (by omega)]
  ·rw[if_neg (by omega),if_neg (by omega),if_neg (by omega)]
 ·subst h;by_cases h2:y.length<x.length
  ·rw[if_neg (by omega),if_pos (by omega),AD h2,List.drop_length]
   rfl
  ·rw[if_neg (by omega),if_neg (by omega),List.drop_length,B7 (by omega)]
   rfl
theorem Ot(f g:Fct)(hf:f.Mild)(hg:g.Mild)(nf:f.Val)(ng:g.Val):CallsF Tryz.prog 43 [.agg f.ds,.agg g.ds] (.u (.c (.d (.int .i64 (Aw f g))))):=by
 have z:=cmpK_zero (a:=f) (b:=g);have e1:=L8 f g;have e2:=Fg f.kind g.kind;have e3:=Nb f.args g.args;rw[NB];obtain⟨k,a,n,m,d⟩:=f;obtain⟨k',a',n',m',d'⟩:=g;obtain⟨la,ld,oa,od,ln⟩:=hf;obtain⟨la',ld',oa',od',ln'⟩:=hg;simp only[Fct.Val,Fct.ds,Hc]at*;generalize cmpK ⟨k,a,n,m,d⟩ ⟨k',a',n',m',d'⟩=c at*;refine Ae (T:=tb) Ad mixed Tryz.func43 rfl (by decide) (Ac rfl) rfl ?_;unfold St.init
 by_cases hk:k=k'
 ·rw[if_neg (by simp[e2.2 hk])]at e1
  subst e1;simp -implicitDefEqProofs[jJ,-natCast_add,-natCast_mul,hk];refine Av (fun i:Nat=>⟨[(5,vI .i64 i),(2,vC (.ptr 2 0)),(3,vC (.ptr 3 0))],[(3,.box [.d (.int .i64 k'),.d (intsD a'),.d (.bool n'),.d (Ab m'),.d (Ab d')]),(2,.box [.d (.int .i64 k),.d (intsD a),.d (.bool n),.d (Ab m),.d (Ab d)])]⟩)
   (fun i=>i≤a.length∧i≤a'.length∧AL (a.drop i) (a'.drop i)=AL a a') (fun i=>a.length - i) 0 (by simp[hk]) ⟨by omega,by omega,rfl⟩ ?_
  rintro i ⟨h1,h2,h3⟩
  by_cases h:i<a.length
  ·by_cases h':i<a'.length
   ·have e4:=WJ h h';have e5:=Fg a[i] a'[i];have o:=J0 a[i] a'[i];by_cases h0:a[i]=a'[i]
    ·rw[if_pos (e5.2 h0)]at e4
     simp -implicitDefEqProofs[jJ,-natCast_add,-natCast_mul,h,h'];refine Af SU UQ (by rfl) ?_
     simp -implicitDefEqProofs[jJ,-natCast_add,-natCast_mul,h,h',i64,h0];exact⟨by omega,⟨by omega,by omega,by rw[←e4,h3]⟩,by omega⟩
    ·have h5:Az a[i] a'[i]≠0:=fun q=>h0 (e5.1 q)
     rw[if_neg h5,h3]at e4
     simp -implicitDefEqProofs[jJ,-natCast_add,-natCast_mul,h,h'];refine Af SU UQ (by rfl) ?_
     simp -implicitDefEqProofs[jJ,-natCast_add,-natCast_mul,h,h',i64,h0];refine Af (Aj [0,1,0,7,15,0,32,0,224,480,1023,2047]) [.any [] [] (Ao [[2],[41],[5],[42,43],[44],[3],[46],[5],[47,48],[49]]),.one,.one] (by rfl) ?_
     simp -implicitDefEqProofs[jJ,-natCast_add,-natCast_mul,h,h',i64,h0];refine Aa o ?_;simp -implicitDefEqProofs[jJ,-natCast_add,-natCast_mul,e4,h5]
   ·have e4:=Ux h1 h2 (.inr (by omega))
    rw[h3]at e4
    have o:=J0 a.length a'.length;have hn: ¬a.length=a'.length:=by omega
    have h5:Az (a.length:Int) a'.length≠0:=fun q=>hn (by have:=(Fg _ _).1 q;omega)
    simp -implicitDefEqProofs[jJ,-natCast_add,-natCast_mul,h,h',hn];refine Aa o ?_;simp -implicitDefEqProofs[jJ,-natCast_add,-natCast_mul,e4,h5]
  ·have e4:=Ux h1 h2 (.inl (by omega))
   rw[h3]at e4
   by_cases hn:a.length=a'.length
   ·have h5:Az (a.length:Int) a'.length=0:=(Fg _ _).2 (by omega)
    rw[h5]at e4
    have h'': ¬i<a'.length:=by omega
    by_cases h9:k=9
    ·have h9':k'=9:=by omega
     obtain⟨p1,p2,p3,p4,p5⟩:=C7 (nf h9) oa od
     obtain⟨q1,q2,q3,q4,q5⟩:=C7 (ng h9') oa' od'
     have l1:=oa.lt64 la;have l2:=od.lt64 ld;have l3:=oa'.lt64 la';have l4:=od'.lt64 ld';have r:=MF n n' (val m) (val d) (val m') (val d') (by omega) (by omega) p3 p4 (by omega) (by omega) q3 q4
     rw[←p1,←p2,←q1,←q2]at r
     simp -implicitDefEqProofs[jJ,-natCast_add,-natCast_mul,h,h'',hn,h9,h9'];refine Aa r ?_;simp -implicitDefEqProofs[jJ,-natCast_add,-natCast_mul,e4,h9]
    ·have h9': ¬k'=9:=by omega
     simp -implicitDefEqProofs[jJ,-natCast_add,-natCast_mul,h,h'',hn,h9,h9',e4,hk]
   ·have o:=J0 a.length a'.length;have h5:Az (a.length:Int) a'.length≠0:=fun q=>hn (by have:=(Fg _ _).1 q;omega)
    simp -implicitDefEqProofs[jJ,-natCast_add,-natCast_mul,h,hn];refine Aa o ?_;simp -implicitDefEqProofs[jJ,-natCast_add,-natCast_mul,e4,h5]
 ·have hz:Az k k'≠0:=fun q=>hk (e2.1 q)
  rw[if_pos hz]at e1
  subst e1;have o:=J0 k k';simp -implicitDefEqProofs[jJ,-natCast_add,-natCast_mul,hk];refine Aa o ?_;simp -implicitDefEqProofs[jJ,-natCast_add,-natCast_mul,hz]
theorem JL(f g:Fct)(hf:f.Mild)(hg:g.Mild)(nf:f.Val)(ng:g.Val):CallsF Tryz.prog 26 [.agg f.ds,.agg g.ds] (.u (.c (.d (.bool (decide (Aw f g=0)))))):=by
 have k:=Ot f g hf hg nf ng;clear hf hg nf ng;simp only[Fct.ds]at*;refine Ae (T:=tb) Ad mixed Tryz.func26 rfl (by decide) (Ac rfl) rfl ?_;unfold St.init
 simp -implicitDefEqProofs[jJ,-natCast_add,-natCast_mul];refine Aa k ?_;simp -implicitDefEqProofs[jJ,-natCast_add,-natCast_mul]
theorem H7(k:Int)(l:List Int):CallsF Tryz.prog 25 [.c (.int .i64 k),.c (intsD l)] (Fct.mk k l false [] []).res:=by
 refine Ae (T:=tb) Ad mixed Tryz.func25 rfl (by decide) (Ac rfl) rfl ?_;unfold St.init
 simp -implicitDefEqProofs[jJ,-natCast_add,-natCast_mul,Fct.res];rfl
deriving instance DecidableEq for Fnd
def ex1:Fct:=⟨5,[3,1,2],false,[],[]⟩
def ex2:Fct:=⟨5,[4,0,2],false,[],[]⟩
def ex3:Fct:=⟨1,[0,1,2],false,[],[]⟩
def ex4:Fct:=⟨4,[0,1,0,2],false,[],[]⟩
def ex5:Fct:=⟨5,[0,2,1],false,[],[]⟩
def IA:Fct:=⟨5,[0,1,2],false,[],[]⟩
def exP:Fct:=⟨2,[0,1,3,4],false,[],[]⟩
def KS:Fct:=⟨9,[0,1,3,4],false,limbs 4,limbs 1⟩
theorem ex1_rt:ex1.Rt:=Ev (by decide) (by decide) (by decide) (by decide)
theorem ex2_rt:ex2.Rt:=Ev (by decide) (by decide) (by decide) (by decide)
theorem ex3_rt:ex3.Rt:=Ev (by decide) (by decide) (by decide) (by decide)
theorem ex4_rt:ex4.Rt:=Ev (by decide) (by decide) (by decide) (by decide)
theorem ex5_rt:ex5.Rt:=Ev (by decide) (by decide) (by decide) (by decide)
theorem exP_rt:exP.Rt:=Ev (by decide) (by decide) (by decide) (by decide)
theorem Jf{f:Fct}(h:f.Rt):normF f=normG f:=by unfold normF;rw[if_pos h.ok]
theorem jcY:normF ex1=ex1:=by rw[Jf ex1_rt];decide
theorem jgY:normF ex2=ex2:=by rw[Jf ex2_rt];decide
theorem jgd:normF ex3=ex3:=by
 have h:normF ex3=⟨1,BE [0,1,2],false,[],[]⟩:=by
  rw[Jf ex3_rt];rfl
 rw[h,Hy];rfl
theorem jbL:normF ex4=ex4:=by rw[Jf ex4_rt];decide
theorem jg8:normF ex5=IA:=by rw[Jf ex5_rt];decide
theorem je2:Gn (rulT 6) [ex1,ex2]=[⟨exP,[]⟩,⟨KS,[]⟩]:=by
 rw[VV]
 decide+kernel
theorem jaY:Gn (rulT 28) [ex3,ex4]=[⟨IA,[⟨1,[1,2]⟩]⟩]:=by
 rw[VV]
 decide+kernel
theorem jhp:CG 6 [ex1,ex2]=[⟨exP,[]⟩,⟨KS,[]⟩]:=by
 unfold CG;rw[if_neg (by decide)]
 simp only[List.map_cons,List.map_nil,jcY,jgY];rw[if_neg (by decide)]
 exact je2
theorem jex:CG 28 [ex3,ex4]=[⟨IA,[⟨1,[1,2]⟩]⟩]:=by
 unfold CG;rw[if_neg (by decide)]
 simp only[List.map_cons,List.map_nil,jgd,jbL];rw[if_neg (by decide)]
 exact jaY
theorem OH(n:Int)(ps:List Fct)(hps: ∀f∈ps,f.Mild)(h3:ps.length≤3):FndOk (CG n ps)∧(CG n ps).length≤100000000000:=by
 unfold CG;split
 ·exact⟨.nil,by simp⟩
 split
 ·exact⟨.nil,by simp⟩
 ·rename_i h0 hz
  have hrt: ∀f∈ps.map normF,f.Rt:=fun f hf=>by
   obtain⟨g,hg,rfl⟩:=jzk.1 hf
   refine Ca (hps g hg) fun hk=>hz (List.any_eq_true.2 ⟨_,hf,by simpa using hk⟩)
  have hP:=Jw _ (Ih n) _ hrt;have hl:=Vl _ (Ih n) _ hrt (by simpa using h3)
  have hok:=G7 (nl:=ps.map normF) _ [] .nil hP;have hlen:=Ip (ps.map normF) (saysP (rulT n) (ps.map normF)) [];unfold Gn;refine⟨⟨fun x hx=>hok.rt x ((DV _).mem_iff.1 hx),fun x hx=>hok.sh x ((DV _).mem_iff.1 hx),?_⟩,?_⟩
  ·exact((DV _).pairwise_iff (fun h=>Ne.symm h)).2 hok.nd
  ·rw[I0]
   simp at hlen;omega
theorem L0(n:Int)(ps:List Fct)(hps: ∀f∈ps,f.Mild)(hd:(rulT n).derive= .nilFn)(hcn:(rulT n).count=((rulT n).prem.length:Int))(hl:ps.length≤1099511627776):
  CallsF Tryz.prog 29 [.c (.int .i64 n),.c (AE ps)] (.u (.c (.d (BQ (CG n ps))))):=by
 have q:=(Zv n ps hps hd hcn hl).dat;simp only[R.dat,RU.dat,RC.dat]at q;rw[IV]at q;exact q
theorem TX:CallsF Tryz.prog 9 [] (.u (.c (.d (.bool true)))):=by
 have o1:CallsF Tryz.prog 25 [.c (.int .i64 5),.c (.slice 3 [.int .i64 3,.int .i64 1,.int .i64 2])] ex1.res:=H7 5 [3,1,2];have o2:CallsF Tryz.prog 25 [.c (.int .i64 5),.c (.slice 3 [.int .i64 4,.int .i64 0,.int .i64 2])] ex2.res:=H7 5 [4,0,2];have o3:CallsF Tryz.prog 25 [.c (.int .i64 1),.c (.slice 3 [.int .i64 0,.int .i64 1,.int .i64 2])] ex3.res:=H7 1 [0,1,2];have o4:CallsF Tryz.prog 25 [.c (.int .i64 4),.c (.slice 4 [.int .i64 0,.int .i64 1,.int .i64 0,.int .i64 2])] ex4.res:=H7 4 [0,1,0,2];have o5:CallsF Tryz.prog 25 [.c (.int .i64 5),.c (.slice 3 [.int .i64 0,.int .i64 2,.int .i64 1])] ex5.res:=H7 5 [0,2,1];have oP:CallsF Tryz.prog 25 [.c (.int .i64 2),.c (.slice 4 [.int .i64 0,.int .i64 1,.int .i64 3,.int .i64 4])] exP.res:=H7 2 [0,1,3,4];have hm6: ∀f∈[ex1,ex2],f.Mild:=by intro f hf;simp at hf;rcases hf with rfl|rfl;exact ex1_rt.mild;exact ex2_rt.mild
 have hm28: ∀f∈[ex3,ex4],f.Mild:=by intro f hf;simp at hf;rcases hf with rfl|rfl;exact ex3_rt.mild;exact ex4_rt.mild
 have f6:=L0 6 [ex1,ex2] hm6 rfl rfl (by decide)
 have f28:=L0 28 [ex3,ex4] hm28 rfl rfl (by decide)
 have k6:=OH 6 [ex1,ex2] hm6 (by decide)
 have k28:=OH 28 [ex3,ex4] hm28 (by decide)
 have a6:=Sn 6 [ex1,ex2] _ k6.1 k6.2 f6;have a28:=VK 28 [ex3,ex4] ex5 ex5_rt.mild _ k28.1 k28.2 f28;rw[jhp]at a6;rw[jex,jg8]at a28;have u:BV (BX [⟨exP,[]⟩,⟨KS,[]⟩])=[]:=by decide
 have v:Ej [⟨IA,[⟨1,[1,2]⟩]⟩] IA=([⟨1,[1,2]⟩],true):=by decide
 rw[u]at a6
 rw[if_neg (by decide),v]at a28
 have eP:=JL exP exP exP_rt.mild exP_rt.mild exP_rt.val exP_rt.val;rw[(Et exP_rt exP_rt).2 rfl]at eP;have f4:=GZ 4 (by omega)
 have e4:=TO false false 4 1 4 1 (by omega) (by omega) (by omega) (by decide) (by omega) (by omega) (by omega) (by decide)
 have cc:=jay;clear u v k6 k28 f6 f28 hm6 hm28;simp only[ex1,ex2,ex3,ex4,ex5,exP,KS,Fct.ds,Fct.res,AE,grdsD,factsL,List.map_cons,List.map_nil,List.flatMap_cons,List.flatMap_nil,List.append_nil,List.cons_append,List.nil_append,List.length_cons,List.length_nil,Grd.ds,Nat.zero_add,Nat.reduceAdd]at*;refine Ae (T:=tb) Ad mixed Tryz.func9 rfl (by decide) (Ac rfl) rfl ?_;unfold St.init
 simp -implicitDefEqProofs[jJ,-natCast_add,-natCast_mul];refine Aa o1 ?_;simp -implicitDefEqProofs[jJ,-natCast_add,-natCast_mul];refine Aa o2 ?_;simp -implicitDefEqProofs[jJ,-natCast_add,-natCast_mul];refine Aa a6 ?_;simp -implicitDefEqProofs[jJ,-natCast_add,-natCast_mul];refine Af (Aj [0,1,3,7,15,31,63,127,255,511,1023,2047,4095,8191,16383,32767,8191,73727,262143,524287,1048575,2097151,4194303,8388607,16777215,33554431,67108863,134217727,268435455,536870911,1073741823,2147483647,4294967295,536870911,17179869183,34359738367,68719476735]) [.one,.one,.one,.one,.one,.one,.one,.one,.one,.one,.one,.one,.one,.any [] [30] [⟨0,[1,26],[],[30],[]⟩,⟨0,[27,26],[],[30],[]⟩,⟨0,[28,26],[],[30],[]⟩,⟨4,[26],[],[],[]⟩,⟨0,[30,26],[],[],[]⟩],.one,.one,.one,.one,.one,.one,.one,.one,.one,.one,.one,.any [] [] (Ao [[1,42],[43,42],[44,42],[45,42],[42]]),.one,.one,.one] (by rfl) ?_
 simp -implicitDefEqProofs[jJ,-natCast_add,-natCast_mul];refine Aa cc ?_;simp -implicitDefEqProofs[jJ,-natCast_add,-natCast_mul];refine Al oP ?_;simp -implicitDefEqProofs[jJ,-natCast_add,-natCast_mul];refine Aa eP ?_;simp -implicitDefEqProofs[jJ,-natCast_add,-natCast_mul];refine Al f4 ?_;simp -implicitDefEqProofs[jJ,-natCast_add,-natCast_mul];refine Aa e4 ?_;simp -implicitDefEqProofs[jJ,-natCast_add,-natCast_mul];refine Aa o3 ?_;simp -implicitDefEqProofs[jJ,-natCast_add,-natCast_mul];refine Aa o4 ?_;simp -implicitDefEqProofs[jJ,-natCast_add,-natCast_mul];refine Aa o5 ?_;simp -implicitDefEqProofs[jJ,-natCast_add,-natCast_mul];refine Aa a28 ?_;simp -implicitDefEqProofs[jJ,-natCast_add,-natCast_mul,i64]
end Go.Va
