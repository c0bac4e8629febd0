/- a part of the proof -/
import Derived.Test.YtkfdniccmcolgaaGreatWbr
import Derived.Test.YtkfdniccmcolgaaGreatWbc
set_option linter.all false
set_option maxHeartbeats 4000000
set_option maxRecDepth 100000
namespace Go.Va
theorem Vy: ∀a b:List Grd,a.length=b.length→GJ a b=decide (Bx a b<0)
 |[],[],_=>rfl
 |[],_::_,h=>by simp at h
 |_::_,[],h=>by simp at h
 |a::l,b::m,h=>by
  have ih:=Vy l m (by simpa using h)
  rw[GJ,Bx]
  by_cases h0:cmpGd a b=0
  ·have h1:cmpG a b=0:=cmpG_zero.2 (cmpGd_zero.1 h0)
   rw[if_pos h0,if_neg (by omega),ih]
  ·have h1:cmpG a b≠0:=fun h=>h0 (cmpGd_zero.2 (cmpG_zero.1 h))
   rw[if_neg h0,if_pos h1]
   exact decide_eq_decide.2 (O3 a b)
theorem W0(a b:List Grd):JZ a b=BF a b:=by
 unfold JZ BF;by_cases h:a.length=b.length
 ·rw[if_pos h,if_neg (by omega),Vy a b h]
 ·rw[if_neg h,if_pos h]
def BL(F:Fct)(g:List Grd):List Fnd→List Fnd
 |[]=>[⟨F,g⟩]
 |x::l=>if Aw x.fact F<0 then x::BL F g l else if Aw x.fact F=0 then (if BF g x.grds then ⟨x.fact,g⟩::l else x::l) else ⟨F,g⟩::x::l
def noteR(nl:List Fct)(l:List Fnd)(f:Fct)(g:List Grd):List Fnd:=if Dd (normF f)=true∨CH (normF f) nl=true then l else BL (normF f) g l
def AE(nl:List Fct)(l:List Fnd)(Q:List AR):List Fnd:=Q.foldl (fun l x=>noteR nl l x.1 x.2) l
def StrN(l:List Fnd):Prop:=l.Pairwise fun a b=>Aw a.fact b.fact<0
theorem Ke{F:Fct}(hF:F.Rt)(g:List Grd): ∀{l:List Fnd},(∀x∈l,x.fact.Rt)→StrN l→ ∀x,x∈BL F g l↔(x∈l∧x.fact≠F)∨(x.fact=F∧((∃y∈l,y.fact=F∧x.grds=if BF g y.grds then g else y.grds)∨((∀y∈l,y.fact≠F)∧x.grds=g)))
 |[],_,_,x=>by
  obtain⟨f,gs⟩:=x
  simp[BL,Fnd.mk.injEq]
 |y::l,hl,hs,x=>by
  unfold StrN at hs;rw[List.pairwise_cons]at hs;have hy:=hl y (by simp)
  have hl':=fun z hz=>hl z (List.mem_cons_of_mem y hz)
  have ih:=Ke hF g hl' hs.2 x;have ne_of: ∀{a b:Fct},a.Rt→Aw a b<0→a≠b:=fun {a b} ha h e=>by
   subst e;have:=isCmp_F.self ha.num;omega
  unfold BL;by_cases h1:Aw y.fact F<0
  ·rw[if_pos h1,jzn,ih]
   have hyF:=ne_of hy h1
   constructor
   ·rintro (rfl|⟨h,hn⟩|⟨hf,⟨z,hz,h⟩|⟨h,hg⟩⟩)
    ·exact .inl ⟨by simp,hyF⟩
    ·exact .inl ⟨by simp[h],hn⟩
    ·exact .inr ⟨hf,.inl ⟨z,by simp[hz],h⟩⟩
    ·exact .inr ⟨hf,.inr ⟨fun z hz=>by rcases jzn.1 hz with rfl|hz;exact hyF;exact h z hz,hg⟩⟩
   ·rintro (⟨h,hn⟩|⟨hf,⟨z,hz,he,h⟩|⟨h,hg⟩⟩)
    ·rcases jzn.1 h with rfl|h
     ·exact .inl rfl
     ·exact .inr (.inl ⟨h,hn⟩)
    ·rcases jzn.1 hz with rfl|hz
     ·exact absurd he hyF
     ·exact .inr (.inr ⟨hf,.inl ⟨z,hz,he,h⟩⟩)
    ·exact .inr (.inr ⟨hf,.inr ⟨fun z hz=>h z (by simp[hz]),hg⟩⟩)
  ·rw[if_neg h1]
   by_cases h0:Aw y.fact F=0
   ·rw[if_pos h0]
    have hyF:y.fact=F:=(Et hy hF).1 h0
    have hne: ∀z∈l,z.fact≠F:=fun z hz e=>ne_of hy (hs.1 z hz) (hyF.trans e.symm)
    have e:(if BF g y.grds then (⟨y.fact,g⟩:Fnd)::l else y::l)=⟨F,if BF g y.grds then g else y.grds⟩::l:=by
     split
     ·rw[hyF]
     ·rw[←hyF]
    rw[e,jzn]
    obtain⟨f,gs⟩:=x
    simp only[Fnd.mk.injEq]
    constructor
    ·rintro (⟨rfl,rfl⟩|h)
     ·exact .inr ⟨rfl,.inl ⟨y,by simp,hyF,rfl⟩⟩
     ·exact .inl ⟨by simp[h],hne _ h⟩
    ·rintro (⟨h,hn⟩|⟨hf,⟨z,hz,he,h⟩|⟨h,hg⟩⟩)
     ·rcases jzn.1 h with rfl|h
      ·exact absurd hyF hn
      ·exact .inr h
     ·rcases jzn.1 hz with rfl|hz
      ·exact .inl ⟨hf,h⟩
      ·exact absurd he (hne z hz)
     ·exact absurd hyF (h y (by simp))
   ·rw[if_neg h0]
    have hFy:Aw F y.fact<0:=by
     have:=isCmp_F.anti y.fact F hy.num hF.num
     omega
    have hyF:y.fact≠F:=fun e=>ne_of hF hFy e.symm
    have hne: ∀z∈l,z.fact≠F:=fun z hz e=>by
     have h3:=hs.1 z hz;rw[e]at h3;have:=isCmp_F.anti y.fact F hy.num hF.num;omega
    obtain⟨f,gs⟩:=x
    simp only[jzn,Fnd.mk.injEq]
    constructor
    ·rintro (⟨rfl,rfl⟩|rfl|h)
     ·exact .inr ⟨rfl,.inr ⟨fun z hz=>by rcases hz with rfl|hz;exact hyF;exact hne z hz,rfl⟩⟩
     ·exact .inl ⟨.inl rfl,hyF⟩
     ·exact .inl ⟨.inr h,hne _ h⟩
    ·rintro (⟨rfl|h,hn⟩|⟨hf,⟨z,rfl|hz,he,h⟩|⟨h,hg⟩⟩)
     ·exact .inr (.inl rfl)
     ·exact .inr (.inr h)
     ·exact absurd he hyF
     ·exact absurd he (hne z hz)
     ·exact .inl ⟨hf,hg⟩
theorem NV{F:Fct}(hF:F.Rt)(g:List Grd): ∀{l:List Fnd},(∀x∈l,x.fact.Rt)→StrN l→StrN (BL F g l)
 |[],_,_=>by simp[BL,StrN]
 |y::l,hl,hs=>by
  have hmem:=Ke hF g (fun z hz=>hl z (List.mem_cons_of_mem y hz)) (List.pairwise_cons.1 hs).2
  unfold StrN at hs;have hs':=List.pairwise_cons.1 hs;have hy:=hl y (by simp)
  have hl':=fun z hz=>hl z (List.mem_cons_of_mem y hz)
  unfold BL;by_cases h1:Aw y.fact F<0
  ·rw[if_pos h1]
   refine List.pairwise_cons.2 ⟨fun x hx=> ?_,NV hF g hl' hs'.2⟩
   rcases (hmem x).1 hx with⟨h,_⟩|⟨h,_⟩
   ·exact hs'.1 x h
   ·rw[h];exact h1
  ·rw[if_neg h1]
   by_cases h0:Aw y.fact F=0
   ·rw[if_pos h0]
    split
    ·exact List.pairwise_cons.2 ⟨fun x hx=>hs'.1 x hx,hs'.2⟩
    ·exact hs
   ·rw[if_neg h0]
    have hFy:Aw F y.fact<0:=by
     have:=isCmp_F.anti y.fact F hy.num hF.num
     omega
    refine List.pairwise_cons.2 ⟨fun x hx=> ?_,hs⟩
    rcases jzn.1 hx with rfl|hx
    ·exact hFy
    ·have h2:=hs'.1 x hx;have t:=isCmp_F.tr F y.fact x.fact hF.num hy.num (hl' x hx).num (by omega) (by omega)
     have:Aw F x.fact≠0:=fun h=>by have:=(t.2 h).1;omega
     show Aw F x.fact<0
     omega
theorem StrN.nd{l:List Fnd}(hl: ∀x∈l,x.fact.Rt)(h:StrN l):l.Pairwise fun x y=>x.fact≠y.fact:=by
 refine List.Pairwise.imp_of_mem (fun {a b} ha hb h he=> ?_) h
 rw[he]at h
 have:=isCmp_F.self (hl b hb).num
 omega
theorem Y5{F:Fct}(hF:F.Rt){g:List Grd}(hg:g.length≤10∧ ∀x∈g,x.Short){l:List Fnd}(hl:FndOk l)(hs:StrN l):FndOk (BL F g l):=by
 have hmem:=Ke hF g hl.rt hs;have rt: ∀x∈BL F g l,x.fact.Rt:=fun x hx=>by
  rcases (hmem x).1 hx with⟨h,_⟩|⟨h,_⟩
  ·exact hl.rt x h
  ·rw[h];exact hF
 refine⟨rt,fun x hx=> ?_,(NV hF g hl.rt hs).nd rt⟩
 rcases (hmem x).1 hx with⟨h,_⟩|⟨_,⟨y,hy,_,e⟩|⟨_,e⟩⟩
 ·exact hl.sh x h
 ·rw[e]
  split
  ·exact hg
  ·exact hl.sh y hy
 ·rw[e];exact hg
theorem XL{nl:List Fct}{P:List AR}{l:List Fnd}(hl:FndOk l)(hs:StrN l)(h:Least nl P l)(x:AR)(hx:(normF x.1).Rt):Least nl (P++[x]) (noteR nl l x.1 x.2):=by
 have up: ∀{f g},Dc nl P f g→Dc nl (P++[x]) f g:=fun⟨⟨y,hy,e⟩,h⟩=>⟨⟨y,List.mem_append_left _ hy,e⟩,h⟩
 have dn: ∀{f g},Dc nl (P++[x]) f g→Dc nl P f g∨(normF x.1=f∧x.2=g):=fun⟨⟨y,hy,e⟩,h⟩=>by
  rcases List.mem_append.1 hy with hy|hy
  ·exact .inl ⟨⟨y,hy,e⟩,h⟩
  ·rw[List.mem_singleton]at hy;subst hy;exact .inr e
 unfold noteR;by_cases hsk:Dd (normF x.1)=true∨CH (normF x.1) nl=true
 ·rw[if_pos hsk]
  refine⟨fun y hy=>up (h.sub y hy),fun f g hf=> ?_⟩
  rcases dn hf with hf'|⟨rfl,rfl⟩
  ·exact h.top f g hf'
  ·exact absurd (.inr hsk) hf.2
 ·rw[if_neg hsk]
  have k0: ¬((normF x.1).kind=0∨Dd (normF x.1)=true∨CH (normF x.1) nl=true):=by
   rintro (h0|h0)
   ·exact hx.parts.1 (by rw[h0];rfl)
   ·exact hsk h0
  have hin:Dc nl (P++[x]) (normF x.1) x.2:=⟨⟨x,by simp,rfl,rfl⟩,k0⟩
  have hmem:=Ke hx x.2 hl.rt hs;refine⟨fun y hy=> ?_,fun f g hf=> ?_⟩
  ·rcases (hmem y).1 hy with⟨h1,_⟩|⟨hf,⟨z,hz,hzf,e⟩|⟨_,e⟩⟩
   ·exact up (h.sub y h1)
   ·rw[hf,e]
    split
    ·exact hin
    ·have:=up (h.sub z hz)
     rw[hzf]at this
     exact this
   ·rw[hf,e];exact hin
  ·by_cases hfF:f=normF x.1
   ·subst hfF;rcases dn hf with hf'|⟨_,rfl⟩
    ·obtain⟨y,hy,e,he⟩:=h.top _ g hf'
     refine⟨⟨normF x.1,if BF x.2 y.grds then x.2 else y.grds⟩,(hmem _).2 (.inr ⟨rfl,.inl ⟨y,hy,e,rfl⟩⟩),rfl,?_⟩
     simp only;split
     ·rename_i h1
      rw[Bool.eq_false_iff]
      intro hc;have:=Tg hc h1;rw[he]at this;cases this
     ·exact he
    ·by_cases hex: ∃y∈l,y.fact=normF x.1
     ·obtain⟨y,hy,e⟩:=hex
      refine⟨⟨normF x.1,if BF x.2 y.grds then x.2 else y.grds⟩,(hmem _).2 (.inr ⟨rfl,.inl ⟨y,hy,e,rfl⟩⟩),rfl,?_⟩
      simp only;split
      ·exact LX _
      ·rename_i h1;simpa using h1
     ·exact⟨⟨normF x.1,x.2⟩,(hmem _).2 (.inr ⟨rfl,.inr ⟨fun y hy e=>hex ⟨y,hy,e⟩,rfl⟩⟩),rfl,LX _⟩
   ·rcases dn hf with hf'|⟨e,_⟩
    ·obtain⟨y,hy,e,he⟩:=h.top _ g hf'
     exact⟨y,(hmem y).2 (.inl ⟨hy,by rw[e];exact hfF⟩),e,he⟩
    ·exact absurd e.symm hfF
theorem jaP{nl:List Fct}{l:List Fnd}(hl:FndOk l)(hs:StrN l){f:Fct}{g:List Grd}(hf:(normF f).Rt)(hg:g.length≤10∧ ∀x∈g,x.Short):FndOk (noteR nl l f g)∧StrN (noteR nl l f g):=by
 unfold noteR;split
 ·exact⟨hl,hs⟩
 ·exact⟨Y5 hf hg hl hs,NV hf g hl.rt hs⟩
theorem VW{nl:List Fct}: ∀(Q P:List AR) (l:List Fnd),FndOk l→StrN l→Least nl P l→(∀x∈Q,(normF x.1).Rt∧x.2.length≤10∧ ∀g∈x.2,g.Short)→FndOk (AE nl l Q)∧StrN (AE nl l Q)∧Least nl (P++Q) (AE nl l Q)
 |[],P,l,hl,hs,h,_=>by rw[List.append_nil];exact⟨hl,hs,h⟩
 |x::Q,P,l,hl,hs,h,hQ=>by
  have hx:=hQ x (by simp)
  obtain⟨o1,o2⟩:=jaP (nl:=nl) hl hs hx.1 hx.2
  have:=VW Q (P++[x]) (noteR nl l x.1 x.2) o1 o2 (XL hl hs h x hx.1) fun y hy=>hQ y (by simp[hy])
  rw[List.append_assoc]at this
  exact this
theorem OE{nl:List Fct}{P Q:List AR}(hP: ∀x∈P,FY x)(hQ: ∀x∈Q,(normF x.1).Rt∧x.2.length≤10∧ ∀g∈x.2,g.Short)
  (h: ∀f g,(∃x∈P,normF x.1=f∧x.2=g)↔ ∃x∈Q,normF x.1=f∧x.2=g):CU DH (runF nl [] P)=AE nl [] Q:=by
 have l0:Least nl [] ([]:List Fnd):=⟨by simp,fun f g h=>by obtain⟨⟨x,hx,_⟩,_⟩:=h;cases hx⟩
 obtain⟨q1,q2,q3⟩:=VW (nl:=nl) Q [] [] .nil .nil l0 hQ
 rw[List.nil_append]at q3
 rw[jb2 (G7 P [] .nil hP) q1 (PC hP) q3 fun f g=>⟨fun⟨a,b⟩=>⟨(h f g).1 a,b⟩,fun⟨a,b⟩=>⟨(h f g).2 a,b⟩⟩]
 have hC:IsCmp (fun x=>x∈AE nl [] Q) DH:=⟨fun x y hx hy=>isCmp_F.rng _ _ (q1.rt x hx).num (q1.rt y hy).num,fun x y hx hy=>isCmp_F.anti _ _ (q1.rt x hx).num (q1.rt y hy).num,fun x y z hx hy hz=>isCmp_F.tr _ _ _ (q1.rt x hx).num (q1.rt y hy).num (q1.rt z hz).num⟩
 refine(Nt hC (fun x y hx hy h0=> ?_) (fun x hx=>hx) (List.Perm.refl _) ?_).symm
 ·have e:x.fact=y.fact:=(Et (q1.rt x hx) (q1.rt y hy)).1 h0
  obtain⟨i,hi,rfl⟩:=List.mem_iff_getElem.1 hx
  obtain⟨j,hj,rfl⟩:=List.mem_iff_getElem.1 hy
  have hp:=List.pairwise_iff_getElem.1 q1.nd;rcases Nat.lt_trichotomy i j with h1|h1|h1
  ·exact absurd e (hp i j hi hj h1)
  ·subst h1;rfl
  ·exact absurd e.symm (hp j i hj hi h1)
 ·exact List.Pairwise.imp (fun {a b} h=>by show Aw a.fact b.fact≤0;omega) q2
end Go.Va
namespace Go.Va
open Int (natCast_add natCast_mul natCast_emod natCast_ediv natCast_pow)
open Go.Proofs
def Ml:List (List Nat):=(Aj [0,1,3,7,7,23,63,127,7,7,775,1799,4095,8191])
@[simp]def L7:List Seg:=[.one,.one,.one,.any [] [] (Ao [[3,16],[5,16],[18,16],[17,19,16],[20,16],[0,16],[4,16],[22,23,16],[24,16]]),.one,.one]
def Wb:List (List Nat):=(Aj [0,0,0,6,15,0,0,96,224,480,1023,0,0,6144,16383,32767])
@[simp]def WM:List Seg:=[.any [] [30,34,39,40] [⟨1,[],[39],[34,39,40],[]⟩,⟨0,[3],[30,39],[30,34,39,40],[]⟩,⟨0,[5],[30,39],[30,34,39,40],[]⟩,⟨0,[31,32],[30,39],[30,34,39,40],[]⟩,⟨3,[30,33],[39],[39,40],[30]⟩,⟨0,[0],[30,34],[30,34,39,40],[]⟩,⟨0,[4],[30,34],[30,34,39,40],[]⟩,⟨0,[35,36],[30,34],[30,34,39,40],[]⟩,⟨0,[37],[30,34],[30,34,39,40],[]⟩,⟨1,[38],[30,34],[30,34,40],[]⟩,⟨3,[34,39],[],[],[34]⟩,⟨0,[3],[30,34,39,40],[30,34,39,40],[]⟩,⟨0,[5],[30,34,39,40],[30,34,39,40],[]⟩,⟨0,[41,42],[30,34,39,40],[30,34,39,40],[]⟩],.one,.one]
def SS:List (List Nat):=(Aj [0,0,3,7,15,15,0,95,255])
@[simp]def Vq:List Seg:=[.any [] [5] [⟨0,[],[5],[5],[]⟩,⟨0,[2],[5],[5],[]⟩,⟨0,[16,17],[5],[5],[]⟩,⟨0,[18],[5],[5],[]⟩,⟨0,[15],[5],[5],[]⟩,⟨0,[15],[5],[5],[]⟩,⟨1,[],[],[],[]⟩,⟨2,[5,19],[],[],[5]⟩],.one]
@[simp]theorem ji2:(D.slice 0 []=intsD [])=True:=eq_true rfl
@[simp]theorem nil_natD:(D.slice 0 []=Ab [])=True:=eq_true rfl
theorem UK{o:List Int}{x:Int}{p:Nat}(hs:o.Pairwise (· ≤ ·))(hlo: ∀j (hj:j<o.length),j<p→o[j]≤x)(hhi: ∀j (hj:j<o.length),p≤j→x<o[j]):(o.take p++x::o.drop p).Pairwise (· ≤ ·):=by
 have ht: ∀a∈o.take p,a≤x:=fun a ha=>by
  obtain⟨j,hj,rfl⟩:=List.mem_iff_getElem.1 ha
  rw[AG]at hj
  rw[List.getElem_take]
  exact hlo j (by omega) (by omega)
 have hd: ∀a∈o.drop p,x<a:=fun a ha=>by
  obtain⟨j,hj,rfl⟩:=List.mem_iff_getElem.1 ha
  rw[List.length_drop]at hj
  rw[List.getElem_drop]
  exact hhi _ (by omega) (by omega)
 rw[List.pairwise_append,List.pairwise_cons]
 refine⟨hs.sublist (List.take_sublist _ _),⟨fun b hb=>Int.le_of_lt (hd b hb),hs.sublist (List.drop_sublist _ _)⟩,fun a ha b hb=> ?_⟩
 rcases jzn.1 hb with rfl|hb
 ·exact ht a ha
 ·have:=ht a ha
  have:=hd b hb
  omega
theorem RG{o l:List Int}{i p:Nat}(h:i<l.length)(hp:o.Perm (l.take i)):(o.take p++l[i]::o.drop p).Perm (l.take (i+1)):=by
 rw[AQ h]
 refine List.perm_middle.trans ?_;rw[List.take_append_drop];exact(hp.cons _).trans (List.perm_append_comm (l₁:=[l[i]])).symm.symm
theorem UT(l:List Int)(hl:l.length≤1099511627776):CallsF Tryz.prog 116 [.c (intsD l)] (.u (.c (.d (intsD (BE l))))):=by
 refine Ae (T:=tb) Ad mixed Tryz.func116 rfl (by decide) (Ac rfl) rfl ?_;unfold St.init
 simp -implicitDefEqProofs[jJ,-natCast_add,-natCast_mul];refine BA [(3,44)] (fun x:Nat×Nat×List D=>⟨[(4,vI .i64 x.1),(3,vC (.sl 3 0 x.2.1)),(0,vC (.d (intsD l)))],[(3,.row 1 x.2.2 true)]⟩)
  (fun x=> ∃o:List Int,x.2.1=o.length∧x.2.2=o.map i64∧x.1≤l.length∧o.Perm (l.take x.1)∧o.Pairwise (· ≤ ·)) (fun x=>l.length - x.1) (0,0,[]) (by simp) ⟨[],by simp⟩ ?_
 rintro⟨i,n,cs⟩ ⟨o,hn,hc,h1,h2,h3⟩
 simp only at hn hc h1 h2 h3;subst hn hc;have hlen:=h2.length_eq;rw[AG,AU h1]at hlen;by_cases h:i<l.length
 ·simp -implicitDefEqProofs[jJ,-natCast_add,-natCast_mul,h];refine Av (fun k:Nat=>⟨[(5,vI .i64 k),(4,vI .i64 i),(3,vC (.sl 3 0 o.length)),(0,vC (.d (intsD l)))],[(3,.row 1 (o.map i64) true)]⟩)
   (fun k=>k≤o.length∧ ∀j (hj:j<o.length),k≤j→l[i]<o[j]) (fun k=>k) o.length (by simp) ⟨AA _,fun j hj hk=>by omega⟩ ?_
  rintro k ⟨g1,g2⟩
  cases k with
  |zero=>
   simp -implicitDefEqProofs[jJ,-natCast_add,-natCast_mul];refine Af Ml L7 (by rfl) ?_
   simp -implicitDefEqProofs[jJ,-natCast_add,-natCast_mul];refine Af Wb WM (by rfl) ?_
   simp -implicitDefEqProofs[jJ,-natCast_add,-natCast_mul,h,i64];refine⟨by omega,by omega,i+1,1+o.length,_,⟨⟨rfl,rfl⟩,rfl⟩,⟨l[i]::o,by simp;omega,rfl,by omega,?_,?_⟩,by omega⟩
   ·have:=RG (p:=0) h h2
    simpa using this
   ·have:=UK (x:=l[i]) (p:=0) h3 (fun j hj hlt=>by omega) (fun j hj hle=>g2 j hj hle)
    simpa using this
  |succ k=>
   have hk:k<o.length:=by omega
   have hb:k≤9223372036854775806:=by omega
   by_cases hgt:l[i]<o[k]
   ·simp -implicitDefEqProofs[jJ,-natCast_add,-natCast_mul,hb];refine Af Ml L7 (by rfl) ?_
    simp -implicitDefEqProofs[jJ,-natCast_add,-natCast_mul,h,hk,i64,hgt,hb];refine⟨by omega,by omega,fun j hj hkj=> ?_⟩
    by_cases e:j=k
    ·subst e;exact hgt
    ·exact g2 j hj (by omega)
   ·simp -implicitDefEqProofs[jJ,-natCast_add,-natCast_mul,hb];refine Af Ml L7 (by rfl) ?_
    simp -implicitDefEqProofs[jJ,-natCast_add,-natCast_mul,h,hk,i64,hgt,hb];refine⟨by omega,?_⟩
    refine Af Wb WM (by rfl) ?_
    simp -implicitDefEqProofs[jJ,-natCast_add,-natCast_mul,h,hk,i64,hgt,hb];have hd:(o.drop (k+1)).length=o.length - (k+1):=List.length_drop;have hlo: ∀j (hj:j<o.length),j<k+1→o[j]≤l[i]:=fun j hj hlt=>by
     by_cases e:j=k
     ·subst e;omega
     ·have:=List.pairwise_iff_getElem.1 h3 j k hj hk (by omega)
      omega
    refine⟨g1,by omega,by omega,by omega,g1,by omega,by omega,by omega,by omega,i+1,k+1+1+(o.length - (k+1)),_,⟨⟨rfl,rfl⟩,rfl⟩,⟨o.take (k+1)++l[i]::o.drop (k+1),?_,?_,by omega,RG h h2,UK h3 hlo g2⟩,by omega⟩
    ·simp
     omega
    ·rw[List.map_append,List.map_cons,List.map_take,List.map_drop,AI (i:=o.length - (k+1)) (by simp)]
     rfl
 ·have hi:i=l.length:=by omega
  subst hi;rw[AZ]at h2;have e:=Mj h2 h3;simp -implicitDefEqProofs[jJ,-natCast_add,-natCast_mul];rw[e]
theorem jem{l:List (Int×Int)}{i:Nat}(h:i<l.length):(D6 (l.take (i+1))).map i64=(D6 (l.take i)).map i64++[.int .i64 l[i].1,.int .i64 l[i].2]:=by
 rw[AQ h];unfold D6;rw[List.flatMap_append,List.map_append];rfl
theorem U4(l:List (Int×Int))(hl:l.length≤1099511627776):CallsF Tryz.prog 211 [.c (Du l)] (.u (.c (.d (intsD (D6 l))))):=by
 refine Ae (T:=tb) Ad mixed Tryz.func211 rfl (by decide) (Ac rfl) rfl ?_;unfold St.init
 simp -implicitDefEqProofs[jJ,-natCast_add,-natCast_mul];refine BA [(3,23)] (fun x:Nat×Nat×List D=>⟨[(4,vI .i64 x.1),(3,vC (.sl 3 0 x.2.1)),(0,vC (.d (Du l)))],[(3,.row 1 x.2.2 true)]⟩)
  (fun x=>x.1≤l.length∧x.2.1=x.1*2∧x.2.2=(D6 (l.take x.1)).map i64) (fun x=>l.length - x.1) (0,0,[]) (by simp) (by simp[D6]) ?_
 rintro⟨i,n,cs⟩ ⟨h1,h2,h3⟩
 simp only at h1 h2 h3;subst h2 h3;have e3:=OD (l.take i);rw[AG,AU h1]at e3;by_cases h:i<l.length
 ·have e:=jem h;have e2:=RW h;simp -implicitDefEqProofs[jJ,-natCast_add,-natCast_mul,h];refine Af (Aj [0,0,0,6,14,30,0,0,192,448,960,2046,4095,8191]) [.any [] [22] [⟨0,[3],[22],[22],[]⟩,⟨0,[0],[],[22],[]⟩,⟨0,[4],[],[22],[]⟩,⟨0,[12,13],[],[22],[]⟩,⟨0,[14],[],[22],[]⟩,⟨0,[15],[],[22],[]⟩,⟨0,[0],[],[22],[]⟩,⟨0,[4],[],[22],[]⟩,⟨0,[17,18],[],[22],[]⟩,⟨0,[19],[],[22],[]⟩,⟨0,[20],[],[22],[]⟩,⟨1,[16,21],[],[],[]⟩],.one,.one] (by rfl) ?_
  simp -implicitDefEqProofs[jJ,-natCast_add,-natCast_mul,h,e2,e3];exact⟨⟨by omega,by omega⟩,by omega,i+1,i*2+2,_,⟨⟨rfl,rfl⟩,rfl⟩,⟨by omega,by omega,by rw[e]⟩,by omega⟩
 ·have hi:i=l.length:=by omega
  subst hi;rw[AZ]at e3 ⊢;simp -implicitDefEqProofs[jJ,-natCast_add,-natCast_mul];rw[←e3,AI (by simp)]
  exact⟨by simp,by show D.slice _ _=D.slice _ _;simp⟩
theorem Ik(a b c d:Int):CallsF Tryz.prog 211 [.c (.slice 2 [.int .i64 a,.int .i64 b,.int .i64 c,.int .i64 d])] (.u (.c (.d (intsD [a,b,c,d])))):=U4 [(a,b),(c,d)] (by simp)
theorem Gj(a b c d e f g h:Int):CallsF Tryz.prog 211 [.c (.slice 4 [.int .i64 a,.int .i64 b,.int .i64 c,.int .i64 d,.int .i64 e,.int .i64 f,.int .i64 g,.int .i64 h])] (.u (.c (.d (intsD [a,b,c,d,e,f,g,h])))):=U4 [(a,b),(c,d),(e,f),(g,h)] (by simp)
theorem XI(a b c d:Int):AC (a,b) (c,d)<0↔a<c∨(a=c∧b<d):=by
 unfold AC Bm Bm Bm;simp only;rcases Dv a c with⟨h,e⟩|⟨h,e⟩|⟨h,e⟩<;>rcases Dv b d with⟨h',e'⟩|⟨h',e'⟩|⟨h',e'⟩<;>rw[e,e']<;>simp<;>omega
theorem jfe(p q:Int×Int):AC p q=0↔p=q:=by
 obtain⟨a,b⟩:=p
 obtain⟨c,d⟩:=q
 unfold AC Bm Bm Bm;simp only[Prod.mk.injEq];rcases Dv a c with⟨h,e⟩|⟨h,e⟩|⟨h,e⟩<;>rcases Dv b d with⟨h',e'⟩|⟨h',e'⟩|⟨h',e'⟩<;>rw[e,e']<;>simp<;>omega
theorem Jl(p q r s:Int×Int):Bm [AC p q,AC r s]<0↔AC p q<0∨(p=q∧AC r s<0):=by
 have:=jfe p q
 unfold Bm Bm Bm;by_cases h:AC p q=0
 ·rw[if_pos h]
  have e:=this.1 h;by_cases h2:AC r s=0
  ·rw[if_pos h2,h2,h];simp
  ·rw[if_neg h2,h];simp[e]
 ·rw[if_neg h]
  have e: ¬p=q:=fun e=>h (this.2 e)
  simp[e]
theorem CF(a b c d:Int):CallsF Tryz.prog 210 [.agg [.int .i64 a,.int .i64 b],.agg [.int .i64 c,.int .i64 d]] (.u (.c (.d (.bool (decide (AC (a,b) (c,d)<0)))))):=by
 have e:=XI a b c d;simp only[e];clear e;refine Ae (T:=tb) Ad mixed Tryz.func210 rfl (by decide) (Ac rfl) rfl ?_;unfold St.init
 by_cases h1:a<c
 ·simp -implicitDefEqProofs[jJ,-natCast_add,-natCast_mul,h1]
 ·by_cases h2:a=c
  ·subst h2;simp -implicitDefEqProofs[jJ,-natCast_add,-natCast_mul]
  ·simp -implicitDefEqProofs[jJ,-natCast_add,-natCast_mul,h1,h2]
def Kl(p q:Int×Int):Int×Bool:=if p.1=q.1∨p.1=q.2 then (p.1,true) else if p.2=q.1∨p.2=q.2 then (p.2,true) else (0,false)
theorem YJ(a b c d:Int):CallsF Tryz.prog 212 [.agg [.int .i64 a,.int .i64 b],.agg [.int .i64 c,.int .i64 d]] (.tup [.c (.d (.int .i64 (Kl (a,b) (c,d)).1)),.c (.d (.bool (Kl (a,b) (c,d)).2))]):=by
 unfold Kl;refine Ae (T:=tb) Ad mixed Tryz.func212 rfl (by decide) (Ac rfl) rfl ?_;unfold St.init
 by_cases h1:a=c
 ·simp -implicitDefEqProofs[jJ,-natCast_add,-natCast_mul,h1]
 ·by_cases h2:a=d
  ·simp -implicitDefEqProofs[jJ,-natCast_add,-natCast_mul,h1,h2]
  ·by_cases h3:b=c
   ·simp -implicitDefEqProofs[jJ,-natCast_add,-natCast_mul,h1,h2,h3]
   ·by_cases h4:b=d
    ·simp -implicitDefEqProofs[jJ,-natCast_add,-natCast_mul,h1,h2,h3,h4]
    ·simp -implicitDefEqProofs[jJ,-natCast_add,-natCast_mul,h1,h2,h3,h4]
theorem jaV(neg:Bool)(m e:Nat)(hm:m<18446744073709551616)(he:e<18446744073709551616)(e0:e≠0)(hg:Nat.gcd m e=1)(same:Bool):
  CallsF Tryz.prog 215 [.agg [.bool neg,Ab (limbs m),Ab (limbs e)],.c (.bool same)]
   (if same=true∧m≠0∧Az (toZ neg e*e) (toZ neg m*m)<0 then .u (.agg [.d (.bool neg),.d (Ab (limbs e)),.d (Ab (limbs m))]) else .u (.agg [.d (.bool neg),.d (Ab (limbs m)),.d (Ab (limbs e))])):=by
 have k1:=OB neg m e (by omega) (by omega) e0 hg
 have k2:=GZ 1 (by omega)
 have k3:=Lj neg m e (by omega) (by omega) e0 hg
 have k4:=fun m0=>MF neg neg e m m e (by omega) (by omega) m0 (by rw[Nat.gcd_comm];exact hg) (by omega) (by omega) e0 hg
 cases same
 ·rw[if_neg (by simp)]
  refine Ae (T:=tb) Ad mixed Tryz.func215 rfl (by decide) (Ac rfl) rfl ?_;unfold St.init
  simp -implicitDefEqProofs[jJ,-natCast_add,-natCast_mul]
 ·by_cases m0:m=0
  ·rw[if_neg (by simp[m0])]
   refine Ae (T:=tb) Ad mixed Tryz.func215 rfl (by decide) (Ac rfl) rfl ?_;unfold St.init
   simp -implicitDefEqProofs[jJ,-natCast_add,-natCast_mul];refine Aa k1 ?_;simp -implicitDefEqProofs[jJ,-natCast_add,-natCast_mul,EG,m0]
  ·rw[if_neg m0]at k3
   have k4:=k4 m0;by_cases hc:Az (toZ neg e*e) (toZ neg m*m)<0
   ·rw[if_pos ⟨rfl,m0,hc⟩]
    refine Ae (T:=tb) Ad mixed Tryz.func215 rfl (by decide) (Ac rfl) rfl ?_;unfold St.init
    simp -implicitDefEqProofs[jJ,-natCast_add,-natCast_mul];refine Aa k1 ?_;simp -implicitDefEqProofs[jJ,-natCast_add,-natCast_mul,EG,m0];refine Af SS Vq (by rfl) ?_
    simp -implicitDefEqProofs[jJ,-natCast_add,-natCast_mul];refine Al k2 ?_;simp -implicitDefEqProofs[jJ,-natCast_add,-natCast_mul];refine Al k3 ?_;simp -implicitDefEqProofs[jJ,-natCast_add,-natCast_mul];refine Aa k4 ?_;simp -implicitDefEqProofs[jJ,-natCast_add,-natCast_mul,hc]
   ·rw[if_neg (fun h=>hc h.2.2)]
    refine Ae (T:=tb) Ad mixed Tryz.func215 rfl (by decide) (Ac rfl) rfl ?_;unfold St.init
    simp -implicitDefEqProofs[jJ,-natCast_add,-natCast_mul];refine Aa k1 ?_;simp -implicitDefEqProofs[jJ,-natCast_add,-natCast_mul,EG,m0];refine Af SS Vq (by rfl) ?_
    simp -implicitDefEqProofs[jJ,-natCast_add,-natCast_mul];refine Al k2 ?_;simp -implicitDefEqProofs[jJ,-natCast_add,-natCast_mul];refine Al k3 ?_;simp -implicitDefEqProofs[jJ,-natCast_add,-natCast_mul];refine Aa k4 ?_;simp -implicitDefEqProofs[jJ,-natCast_add,-natCast_mul,hc]
end Go.Va
