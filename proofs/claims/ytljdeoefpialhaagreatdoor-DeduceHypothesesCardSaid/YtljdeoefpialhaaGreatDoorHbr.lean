/- a part of the proof -/
import Derived.Test.YtljdeoefpialhaaGreatDoorHbb
import Derived.Test.YtljdeoefpialhaaGreatDoorHbo
import Derived.Test.YtljdeoefpialhaaGreatDoorHbk
import Derived.Test.YtljdeoefpialhaaGreatDoorHbp
import Derived.Test.YtljdeoefpialhaaGreatDoorHbq
set_option linter.all false
set_option maxHeartbeats 4000000
set_option maxRecDepth 100000
namespace Go.Va
def D6(a:Int):List Int→List Int
 |[]=>[a]
 |b::l=>if a≤b then a::b::l else b::D6 a l
def E4:List Int→List Int
 |[]=>[]
 |a::l=>D6 a (E4 l)
theorem LU(a:Int): ∀l,(D6 a l).Perm (a::l)
 |[]=>List.Perm.refl _
 |b::l=>by
  unfold D6;split
  ·exact List.Perm.refl _
  ·exact((LU a l).cons b).trans (List.Perm.swap a b l)
theorem jdo: ∀l,(E4 l).Perm l
 |[]=>List.Perm.refl _
 |a::l=>(LU a _).trans ((jdo l).cons a)
theorem jcx(a:Int): ∀l:List Int,l.Pairwise (· ≤ ·)→(D6 a l).Pairwise (· ≤ ·)
 |[],_=>by simp[D6]
 |b::l,h=>by
  rw[List.pairwise_cons]at h
  unfold D6;split
  ·rename_i hab
   rw[List.pairwise_cons,List.pairwise_cons]
   refine⟨fun x hx=> ?_,h.1,h.2⟩
   rcases jzn.1 hx with rfl|hx
   ·exact hab
   ·have:=h.1 x hx;omega
  ·rename_i hab
   rw[List.pairwise_cons]
   refine⟨fun x hx=> ?_,jcx a l h.2⟩
   rcases jzn.1 ((LU a l).mem_iff.1 hx)with rfl|hx
   ·omega
   ·exact h.1 x hx
theorem jbN: ∀l:List Int,(E4 l).Pairwise (· ≤ ·)
 |[]=> .nil
 |a::l=>jcx a _ (jbN l)
theorem jlV(l:List Int):DX l=E4 l:=(jgA (jdo l) (jbN l)).symm
end Go.Va
namespace Go.Va
open Go.Proofs
def AT:D→Int| .int _ n=>n|_=>0
def Er(xs:List D):Option Fct:=
 match xs with
 |[.int _ k,.slice _ l,.bool b,.slice _ a,.slice _ d]=>
  if C2 xs (Fct.mk k (l.map AT) b (a.map fun x=>(AT x).toNat) (d.map fun x=>(AT x).toNat)).ds&&(C3 ⟨k,l.map AT,b,a.map fun x=>(AT x).toNat,d.map fun x=>(AT x).toNat⟩&&(decide (l.length≤8)&&(decide (a.length≤8)&&(decide (d.length≤8)&&((a.all fun x=>decide ((AT x).toNat<65536))&&d.all fun x=>decide ((AT x).toNat<65536)))))) then some ⟨k,l.map AT,b,a.map fun x=>(AT x).toNat,d.map fun x=>(AT x).toNat⟩ else none
 |_=>none
theorem JC{xs:List D}{f:Fct}(h:Er xs=some f):xs=f.ds∧f.Rt:=by
 unfold Er at h;split at h
 ·split at h
  ·rename_i k l b a d hc
   cases h;simp only[AR,decide_eq_true_eq,jzy]at hc
   obtain⟨h1,h2,h3,h4,h5,h6,h7⟩:=hc
   refine⟨Ed h1,⟨h2,⟨by simpa using h4,by simpa using h5,fun x hx=> ?_,fun x hx=> ?_,by simp;omega⟩⟩⟩
   ·obtain⟨y,hy,rfl⟩:=jzk.1 hx
    exact h6 y hy
   ·obtain⟨y,hy,rfl⟩:=jzk.1 hx
    exact h7 y hy
  ·cases h
 ·cases h
def Es(f:Fct):Fct:=if f.kind=1∨f.kind=6∨f.kind=8 then ⟨f.kind,E4 f.args,false,[],[]⟩ else normG f
theorem LQ(f:Fct):normG f=Es f:=by
 unfold Es;split
 ·rename_i h
  unfold normG;rw[if_neg (by omega),if_neg (by omega),if_neg (by omega),if_neg (by omega),if_neg (by omega),jlV]
 ·rfl
def Z5(b:Bool):R:= .u (.c (.d (.bool b)))
def X3(f:FuncId)(aa:List A):Option R:=
 match aa with
 |[.agg x]=>if f=23 then (Er x).map fun p=>(Es p).res else if f=24 then (Er x).map fun p=>Z5 (Gi p) else none
 |[.agg x,.agg y]=>(Er x).bind fun p=>(Er y).bind fun q=>if f=28 then some (.u (.c (.d (.int .i64 (Gs p q))))) else if f=12 then some (Z5 (decide (Gs (Es p) (Es q)=0))) else none
 |_=>none
theorem jh1(f:FuncId)(aa:List A)(r:R)(h:X3 f aa=some r):CallsF Tryz.prog f aa r:=by
 unfold X3 at h;split at h
 ·split at h
  ·rename_i x hf
   subst hf;obtain⟨p,hp,rfl⟩:=jze.1 h;obtain⟨rfl,hr⟩:=JC hp;have k:=ZD p hr.mild;unfold normF at k;rw[if_pos hr.ok,LQ]at k;exact k
  ·split at h
   ·rename_i x _ hf
    subst hf;obtain⟨p,hp,rfl⟩:=jze.1 h;obtain⟨rfl,hr⟩:=JC hp;exact VH p hr.mild
   ·cases h
 ·obtain⟨p,hp,h1⟩:=jzd.1 h
  obtain⟨q,hq,h2⟩:=jzd.1 h1
  clear h h1;obtain⟨rfl,hr⟩:=JC hp;obtain⟨rfl,hs⟩:=JC hq;by_cases hf:f=28
  ·rw[if_pos hf]at h2
   subst hf;cases h2;exact jbG p q hr.mild hs.mild (hr.val.num hr.mild) (hs.val.num hs.mild)
  ·rw[if_neg hf]at h2
   by_cases hg:f=12
   ·rw[if_pos hg]at h2
    subst hg;cases h2;have k:=jlW p q hr.mild hs.mild;unfold LP at k;rw[hr.ok,hs.ok,Bool.true_and,Bool.true_and,LQ,LQ]at k;exact k
   ·rw[if_neg hg]at h2
    cases h2
 ·cases h
theorem AM(l:List Nat)(h:l.all (fun x=>decide (x<65536))=true):Ok l:=fun x hx=>by simpa using jzy.1 h x hx
theorem AS{n:Nat}(h:n<10):Lib.decDigits n=[UInt8.ofNat (48+n)]:=by rw[Lib.decDigits,dif_pos h]
def D8:List Stp:=[⟨1,⟨#[65]⟩,[],false,[],[]⟩,⟨1,⟨#[66]⟩,[],false,[],[]⟩,⟨1,⟨#[67]⟩,[],false,[],[]⟩,⟨2,⟨#[77]⟩,[1,2],false,[1],[2]⟩,⟨2,⟨#[78]⟩,[0,2],false,[1],[2]⟩]
def Eo:List Fct:=[⟨2,[3,4,0,1],false,[],[]⟩]
theorem jaz:errFig D8 Eo=0:=by decide+kernel
theorem Hq: ∀s∈D8,s.Ok∧s.abs.length≤2∧s.den.length≤2:=by
 intro s hs;simp only[D8,jzn,E8,or_false]at hs;rcases hs with rfl|rfl|rfl|rfl|rfl<;>exact⟨⟨AM _ rfl,AM _ rfl,by simp,by simp⟩,by simp,by simp⟩
theorem jfS: ∀g∈Eo,g.Long∧g.abs.length≤4∧g.den.length≤4:=by
 intro g hg;simp only[Eo,jzn,E8,or_false]at hg;subst hg;exact⟨⟨AM _ rfl,AM _ rfl,by simp,by simp⟩,by simp,by simp⟩
theorem jfg:normL (allS D8)=[⟨5,[3,1,2],false,[],[]⟩,⟨5,[4,0,2],false,[],[]⟩]:=by decide+kernel
theorem jlO:CallsF Tryz.prog 6 [.agg [Bx D8,AQ Eo]] (.tup [.c (.own 5 2 ([⟨5,[3,1,2],false,[],[]⟩,⟨5,[4,0,2],false,[],[]⟩].flatMap Fct.ds)),.c (.d (.int .i64 0))]):=by
 have hr:=jjr D8 Eo (by decide) (by decide) (fun s hs=>⟨(Hq s hs).1,by have:=(Hq s hs).2.1;omega,by have:=(Hq s hs).2.2;omega⟩) jfS jaz
 have k:=jjA D8 Eo (by decide) (jcw (fun s hs=>(Hq s hs).1) jaz fun s hs=>(Hq s hs).2) hr C9
 rw[jfg]at k
 exact k
theorem AN{f:Fct}{s:ByteArray}(h:f.Rt)(e:Bn f=s):CallsF Tryz.prog 36 [.agg f.ds] (.u (.c (.d (.str s)))):=e ▸ C9 f h
theorem jlM:CallsF Tryz.prog 36 [.agg [eI 1,At,eO,eN,eN]] (.u (.c (.d (.str ⟨#[49,32,48,32,50,32,52]⟩)))):=AN (f:=⟨1,[0,2,4],false,[],[]⟩) (Fct.Rt.of (f:=⟨1,[0,2,4],false,[],[]⟩) ⟨by decide,by decide,AM _ (by decide),AM _ (by decide),by decide⟩ (by decide) (by decide) (by decide) (by decide)) (by simp[Bn,CI,BL,Bv,Bp,AS,val])
theorem jfX:CallsF Tryz.prog 36 [.agg [eI 1,As,eO,eN,eN]] (.u (.c (.d (.str ⟨#[49,32,49,32,50,32,51]⟩)))):=AN (f:=⟨1,[1,2,3],false,[],[]⟩) (Fct.Rt.of (f:=⟨1,[1,2,3],false,[],[]⟩) ⟨by decide,by decide,AM _ (by decide),AM _ (by decide),by decide⟩ (by decide) (by decide) (by decide) (by decide)) (by simp[Bn,CI,BL,Bv,Bp,AS,val])
theorem jjC:CallsF Tryz.prog 36 [.agg [eI 2,Af,eO,eN,eN]] (.u (.c (.d (.str ⟨#[50,32,48,32,49,32,51,32,52]⟩)))):=AN (f:=⟨2,[0,1,3,4],false,[],[]⟩) (Fct.Rt.of (f:=⟨2,[0,1,3,4],false,[],[]⟩) ⟨by decide,by decide,AM _ (by decide),AM _ (by decide),by decide⟩ (by decide) (by decide) (by decide) (by decide)) (by simp[Bn,CI,BL,Bv,Bp,AS,val])
theorem jlC:CallsF Tryz.prog 36 [.agg [eI 4,K5,eO,eN,eN]] (.u (.c (.d (.str ⟨#[52,32,48,32,52,32,50,32,52]⟩)))):=AN (f:=⟨4,[0,4,2,4],false,[],[]⟩) (Fct.Rt.of (f:=⟨4,[0,4,2,4],false,[],[]⟩) ⟨by decide,by decide,AM _ (by decide),AM _ (by decide),by decide⟩ (by decide) (by decide) (by decide) (by decide)) (by simp[Bn,CI,BL,Bv,Bp,AS,val])
theorem jfi:CallsF Tryz.prog 36 [.agg [eI 4,Fe,eO,eN,eN]] (.u (.c (.d (.str ⟨#[52,32,49,32,51,32,50,32,51]⟩)))):=AN (f:=⟨4,[1,3,2,3],false,[],[]⟩) (Fct.Rt.of (f:=⟨4,[1,3,2,3],false,[],[]⟩) ⟨by decide,by decide,AM _ (by decide),AM _ (by decide),by decide⟩ (by decide) (by decide) (by decide) (by decide)) (by simp[Bn,CI,BL,Bv,Bp,AS,val])
theorem jhr:CallsF Tryz.prog 36 [.agg [eI 5,Ag,eO,eN,eN]] (.u (.c (.d (.str ⟨#[53,32,51,32,49,32,50]⟩)))):=AN (f:=⟨5,[3,1,2],false,[],[]⟩) (Fct.Rt.of (f:=⟨5,[3,1,2],false,[],[]⟩) ⟨by decide,by decide,AM _ (by decide),AM _ (by decide),by decide⟩ (by decide) (by decide) (by decide) (by decide)) (by simp[Bn,CI,BL,Bv,Bp,AS,val])
theorem jgS:CallsF Tryz.prog 36 [.agg [eI 5,F5,eO,eN,eN]] (.u (.c (.d (.str ⟨#[53,32,52,32,48,32,50]⟩)))):=AN (f:=⟨5,[4,0,2],false,[],[]⟩) (Fct.Rt.of (f:=⟨5,[4,0,2],false,[],[]⟩) ⟨by decide,by decide,AM _ (by decide),AM _ (by decide),by decide⟩ (by decide) (by decide) (by decide) (by decide)) (by simp[Bn,CI,BL,Bv,Bp,AS,val])
theorem jhV:CallsF Tryz.prog 36 [.agg [eI 9,Af,eO,Ab,Aa]] (.u (.c (.d (.str ⟨#[57,32,48,32,49,32,51,32,52,32,52]⟩)))):=AN (f:=⟨9,[0,1,3,4],false,[4],[1]⟩) (Fct.Rt.of (f:=⟨9,[0,1,3,4],false,[4],[1]⟩) ⟨by decide,by decide,AM _ (by decide),AM _ (by decide),by decide⟩ (by decide) (by decide) (by decide) (by decide)) (by simp[Bn,CI,BL,Bv,Bp,AS,val])
theorem jlp:CallsF Tryz.prog 36 [.agg [eI 9,Gq,eO,Ab,Aa]] (.u (.c (.d (.str ⟨#[57,32,48,32,50,32,48,32,52,32,52]⟩)))):=AN (f:=⟨9,[0,2,0,4],false,[4],[1]⟩) (Fct.Rt.of (f:=⟨9,[0,2,0,4],false,[4],[1]⟩) ⟨by decide,by decide,AM _ (by decide),AM _ (by decide),by decide⟩ (by decide) (by decide) (by decide) (by decide)) (by simp[Bn,CI,BL,Bv,Bp,AS,val])
theorem jhc:CallsF Tryz.prog 36 [.agg [eI 9,Ai,eO,Ab,Aa]] (.u (.c (.d (.str ⟨#[57,32,48,32,50,32,50,32,52,32,52]⟩)))):=AN (f:=⟨9,[0,2,2,4],false,[4],[1]⟩) (Fct.Rt.of (f:=⟨9,[0,2,2,4],false,[4],[1]⟩) ⟨by decide,by decide,AM _ (by decide),AM _ (by decide),by decide⟩ (by decide) (by decide) (by decide) (by decide)) (by simp[Bn,CI,BL,Bv,Bp,AS,val])
theorem jlP:CallsF Tryz.prog 36 [.agg [eI 9,Ay,eO,Ab,Aa]] (.u (.c (.d (.str ⟨#[57,32,49,32,50,32,49,32,51,32,52]⟩)))):=AN (f:=⟨9,[1,2,1,3],false,[4],[1]⟩) (Fct.Rt.of (f:=⟨9,[1,2,1,3],false,[4],[1]⟩) ⟨by decide,by decide,AM _ (by decide),AM _ (by decide),by decide⟩ (by decide) (by decide) (by decide) (by decide)) (by simp[Bn,CI,BL,Bv,Bp,AS,val])
theorem jh7:CallsF Tryz.prog 36 [.agg [eI 9,AC,eO,Ab,Aa]] (.u (.c (.d (.str ⟨#[57,32,49,32,50,32,50,32,51,32,52]⟩)))):=AN (f:=⟨9,[1,2,2,3],false,[4],[1]⟩) (Fct.Rt.of (f:=⟨9,[1,2,2,3],false,[4],[1]⟩) ⟨by decide,by decide,AM _ (by decide),AM _ (by decide),by decide⟩ (by decide) (by decide) (by decide) (by decide)) (by simp[Bn,CI,BL,Bv,Bp,AS,val])
theorem jlv:CallsF Tryz.prog 6 [.agg [jlZ,FP]] (.tup [.c (.own 5 2 [eI 5,Ag,eO,eN,eN,eI 5,F5,eO,eN,eN]),.c (.d (eI 0))]):=jlO
def ev0B:Tbl:=[(12,[([.agg [eI 1,At,eO,eN,eN],.agg [eI 2,Av,eO,eN,eN]],.u (.c (.d eO))),([.agg [eI 1,As,eO,eN,eN],.agg [eI 2,Av,eO,eN,eN]],.u (.c (.d eO))),([.agg [eI 2,Af,eO,eN,eN],.agg [eI 2,Av,eO,eN,eN]],.u (.c (.d (.bool true)))),([.agg [eI 5,Ag,eO,eN,eN],.agg [eI 2,Av,eO,eN,eN]],.u (.c (.d eO))),([.agg [eI 5,F5,eO,eN,eN],.agg [eI 2,Av,eO,eN,eN]],.u (.c (.d eO)))]),
 (23,[([.agg [eI 1,At,eO,eN,eN]],.u (.agg [.d (eI 1),.d At,.d eO,.d eN,.d eN])),([.agg [eI 1,As,eO,eN,eN]],.u (.agg [.d (eI 1),.d As,.d eO,.d eN,.d eN])),([.agg [eI 1,Ag,eO,eN,eN]],.u (.agg [.d (eI 1),.d As,.d eO,.d eN,.d eN])),([.agg [eI 1,.slice 3 [eI 3,eI 2,eI 1],eO,eN,eN]],.u (.agg [.d (eI 1),.d As,.d eO,.d eN,.d eN])),([.agg [eI 1,F5,eO,eN,eN]],.u (.agg [.d (eI 1),.d At,.d eO,.d eN,.d eN])),([.agg [eI 1,.slice 3 [eI 4,eI 2,eI 0],eO,eN,eN]],.u (.agg [.d (eI 1),.d At,.d eO,.d eN,.d eN])),([.agg [eI 2,Af,eO,eN,eN]],.u (.agg [.d (eI 2),.d Af,.d eO,.d eN,.d eN])),([.agg [eI 2,Av,eO,eN,eN]],.u (.agg [.d (eI 2),.d Af,.d eO,.d eN,.d eN])),([.agg [eI 2,.slice 4 [eI 3,eI 4,eI 1,eI 0],eO,eN,eN]],.u (.agg [.d (eI 2),.d Af,.d eO,.d eN,.d eN])),([.agg [eI 2,.slice 4 [eI 4,eI 3,eI 0,eI 1],eO,eN,eN]],.u (.agg [.d (eI 2),.d Af,.d eO,.d eN,.d eN])),([.agg [eI 4,K5,eO,eN,eN]],.u (.agg [.d (eI 4),.d K5,.d eO,.d eN,.d eN])),([.agg [eI 4,Fe,eO,eN,eN]],.u (.agg [.d (eI 4),.d Fe,.d eO,.d eN,.d eN])),([.agg [eI 4,.slice 4 [eI 3,eI 1,eI 3,eI 2],eO,eN,eN]],.u (.agg [.d (eI 4),.d Fe,.d eO,.d eN,.d eN])),([.agg [eI 4,.slice 4 [eI 3,eI 2,eI 3,eI 1],eO,eN,eN]],.u (.agg [.d (eI 4),.d Fe,.d eO,.d eN,.d eN])),([.agg [eI 4,.slice 4 [eI 4,eI 0,eI 4,eI 2],eO,eN,eN]],.u (.agg [.d (eI 4),.d K5,.d eO,.d eN,.d eN])),([.agg [eI 4,.slice 4 [eI 4,eI 2,eI 4,eI 0],eO,eN,eN]],.u (.agg [.d (eI 4),.d K5,.d eO,.d eN,.d eN])),([.agg [eI 5,Ag,eO,eN,eN]],.u (.agg [.d (eI 5),.d Ag,.d eO,.d eN,.d eN])),([.agg [eI 5,F5,eO,eN,eN]],.u (.agg [.d (eI 5),.d F5,.d eO,.d eN,.d eN])),([.agg [eI 9,Af,eO,Ab,Aa]],.u (.agg [.d (eI 9),.d Af,.d eO,.d Ab,.d Aa])),([.agg [eI 9,.slice 4 [eI 0,eI 1,eI 4,eI 3],eO,Ab,Aa]],.u (.agg [.d (eI 9),.d Af,.d eO,.d Ab,.d Aa])),([.agg [eI 9,Gq,eO,Ab,Aa]],.u (.agg [.d (eI 9),.d Gq,.d eO,.d Ab,.d Aa])),([.agg [eI 9,Ai,eO,Ab,Aa]],.u (.agg [.d (eI 9),.d Ai,.d eO,.d Ab,.d Aa])),([.agg [eI 9,.slice 4 [eI 0,eI 2,eI 4,eI 0],eO,Ab,Aa]],.u (.agg [.d (eI 9),.d Gq,.d eO,.d Ab,.d Aa])),([.agg [eI 9,.slice 4 [eI 1,eI 0,eI 3,eI 4],eO,Ab,Aa]],.u (.agg [.d (eI 9),.d Af,.d eO,.d Ab,.d Aa])),([.agg [eI 9,Ay,eO,Ab,Aa]],.u (.agg [.d (eI 9),.d Ay,.d eO,.d Ab,.d Aa])),([.agg [eI 9,AC,eO,Ab,Aa]],.u (.agg [.d (eI 9),.d AC,.d eO,.d Ab,.d Aa])),([.agg [eI 9,.slice 4 [eI 1,eI 2,eI 3,eI 1],eO,Ab,Aa]],.u (.agg [.d (eI 9),.d Ay,.d eO,.d Ab,.d Aa])),([.agg [eI 9,.slice 4 [eI 2,eI 0,eI 4,eI 2],eO,Ab,Aa]],.u (.agg [.d (eI 9),.d Ai,.d eO,.d Ab,.d Aa])),([.agg [eI 9,.slice 4 [eI 2,eI 1,eI 3,eI 2],eO,Ab,Aa]],.u (.agg [.d (eI 9),.d AC,.d eO,.d Ab,.d Aa]))]),
 (24,[([.agg [eI 1,At,eO,eN,eN]],.u (.c (.d eO))),([.agg [eI 1,As,eO,eN,eN]],.u (.c (.d eO))),([.agg [eI 2,Af,eO,eN,eN]],.u (.c (.d eO))),([.agg [eI 4,K5,eO,eN,eN]],.u (.c (.d eO))),([.agg [eI 4,Fe,eO,eN,eN]],.u (.c (.d eO))),([.agg [eI 5,Ag,eO,eN,eN]],.u (.c (.d eO))),([.agg [eI 5,F5,eO,eN,eN]],.u (.c (.d eO))),([.agg [eI 9,Af,eO,Ab,Aa]],.u (.c (.d eO))),([.agg [eI 9,Gq,eO,Ab,Aa]],.u (.c (.d eO))),([.agg [eI 9,Ai,eO,Ab,Aa]],.u (.c (.d eO))),([.agg [eI 9,Ay,eO,Ab,Aa]],.u (.c (.d eO))),([.agg [eI 9,AC,eO,Ab,Aa]],.u (.c (.d eO)))]),
 (28,[([.agg [eI 1,At,eO,eN,eN],.agg [eI 1,At,eO,eN,eN]],.u (.c (.d (eI 0)))),([.agg [eI 1,At,eO,eN,eN],.agg [eI 1,As,eO,eN,eN]],.u (.c (.d (eI (-1))))),([.agg [eI 1,At,eO,eN,eN],.agg [eI 2,Af,eO,eN,eN]],.u (.c (.d (eI (-1))))),([.agg [eI 1,At,eO,eN,eN],.agg [eI 4,K5,eO,eN,eN]],.u (.c (.d (eI (-1))))),([.agg [eI 1,At,eO,eN,eN],.agg [eI 4,Fe,eO,eN,eN]],.u (.c (.d (eI (-1))))),([.agg [eI 1,At,eO,eN,eN],.agg [eI 5,F5,eO,eN,eN]],.u (.c (.d (eI (-1))))),([.agg [eI 1,At,eO,eN,eN],.agg [eI 9,Gq,eO,Ab,Aa]],.u (.c (.d (eI (-1))))),([.agg [eI 1,At,eO,eN,eN],.agg [eI 9,Ai,eO,Ab,Aa]],.u (.c (.d (eI (-1))))),([.agg [eI 1,At,eO,eN,eN],.agg [eI 9,Ay,eO,Ab,Aa]],.u (.c (.d (eI (-1))))),([.agg [eI 1,At,eO,eN,eN],.agg [eI 9,AC,eO,Ab,Aa]],.u (.c (.d (eI (-1))))),([.agg [eI 1,As,eO,eN,eN],.agg [eI 1,As,eO,eN,eN]],.u (.c (.d (eI 0)))),([.agg [eI 1,As,eO,eN,eN],.agg [eI 2,Af,eO,eN,eN]],.u (.c (.d (eI (-1))))),([.agg [eI 1,As,eO,eN,eN],.agg [eI 4,Fe,eO,eN,eN]],.u (.c (.d (eI (-1))))),([.agg [eI 1,As,eO,eN,eN],.agg [eI 5,Ag,eO,eN,eN]],.u (.c (.d (eI (-1))))),([.agg [eI 1,As,eO,eN,eN],.agg [eI 9,Ay,eO,Ab,Aa]],.u (.c (.d (eI (-1))))),([.agg [eI 1,As,eO,eN,eN],.agg [eI 9,AC,eO,Ab,Aa]],.u (.c (.d (eI (-1))))),([.agg [eI 2,Af,eO,eN,eN],.agg [eI 1,As,eO,eN,eN]],.u (.c (.d (eI 1)))),([.agg [eI 2,Af,eO,eN,eN],.agg [eI 2,Af,eO,eN,eN]],.u (.c (.d (eI 0)))),([.agg [eI 2,Af,eO,eN,eN],.agg [eI 4,K5,eO,eN,eN]],.u (.c (.d (eI (-1))))),([.agg [eI 2,Af,eO,eN,eN],.agg [eI 4,Fe,eO,eN,eN]],.u (.c (.d (eI (-1))))),([.agg [eI 2,Af,eO,eN,eN],.agg [eI 5,Ag,eO,eN,eN]],.u (.c (.d (eI (-1))))),([.agg [eI 2,Af,eO,eN,eN],.agg [eI 5,F5,eO,eN,eN]],.u (.c (.d (eI (-1))))),([.agg [eI 2,Af,eO,eN,eN],.agg [eI 9,Af,eO,Ab,Aa]],.u (.c (.d (eI (-1))))),([.agg [eI 2,Af,eO,eN,eN],.agg [eI 9,Gq,eO,Ab,Aa]],.u (.c (.d (eI (-1))))),([.agg [eI 2,Af,eO,eN,eN],.agg [eI 9,Ai,eO,Ab,Aa]],.u (.c (.d (eI (-1))))),([.agg [eI 2,Af,eO,eN,eN],.agg [eI 9,Ay,eO,Ab,Aa]],.u (.c (.d (eI (-1))))),([.agg [eI 2,Af,eO,eN,eN],.agg [eI 9,AC,eO,Ab,Aa]],.u (.c (.d (eI (-1))))),([.agg [eI 4,K5,eO,eN,eN],.agg [eI 1,At,eO,eN,eN]],.u (.c (.d (eI 1)))),([.agg [eI 4,K5,eO,eN,eN],.agg [eI 1,As,eO,eN,eN]],.u (.c (.d (eI 1)))),([.agg [eI 4,K5,eO,eN,eN],.agg [eI 4,K5,eO,eN,eN]],.u (.c (.d (eI 0)))),([.agg [eI 4,K5,eO,eN,eN],.agg [eI 4,Fe,eO,eN,eN]],.u (.c (.d (eI (-1))))),([.agg [eI 4,K5,eO,eN,eN],.agg [eI 5,F5,eO,eN,eN]],.u (.c (.d (eI (-1))))),([.agg [eI 4,K5,eO,eN,eN],.agg [eI 9,Gq,eO,Ab,Aa]],.u (.c (.d (eI (-1))))),([.agg [eI 4,K5,eO,eN,eN],.agg [eI 9,Ai,eO,Ab,Aa]],.u (.c (.d (eI (-1))))),([.agg [eI 4,K5,eO,eN,eN],.agg [eI 9,Ay,eO,Ab,Aa]],.u (.c (.d (eI (-1))))),([.agg [eI 4,K5,eO,eN,eN],.agg [eI 9,AC,eO,Ab,Aa]],.u (.c (.d (eI (-1))))),([.agg [eI 4,Fe,eO,eN,eN],.agg [eI 1,As,eO,eN,eN]],.u (.c (.d (eI 1)))),([.agg [eI 4,Fe,eO,eN,eN],.agg [eI 4,Fe,eO,eN,eN]],.u (.c (.d (eI 0)))),([.agg [eI 4,Fe,eO,eN,eN],.agg [eI 5,Ag,eO,eN,eN]],.u (.c (.d (eI (-1))))),([.agg [eI 4,Fe,eO,eN,eN],.agg [eI 9,Ay,eO,Ab,Aa]],.u (.c (.d (eI (-1))))),([.agg [eI 4,Fe,eO,eN,eN],.agg [eI 9,AC,eO,Ab,Aa]],.u (.c (.d (eI (-1))))),([.agg [eI 5,Ag,eO,eN,eN],.agg [eI 2,Af,eO,eN,eN]],.u (.c (.d (eI 1)))),([.agg [eI 5,F5,eO,eN,eN],.agg [eI 2,Af,eO,eN,eN]],.u (.c (.d (eI 1)))),([.agg [eI 9,Af,eO,Ab,Aa],.agg [eI 2,Af,eO,eN,eN]],.u (.c (.d (eI 1)))),([.agg [eI 9,Af,eO,Ab,Aa],.agg [eI 4,Fe,eO,eN,eN]],.u (.c (.d (eI 1)))),([.agg [eI 9,Af,eO,Ab,Aa],.agg [eI 5,Ag,eO,eN,eN]],.u (.c (.d (eI 1)))),([.agg [eI 9,Af,eO,Ab,Aa],.agg [eI 5,F5,eO,eN,eN]],.u (.c (.d (eI 1)))),([.agg [eI 9,Af,eO,Ab,Aa],.agg [eI 9,Af,eO,Ab,Aa]],.u (.c (.d (eI 0)))),([.agg [eI 9,Af,eO,Ab,Aa],.agg [eI 9,Gq,eO,Ab,Aa]],.u (.c (.d (eI (-1))))),([.agg [eI 9,Af,eO,Ab,Aa],.agg [eI 9,Ai,eO,Ab,Aa]],.u (.c (.d (eI (-1))))),([.agg [eI 9,Af,eO,Ab,Aa],.agg [eI 9,Ay,eO,Ab,Aa]],.u (.c (.d (eI (-1))))),([.agg [eI 9,Af,eO,Ab,Aa],.agg [eI 9,AC,eO,Ab,Aa]],.u (.c (.d (eI (-1))))),([.agg [eI 9,Gq,eO,Ab,Aa],.agg [eI 1,At,eO,eN,eN]],.u (.c (.d (eI 1)))),([.agg [eI 9,Gq,eO,Ab,Aa],.agg [eI 4,K5,eO,eN,eN]],.u (.c (.d (eI 1)))),([.agg [eI 9,Gq,eO,Ab,Aa],.agg [eI 4,Fe,eO,eN,eN]],.u (.c (.d (eI 1)))),([.agg [eI 9,Gq,eO,Ab,Aa],.agg [eI 5,F5,eO,eN,eN]],.u (.c (.d (eI 1)))),([.agg [eI 9,Gq,eO,Ab,Aa],.agg [eI 9,Gq,eO,Ab,Aa]],.u (.c (.d (eI 0)))),([.agg [eI 9,Gq,eO,Ab,Aa],.agg [eI 9,Ai,eO,Ab,Aa]],.u (.c (.d (eI (-1))))),([.agg [eI 9,Gq,eO,Ab,Aa],.agg [eI 9,Ay,eO,Ab,Aa]],.u (.c (.d (eI (-1))))),([.agg [eI 9,Gq,eO,Ab,Aa],.agg [eI 9,AC,eO,Ab,Aa]],.u (.c (.d (eI (-1))))),([.agg [eI 9,Ai,eO,Ab,Aa],.agg [eI 1,At,eO,eN,eN]],.u (.c (.d (eI 1)))),([.agg [eI 9,Ai,eO,Ab,Aa],.agg [eI 4,K5,eO,eN,eN]],.u (.c (.d (eI 1)))),([.agg [eI 9,Ai,eO,Ab,Aa],.agg [eI 5,F5,eO,eN,eN]],.u (.c (.d (eI 1)))),([.agg [eI 9,Ai,eO,Ab,Aa],.agg [eI 9,Gq,eO,Ab,Aa]],.u (.c (.d (eI 1)))),([.agg [eI 9,Ai,eO,Ab,Aa],.agg [eI 9,Ai,eO,Ab,Aa]],.u (.c (.d (eI 0)))),([.agg [eI 9,Ai,eO,Ab,Aa],.agg [eI 9,Ay,eO,Ab,Aa]],.u (.c (.d (eI (-1))))),([.agg [eI 9,Ai,eO,Ab,Aa],.agg [eI 9,AC,eO,Ab,Aa]],.u (.c (.d (eI (-1))))),([.agg [eI 9,Ay,eO,Ab,Aa],.agg [eI 1,As,eO,eN,eN]],.u (.c (.d (eI 1)))),([.agg [eI 9,Ay,eO,Ab,Aa],.agg [eI 4,Fe,eO,eN,eN]],.u (.c (.d (eI 1)))),([.agg [eI 9,Ay,eO,Ab,Aa],.agg [eI 5,Ag,eO,eN,eN]],.u (.c (.d (eI 1)))),([.agg [eI 9,Ay,eO,Ab,Aa],.agg [eI 9,Ay,eO,Ab,Aa]],.u (.c (.d (eI 0)))),([.agg [eI 9,Ay,eO,Ab,Aa],.agg [eI 9,AC,eO,Ab,Aa]],.u (.c (.d (eI (-1))))),([.agg [eI 9,AC,eO,Ab,Aa],.agg [eI 1,As,eO,eN,eN]],.u (.c (.d (eI 1)))),([.agg [eI 9,AC,eO,Ab,Aa],.agg [eI 4,Fe,eO,eN,eN]],.u (.c (.d (eI 1)))),([.agg [eI 9,AC,eO,Ab,Aa],.agg [eI 5,Ag,eO,eN,eN]],.u (.c (.d (eI 1)))),([.agg [eI 9,AC,eO,Ab,Aa],.agg [eI 9,Ay,eO,Ab,Aa]],.u (.c (.d (eI 1)))),([.agg [eI 9,AC,eO,Ab,Aa],.agg [eI 9,AC,eO,Ab,Aa]],.u (.c (.d (eI 0))))])]
theorem jlY:ev0B.Ok Tryz.prog:=Tbl.runs_ok jh1 (by decide+kernel)
def jdU:Tbl:=(36,[([.agg [eI 1,At,eO,eN,eN]],.u (.c (.d (.str ⟨#[49,32,48,32,50,32,52]⟩)))),([.agg [eI 1,As,eO,eN,eN]],.u (.c (.d (.str ⟨#[49,32,49,32,50,32,51]⟩)))),([.agg [eI 2,Af,eO,eN,eN]],.u (.c (.d (.str ⟨#[50,32,48,32,49,32,51,32,52]⟩)))),([.agg [eI 4,K5,eO,eN,eN]],.u (.c (.d (.str ⟨#[52,32,48,32,52,32,50,32,52]⟩)))),([.agg [eI 4,Fe,eO,eN,eN]],.u (.c (.d (.str ⟨#[52,32,49,32,51,32,50,32,51]⟩)))),([.agg [eI 5,Ag,eO,eN,eN]],.u (.c (.d (.str ⟨#[53,32,51,32,49,32,50]⟩)))),([.agg [eI 5,F5,eO,eN,eN]],.u (.c (.d (.str ⟨#[53,32,52,32,48,32,50]⟩)))),([.agg [eI 9,Af,eO,Ab,Aa]],.u (.c (.d (.str ⟨#[57,32,48,32,49,32,51,32,52,32,52]⟩)))),([.agg [eI 9,Gq,eO,Ab,Aa]],.u (.c (.d (.str ⟨#[57,32,48,32,50,32,48,32,52,32,52]⟩)))),([.agg [eI 9,Ai,eO,Ab,Aa]],.u (.c (.d (.str ⟨#[57,32,48,32,50,32,50,32,52,32,52]⟩)))),([.agg [eI 9,Ay,eO,Ab,Aa]],.u (.c (.d (.str ⟨#[57,32,49,32,50,32,49,32,51,32,52]⟩)))),([.agg [eI 9,AC,eO,Ab,Aa]],.u (.c (.d (.str ⟨#[57,32,49,32,50,32,50,32,51,32,52]⟩))))])::(6,[([.agg [jlZ,FP]],.tup [.c (.own 5 2 [eI 5,Ag,eO,eN,eN,eI 5,F5,eO,eN,eN]),.c (.d (eI 0))])])::ev0B
def ev0:Tb2:=⟨jdU,[],[]⟩
theorem Lg:ev0.Ok Tryz.prog:=⟨Tbl.ok_cons ⟨jlM,jfX,jjC,jlC,jfi,jhr,jgS,jhV,jlp,jhc,jlP,jh7,trivial⟩ (Tbl.ok_cons ⟨jlv,trivial⟩ jlY),TblA.ok_nil,TblH.ok_nil⟩
end Go.Va
