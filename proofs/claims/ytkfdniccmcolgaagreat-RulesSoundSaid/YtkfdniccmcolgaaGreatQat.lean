/- a part of the proof -/
import Derived.Test.YtkfdniccmcolgaaGreatQas
set_option linter.all false
set_option maxHeartbeats 4000000
set_option maxRecDepth 10000
namespace Go.Va
open Int (natCast_add natCast_mul natCast_emod natCast_ediv natCast_pow)
open Go.Proofs
def Md:List (List Nat):=(Aj [0,0,2,0,0,8,56,120,255,511,1023,1023,0,6143,16383])
@[simp]def NH:List Seg:=[.any [] [11] [⟨0,[6],[11],[11],[]⟩,⟨0,[0],[11],[11],[]⟩,⟨0,[44],[11],[11],[]⟩,⟨0,[1],[11],[11],[]⟩,⟨0,[10],[11],[11],[]⟩,⟨0,[46],[11],[11],[]⟩,⟨0,[47,48],[11],[11],[]⟩,⟨0,[49],[11],[11],[]⟩,⟨0,[43,45,50],[11],[11],[]⟩,⟨0,[51],[11],[11],[]⟩,⟨0,[42],[11],[11],[]⟩,⟨0,[42],[11],[11],[]⟩,⟨1,[],[],[],[]⟩,⟨2,[11,52],[],[],[11]⟩],.one]
def RA:List (List Nat):=(Aj [0,0,2,0,0,16,8,120,248,511,1023,2047,2047,4095,16383])
@[simp]def QW:List Seg:=[.any [] [] (Ao [[11],[0],[58],[1],[10],[61],[60],[62,63],[64]]),.one,.one,.any [] [] [⟨0,[56],[],[],[]⟩,⟨0,[56],[11],[],[]⟩,⟨2,[11,67],[],[],[11]⟩],.one]
def Kd:List (List Nat):=(Aj [0,1,3,7,0,16,48,112,255])
@[simp]def KA:List Seg:=[.any [] [] (Ao [[1],[77],[78],[79],[1],[81],[82],[83]]),.one]
def Qr:List (List Nat):=(Aj [0,1,0,4,0,0,63])
@[simp]def UV:List Seg:=[.any [] [] (Ao [[0],[70],[1],[72],[11],[3]]),.one]
def ms:List UInt8→List (Int×Int)→Bnd→List Bnd
 |[],_,b=>[b]
 |_::_,[],b=>[]
 |c::r,s::l,b=>if 97≤c.toNat then (match b.segment (c.toNat - 97) s with|none=>[]|some b'=>ms r l b') else
  match r with
  |[]=>[]
  |d::r=>(match b.point (c.toNat - 65) s.1 with|none=>[]|some b1=>match b1.point (d.toNat - 65) s.2 with|none=>[]|some b2=>ms r l b2)++
   (if s.1=s.2 then [] else match b.point (c.toNat - 65) s.2 with|none=>[]|some b1=>match b1.point (d.toNat - 65) s.1 with|none=>[]|some b2=>ms r l b2)
def DU(c d:UInt8)(r:List UInt8)(l:List (Int×Int))(b:Bnd)(p q:Int):List Bnd:=
 match b.point (c.toNat - 65) p with|none=>[]|some b1=>match b1.point (d.toNat - 65) q with|none=>[]|some b2=>ms r l b2
def CN:List UInt8→List (Int×Int)→Prop
 |[],_=>True
 |_::_,[]=>False
 |c::r,_::l=>if 97≤c.toNat then c.toNat<123∧CN r l else
  match r with
  |[]=>False
  |d::r=>cap c∧cap d∧CN r l
theorem LP{c d:UInt8}{r:List UInt8}{s:Int×Int}{l:List (Int×Int)}{b:Bnd}(h: ¬97≤c.toNat):ms (c::d::r) (s::l) b=DU c d r l b s.1 s.2++(if s.1=s.2 then [] else DU c d r l b s.2 s.1):=by
 simp only[ms,if_neg h];rfl
theorem No{c:UInt8}{r:List UInt8}{s:Int×Int}{l:List (Int×Int)}(h:97≤c.toNat):CN (c::r) (s::l)=(c.toNat<123∧CN r l):=by
 cases r<;>simp only[CN,if_pos h]
theorem J4{c:UInt8}{r:List UInt8}{s:Int×Int}{l:List (Int×Int)}{b:Bnd}(h:97≤c.toNat):ms (c::r) (s::l) b=match b.segment (c.toNat - 97) s with|none=>[]|some b'=>ms r l b':=by
 cases r<;>simp only[ms,if_pos h]
theorem Qc{c:UInt8}{r:List UInt8}{s:Int×Int}{l:List (Int×Int)}(h: ¬97≤c.toNat)(hk:CN (c::r) (s::l)): ∃d r',r=d::r'∧cap c∧cap d∧CN r' l:=by
 cases r with
 |nil=>simp only[CN,if_neg h]at hk
 |cons d r=>simp only[CN,if_neg h]at hk;exact⟨d,r,rfl,hk⟩
def EX(s:Int×Int):Prop:=(-1≤s.1∧s.1<1000000)∧(-1≤s.2∧s.2<1000000)
@[simp]theorem jiQ(h:List (Nat×Blk))(s:Int×Int)(l:List (Int×Int)):sliceV h (.d (Du (s::l))) (some 1) none 2=some (.d (Du l)):=by
 unfold Du;simp[sliceV,D5,Ay,BJ]
 constructor
 ·omega
 ·rw[AI (by simp[Nat.mul_comm])]
  exact⟨by omega,rfl⟩
theorem YR(x:Value): ∀(n:Nat) (ls:List UInt8) (l:List (Int×Int)) (b:Bnd),ls.length≤n→CN ls l→(∀s∈l,EX s)→l.length≤1000→ls.length≤1000→
  Bp Tryz.prog x 186 [.c (.str (bs ls)),.c (Du l),.agg b.ds,.c (.lit x)] ((ms ls l b).map AT):=by
 intro n
 induction n with
 |zero=>
  intro ls l b hn hok hl hll hls;have:ls=[]:=jzv.1 (by omega)
  subst this;refine Cz (T:=tb) Ad mixed Tryz.func186 rfl (by decide) (Ac rfl) rfl rfl ?_;intro rest;unfold St.initY
  simp -implicitDefEqProofs[jJ,-natCast_add,-natCast_mul,-List.reduceReplicate];refine⟨AT b,rest,by simp[lk,ms],by simp[AT,St.argsW,U.toA,lk],?_⟩
  simp -implicitDefEqProofs[jJ,-natCast_add,-natCast_mul,-List.reduceReplicate,St.backY,St.rest,BH]
 |succ n ih=>
  intro ls l b hn hok hl hll hls
  match ls,l,hok with
  |[],l,_=>
   refine Cz (T:=tb) Ad mixed Tryz.func186 rfl (by decide) (Ac rfl) rfl rfl ?_;intro rest;unfold St.initY
   simp -implicitDefEqProofs[jJ,-natCast_add,-natCast_mul,-List.reduceReplicate];refine⟨AT b,rest,by simp[lk,ms],by simp[AT,St.argsW,U.toA,lk],?_⟩
   simp -implicitDefEqProofs[jJ,-natCast_add,-natCast_mul,-List.reduceReplicate,St.backY,St.rest,BH]
  |c::r,s::l,hok=>
   have hs:EX s:=hl s (by simp)
   by_cases h97:97≤c.toNat
   ·obtain⟨k,hk⟩: ∃k,c.toNat=97+k:=⟨c.toNat - 97,by omega⟩
    rw[No h97]at hok
    have hk26:k<26:=by omega
    have hms:ms (c::r) (s::l) b=match b.segment k s with|none=>[]|some b'=>ms r l b':=by
     rw[J4 h97,hk,Nat.add_sub_cancel_left]
    have ex1:(bs (c::r)).extract 1 (1+r.length)=bs r:=by
     have:=ND (c::r) 1 (by simp)
     simpa using this
    refine Cz (T:=tb) Ad mixed Tryz.func186 rfl (by decide) (Ac rfl) rfl rfl ?_;intro rest;unfold St.initY
    simp -implicitDefEqProofs[jJ,-natCast_add,-natCast_mul,-List.reduceReplicate];refine Aa (L4 c.toNat) ?_;simp -implicitDefEqProofs[jJ,-natCast_add,-natCast_mul,-List.reduceReplicate,h97];refine Af (Aj [0,0,2,0,8,24,63,127,255,255,0,1535,4095]) [.any [] [8] [⟨0,[6],[8],[8],[]⟩,⟨0,[0],[8],[8],[]⟩,⟨0,[23],[8],[8],[]⟩,⟨0,[1],[8],[8],[]⟩,⟨0,[25],[8],[8],[]⟩,⟨0,[26],[8],[8],[]⟩,⟨0,[22,24,27],[8],[8],[]⟩,⟨0,[28],[8],[8],[]⟩,⟨0,[21],[8],[8],[]⟩,⟨0,[21],[8],[8],[]⟩,⟨1,[],[],[],[]⟩,⟨2,[8,29],[],[],[8]⟩],.one] (by rfl) ?_
    simp -implicitDefEqProofs[jJ,-natCast_add,-natCast_mul,-List.reduceReplicate,hk,BJ];refine Al (jcx b k hk26 s.1 s.2 hs.1 hs.2) ?_;generalize hob:b.segment k (s.1,s.2)=ob at*;cases ob with
    |none=>
     simp only at hms;rw[hms];simp -implicitDefEqProofs[jJ,-natCast_add,-natCast_mul,-List.reduceReplicate,Bu,BH]
    |some b'=>
     simp only at hms;rw[hms];simp -implicitDefEqProofs[jJ,-natCast_add,-natCast_mul,-List.reduceReplicate,Bu];refine Af (Aj [0,1,0,4,0,0,63]) [.any [] [] (Ao [[0],[32],[1],[34],[8],[3]]),.one] (by rfl) ?_
     simp -implicitDefEqProofs[jJ,-natCast_add,-natCast_mul,-List.reduceReplicate,ex1];have h1:=ih r l b' (by simp at hn;omega) hok.2 (fun s hs=>hl s (by simp[hs])) (by simp at hll;omega) (by simp at hls;omega)
     refine .inr (.inr (.inl ⟨x,(ms r l b').map AT,rest,_,by simp[lk],?_,h1,?_⟩))
     ·simp[St.argsW,U.toA,toD]
     ·simp only[St.reachU,List.flatMap_cons,List.flatMap_nil,U.all,List.append_nil,List.cons_append,List.nil_append,Cb,Bnd.reach_cs,Ch,Cg];simp -implicitDefEqProofs[jJ,-natCast_add,-natCast_mul,-List.reduceReplicate,St.backY,St.rest,BH]
   ·obtain⟨d,r,rfl,hc,hd,hok⟩:=Qc h97 hok
    obtain⟨k,hk⟩: ∃k,c.toNat=65+k:=⟨c.toNat - 65,by unfold cap at hc;omega⟩
    obtain⟨j,hj⟩: ∃j,d.toNat=65+j:=⟨d.toNat - 65,by unfold cap at hd;omega⟩
    have hk26:k<26:=by unfold cap at hc;omega
    have hj26:j<26:=by unfold cap at hd;omega
    have e97:(97≤65+k)=False:=by simp;omega
    have ex2:(bs (c::d::r)).extract 2 (2+r.length)=bs r:=by
     have:=ND (c::d::r) 2 (by simp)
     simpa using this
    rw[LP h97]
    have hA: ∀p q,DU c d r l b p q=match b.point k p with|none=>[]|some b1=>match b1.point j q with|none=>[]|some b2=>ms r l b2:=fun p q=>by
     unfold DU;rw[hk,hj,Nat.add_sub_cancel_left,Nat.add_sub_cancel_left]
    refine Cz (T:=tb) Ad mixed Tryz.func186 rfl (by decide) (Ac rfl) rfl rfl ?_;intro rest;unfold St.initY
    simp -implicitDefEqProofs[jJ,-natCast_add,-natCast_mul,-List.reduceReplicate];refine Aa (L4 c.toNat) ?_;simp -implicitDefEqProofs[jJ,-natCast_add,-natCast_mul,-List.reduceReplicate,hk,e97];refine Av (fun i:Nat=>⟨[(1000000,.tr x ((match i with|0=>(DU c d r l b s.1 s.2++(if s.1=s.2 then [] else DU c d r l b s.2 s.1))|1=>(if s.1=s.2 then [] else DU c d r l b s.2 s.1)|_=>[]).map AT++rest)),(39,vI .i64 i),(6,vC (.ptr 6 0)),(0,vC (.d (.str (bs (c::d::r))))),(1,vC (.d (Du (s::l)))),(3,vC (.d (.lit x)))],[(6,.box b.cs)]⟩)
     (fun i=>i≤2∧(i=1→s.1=s.2→b.point k s.1=none)) (fun i=>2 - i) 0 (by simp[An,lk,St.le,vI,vC]) (by simp) ?_
    rintro i hi
    match i,hi with
    |0,_=>
     simp -implicitDefEqProofs[jJ,-natCast_add,-natCast_mul,-List.reduceReplicate];refine Af Md NH (by rfl) ?_
     simp -implicitDefEqProofs[jJ,-natCast_add,-natCast_mul,-List.reduceReplicate,hk,BJ];refine Al (EE b k hk26 s.1 hs.1) ?_;have h0:=hA s.1 s.2;generalize b.point k s.1=o1 at*;cases o1 with
     |none=>
      simp only at h0;simp -implicitDefEqProofs[jJ,-natCast_add,-natCast_mul,-List.reduceReplicate,Bu,h0];exact⟨1,⟨by simp,rfl⟩,by simp,by omega⟩
     |some b1=>
      simp only at h0;simp -implicitDefEqProofs[jJ,-natCast_add,-natCast_mul,-List.reduceReplicate,Bu];refine Af RA QW (by rfl) ?_
      simp -implicitDefEqProofs[jJ,-natCast_add,-natCast_mul,-List.reduceReplicate,hj,BJ];refine Aa (EE b1 j hj26 s.2 hs.2) ?_;generalize b1.point j s.2=o2 at*;cases o2 with
      |none=>
       simp only at h0;simp -implicitDefEqProofs[jJ,-natCast_add,-natCast_mul,-List.reduceReplicate,Bu,h0];refine Af Kd KA (by rfl) ?_
       simp -implicitDefEqProofs[jJ,-natCast_add,-natCast_mul,-List.reduceReplicate,BJ];by_cases he:s.1=s.2
       ·simp -implicitDefEqProofs[jJ,-natCast_add,-natCast_mul,-List.reduceReplicate,i64,he,BH]
       ·simp -implicitDefEqProofs[jJ,-natCast_add,-natCast_mul,-List.reduceReplicate,i64,he];exact⟨1,⟨by simp[he],rfl⟩,by simp[he],by omega⟩
      |some b2=>
       simp only at h0;simp -implicitDefEqProofs[jJ,-natCast_add,-natCast_mul,-List.reduceReplicate,Bu,h0];refine Af Qr UV (by rfl) ?_
       simp -implicitDefEqProofs[jJ,-natCast_add,-natCast_mul,-List.reduceReplicate,ex2];have h1:=ih r l b2 (by simp at hn;omega) hok (fun s hs=>hl s (by simp[hs])) (by simp at hll;omega) (by simp at hls;omega)
       refine .inr (.inr (.inl ⟨x,(ms r l b2).map AT,(if s.1=s.2 then [] else DU c d r l b s.2 s.1).map AT++rest,_,by simp[lk],?_,h1,?_⟩))
       ·simp[St.argsW,U.toA,toD]
       ·simp only[St.reachU,List.flatMap_cons,List.flatMap_nil,U.all,List.append_nil,List.cons_append,List.nil_append,Cb,Bnd.reach_cs,Ch,Cg];simp -implicitDefEqProofs[jJ,-natCast_add,-natCast_mul,-List.reduceReplicate,St.backY,St.rest];refine Af Kd KA (by rfl) ?_
        simp -implicitDefEqProofs[jJ,-natCast_add,-natCast_mul,-List.reduceReplicate,BJ];by_cases he:s.1=s.2
        ·simp -implicitDefEqProofs[jJ,-natCast_add,-natCast_mul,-List.reduceReplicate,i64,he,BH]
        ·simp -implicitDefEqProofs[jJ,-natCast_add,-natCast_mul,-List.reduceReplicate,i64,he];exact⟨1,⟨by simp[he],rfl⟩,by simp[he],by omega⟩
    |1,hi=>
     by_cases he:s.1=s.2
     ·have hno:=hi.2 rfl he;rw[he]at hno;simp -implicitDefEqProofs[jJ,-natCast_add,-natCast_mul,-List.reduceReplicate,he];refine Af Md NH (by rfl) ?_
      simp -implicitDefEqProofs[jJ,-natCast_add,-natCast_mul,-List.reduceReplicate,hk,BJ];refine Al (EE b k hk26 s.2 hs.2) ?_;rw[hno];simp -implicitDefEqProofs[jJ,-natCast_add,-natCast_mul,-List.reduceReplicate,Bu];exact⟨2,⟨by simp,rfl⟩,by simp,by omega⟩
     simp -implicitDefEqProofs[jJ,-natCast_add,-natCast_mul,-List.reduceReplicate,he];refine Af Md NH (by rfl) ?_
     simp -implicitDefEqProofs[jJ,-natCast_add,-natCast_mul,-List.reduceReplicate,hk,BJ];refine Al (EE b k hk26 s.2 hs.2) ?_;have h0:=hA s.2 s.1;generalize b.point k s.2=o1 at*;cases o1 with
     |none=>
      simp only at h0;simp -implicitDefEqProofs[jJ,-natCast_add,-natCast_mul,-List.reduceReplicate,Bu,h0];exact⟨2,⟨by simp,rfl⟩,by simp,by omega⟩
     |some b1=>
      simp only at h0;simp -implicitDefEqProofs[jJ,-natCast_add,-natCast_mul,-List.reduceReplicate,Bu];refine Af RA QW (by rfl) ?_
      simp -implicitDefEqProofs[jJ,-natCast_add,-natCast_mul,-List.reduceReplicate,hj,BJ];refine Aa (EE b1 j hj26 s.1 hs.1) ?_;generalize b1.point j s.1=o2 at*;cases o2 with
      |none=>
       simp only at h0;simp -implicitDefEqProofs[jJ,-natCast_add,-natCast_mul,-List.reduceReplicate,Bu,h0];refine Af Kd KA (by rfl) ?_
       simp -implicitDefEqProofs[jJ,-natCast_add,-natCast_mul,-List.reduceReplicate,BJ];simp -implicitDefEqProofs[jJ,-natCast_add,-natCast_mul,-List.reduceReplicate,i64,he];exact⟨2,⟨by simp,rfl⟩,by simp,by omega⟩
      |some b2=>
       simp only at h0;simp -implicitDefEqProofs[jJ,-natCast_add,-natCast_mul,-List.reduceReplicate,Bu,h0];refine Af Qr UV (by rfl) ?_
       simp -implicitDefEqProofs[jJ,-natCast_add,-natCast_mul,-List.reduceReplicate,ex2];have h1:=ih r l b2 (by simp at hn;omega) hok (fun s hs=>hl s (by simp[hs])) (by simp at hll;omega) (by simp at hls;omega)
       refine .inr (.inr (.inl ⟨x,(ms r l b2).map AT,rest,_,by simp[lk],?_,h1,?_⟩))
       ·simp[St.argsW,U.toA,toD]
       ·simp only[St.reachU,List.flatMap_cons,List.flatMap_nil,U.all,List.append_nil,List.cons_append,List.nil_append,Cb,Bnd.reach_cs,Ch,Cg];simp -implicitDefEqProofs[jJ,-natCast_add,-natCast_mul,-List.reduceReplicate,St.backY,St.rest];refine Af Kd KA (by rfl) ?_
        simp -implicitDefEqProofs[jJ,-natCast_add,-natCast_mul,-List.reduceReplicate,BJ];simp -implicitDefEqProofs[jJ,-natCast_add,-natCast_mul,-List.reduceReplicate,i64,he];exact⟨2,⟨by simp,rfl⟩,by simp,by omega⟩
    |2,_=>
     simp -implicitDefEqProofs[jJ,-natCast_add,-natCast_mul,-List.reduceReplicate,BH]
end Go.Va
