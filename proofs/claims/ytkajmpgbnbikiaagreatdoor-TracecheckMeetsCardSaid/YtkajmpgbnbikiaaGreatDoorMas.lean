/- a part of the proof -/
import Derived.Test.YtkajmpgbnbikiaaGreatDoorMaq
import Derived.Test.YtkajmpgbnbikiaaGreatDoorMar
set_option linter.all false
set_option maxHeartbeats 4000000
set_option maxRecDepth 10000
namespace Go.Va
open Int (natCast_add natCast_mul natCast_emod natCast_ediv natCast_pow)
open Go.Proofs
def cap(c:UInt8):Prop:=65≤c.toNat∧c.toNat<91
def mp:List UInt8→List Int→Bnd→List Bnd
 |[],_,b=>[b]
 |c::r,pts,b=>(List.range pts.length).flatMap fun i=>match b.point (c.toNat - 65) (pts.getD i 0)with
  |none=>[]
  |some b'=>mp r (pts.eraseIdx i) b'
def JL(c:UInt8)(r:List UInt8)(pts:List Int)(b:Bnd)(i:Nat):List Bnd:=match b.point (c.toNat - 65) (pts.getD i 0)with
 |none=>[]
 |some b'=>mp r (pts.eraseIdx i) b'
def AT(b:Bnd):List A:=[.agg b.ds]
def Fg(c:UInt8)(r:List UInt8)(pts:List Int)(b:Bnd)(i:Nat):List (List A):=((List.range' i (pts.length - i)).flatMap (JL c r pts b)).map AT
theorem jav(c:UInt8)(r:List UInt8)(pts:List Int)(b:Bnd):(mp (c::r) pts b).map AT=Fg c r pts b 0:=by
 unfold Fg;rw[mp,List.range_eq_range'];rfl
theorem jdB{c:UInt8}{r:List UInt8}{pts:List Int}{b:Bnd}{i:Nat}(h:i<pts.length):Fg c r pts b i=(JL c r pts b i).map AT++Fg c r pts b (i+1):=by
 unfold Fg;rw[show pts.length - i=(pts.length - (i+1))+1 by omega,List.range'_succ,List.flatMap_cons,List.map_append]
theorem jfR{c:UInt8}{r:List UInt8}{pts:List Int}{b:Bnd}:Fg c r pts b pts.length=[]:=by simp[Fg]
@[simp]theorem jfU:({ data:= #[] }:ByteArray).toList=[]:=Up []
@[simp]theorem jkU(l:List UInt8):IB .eql (bs l) { data:= #[] }=some (vB (decide (l=[]))):=by
 unfold IB;simp only[Up,jfU];cases l<;>rfl
theorem Tv(x:Value): ∀(l:List UInt8) (pts:List Int) (b:Bnd),(∀c∈l,cap c)→(∀p∈pts,-1≤p∧p<1000000)→pts.length≤1000→l.length≤1000→
  BA Tryz.prog x 312 [.c (.str (bs l)),.c (intsD pts),.agg b.ds,.c (.lit x)] ((mp l pts b).map AT)
 |[],pts,b,hl,hp,hn,hln=>by
  refine CV (T:=tb) Ah mixed Tryz.func312 rfl (by decide) (Af rfl) rfl rfl ?_;intro rest;unfold St.initY
  simp -implicitDefEqProofs[jJ,-natCast_add,-natCast_mul,-List.reduceReplicate];refine⟨AT b,rest,by simp[lk,mp],by simp[AT,St.argsW,U.toA,lk],?_⟩
  simp -implicitDefEqProofs[jJ,-natCast_add,-natCast_mul,-List.reduceReplicate,St.backY,St.rest,BR]
 |c::r,pts,b,hl,hp,hn,hln=>by
  rw[jav]
  have hc:cap c:=hl c (by simp)
  obtain⟨k,hk⟩: ∃k,c.toNat=65+k:=⟨c.toNat - 65,by unfold cap at hc;omega⟩
  have hk26:k<26:=by unfold cap at hc;omega
  refine CV (T:=tb) Ah mixed Tryz.func312 rfl (by decide) (Af rfl) rfl rfl ?_;intro rest;unfold St.initY
  simp -implicitDefEqProofs[jJ,-natCast_add,-natCast_mul,-List.reduceReplicate];refine AF (fun i:Nat=>⟨[(1000000,.tr x (Fg c r pts b i++rest)),(19,vI .i64 i),(18,vI .i64 pts.length),(17,vC (.d (intsD pts))),(6,vC (.ptr 6 0)),(0,vC (.d (.str (bs (c::r))))),(1,vC (.d (intsD pts))),(3,vC (.d (.lit x)))],[(6,.box b.cs)]⟩)
   (fun i=>i≤pts.length) (fun i=>pts.length - i) 0 (by simp[Aw,lk,St.le,vI,vC]) (by omega) ?_
  rintro i hi
  by_cases h:i<pts.length
  ·have hpi:=hp pts[i] (AD h);simp -implicitDefEqProofs[jJ,-natCast_add,-natCast_mul,-List.reduceReplicate,h];refine At (Ad [0,0,2,0,15,31,63,63,0,383,1023]) [.any [] [10] [⟨0,[6],[10],[10],[]⟩,⟨0,[0],[10],[10],[]⟩,⟨0,[26],[10],[10],[]⟩,⟨0,[9],[10],[10],[]⟩,⟨0,[25,27,28],[10],[10],[]⟩,⟨0,[29],[10],[10],[]⟩,⟨0,[24],[10],[10],[]⟩,⟨0,[24],[10],[10],[]⟩,⟨1,[],[],[],[]⟩,⟨2,[10,30],[],[],[10]⟩],.one] (by rfl) ?_
   simp -implicitDefEqProofs[jJ,-natCast_add,-natCast_mul,-List.reduceReplicate,h,hk]
   (first|refine Ab (BF b k hk26 pts[i] hpi) ?_|refine Aa (BF b k hk26 pts[i] hpi) ?_)
   have hm:=jdB (c:=c) (r:=r) (b:=b) h;have hat:JL c r pts b i=match b.point k pts[i]with|none=>[]|some b'=>mp r (pts.eraseIdx i) b':=by
    unfold JL;rw[hk,Nat.add_sub_cancel_left,Ax,Am h];rfl
   generalize b.point k pts[i]=ob at*;cases ob with
   |none=>
    simp only[List.map_nil,List.nil_append]at hat;rw[hat]at hm;simp -implicitDefEqProofs[jJ,-natCast_add,-natCast_mul,-List.reduceReplicate,Bp,hm];exact⟨by omega,i+1,⟨rfl,rfl⟩,by omega,by omega⟩
   |some b'=>
    simp only at hat;rw[hat]at hm;simp -implicitDefEqProofs[jJ,-natCast_add,-natCast_mul,-List.reduceReplicate,Bp,hm];refine At (Ad [0,1,0,4,0,0,32,124,0,0,1023]) [.any [] [36,40] [⟨0,[0],[36,40],[36,40],[]⟩,⟨0,[33],[36,40],[36,40],[]⟩,⟨0,[1],[],[36,40],[]⟩,⟨1,[35],[],[40],[]⟩,⟨0,[8],[36],[36,40],[]⟩,⟨0,[8],[36],[36,40],[]⟩,⟨0,[38],[36],[36,40],[]⟩,⟨5,[36,37,39],[],[],[36]⟩,⟨0,[10],[36,40],[36,40],[]⟩,⟨0,[3],[36,40],[36,40],[]⟩],.one] (by rfl) ?_
    simp -implicitDefEqProofs[jJ,-natCast_add,-natCast_mul,-List.reduceReplicate];have hne:pts≠[]:=fun e=>by subst e;simp at h
    (first|refine Ab (NH pts (by omega) hne) ?_|refine Aa (NH pts (by omega) hne) ?_)
    simp -implicitDefEqProofs[jJ,-natCast_add,-natCast_mul,-List.reduceReplicate];refine⟨by omega,.inl ⟨36,pts.length,1,pts.length - 1,40,pts.map i64,(pts.eraseIdx i).map i64,_,_,rfl,by simp[lk],by simp[U.toA,toD],rfl,jfV pts i h (by omega),?_⟩⟩
    simp -implicitDefEqProofs[jJ,-natCast_add,-natCast_mul,-List.reduceReplicate];have ih:=Tv x r (pts.eraseIdx i) b' (fun c hc=>hl c (by simp[hc])) (fun p hpp=>hp p (List.mem_of_mem_eraseIdx hpp)) (by have:=List.length_eraseIdx_le (l:=pts) (i:=i);omega) (by simp at hln;omega)
    have ex1:(bs (c::r)).extract 1 (1+r.length)=bs r:=by
     have:=MF (c::r) 1 (by simp)
     simpa using this
    have ex2:(pts.eraseIdx i).length=pts.length - 1:=List.length_eraseIdx_of_lt h
    have ex3:List.take (pts.length - 1) ((pts.eraseIdx i).map i64)=(pts.eraseIdx i).map i64:=AH (by simp[ex2])
    refine .inr (.inr (.inl ⟨x,(mp r (pts.eraseIdx i) b').map AT,Fg c r pts b (i+1)++rest,_,by simp[lk],?_,ih,?_⟩))
    ·simp[St.argsW,U.toA,toD,St.reachU,Bu,U.all,lk,C.id?,AA,ex1,ex2,ex3,intsD,Cl]
    ·simp only[St.reachU,List.flatMap_cons,List.flatMap_nil,U.all,List.append_nil,List.cons_append,List.nil_append,DY,Bnd.reach_cs,D7,D6,jd4 (show lk 40 [(40,Blk.row 1 ((pts.eraseIdx i).map i64) true),(10,Blk.box b'.cs),(6,Blk.box b.cs)]=some (Blk.row 1 ((pts.eraseIdx i).map i64) true) from rfl)]
     simp -implicitDefEqProofs[jJ,-natCast_add,-natCast_mul,-List.reduceReplicate,St.backY,St.rest];exact⟨by omega,i+1,⟨rfl,rfl⟩,by omega,by omega⟩
  ·have hi2:i=pts.length:=by omega
   subst hi2;rw[jfR];simp -implicitDefEqProofs[jJ,-natCast_add,-natCast_mul,-List.reduceReplicate,BR]
def NC:List (List Nat):=(Ad [0,0,2,0,0,8,56,120,255,511,1023,1023,0,6143,16383])
@[simp]def Lc:List Seg:=[.any [] [11] [⟨0,[6],[11],[11],[]⟩,⟨0,[0],[11],[11],[]⟩,⟨0,[44],[11],[11],[]⟩,⟨0,[1],[11],[11],[]⟩,⟨0,[10],[11],[11],[]⟩,⟨0,[46],[11],[11],[]⟩,⟨0,[47,48],[11],[11],[]⟩,⟨0,[49],[11],[11],[]⟩,⟨0,[43,45,50],[11],[11],[]⟩,⟨0,[51],[11],[11],[]⟩,⟨0,[42],[11],[11],[]⟩,⟨0,[42],[11],[11],[]⟩,⟨1,[],[],[],[]⟩,⟨2,[11,52],[],[],[11]⟩],.one]
def UV:List (List Nat):=(Ad [0,0,2,0,0,16,8,120,248,511,1023,2047,2047,4095,16383])
@[simp]def PO:List Seg:=[.any [] [] (Ap [[11],[0],[58],[1],[10],[61],[60],[62,63],[64]]),.one,.one,.any [] [] [⟨0,[56],[],[],[]⟩,⟨0,[56],[11],[],[]⟩,⟨2,[11,67],[],[],[11]⟩],.one]
def JE:List (List Nat):=(Ad [0,1,3,7,0,16,48,112,255])
@[simp]def Jm:List Seg:=[.any [] [] (Ap [[1],[77],[78],[79],[1],[81],[82],[83]]),.one]
def NN:List (List Nat):=(Ad [0,1,0,4,0,0,63])
@[simp]def OJ:List Seg:=[.any [] [] (Ap [[0],[70],[1],[72],[11],[3]]),.one]
def ms:List UInt8→List (Int×Int)→Bnd→List Bnd
 |[],_,b=>[b]
 |_::_,[],b=>[]
 |c::r,s::l,b=>if 97≤c.toNat then (match b.segment (c.toNat - 97) s with|none=>[]|some b'=>ms r l b') else
  match r with
  |[]=>[]
  |d::r=>(match b.point (c.toNat - 65) s.1 with|none=>[]|some b1=>match b1.point (d.toNat - 65) s.2 with|none=>[]|some b2=>ms r l b2)++
   (if s.1=s.2 then [] else match b.point (c.toNat - 65) s.2 with|none=>[]|some b1=>match b1.point (d.toNat - 65) s.1 with|none=>[]|some b2=>ms r l b2)
def DM(c d:UInt8)(r:List UInt8)(l:List (Int×Int))(b:Bnd)(p q:Int):List Bnd:=
 match b.point (c.toNat - 65) p with|none=>[]|some b1=>match b1.point (d.toNat - 65) q with|none=>[]|some b2=>ms r l b2
def CE:List UInt8→List (Int×Int)→Prop
 |[],_=>True
 |_::_,[]=>False
 |c::r,_::l=>if 97≤c.toNat then c.toNat<123∧CE r l else
  match r with
  |[]=>False
  |d::r=>cap c∧cap d∧CE r l
theorem Ms{c d:UInt8}{r:List UInt8}{s:Int×Int}{l:List (Int×Int)}{b:Bnd}(h: ¬97≤c.toNat):ms (c::d::r) (s::l) b=DM c d r l b s.1 s.2++(if s.1=s.2 then [] else DM c d r l b s.2 s.1):=by
 simp only[ms,if_neg h];rfl
theorem TA{c:UInt8}{r:List UInt8}{s:Int×Int}{l:List (Int×Int)}(h:97≤c.toNat):CE (c::r) (s::l)=(c.toNat<123∧CE r l):=by
 cases r<;>simp only[CE,if_pos h]
theorem Mz{c:UInt8}{r:List UInt8}{s:Int×Int}{l:List (Int×Int)}{b:Bnd}(h:97≤c.toNat):ms (c::r) (s::l) b=match b.segment (c.toNat - 97) s with|none=>[]|some b'=>ms r l b':=by
 cases r<;>simp only[ms,if_pos h]
theorem XQ{c:UInt8}{r:List UInt8}{s:Int×Int}{l:List (Int×Int)}(h: ¬97≤c.toNat)(hk:CE (c::r) (s::l)): ∃d r',r=d::r'∧cap c∧cap d∧CE r' l:=by
 cases r with
 |nil=>simp only[CE,if_neg h]at hk
 |cons d r=>simp only[CE,if_neg h]at hk;exact⟨d,r,rfl,hk⟩
def DQ(s:Int×Int):Prop:=(-1≤s.1∧s.1<1000000)∧(-1≤s.2∧s.2<1000000)
@[simp]theorem jk8(h:List (Nat×Blk))(s:Int×Int)(l:List (Int×Int)):sliceV h (.d (Df (s::l))) (some 1) none 2=some (.d (Df l)):=by
 unfold Df;simp[sliceV,Fe,AA,BD]
 constructor
 ·omega
 ·rw[AH (by simp[Nat.mul_comm])]
  exact⟨by omega,rfl⟩
theorem jeh(x:Value): ∀(n:Nat) (ls:List UInt8) (l:List (Int×Int)) (b:Bnd),ls.length≤n→CE ls l→(∀s∈l,DQ s)→l.length≤1000→ls.length≤1000→
  BA Tryz.prog x 315 [.c (.str (bs ls)),.c (Df l),.agg b.ds,.c (.lit x)] ((ms ls l b).map AT):=by
 intro n
 induction n with
 |zero=>
  intro ls l b hn hok hl hll hls;have:ls=[]:=jzv.1 (by omega)
  subst this;refine CV (T:=tb) Ah mixed Tryz.func315 rfl (by decide) (Af rfl) rfl rfl ?_;intro rest;unfold St.initY
  simp -implicitDefEqProofs[jJ,-natCast_add,-natCast_mul,-List.reduceReplicate];refine⟨AT b,rest,by simp[lk,ms],by simp[AT,St.argsW,U.toA,lk],?_⟩
  simp -implicitDefEqProofs[jJ,-natCast_add,-natCast_mul,-List.reduceReplicate,St.backY,St.rest,BR]
 |succ n ih=>
  intro ls l b hn hok hl hll hls
  match ls,l,hok with
  |[],l,_=>
   refine CV (T:=tb) Ah mixed Tryz.func315 rfl (by decide) (Af rfl) rfl rfl ?_;intro rest;unfold St.initY
   simp -implicitDefEqProofs[jJ,-natCast_add,-natCast_mul,-List.reduceReplicate];refine⟨AT b,rest,by simp[lk,ms],by simp[AT,St.argsW,U.toA,lk],?_⟩
   simp -implicitDefEqProofs[jJ,-natCast_add,-natCast_mul,-List.reduceReplicate,St.backY,St.rest,BR]
  |c::r,s::l,hok=>
   have hs:DQ s:=hl s (by simp)
   by_cases h97:97≤c.toNat
   ·obtain⟨k,hk⟩: ∃k,c.toNat=97+k:=⟨c.toNat - 97,by omega⟩
    rw[TA h97]at hok
    have hk26:k<26:=by omega
    have hms:ms (c::r) (s::l) b=match b.segment k s with|none=>[]|some b'=>ms r l b':=by
     rw[Mz h97,hk,Nat.add_sub_cancel_left]
    have ex1:(bs (c::r)).extract 1 (1+r.length)=bs r:=by
     have:=MF (c::r) 1 (by simp)
     simpa using this
    refine CV (T:=tb) Ah mixed Tryz.func315 rfl (by decide) (Af rfl) rfl rfl ?_;intro rest;unfold St.initY
    simp -implicitDefEqProofs[jJ,-natCast_add,-natCast_mul,-List.reduceReplicate]
    (first|refine Ab (G7 c.toNat) ?_|refine Aa (G7 c.toNat) ?_)
    simp -implicitDefEqProofs[jJ,-natCast_add,-natCast_mul,-List.reduceReplicate,h97];refine At (Ad [0,0,2,0,8,24,63,127,255,255,0,1535,4095]) [.any [] [8] [⟨0,[6],[8],[8],[]⟩,⟨0,[0],[8],[8],[]⟩,⟨0,[23],[8],[8],[]⟩,⟨0,[1],[8],[8],[]⟩,⟨0,[25],[8],[8],[]⟩,⟨0,[26],[8],[8],[]⟩,⟨0,[22,24,27],[8],[8],[]⟩,⟨0,[28],[8],[8],[]⟩,⟨0,[21],[8],[8],[]⟩,⟨0,[21],[8],[8],[]⟩,⟨1,[],[],[],[]⟩,⟨2,[8,29],[],[],[8]⟩],.one] (by rfl) ?_
    simp -implicitDefEqProofs[jJ,-natCast_add,-natCast_mul,-List.reduceReplicate,hk,BD]
    (first|refine Ab (Si b k hk26 s.1 s.2 hs.1 hs.2) ?_|refine Aa (Si b k hk26 s.1 s.2 hs.1 hs.2) ?_)
    generalize hob:b.segment k (s.1,s.2)=ob at*;cases ob with
    |none=>
     simp only at hms;rw[hms];simp -implicitDefEqProofs[jJ,-natCast_add,-natCast_mul,-List.reduceReplicate,Bp,BR]
    |some b'=>
     simp only at hms;rw[hms];simp -implicitDefEqProofs[jJ,-natCast_add,-natCast_mul,-List.reduceReplicate,Bp];refine At (Ad [0,1,0,4,0,0,63]) [.any [] [] (Ap [[0],[32],[1],[34],[8],[3]]),.one] (by rfl) ?_
     simp -implicitDefEqProofs[jJ,-natCast_add,-natCast_mul,-List.reduceReplicate,ex1];have h1:=ih r l b' (by simp at hn;omega) hok.2 (fun s hs=>hl s (by simp[hs])) (by simp at hll;omega) (by simp at hls;omega)
     refine .inr (.inr (.inl ⟨x,(ms r l b').map AT,rest,_,by simp[lk],?_,h1,?_⟩))
     ·simp[St.argsW,U.toA,toD]
     ·simp only[St.reachU,List.flatMap_cons,List.flatMap_nil,U.all,List.append_nil,List.cons_append,List.nil_append,DY,Bnd.reach_cs,D7,D6];simp -implicitDefEqProofs[jJ,-natCast_add,-natCast_mul,-List.reduceReplicate,St.backY,St.rest,BR]
   ·obtain⟨d,r,rfl,hc,hd,hok⟩:=XQ h97 hok
    obtain⟨k,hk⟩: ∃k,c.toNat=65+k:=⟨c.toNat - 65,by unfold cap at hc;omega⟩
    obtain⟨j,hj⟩: ∃j,d.toNat=65+j:=⟨d.toNat - 65,by unfold cap at hd;omega⟩
    have hk26:k<26:=by unfold cap at hc;omega
    have hj26:j<26:=by unfold cap at hd;omega
    have e97:(97≤65+k)=False:=by simp;omega
    have ex2:(bs (c::d::r)).extract 2 (2+r.length)=bs r:=by
     have:=MF (c::d::r) 2 (by simp)
     simpa using this
    rw[Ms h97]
    have hA: ∀p q,DM c d r l b p q=match b.point k p with|none=>[]|some b1=>match b1.point j q with|none=>[]|some b2=>ms r l b2:=fun p q=>by
     unfold DM;rw[hk,hj,Nat.add_sub_cancel_left,Nat.add_sub_cancel_left]
    refine CV (T:=tb) Ah mixed Tryz.func315 rfl (by decide) (Af rfl) rfl rfl ?_;intro rest;unfold St.initY
    simp -implicitDefEqProofs[jJ,-natCast_add,-natCast_mul,-List.reduceReplicate]
    (first|refine Ab (G7 c.toNat) ?_|refine Aa (G7 c.toNat) ?_)
    simp -implicitDefEqProofs[jJ,-natCast_add,-natCast_mul,-List.reduceReplicate,hk,e97];refine AF (fun i:Nat=>⟨[(1000000,.tr x ((match i with|0=>(DM c d r l b s.1 s.2++(if s.1=s.2 then [] else DM c d r l b s.2 s.1))|1=>(if s.1=s.2 then [] else DM c d r l b s.2 s.1)|_=>[]).map AT++rest)),(39,vI .i64 i),(6,vC (.ptr 6 0)),(0,vC (.d (.str (bs (c::d::r))))),(1,vC (.d (Df (s::l)))),(3,vC (.d (.lit x)))],[(6,.box b.cs)]⟩)
     (fun i=>i≤2∧(i=1→s.1=s.2→b.point k s.1=none)) (fun i=>2 - i) 0 (by simp[Aw,lk,St.le,vI,vC]) (by simp) ?_
    rintro i hi
    match i,hi with
    |0,_=>
     simp -implicitDefEqProofs[jJ,-natCast_add,-natCast_mul,-List.reduceReplicate];refine At NC Lc (by rfl) ?_
     simp -implicitDefEqProofs[jJ,-natCast_add,-natCast_mul,-List.reduceReplicate,hk,BD]
     (first|refine Ab (BF b k hk26 s.1 hs.1) ?_|refine Aa (BF b k hk26 s.1 hs.1) ?_)
     have h0:=hA s.1 s.2;generalize b.point k s.1=o1 at*;cases o1 with
     |none=>
      simp only at h0;simp -implicitDefEqProofs[jJ,-natCast_add,-natCast_mul,-List.reduceReplicate,Bp,h0];exact⟨1,⟨by simp,rfl⟩,by simp,by omega⟩
     |some b1=>
      simp only at h0;simp -implicitDefEqProofs[jJ,-natCast_add,-natCast_mul,-List.reduceReplicate,Bp];refine At UV PO (by rfl) ?_
      simp -implicitDefEqProofs[jJ,-natCast_add,-natCast_mul,-List.reduceReplicate,hj,BD]
      (first|refine Ab (BF b1 j hj26 s.2 hs.2) ?_|refine Aa (BF b1 j hj26 s.2 hs.2) ?_)
      generalize b1.point j s.2=o2 at*;cases o2 with
      |none=>
       simp only at h0;simp -implicitDefEqProofs[jJ,-natCast_add,-natCast_mul,-List.reduceReplicate,Bp,h0];refine At JE Jm (by rfl) ?_
       simp -implicitDefEqProofs[jJ,-natCast_add,-natCast_mul,-List.reduceReplicate,BD];by_cases he:s.1=s.2
       ·simp -implicitDefEqProofs[jJ,-natCast_add,-natCast_mul,-List.reduceReplicate,i64,he,BR]
       ·simp -implicitDefEqProofs[jJ,-natCast_add,-natCast_mul,-List.reduceReplicate,i64,he];exact⟨1,⟨by simp[he],rfl⟩,by simp[he],by omega⟩
      |some b2=>
       simp only at h0;simp -implicitDefEqProofs[jJ,-natCast_add,-natCast_mul,-List.reduceReplicate,Bp,h0];refine At NN OJ (by rfl) ?_
       simp -implicitDefEqProofs[jJ,-natCast_add,-natCast_mul,-List.reduceReplicate,ex2];have h1:=ih r l b2 (by simp at hn;omega) hok (fun s hs=>hl s (by simp[hs])) (by simp at hll;omega) (by simp at hls;omega)
       refine .inr (.inr (.inl ⟨x,(ms r l b2).map AT,(if s.1=s.2 then [] else DM c d r l b s.2 s.1).map AT++rest,_,by simp[lk],?_,h1,?_⟩))
       ·simp[St.argsW,U.toA,toD]
       ·simp only[St.reachU,List.flatMap_cons,List.flatMap_nil,U.all,List.append_nil,List.cons_append,List.nil_append,DY,Bnd.reach_cs,D7,D6];simp -implicitDefEqProofs[jJ,-natCast_add,-natCast_mul,-List.reduceReplicate,St.backY,St.rest];refine At JE Jm (by rfl) ?_
        simp -implicitDefEqProofs[jJ,-natCast_add,-natCast_mul,-List.reduceReplicate,BD];by_cases he:s.1=s.2
        ·simp -implicitDefEqProofs[jJ,-natCast_add,-natCast_mul,-List.reduceReplicate,i64,he,BR]
        ·simp -implicitDefEqProofs[jJ,-natCast_add,-natCast_mul,-List.reduceReplicate,i64,he];exact⟨1,⟨by simp[he],rfl⟩,by simp[he],by omega⟩
    |1,hi=>
     by_cases he:s.1=s.2
     ·have hno:=hi.2 rfl he;rw[he]at hno;simp -implicitDefEqProofs[jJ,-natCast_add,-natCast_mul,-List.reduceReplicate,he];refine At NC Lc (by rfl) ?_
      simp -implicitDefEqProofs[jJ,-natCast_add,-natCast_mul,-List.reduceReplicate,hk,BD]
      (first|refine Ab (BF b k hk26 s.2 hs.2) ?_|refine Aa (BF b k hk26 s.2 hs.2) ?_)
      rw[hno]
      simp -implicitDefEqProofs[jJ,-natCast_add,-natCast_mul,-List.reduceReplicate,Bp];exact⟨2,⟨by simp,rfl⟩,by simp,by omega⟩
     simp -implicitDefEqProofs[jJ,-natCast_add,-natCast_mul,-List.reduceReplicate,he];refine At NC Lc (by rfl) ?_
     simp -implicitDefEqProofs[jJ,-natCast_add,-natCast_mul,-List.reduceReplicate,hk,BD]
     (first|refine Ab (BF b k hk26 s.2 hs.2) ?_|refine Aa (BF b k hk26 s.2 hs.2) ?_)
     have h0:=hA s.2 s.1;generalize b.point k s.2=o1 at*;cases o1 with
     |none=>
      simp only at h0;simp -implicitDefEqProofs[jJ,-natCast_add,-natCast_mul,-List.reduceReplicate,Bp,h0];exact⟨2,⟨by simp,rfl⟩,by simp,by omega⟩
     |some b1=>
      simp only at h0;simp -implicitDefEqProofs[jJ,-natCast_add,-natCast_mul,-List.reduceReplicate,Bp];refine At UV PO (by rfl) ?_
      simp -implicitDefEqProofs[jJ,-natCast_add,-natCast_mul,-List.reduceReplicate,hj,BD]
      (first|refine Ab (BF b1 j hj26 s.1 hs.1) ?_|refine Aa (BF b1 j hj26 s.1 hs.1) ?_)
      generalize b1.point j s.1=o2 at*;cases o2 with
      |none=>
       simp only at h0;simp -implicitDefEqProofs[jJ,-natCast_add,-natCast_mul,-List.reduceReplicate,Bp,h0];refine At JE Jm (by rfl) ?_
       simp -implicitDefEqProofs[jJ,-natCast_add,-natCast_mul,-List.reduceReplicate,BD];simp -implicitDefEqProofs[jJ,-natCast_add,-natCast_mul,-List.reduceReplicate,i64,he];exact⟨2,⟨by simp,rfl⟩,by simp,by omega⟩
      |some b2=>
       simp only at h0;simp -implicitDefEqProofs[jJ,-natCast_add,-natCast_mul,-List.reduceReplicate,Bp,h0];refine At NN OJ (by rfl) ?_
       simp -implicitDefEqProofs[jJ,-natCast_add,-natCast_mul,-List.reduceReplicate,ex2];have h1:=ih r l b2 (by simp at hn;omega) hok (fun s hs=>hl s (by simp[hs])) (by simp at hll;omega) (by simp at hls;omega)
       refine .inr (.inr (.inl ⟨x,(ms r l b2).map AT,rest,_,by simp[lk],?_,h1,?_⟩))
       ·simp[St.argsW,U.toA,toD]
       ·simp only[St.reachU,List.flatMap_cons,List.flatMap_nil,U.all,List.append_nil,List.cons_append,List.nil_append,DY,Bnd.reach_cs,D7,D6];simp -implicitDefEqProofs[jJ,-natCast_add,-natCast_mul,-List.reduceReplicate,St.backY,St.rest];refine At JE Jm (by rfl) ?_
        simp -implicitDefEqProofs[jJ,-natCast_add,-natCast_mul,-List.reduceReplicate,BD];simp -implicitDefEqProofs[jJ,-natCast_add,-natCast_mul,-List.reduceReplicate,i64,he];exact⟨2,⟨by simp,rfl⟩,by simp,by omega⟩
    |2,_=>
     simp -implicitDefEqProofs[jJ,-natCast_add,-natCast_mul,-List.reduceReplicate,BR]
end Go.Va
