/- a part of the proof -/
import Derived.Test.YtkajmpgbnbikiaaGreatDoorPap
import Derived.Test.YtkajmpgbnbikiaaGreatDoorPaq
set_option linter.all false
set_option maxHeartbeats 4000000
set_option maxRecDepth 10000
namespace Go.Va
open Int (natCast_add natCast_mul natCast_emod natCast_ediv natCast_pow)
open Go.Proofs
def cap(c:UInt8):Prop:=65≤c.toNat∧c.toNat<91
def mp:List UInt8→List Int→Bnd→List Bnd
 |[],_,b=>[b]
 |c::r,pts,b=>(List.range pts.length).flatMap fun i=>match b.point (c.toNat - 65) (pts.getD i 0)with
  |none=>[]
  |some b'=>mp r (pts.eraseIdx i) b'
def Iv(c:UInt8)(r:List UInt8)(pts:List Int)(b:Bnd)(i:Nat):List Bnd:=match b.point (c.toNat - 65) (pts.getD i 0)with
 |none=>[]
 |some b'=>mp r (pts.eraseIdx i) b'
def AD(b:Bnd):List A:=[.agg b.ds]
def DV(c:UInt8)(r:List UInt8)(pts:List Int)(b:Bnd)(i:Nat):List (List A):=((List.range' i (pts.length - i)).flatMap (Iv c r pts b)).map AD
theorem Zr(c:UInt8)(r:List UInt8)(pts:List Int)(b:Bnd):(mp (c::r) pts b).map AD=DV c r pts b 0:=by
 unfold DV;rw[mp,List.range_eq_range'];rfl
theorem YV{c:UInt8}{r:List UInt8}{pts:List Int}{b:Bnd}{i:Nat}(h:i<pts.length):DV c r pts b i=(Iv c r pts b i).map AD++DV c r pts b (i+1):=by
 unfold DV;rw[show pts.length - i=(pts.length - (i+1))+1 by omega,List.range'_succ,List.flatMap_cons,List.map_append]
theorem jev{c:UInt8}{r:List UInt8}{pts:List Int}{b:Bnd}:DV c r pts b pts.length=[]:=by simp[DV]
@[simp]theorem jbr:({ data:= #[] }:ByteArray).toList=[]:=Xo []
@[simp]theorem jpv(l:List UInt8):GO .eql (bs l) { data:= #[] }=some (vB (decide (l=[]))):=by
 unfold GO;simp only[Xo,jbr];cases l<;>rfl
theorem NM(x:Value): ∀(l:List UInt8) (pts:List Int) (b:Bnd),(∀c∈l,cap c)→(∀p∈pts,-1≤p∧p<1000000)→pts.length≤1000→l.length≤1000→
  Ba Tryz.prog x 312 [.c (.str (bs l)),.c (intsD pts),.agg b.ds,.c (.lit x)] ((mp l pts b).map AD)
 |[],pts,b,hl,hp,hn,hln=>by
  refine Cb (T:=tb) Ai mixed Tryz.func312 rfl (by decide) (Ah rfl) rfl rfl ?_;intro rest;unfold St.initY
  simp -implicitDefEqProofs[jJ,-natCast_add,-natCast_mul,-List.reduceReplicate];refine⟨AD b,rest,by simp[lk,mp],by simp[AD,St.argsW,U.toA,lk],?_⟩
  simp -implicitDefEqProofs[jJ,-natCast_add,-natCast_mul,-List.reduceReplicate,St.backY,St.rest,Bp]
 |c::r,pts,b,hl,hp,hn,hln=>by
  rw[Zr]
  have hc:cap c:=hl c (by simp)
  obtain⟨k,hk⟩: ∃k,c.toNat=65+k:=⟨c.toNat - 65,by unfold cap at hc;omega⟩
  have hk26:k<26:=by unfold cap at hc;omega
  refine Cb (T:=tb) Ai mixed Tryz.func312 rfl (by decide) (Ah rfl) rfl rfl ?_;intro rest;unfold St.initY
  simp -implicitDefEqProofs[jJ,-natCast_add,-natCast_mul,-List.reduceReplicate];refine AA (fun i:Nat=>⟨[(1000000,.tr x (DV c r pts b i++rest)),(19,vI .i64 i),(18,vI .i64 pts.length),(17,vC (.d (intsD pts))),(6,vC (.ptr 6 0)),(0,vC (.d (.str (bs (c::r))))),(1,vC (.d (intsD pts))),(3,vC (.d (.lit x)))],[(6,.box b.cs)]⟩)
   (fun i=>i≤pts.length) (fun i=>pts.length - i) 0 (by simp[As,lk,St.le,vI,vC]) (by omega) ?_
  rintro i hi
  by_cases h:i<pts.length
  ·have hpi:=hp pts[i] (AK h);simp -implicitDefEqProofs[jJ,-natCast_add,-natCast_mul,-List.reduceReplicate,h];refine Ar (Ac [0,0,2,0,15,31,63,63,0,383,1023]) [.any [] [10] [⟨0,[6],[10],[10],[]⟩,⟨0,[0],[10],[10],[]⟩,⟨0,[26],[10],[10],[]⟩,⟨0,[9],[10],[10],[]⟩,⟨0,[25,27,28],[10],[10],[]⟩,⟨0,[29],[10],[10],[]⟩,⟨0,[24],[10],[10],[]⟩,⟨0,[24],[10],[10],[]⟩,⟨1,[],[],[],[]⟩,⟨2,[10,30],[],[],[10]⟩],.one] (by rfl) ?_
   simp -implicitDefEqProofs[jJ,-natCast_add,-natCast_mul,-List.reduceReplicate,h,hk]
   (first|refine Ab (Bg b k hk26 pts[i] hpi) ?_|refine Aa (Bg b k hk26 pts[i] hpi) ?_)
   have hm:=YV (c:=c) (r:=r) (b:=b) h;have hat:Iv c r pts b i=match b.point k pts[i]with|none=>[]|some b'=>mp r (pts.eraseIdx i) b':=by
    unfold Iv;rw[hk,Nat.add_sub_cancel_left,AW,An h];rfl
   generalize b.point k pts[i]=ob at*;cases ob with
   |none=>
    simp only[List.map_nil,List.nil_append]at hat;rw[hat]at hm;simp -implicitDefEqProofs[jJ,-natCast_add,-natCast_mul,-List.reduceReplicate,AZ,hm];exact⟨by omega,i+1,⟨rfl,rfl⟩,by omega,by omega⟩
   |some b'=>
    simp only at hat;rw[hat]at hm;simp -implicitDefEqProofs[jJ,-natCast_add,-natCast_mul,-List.reduceReplicate,AZ,hm];refine Ar (Ac [0,1,0,4,0,0,32,124,0,0,1023]) [.any [] [36,40] [⟨0,[0],[36,40],[36,40],[]⟩,⟨0,[33],[36,40],[36,40],[]⟩,⟨0,[1],[],[36,40],[]⟩,⟨1,[35],[],[40],[]⟩,⟨0,[8],[36],[36,40],[]⟩,⟨0,[8],[36],[36,40],[]⟩,⟨0,[38],[36],[36,40],[]⟩,⟨5,[36,37,39],[],[],[36]⟩,⟨0,[10],[36,40],[36,40],[]⟩,⟨0,[3],[36,40],[36,40],[]⟩],.one] (by rfl) ?_
    simp -implicitDefEqProofs[jJ,-natCast_add,-natCast_mul,-List.reduceReplicate];have hne:pts≠[]:=fun e=>by subst e;simp at h
    (first|refine Ab (K0 pts (by omega) hne) ?_|refine Aa (K0 pts (by omega) hne) ?_)
    simp -implicitDefEqProofs[jJ,-natCast_add,-natCast_mul,-List.reduceReplicate];refine⟨by omega,.inl ⟨36,pts.length,1,pts.length - 1,40,pts.map i64,(pts.eraseIdx i).map i64,_,_,rfl,by simp[lk],by simp[U.toA,toD],rfl,jlz pts i h (by omega),?_⟩⟩
    simp -implicitDefEqProofs[jJ,-natCast_add,-natCast_mul,-List.reduceReplicate];have ih:=NM x r (pts.eraseIdx i) b' (fun c hc=>hl c (by simp[hc])) (fun p hpp=>hp p (List.mem_of_mem_eraseIdx hpp)) (by have:=List.length_eraseIdx_le (l:=pts) (i:=i);omega) (by simp at hln;omega)
    have ex1:(bs (c::r)).extract 1 (1+r.length)=bs r:=by
     have:=K6 (c::r) 1 (by simp)
     simpa using this
    have ex2:(pts.eraseIdx i).length=pts.length - 1:=List.length_eraseIdx_of_lt h
    have ex3:List.take (pts.length - 1) ((pts.eraseIdx i).map i64)=(pts.eraseIdx i).map i64:=Bv (by simp[ex2])
    refine .inr (.inr (.inl ⟨x,(mp r (pts.eraseIdx i) b').map AD,DV c r pts b (i+1)++rest,_,by simp[lk],?_,ih,?_⟩))
    ·simp[St.argsW,U.toA,toD,St.reachU,A8,U.all,lk,C.id?,AH,ex1,ex2,ex3,intsD,BG]
    ·simp only[St.reachU,List.flatMap_cons,List.flatMap_nil,U.all,List.append_nil,List.cons_append,List.nil_append,Dh,Bnd.reach_cs,C9,Dl,jkE (show lk 40 [(40,Blk.row 1 ((pts.eraseIdx i).map i64) true),(10,Blk.box b'.cs),(6,Blk.box b.cs)]=some (Blk.row 1 ((pts.eraseIdx i).map i64) true) from rfl)]
     simp -implicitDefEqProofs[jJ,-natCast_add,-natCast_mul,-List.reduceReplicate,St.backY,St.rest];exact⟨by omega,i+1,⟨rfl,rfl⟩,by omega,by omega⟩
  ·have hi2:i=pts.length:=by omega
   subst hi2;rw[jev];simp -implicitDefEqProofs[jJ,-natCast_add,-natCast_mul,-List.reduceReplicate,Bp]
def JS:List (List Nat):=(Ac [0,0,2,0,0,8,56,120,255,511,1023,1023,0,6143,16383])
@[simp]def Jw:List Seg:=[.any [] [11] [⟨0,[6],[11],[11],[]⟩,⟨0,[0],[11],[11],[]⟩,⟨0,[44],[11],[11],[]⟩,⟨0,[1],[11],[11],[]⟩,⟨0,[10],[11],[11],[]⟩,⟨0,[46],[11],[11],[]⟩,⟨0,[47,48],[11],[11],[]⟩,⟨0,[49],[11],[11],[]⟩,⟨0,[43,45,50],[11],[11],[]⟩,⟨0,[51],[11],[11],[]⟩,⟨0,[42],[11],[11],[]⟩,⟨0,[42],[11],[11],[]⟩,⟨1,[],[],[],[]⟩,⟨2,[11,52],[],[],[11]⟩],.one]
def Pp:List (List Nat):=(Ac [0,0,2,0,0,16,8,120,248,511,1023,2047,2047,4095,16383])
@[simp]def OI:List Seg:=[.any [] [] (Ak [[11],[0],[58],[1],[10],[61],[60],[62,63],[64]]),.one,.one,.any [] [] [⟨0,[56],[],[],[]⟩,⟨0,[56],[11],[],[]⟩,⟨2,[11,67],[],[],[11]⟩],.one]
def H4:List (List Nat):=(Ac [0,1,3,7,0,16,48,112,255])
@[simp]def Jh:List Seg:=[.any [] [] (Ak [[1],[77],[78],[79],[1],[81],[82],[83]]),.one]
def NK:List (List Nat):=(Ac [0,1,0,4,0,0,63])
@[simp]def QN:List Seg:=[.any [] [] (Ak [[0],[70],[1],[72],[11],[3]]),.one]
def ms:List UInt8→List (Int×Int)→Bnd→List Bnd
 |[],_,b=>[b]
 |_::_,[],b=>[]
 |c::r,s::l,b=>if 97≤c.toNat then (match b.segment (c.toNat - 97) s with|none=>[]|some b'=>ms r l b') else
  match r with
  |[]=>[]
  |d::r=>(match b.point (c.toNat - 65) s.1 with|none=>[]|some b1=>match b1.point (d.toNat - 65) s.2 with|none=>[]|some b2=>ms r l b2)++
   (if s.1=s.2 then [] else match b.point (c.toNat - 65) s.2 with|none=>[]|some b1=>match b1.point (d.toNat - 65) s.1 with|none=>[]|some b2=>ms r l b2)
def C3(c d:UInt8)(r:List UInt8)(l:List (Int×Int))(b:Bnd)(p q:Int):List Bnd:=
 match b.point (c.toNat - 65) p with|none=>[]|some b1=>match b1.point (d.toNat - 65) q with|none=>[]|some b2=>ms r l b2
def Cf:List UInt8→List (Int×Int)→Prop
 |[],_=>True
 |_::_,[]=>False
 |c::r,_::l=>if 97≤c.toNat then c.toNat<123∧Cf r l else
  match r with
  |[]=>False
  |d::r=>cap c∧cap d∧Cf r l
theorem KY{c d:UInt8}{r:List UInt8}{s:Int×Int}{l:List (Int×Int)}{b:Bnd}(h: ¬97≤c.toNat):ms (c::d::r) (s::l) b=C3 c d r l b s.1 s.2++(if s.1=s.2 then [] else C3 c d r l b s.2 s.1):=by
 simp only[ms,if_neg h];rfl
theorem Vh{c:UInt8}{r:List UInt8}{s:Int×Int}{l:List (Int×Int)}(h:97≤c.toNat):Cf (c::r) (s::l)=(c.toNat<123∧Cf r l):=by
 cases r<;>simp only[Cf,if_pos h]
theorem Kf{c:UInt8}{r:List UInt8}{s:Int×Int}{l:List (Int×Int)}{b:Bnd}(h:97≤c.toNat):ms (c::r) (s::l) b=match b.segment (c.toNat - 97) s with|none=>[]|some b'=>ms r l b':=by
 cases r<;>simp only[ms,if_pos h]
theorem XU{c:UInt8}{r:List UInt8}{s:Int×Int}{l:List (Int×Int)}(h: ¬97≤c.toNat)(hk:Cf (c::r) (s::l)): ∃d r',r=d::r'∧cap c∧cap d∧Cf r' l:=by
 cases r with
 |nil=>simp only[Cf,if_neg h]at hk
 |cons d r=>simp only[Cf,if_neg h]at hk;exact⟨d,r,rfl,hk⟩
def Dk(s:Int×Int):Prop:=(-1≤s.1∧s.1<1000000)∧(-1≤s.2∧s.2<1000000)
@[simp]theorem jpS(h:List (Nat×Blk))(s:Int×Int)(l:List (Int×Int)):sliceV h (.d (CC (s::l))) (some 1) none 2=some (.d (CC l)):=by
 unfold CC;simp[sliceV,D7,AH,Bc]
 constructor
 ·omega
 ·rw[Bv (by simp[Nat.mul_comm])]
  exact⟨by omega,rfl⟩
theorem jbP(x:Value): ∀(n:Nat) (ls:List UInt8) (l:List (Int×Int)) (b:Bnd),ls.length≤n→Cf ls l→(∀s∈l,Dk s)→l.length≤1000→ls.length≤1000→
  Ba Tryz.prog x 315 [.c (.str (bs ls)),.c (CC l),.agg b.ds,.c (.lit x)] ((ms ls l b).map AD):=by
 intro n
 induction n with
 |zero=>
  intro ls l b hn hok hl hll hls;have:ls=[]:=jzv.1 (by omega)
  subst this;refine Cb (T:=tb) Ai mixed Tryz.func315 rfl (by decide) (Ah rfl) rfl rfl ?_;intro rest;unfold St.initY
  simp -implicitDefEqProofs[jJ,-natCast_add,-natCast_mul,-List.reduceReplicate];refine⟨AD b,rest,by simp[lk,ms],by simp[AD,St.argsW,U.toA,lk],?_⟩
  simp -implicitDefEqProofs[jJ,-natCast_add,-natCast_mul,-List.reduceReplicate,St.backY,St.rest,Bp]
 |succ n ih=>
  intro ls l b hn hok hl hll hls
  match ls,l,hok with
  |[],l,_=>
   refine Cb (T:=tb) Ai mixed Tryz.func315 rfl (by decide) (Ah rfl) rfl rfl ?_;intro rest;unfold St.initY
   simp -implicitDefEqProofs[jJ,-natCast_add,-natCast_mul,-List.reduceReplicate];refine⟨AD b,rest,by simp[lk,ms],by simp[AD,St.argsW,U.toA,lk],?_⟩
   simp -implicitDefEqProofs[jJ,-natCast_add,-natCast_mul,-List.reduceReplicate,St.backY,St.rest,Bp]
  |c::r,s::l,hok=>
   have hs:Dk s:=hl s (by simp)
   by_cases h97:97≤c.toNat
   ·obtain⟨k,hk⟩: ∃k,c.toNat=97+k:=⟨c.toNat - 97,by omega⟩
    rw[Vh h97]at hok
    have hk26:k<26:=by omega
    have hms:ms (c::r) (s::l) b=match b.segment k s with|none=>[]|some b'=>ms r l b':=by
     rw[Kf h97,hk,Nat.add_sub_cancel_left]
    have ex1:(bs (c::r)).extract 1 (1+r.length)=bs r:=by
     have:=K6 (c::r) 1 (by simp)
     simpa using this
    refine Cb (T:=tb) Ai mixed Tryz.func315 rfl (by decide) (Ah rfl) rfl rfl ?_;intro rest;unfold St.initY
    simp -implicitDefEqProofs[jJ,-natCast_add,-natCast_mul,-List.reduceReplicate]
    (first|refine Ab (Gc c.toNat) ?_|refine Aa (Gc c.toNat) ?_)
    simp -implicitDefEqProofs[jJ,-natCast_add,-natCast_mul,-List.reduceReplicate,h97];refine Ar (Ac [0,0,2,0,8,24,63,127,255,255,0,1535,4095]) [.any [] [8] [⟨0,[6],[8],[8],[]⟩,⟨0,[0],[8],[8],[]⟩,⟨0,[23],[8],[8],[]⟩,⟨0,[1],[8],[8],[]⟩,⟨0,[25],[8],[8],[]⟩,⟨0,[26],[8],[8],[]⟩,⟨0,[22,24,27],[8],[8],[]⟩,⟨0,[28],[8],[8],[]⟩,⟨0,[21],[8],[8],[]⟩,⟨0,[21],[8],[8],[]⟩,⟨1,[],[],[],[]⟩,⟨2,[8,29],[],[],[8]⟩],.one] (by rfl) ?_
    simp -implicitDefEqProofs[jJ,-natCast_add,-natCast_mul,-List.reduceReplicate,hk,Bc]
    (first|refine Ab (L4 b k hk26 s.1 s.2 hs.1 hs.2) ?_|refine Aa (L4 b k hk26 s.1 s.2 hs.1 hs.2) ?_)
    generalize hob:b.segment k (s.1,s.2)=ob at*;cases ob with
    |none=>
     simp only at hms;rw[hms];simp -implicitDefEqProofs[jJ,-natCast_add,-natCast_mul,-List.reduceReplicate,AZ,Bp]
    |some b'=>
     simp only at hms;rw[hms];simp -implicitDefEqProofs[jJ,-natCast_add,-natCast_mul,-List.reduceReplicate,AZ];refine Ar (Ac [0,1,0,4,0,0,63]) [.any [] [] (Ak [[0],[32],[1],[34],[8],[3]]),.one] (by rfl) ?_
     simp -implicitDefEqProofs[jJ,-natCast_add,-natCast_mul,-List.reduceReplicate,ex1];have h1:=ih r l b' (by simp at hn;omega) hok.2 (fun s hs=>hl s (by simp[hs])) (by simp at hll;omega) (by simp at hls;omega)
     refine .inr (.inr (.inl ⟨x,(ms r l b').map AD,rest,_,by simp[lk],?_,h1,?_⟩))
     ·simp[St.argsW,U.toA,toD]
     ·simp only[St.reachU,List.flatMap_cons,List.flatMap_nil,U.all,List.append_nil,List.cons_append,List.nil_append,Dh,Bnd.reach_cs,C9,Dl];simp -implicitDefEqProofs[jJ,-natCast_add,-natCast_mul,-List.reduceReplicate,St.backY,St.rest,Bp]
   ·obtain⟨d,r,rfl,hc,hd,hok⟩:=XU h97 hok
    obtain⟨k,hk⟩: ∃k,c.toNat=65+k:=⟨c.toNat - 65,by unfold cap at hc;omega⟩
    obtain⟨j,hj⟩: ∃j,d.toNat=65+j:=⟨d.toNat - 65,by unfold cap at hd;omega⟩
    have hk26:k<26:=by unfold cap at hc;omega
    have hj26:j<26:=by unfold cap at hd;omega
    have e97:(97≤65+k)=False:=by simp;omega
    have ex2:(bs (c::d::r)).extract 2 (2+r.length)=bs r:=by
     have:=K6 (c::d::r) 2 (by simp)
     simpa using this
    rw[KY h97]
    have hA: ∀p q,C3 c d r l b p q=match b.point k p with|none=>[]|some b1=>match b1.point j q with|none=>[]|some b2=>ms r l b2:=fun p q=>by
     unfold C3;rw[hk,hj,Nat.add_sub_cancel_left,Nat.add_sub_cancel_left]
    refine Cb (T:=tb) Ai mixed Tryz.func315 rfl (by decide) (Ah rfl) rfl rfl ?_;intro rest;unfold St.initY
    simp -implicitDefEqProofs[jJ,-natCast_add,-natCast_mul,-List.reduceReplicate]
    (first|refine Ab (Gc c.toNat) ?_|refine Aa (Gc c.toNat) ?_)
    simp -implicitDefEqProofs[jJ,-natCast_add,-natCast_mul,-List.reduceReplicate,hk,e97];refine AA (fun i:Nat=>⟨[(1000000,.tr x ((match i with|0=>(C3 c d r l b s.1 s.2++(if s.1=s.2 then [] else C3 c d r l b s.2 s.1))|1=>(if s.1=s.2 then [] else C3 c d r l b s.2 s.1)|_=>[]).map AD++rest)),(39,vI .i64 i),(6,vC (.ptr 6 0)),(0,vC (.d (.str (bs (c::d::r))))),(1,vC (.d (CC (s::l)))),(3,vC (.d (.lit x)))],[(6,.box b.cs)]⟩)
     (fun i=>i≤2∧(i=1→s.1=s.2→b.point k s.1=none)) (fun i=>2 - i) 0 (by simp[As,lk,St.le,vI,vC]) (by simp) ?_
    rintro i hi
    match i,hi with
    |0,_=>
     simp -implicitDefEqProofs[jJ,-natCast_add,-natCast_mul,-List.reduceReplicate];refine Ar JS Jw (by rfl) ?_
     simp -implicitDefEqProofs[jJ,-natCast_add,-natCast_mul,-List.reduceReplicate,hk,Bc]
     (first|refine Ab (Bg b k hk26 s.1 hs.1) ?_|refine Aa (Bg b k hk26 s.1 hs.1) ?_)
     have h0:=hA s.1 s.2;generalize b.point k s.1=o1 at*;cases o1 with
     |none=>
      simp only at h0;simp -implicitDefEqProofs[jJ,-natCast_add,-natCast_mul,-List.reduceReplicate,AZ,h0];exact⟨1,⟨by simp,rfl⟩,by simp,by omega⟩
     |some b1=>
      simp only at h0;simp -implicitDefEqProofs[jJ,-natCast_add,-natCast_mul,-List.reduceReplicate,AZ];refine Ar Pp OI (by rfl) ?_
      simp -implicitDefEqProofs[jJ,-natCast_add,-natCast_mul,-List.reduceReplicate,hj,Bc]
      (first|refine Ab (Bg b1 j hj26 s.2 hs.2) ?_|refine Aa (Bg b1 j hj26 s.2 hs.2) ?_)
      generalize b1.point j s.2=o2 at*;cases o2 with
      |none=>
       simp only at h0;simp -implicitDefEqProofs[jJ,-natCast_add,-natCast_mul,-List.reduceReplicate,AZ,h0];refine Ar H4 Jh (by rfl) ?_
       simp -implicitDefEqProofs[jJ,-natCast_add,-natCast_mul,-List.reduceReplicate,Bc];by_cases he:s.1=s.2
       ·simp -implicitDefEqProofs[jJ,-natCast_add,-natCast_mul,-List.reduceReplicate,i64,he,Bp]
       ·simp -implicitDefEqProofs[jJ,-natCast_add,-natCast_mul,-List.reduceReplicate,i64,he];exact⟨1,⟨by simp[he],rfl⟩,by simp[he],by omega⟩
      |some b2=>
       simp only at h0;simp -implicitDefEqProofs[jJ,-natCast_add,-natCast_mul,-List.reduceReplicate,AZ,h0];refine Ar NK QN (by rfl) ?_
       simp -implicitDefEqProofs[jJ,-natCast_add,-natCast_mul,-List.reduceReplicate,ex2];have h1:=ih r l b2 (by simp at hn;omega) hok (fun s hs=>hl s (by simp[hs])) (by simp at hll;omega) (by simp at hls;omega)
       refine .inr (.inr (.inl ⟨x,(ms r l b2).map AD,(if s.1=s.2 then [] else C3 c d r l b s.2 s.1).map AD++rest,_,by simp[lk],?_,h1,?_⟩))
       ·simp[St.argsW,U.toA,toD]
       ·simp only[St.reachU,List.flatMap_cons,List.flatMap_nil,U.all,List.append_nil,List.cons_append,List.nil_append,Dh,Bnd.reach_cs,C9,Dl];simp -implicitDefEqProofs[jJ,-natCast_add,-natCast_mul,-List.reduceReplicate,St.backY,St.rest];refine Ar H4 Jh (by rfl) ?_
        simp -implicitDefEqProofs[jJ,-natCast_add,-natCast_mul,-List.reduceReplicate,Bc];by_cases he:s.1=s.2
        ·simp -implicitDefEqProofs[jJ,-natCast_add,-natCast_mul,-List.reduceReplicate,i64,he,Bp]
        ·simp -implicitDefEqProofs[jJ,-natCast_add,-natCast_mul,-List.reduceReplicate,i64,he];exact⟨1,⟨by simp[he],rfl⟩,by simp[he],by omega⟩
    |1,hi=>
     by_cases he:s.1=s.2
     ·have hno:=hi.2 rfl he;rw[he]at hno;simp -implicitDefEqProofs[jJ,-natCast_add,-natCast_mul,-List.reduceReplicate,he];refine Ar JS Jw (by rfl) ?_
      simp -implicitDefEqProofs[jJ,-natCast_add,-natCast_mul,-List.reduceReplicate,hk,Bc]
      (first|refine Ab (Bg b k hk26 s.2 hs.2) ?_|refine Aa (Bg b k hk26 s.2 hs.2) ?_)
      rw[hno]
      simp -implicitDefEqProofs[jJ,-natCast_add,-natCast_mul,-List.reduceReplicate,AZ];exact⟨2,⟨by simp,rfl⟩,by simp,by omega⟩
     simp -implicitDefEqProofs[jJ,-natCast_add,-natCast_mul,-List.reduceReplicate,he];refine Ar JS Jw (by rfl) ?_
     simp -implicitDefEqProofs[jJ,-natCast_add,-natCast_mul,-List.reduceReplicate,hk,Bc]
     (first|refine Ab (Bg b k hk26 s.2 hs.2) ?_|refine Aa (Bg b k hk26 s.2 hs.2) ?_)
     have h0:=hA s.2 s.1;generalize b.point k s.2=o1 at*;cases o1 with
     |none=>
      simp only at h0;simp -implicitDefEqProofs[jJ,-natCast_add,-natCast_mul,-List.reduceReplicate,AZ,h0];exact⟨2,⟨by simp,rfl⟩,by simp,by omega⟩
     |some b1=>
      simp only at h0;simp -implicitDefEqProofs[jJ,-natCast_add,-natCast_mul,-List.reduceReplicate,AZ];refine Ar Pp OI (by rfl) ?_
      simp -implicitDefEqProofs[jJ,-natCast_add,-natCast_mul,-List.reduceReplicate,hj,Bc]
      (first|refine Ab (Bg b1 j hj26 s.1 hs.1) ?_|refine Aa (Bg b1 j hj26 s.1 hs.1) ?_)
      generalize b1.point j s.1=o2 at*;cases o2 with
      |none=>
       simp only at h0;simp -implicitDefEqProofs[jJ,-natCast_add,-natCast_mul,-List.reduceReplicate,AZ,h0];refine Ar H4 Jh (by rfl) ?_
       simp -implicitDefEqProofs[jJ,-natCast_add,-natCast_mul,-List.reduceReplicate,Bc];simp -implicitDefEqProofs[jJ,-natCast_add,-natCast_mul,-List.reduceReplicate,i64,he];exact⟨2,⟨by simp,rfl⟩,by simp,by omega⟩
      |some b2=>
       simp only at h0;simp -implicitDefEqProofs[jJ,-natCast_add,-natCast_mul,-List.reduceReplicate,AZ,h0];refine Ar NK QN (by rfl) ?_
       simp -implicitDefEqProofs[jJ,-natCast_add,-natCast_mul,-List.reduceReplicate,ex2];have h1:=ih r l b2 (by simp at hn;omega) hok (fun s hs=>hl s (by simp[hs])) (by simp at hll;omega) (by simp at hls;omega)
       refine .inr (.inr (.inl ⟨x,(ms r l b2).map AD,rest,_,by simp[lk],?_,h1,?_⟩))
       ·simp[St.argsW,U.toA,toD]
       ·simp only[St.reachU,List.flatMap_cons,List.flatMap_nil,U.all,List.append_nil,List.cons_append,List.nil_append,Dh,Bnd.reach_cs,C9,Dl];simp -implicitDefEqProofs[jJ,-natCast_add,-natCast_mul,-List.reduceReplicate,St.backY,St.rest];refine Ar H4 Jh (by rfl) ?_
        simp -implicitDefEqProofs[jJ,-natCast_add,-natCast_mul,-List.reduceReplicate,Bc];simp -implicitDefEqProofs[jJ,-natCast_add,-natCast_mul,-List.reduceReplicate,i64,he];exact⟨2,⟨by simp,rfl⟩,by simp,by omega⟩
    |2,_=>
     simp -implicitDefEqProofs[jJ,-natCast_add,-natCast_mul,-List.reduceReplicate,Bp]
end Go.Va
