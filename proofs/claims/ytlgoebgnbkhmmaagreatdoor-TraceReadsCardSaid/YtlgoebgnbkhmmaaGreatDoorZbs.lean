/- a part of the proof -/
import Derived.Test.YtlgoebgnbkhmmaaGreatDoorZbk
set_option linter.all false
set_option maxHeartbeats 4000000
set_option maxRecDepth 10000
namespace Go.Va
open Int renaming natCast_add → qA, natCast_mul → qB, natCast_emod → qC, natCast_ediv → qD, natCast_pow → qE
open List renaming reduceReplicate → qF
open Go.Proofs
def Q1:List (List Nat):=(Ah [0,0,0,4,12,28,0,0,0,448,960,2044,0,4096,12288,28672,0,65536,262140,524285,1048573,2097149,4194303,8388607,16777215])
@[simp]def Rz:List Seg:=[.any [] [80,81,87,88] [⟨0,[0],[80,81,87,88,901,902],[80,81,87,88],[]⟩,⟨0,[0],[20,80,81,87,88,901,902],[80,81,87,88],[]⟩,⟨0,[0],[80,87],[80,81,87,88],[]⟩,⟨0,[72],[80,87],[80,81,87,88],[]⟩,⟨0,[73],[80,87],[80,81,87,88],[]⟩,⟨0,[74],[80,87],[80,81,87,88],[]⟩,⟨0,[1],[87],[80,81,87,88],[]⟩,⟨0,[4],[87],[80,81,87,88],[]⟩,⟨0,[5],[87],[80,81,87,88],[]⟩,⟨0,[76,77,78],[87],[80,81,87,88],[]⟩,⟨1,[79],[87],[81,87,88],[]⟩,⟨3,[75,80],[87],[87,88],[901]⟩,⟨0,[0],[80,81,87,901],[80,81,87,88],[]⟩,⟨0,[82],[80,81,87,901],[80,81,87,88],[]⟩,⟨0,[83],[80,81,87,901],[80,81,87,88],[]⟩,⟨0,[84],[80,81,87,901],[80,81,87,88],[]⟩,⟨0,[4],[80,81,901],[80,81,87,88],[]⟩,⟨1,[86],[80,81,901],[80,81,88],[]⟩,⟨3,[85,87],[],[],[902]⟩,⟨0,[70],[],[],[]⟩,⟨0,[89],[],[],[]⟩,⟨2,[81,90],[],[],[20]⟩],.one,.one,.one]
def jfl:List (List Nat):=(Ah [0,0,0,4,12,28,0,0,0,256,960,1984,4092,0,8192,24576,57344,0,131072,524284,1048573,2097149,4194301,8388607,16777215,33554431])
@[simp]def jb3:List Seg:=[.any [] [105,106,112,113] [⟨0,[0],[81,88,105,106,112,113],[105,106,112,113],[]⟩,⟨0,[0],[20,81,88,105,106,112,113],[105,106,112,113],[]⟩,⟨0,[0],[105,112],[105,106,112,113],[]⟩,⟨0,[96],[105,112],[105,106,112,113],[]⟩,⟨0,[97],[105,112],[105,106,112,113],[]⟩,⟨0,[98],[105,112],[105,106,112,113],[]⟩,⟨0,[1],[112],[105,106,112,113],[]⟩,⟨0,[5],[112],[105,106,112,113],[]⟩,⟨0,[5],[112],[105,106,112,113],[]⟩,⟨0,[102],[112],[105,106,112,113],[]⟩,⟨0,[100,101,103],[112],[105,106,112,113],[]⟩,⟨1,[104],[112],[106,112,113],[]⟩,⟨3,[99,105],[112],[112,113],[81]⟩,⟨0,[0],[81,105,106,112],[105,106,112,113],[]⟩,⟨0,[107],[81,105,106,112],[105,106,112,113],[]⟩,⟨0,[108],[81,105,106,112],[105,106,112,113],[]⟩,⟨0,[109],[81,105,106,112],[105,106,112,113],[]⟩,⟨0,[5],[81,105,106],[105,106,112,113],[]⟩,⟨1,[111],[81,105,106],[105,106,113],[]⟩,⟨3,[110,112],[],[],[88]⟩,⟨0,[94],[],[],[]⟩,⟨0,[114],[],[],[]⟩,⟨2,[106,115],[],[],[20]⟩],.one,.one,.one]
def jaP:List (List Nat):=(Ah [0,0,0,4,12,28,0,0,0,256,960,1984,4092,0,8192,24576,57344,0,131072,524284,1048573,2097149,4194301,8388607,16777215,33554431])
@[simp]def jdo:List Seg:=[.any [] [105,106,112,113] [⟨0,[0],[105,106,112,113,901,902],[105,106,112,113],[]⟩,⟨0,[0],[20,105,106,112,113,901,902],[105,106,112,113],[]⟩,⟨0,[0],[105,112],[105,106,112,113],[]⟩,⟨0,[96],[105,112],[105,106,112,113],[]⟩,⟨0,[97],[105,112],[105,106,112,113],[]⟩,⟨0,[98],[105,112],[105,106,112,113],[]⟩,⟨0,[1],[112],[105,106,112,113],[]⟩,⟨0,[5],[112],[105,106,112,113],[]⟩,⟨0,[5],[112],[105,106,112,113],[]⟩,⟨0,[102],[112],[105,106,112,113],[]⟩,⟨0,[100,101,103],[112],[105,106,112,113],[]⟩,⟨1,[104],[112],[106,112,113],[]⟩,⟨3,[99,105],[112],[112,113],[901]⟩,⟨0,[0],[105,106,112,901],[105,106,112,113],[]⟩,⟨0,[107],[105,106,112,901],[105,106,112,113],[]⟩,⟨0,[108],[105,106,112,901],[105,106,112,113],[]⟩,⟨0,[109],[105,106,112,901],[105,106,112,113],[]⟩,⟨0,[5],[105,106,901],[105,106,112,113],[]⟩,⟨1,[111],[105,106,901],[105,106,113],[]⟩,⟨3,[110,112],[],[],[902]⟩,⟨0,[94],[],[],[]⟩,⟨0,[114],[],[],[]⟩,⟨2,[106,115],[],[],[20]⟩],.one,.one,.one]
def Jg(s:ByteArray)(i:Nat)(f:Int):List (Nat×V):=[(5,vI .i64 i),(4,vI .i64 f),(1,vC (.d (.str s))),(0,vC (.ptr 20 0))]
def It(ns:List ByteArray):Option (List ByteArray×List Int)→List (Nat×Blk)
 |none=>[(20,.box [.nl,.nl,.d (A6 ns),.d (.int .i64 0),.d (.int .i64 0),.d (.int .i64 0)]),(3000000000000,.gh [.ptr 20 0])]
 |some (L,P)=>[(901,.row 1 (strsD L) true),(902,.row 1 (P.map i64) true),(20,.box [.sl 901 0 L.length,.sl 902 0 P.length,.d (A6 ns),.d (.int .i64 0),.d (.int .i64 0),.d (.int .i64 0)]),(3000000000000,.gh [.ptr 20 0])]
def Ka(l:List ByteArray)(p:List Int):Option (List ByteArray×List Int):=if l=[] then none else some (l,p)
def UH(ns:List ByteArray):Blk:= .box [.nl,.nl,.d (A6 ns),.d (.int .i64 0),.d (.int .i64 0),.d (.int .i64 0)]
theorem jg7{L:List ByteArray}{P:List Int}{d3 d4 d5 d6:D}{t:List (Nat×V)}(hpl:P.length=L.length):
  Lc tb [] [.ptr 20 0] [(20,.box [.d (.slice L.length (strsD L)),.d (AT P),.d d3,.d d4,.d d5,.d d6])] (.tup []) .normal
   ⟨t,[(20,.box [.sl 901 0 L.length,.sl 902 0 P.length,.d d3,.d d4,.d d5,.d d6]),(901,.row 1 (strsD L) true),(902,.row 1 (P.map i64) true),(3000000000000,.gh [.ptr 20 0])]⟩:=by
 have hl:=HR L;have e1:(strsD L).take L.length=strsD L:=Ba (by omega)
 have e2:(P.map i64).take P.length=P.map i64:=Ba (by simp)
 have e0:((rns [] (⟨t,[(20,.box [.sl 901 0 L.length,.sl 902 0 P.length,.d d3,.d d4,.d d5,.d d6]),(901,.row 1 (strsD L) true),(902,.row 1 (P.map i64) true),(3000000000000,.gh [.ptr 20 0])]⟩:St)).fin (some [901,902])).h
   =[(20,.box [.d (.slice L.length (strsD L)),.d (AT P),.d d3,.d d4,.d d5,.d d6]),(3000000000000,.gh [.ptr 20 0])]:=by
  simp[St.fin,St.freeze,St.freezeK,St.on,Blk.on,C.on,Du,toD,lk,AP,Ds,Blk.dat,C.dat,hl,e1,e2]
 refine⟨.inr rfl,[],some [901,902],[.ptr 20 0],by rw[e0];rfl,rfl,.inr ⟨.tup [],rfl,rfl⟩,?_,trivial⟩
 unfold St.clean;simp only;rw[FZ,if_neg (by simp)]
 unfold St.on;simp only;rw[BN,e0];rfl
theorem PV{c:UInt8}{k:Nat}(d:UInt8)(h:c.toNat=k)(hd:d.toNat=k):c=d:=UInt8.toNat_inj.1 (h.trans hd.symm)
theorem jhR{c:UInt8}(h:c.toNat=32∨c.toNat=9∨c.toNat=13∨c.toNat=10):Eb c=true:=by
 rcases h with h|h|h|h
 ·rw[PV 32 h rfl];rfl
 ·rw[PV 9 h rfl];rfl
 ·rw[PV 13 h rfl];rfl
 ·rw[PV 10 h rfl];rfl
theorem jem{c:UInt8}(h:c.toNat=40∨c.toNat=41∨c.toNat=44):Eb c=false∧HX c=true:=by
 rcases h with h|h|h
 ·rw[PV 40 h rfl];exact⟨rfl,rfl⟩
 ·rw[PV 41 h rfl];exact⟨rfl,rfl⟩
 ·rw[PV 44 h rfl];exact⟨rfl,rfl⟩
theorem Xz{c:UInt8}(h: ¬c.toNat=32∧ ¬c.toNat=9∧ ¬c.toNat=13∧ ¬c.toNat=10∧ ¬c.toNat=40∧ ¬c.toNat=41∧ ¬c.toNat=44):Eb c=false∧HX c=false:=by
 obtain⟨a,b,d,e,f,g,i⟩:=h
 have n: ∀k:UInt8,¬c.toNat=k.toNat→(c==k)=false:=fun k hk=>beq_eq_false_iff_ne.2 fun q=>hk (by rw[q])
 constructor
 ·unfold Eb;rw[n 32 a,n 9 b,n 13 d,n 10 e];rfl
 ·unfold HX;rw[n 40 f,n 41 g,n 44 i];rfl
theorem jhx(ns:List ByteArray)(s:ByteArray)(hs:s.size≤100000):GJ Tryz.prog 171 [.c (.ptr 20 0),.c (.d (.str s))] [.ptr 20 0] [.ptr 20 0] [(20,UH ns)] (AQ (psOf s) ns) (.tup []):=by
 have ng: ∀i cs,lk i [(20,UH ns)]≠some (.gh cs):=fun i cs h=>by
  simp only[lk,UH]at h;split at h<;>cases h
 refine Z3 [] (T:=tb) Ak mixed Tryz.func171 rfl (by decide) (Al rfl) (Al rfl) rfl rfl ng (H9 _ _) ?_;unfold St.initG St.initH
 unfold UH;simp -implicitDefEqProofs[jJ,-qA,-qB];refine CE [(901,81),(902,88),(901,106),(902,113)] (fun x:Nat×Int×Option (List ByteArray×List Int)=>⟨Jg s x.1 x.2.1,It ns x.2.2⟩)
  (fun x=>x.1≤s.size+1∧x.2.1=(splS s x.1).f∧x.2.2=Ka (splS s x.1).l (splS s x.1).p∧ -1≤x.2.1∧x.2.1<x.1∧(splS s x.1).l.length≤2*x.1) (fun x=>s.size+1 - x.1) (0,-1,none)
  (by simp[AW,lk,St.le,vI,vC,Jg,It]) ⟨by omega,rfl,rfl,by simp,by simp,by simp[splS]⟩ ?_
 rintro⟨i,f,o⟩ ⟨h1,h2,h3,h4,h5,h6⟩
 simp only at h1 h2 h3 h4 h5 h6;have hpl:=UE s i;obtain⟨y,hy⟩: ∃y,y=splS s i:=⟨_,rfl⟩;obtain⟨f',L,P⟩:=y;rw[←hy]at h2 h3 h6 hpl;simp only at h2 h3 h6 hpl;subst h2;by_cases hi:i<s.size
 ·have gi:=SV s hi;have e1:NW s i=Eb (B s)[i]:=by unfold NW;rw[AD (by rw[Hg];exact hi)];rfl
  have e2:O5 s i=(!Eb (B s)[i]&&HX (B s)[i]):=by unfold O5;rw[AD (by rw[Hg];exact hi)];rfl
  have hn:=splS.eq_2 s i;rw[e1,e2,←hy]at hn;generalize (B s)[i]'(by rw[Hg];exact hi)=c at*
  have hne: ¬i=s.size:=by omega
  have hle:i≤s.size:=by omega
  have hs1:i+(i+1 - i)=i+1:=by omega
  have way:(c.toNat=32∨c.toNat=9∨c.toNat=13∨c.toNat=10)∨(c.toNat=40∨c.toNat=41∨c.toNat=44)∨(¬c.toNat=32∧ ¬c.toNat=9∧ ¬c.toNat=13∧ ¬c.toNat=10∧ ¬c.toNat=40∧ ¬c.toNat=41∧ ¬c.toNat=44):=by omega
  rcases way with way|way|way
  ·rw[jhR way]at hn
   simp only[Bool.not_true,Bool.false_and]at hn;by_cases hf:0≤f
   ·have hx:f.toNat+(i - f.toNat)=i:=by omega
    simp[Sp.go,hf]at hn
    rcases way with hc|hc|hc|hc
    all_goals
     cases hL:L with
     |nil=>
      have hP:P=[]:=jzv.1 (by rw[←hpl,hL];rfl)
      rw[h3,hL,hP]
      rw[hL,hP]at hn
      unfold Ka Jg It;simp -implicitDefEqProofs[jJ,-qA,-qB,hi,gi,hc,hne,hle,hf];refine AA Q1 Rz (by rfl) ?_
      simp -implicitDefEqProofs[jJ,-qA,-qB,hx]
      repeat refine And.intro (by omega) ?_
      exact⟨i+1,-1,some ([s.extract f.toNat i],[f]),⟨⟨rfl,rfl⟩,by simp[AW,lk,strsD,i64]⟩,⟨by omega,by simp[hn],by simp[hn],by omega,by omega,by simp[hn]<;>omega⟩,by omega⟩
     |cons a L'=>
      rw[h3,hL]
      rw[hL]at hn hpl h6
      simp only[List.length_cons]at hpl h6;unfold Ka Jg It;simp -implicitDefEqProofs[jJ,-qA,-qB,hi,gi,hc,hne,hle,hf];refine AA Q1 Rz (by rfl) ?_
      simp -implicitDefEqProofs[jJ,-qA,-qB,hx]
      repeat refine And.intro (by omega) ?_
      exact⟨i+1,-1,some (a::L'++[s.extract f.toNat i],P++[f]),⟨⟨rfl,rfl⟩,by simp[AW,lk,strsD,i64]⟩,⟨by omega,by simp[hn],by simp[hn],by omega,by omega,by simp[hn]<;>omega⟩,by omega⟩
   ·have hf0:f<0:=by omega
    simp[Sp.go,hf]at hn
    rcases way with hc|hc|hc|hc
    all_goals
     cases hL:L with
     |nil=>
      have hP:P=[]:=jzv.1 (by rw[←hpl,hL];rfl)
      rw[h3,hL,hP]
      rw[hL,hP]at hn
      unfold Ka Jg It;simp -implicitDefEqProofs[jJ,-qA,-qB,hi,gi,hc,hne,hle,hf]
      repeat refine And.intro (by omega) ?_
      exact⟨i+1,f,none,⟨⟨rfl,rfl⟩,by simp[AW,lk,strsD,i64]⟩,⟨by omega,by simp[hn],by simp[hn],by omega,by omega,by simp[hn]<;>omega⟩,by omega⟩
     |cons a L'=>
      rw[h3,hL]
      rw[hL]at hn hpl h6
      simp only[List.length_cons]at hpl h6;unfold Ka Jg It;simp -implicitDefEqProofs[jJ,-qA,-qB,hi,gi,hc,hne,hle,hf]
      repeat refine And.intro (by omega) ?_
      exact⟨i+1,f,some (a::L',P),⟨⟨rfl,rfl⟩,by simp[AW,lk,strsD,i64]⟩,⟨by omega,by simp[hn],by simp[hn],by omega,by omega,by simp[hn]<;>omega⟩,by omega⟩
  ·rw[(jem way).1,(jem way).2]at hn
   simp only[Bool.not_false,Bool.true_and]at hn;by_cases hf:0≤f
   ·have hx:f.toNat+(i - f.toNat)=i:=by omega
    simp[Sp.go,hf]at hn
    rcases way with hc|hc|hc
    all_goals
     cases hL:L with
     |nil=>
      have hP:P=[]:=jzv.1 (by rw[←hpl,hL];rfl)
      rw[h3,hL,hP]
      rw[hL,hP]at hn
      unfold Ka Jg It;simp -implicitDefEqProofs[jJ,-qA,-qB,hi,gi,hc,hne,hle,hf];refine AA Q1 Rz (by rfl) ?_
      simp -implicitDefEqProofs[jJ,-qA,-qB,hx,hs1]
      repeat refine And.intro (by omega) ?_
      refine AA jfl jb3 (by rfl) ?_
      simp -implicitDefEqProofs[jJ,-qA,-qB,hx,hs1]
      repeat refine And.intro (by omega) ?_
      exact⟨i+1,-1,some ([s.extract f.toNat i,s.extract i (i+1)],[f,(i:Int)]),⟨⟨rfl,rfl⟩,by simp[AW,lk,strsD,i64]⟩,⟨by omega,by simp[hn],by simp[hn],by omega,by omega,by simp[hn]<;>omega⟩,by omega⟩
     |cons a L'=>
      rw[h3,hL]
      rw[hL]at hn hpl h6
      simp only[List.length_cons]at hpl h6;unfold Ka Jg It;simp -implicitDefEqProofs[jJ,-qA,-qB,hi,gi,hc,hne,hle,hf];refine AA Q1 Rz (by rfl) ?_
      simp -implicitDefEqProofs[jJ,-qA,-qB,hx,hs1]
      repeat refine And.intro (by omega) ?_
      refine AA jfl jb3 (by rfl) ?_
      simp -implicitDefEqProofs[jJ,-qA,-qB,hx,hs1]
      repeat refine And.intro (by omega) ?_
      exact⟨i+1,-1,some (a::L'++[s.extract f.toNat i,s.extract i (i+1)],P++[f,(i:Int)]),⟨⟨rfl,rfl⟩,by simp[AW,lk,strsD,i64]⟩,⟨by omega,by simp[hn],by simp[hn],by omega,by omega,by simp[hn]<;>omega⟩,by omega⟩
   ·have hf0:f<0:=by omega
    simp[Sp.go,hf]at hn
    rcases way with hc|hc|hc
    all_goals
     cases hL:L with
     |nil=>
      have hP:P=[]:=jzv.1 (by rw[←hpl,hL];rfl)
      rw[h3,hL,hP]
      rw[hL,hP]at hn
      unfold Ka Jg It;simp -implicitDefEqProofs[jJ,-qA,-qB,hi,gi,hc,hne,hle,hf];refine AA jaP jdo (by rfl) ?_
      simp -implicitDefEqProofs[jJ,-qA,-qB,hs1]
      repeat refine And.intro (by omega) ?_
      exact⟨i+1,f,some ([s.extract i (i+1)],[(i:Int)]),⟨⟨rfl,rfl⟩,by simp[AW,lk,strsD,i64]⟩,⟨by omega,by simp[hn],by simp[hn],by omega,by omega,by simp[hn]<;>omega⟩,by omega⟩
     |cons a L'=>
      rw[h3,hL]
      rw[hL]at hn hpl h6
      simp only[List.length_cons]at hpl h6;unfold Ka Jg It;simp -implicitDefEqProofs[jJ,-qA,-qB,hi,gi,hc,hne,hle,hf];refine AA jaP jdo (by rfl) ?_
      simp -implicitDefEqProofs[jJ,-qA,-qB,hs1]
      repeat refine And.intro (by omega) ?_
      exact⟨i+1,f,some (a::L'++[s.extract i (i+1)],P++[(i:Int)]),⟨⟨rfl,rfl⟩,by simp[AW,lk,strsD,i64]⟩,⟨by omega,by simp[hn],by simp[hn],by omega,by omega,by simp[hn]<;>omega⟩,by omega⟩
  ·rw[(Xz way).1,(Xz way).2]at hn
   obtain⟨hc1,hc2,hc3,hc4,hc5,hc6,hc7⟩:=way
   simp only[Bool.not_false,Bool.true_and]at hn;by_cases hf:0≤f
   ·have hf0: ¬f<0:=by omega
    simp[Sp.go,hf0]at hn
    cases hL:L with
    |nil=>
     have hP:P=[]:=jzv.1 (by rw[←hpl,hL];rfl)
     rw[h3,hL,hP]
     rw[hL,hP]at hn
     unfold Ka Jg It;simp -implicitDefEqProofs[jJ,-qA,-qB,hi,gi,hc1,hc2,hc3,hc4,hc5,hc6,hc7,hne,hle,hf0]
     repeat refine And.intro (by omega) ?_
     exact⟨i+1,f,none,⟨⟨rfl,rfl⟩,by simp[AW,lk,strsD,i64]⟩,⟨by omega,by simp[hn],by simp[hn],by omega,by omega,by simp[hn]<;>omega⟩,by omega⟩
    |cons a L'=>
     rw[h3,hL]
     rw[hL]at hn hpl h6
     simp only[List.length_cons]at hpl h6;unfold Ka Jg It;simp -implicitDefEqProofs[jJ,-qA,-qB,hi,gi,hc1,hc2,hc3,hc4,hc5,hc6,hc7,hne,hle,hf0]
     repeat refine And.intro (by omega) ?_
     exact⟨i+1,f,some (a::L',P),⟨⟨rfl,rfl⟩,by simp[AW,lk,strsD,i64]⟩,⟨by omega,by simp[hn],by simp[hn],by omega,by omega,by simp[hn]<;>omega⟩,by omega⟩
   ·have hf0:f<0:=by omega
    simp[Sp.go,hf0]at hn
    cases hL:L with
    |nil=>
     have hP:P=[]:=jzv.1 (by rw[←hpl,hL];rfl)
     rw[h3,hL,hP]
     rw[hL,hP]at hn
     unfold Ka Jg It;simp -implicitDefEqProofs[jJ,-qA,-qB,hi,gi,hc1,hc2,hc3,hc4,hc5,hc6,hc7,hne,hle,hf0]
     repeat refine And.intro (by omega) ?_
     exact⟨i+1,(i:Int),none,⟨⟨rfl,rfl⟩,by simp[AW,lk,strsD,i64]⟩,⟨by omega,by simp[hn],by simp[hn],by omega,by omega,by simp[hn]<;>omega⟩,by omega⟩
    |cons a L'=>
     rw[h3,hL]
     rw[hL]at hn hpl h6
     simp only[List.length_cons]at hpl h6;unfold Ka Jg It;simp -implicitDefEqProofs[jJ,-qA,-qB,hi,gi,hc1,hc2,hc3,hc4,hc5,hc6,hc7,hne,hle,hf0]
     repeat refine And.intro (by omega) ?_
     exact⟨i+1,(i:Int),some (a::L',P),⟨⟨rfl,rfl⟩,by simp[AW,lk,strsD,i64]⟩,⟨by omega,by simp[hn],by simp[hn],by omega,by omega,by simp[hn]<;>omega⟩,by omega⟩
 ·by_cases hN:i=s.size
  ·subst hN;have hn:=splS.eq_2 s s.size;have e1:NW s s.size=true:=by unfold NW;rw[B9 (by rw[Hg];omega)]
   have e2:O5 s s.size=false:=by unfold O5;rw[B9 (by rw[Hg];omega)]
   rw[e1,e2,←hy]at hn
   by_cases hf:0≤f
   ·have hx:f.toNat+(s.size - f.toNat)=s.size:=by omega
    simp[Sp.go,hf]at hn
    cases hL:L with
    |nil=>
     have hP:P=[]:=jzv.1 (by rw[←hpl,hL];rfl)
     rw[h3,hL,hP]
     rw[hL,hP]at hn
     unfold Ka Jg It;simp -implicitDefEqProofs[jJ,-qA,-qB,hf];refine AA Q1 Rz (by rfl) ?_
     simp -implicitDefEqProofs[jJ,-qA,-qB,hx]
     repeat refine And.intro (by omega) ?_
     exact⟨s.size+1,-1,some ([s.extract f.toNat s.size],[f]),⟨⟨rfl,rfl⟩,by simp[AW,lk,strsD,i64]⟩,⟨by omega,by simp[hn],by simp[hn],by omega,by omega,by simp[hn]<;>omega⟩,by omega⟩
    |cons a L'=>
     rw[h3,hL]
     rw[hL]at hn hpl h6
     simp only[List.length_cons]at hpl h6;unfold Ka Jg It;simp -implicitDefEqProofs[jJ,-qA,-qB,hf];refine AA Q1 Rz (by rfl) ?_
     simp -implicitDefEqProofs[jJ,-qA,-qB,hx]
     repeat refine And.intro (by omega) ?_
     exact⟨s.size+1,-1,some (a::L'++[s.extract f.toNat s.size],P++[f]),⟨⟨rfl,rfl⟩,by simp[AW,lk,strsD,i64]⟩,⟨by omega,by simp[hn],by simp[hn],by omega,by omega,by simp[hn]<;>omega⟩,by omega⟩
   ·have hf0:f<0:=by omega
    simp[Sp.go,hf]at hn
    cases hL:L with
    |nil=>
     have hP:P=[]:=jzv.1 (by rw[←hpl,hL];rfl)
     rw[h3,hL,hP]
     rw[hL,hP]at hn
     unfold Ka Jg It;simp -implicitDefEqProofs[jJ,-qA,-qB,hf]
     repeat refine And.intro (by omega) ?_
     exact⟨s.size+1,f,none,⟨⟨rfl,rfl⟩,by simp[AW,lk,strsD,i64]⟩,⟨by omega,by simp[hn],by simp[hn],by omega,by omega,by simp[hn]<;>omega⟩,by omega⟩
    |cons a L'=>
     rw[h3,hL]
     rw[hL]at hn hpl h6
     simp only[List.length_cons]at hpl h6;unfold Ka Jg It;simp -implicitDefEqProofs[jJ,-qA,-qB,hf]
     repeat refine And.intro (by omega) ?_
     exact⟨s.size+1,f,some (a::L',P),⟨⟨rfl,rfl⟩,by simp[AW,lk,strsD,i64]⟩,⟨by omega,by simp[hn],by simp[hn],by omega,by omega,by simp[hn]<;>omega⟩,by omega⟩
  ·have hi2:i=s.size+1:=by omega
   subst hi2;unfold AQ Hf psOf;rw[←hy];cases hL:L with
   |nil=>
    rw[h3,hL]
    unfold Ka Jg It;have hP:P=[]:=jzv.1 (by rw[←hpl,hL];rfl)
    subst hP;simp -implicitDefEqProofs[jJ,-qA,-qB];exact TZ (.inr rfl) rfl rfl rfl rfl rfl
   |cons a L'=>
    rw[h3,hL]
    rw[hL]at hpl
    unfold Ka Jg It;simp -implicitDefEqProofs[jJ,-qA,-qB];exact jg7 hpl.symm
end Go.Va
