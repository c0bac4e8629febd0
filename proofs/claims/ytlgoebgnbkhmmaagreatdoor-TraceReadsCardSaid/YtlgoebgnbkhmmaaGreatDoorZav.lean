/- a part of the proof -/
import Derived.Test.YtlgoebgnbkhmmaaGreatDoorZas
import Derived.Test.YtlgoebgnbkhmmaaGreatDoorZau
import Derived.Test.YtlgoebgnbkhmmaaGreatDoorZam
import Derived.Deep.Slices
set_option linter.all false
set_option maxHeartbeats 4000000
set_option maxRecDepth 100000
namespace Go.Va
open Go.Proofs
section
variable {α:Type} {k:Nat} {e:α→List D} (he: ∀x,(e x).length=k)
include he
theorem Qw(l:List α):(l.flatMap e).length=l.length*k:=by
 induction l with
 |nil=>simp
 |cons a l ih=>rw[List.flatMap_cons,List.length_append,he,ih,List.length_cons,Nat.add_mul,Nat.one_mul,Nat.add_comm]
theorem jdj(l:List α)(i:Nat):(l.flatMap e).drop (i*k)=(l.drop i).flatMap e:=by
 induction l generalizing i with
 |nil=>simp
 |cons a l ih=>
  cases i with
  |zero=>simp
  |succ i=>
   rw[List.flatMap_cons,List.drop_succ_cons,List.drop_append,DU (by rw[he,Nat.add_mul];omega),he,List.nil_append,Nat.add_mul,Nat.one_mul,Nat.add_sub_cancel,ih]
theorem Ic(l:List α)(i:Nat)(h:i<l.length):((l.flatMap e).drop (i*k)).take k=e l[i]:=by
 rw[jdj he,BQ h,List.flatMap_cons,List.take_append,Ba (by rw[he];omega),he,Nat.sub_self]
 simp
end
theorem Fct.ds_len(f:Fct):f.ds.length=5:=rfl
def lo(a b:Int):Int:=if b<a then b else a
def hi(a b:Int):Int:=if a<b then b else a
def oth(a b p:Int):Int:=a+b - p
end Go.Va
namespace Go.Va
def CB{α:Type}(p:α→Bool)(l:List α)(k:Nat):Prop:=(l.take k).all p=true
theorem HJ{α:Type}(p:α→Bool)(l:List α):CB p l 0:=by simp[CB]
theorem Iu{α:Type}{p:α→Bool}{l:List α}{k:Nat}(h:k<l.length)(hk:CB p l k)(h1:p l[k]=true):CB p l (k+1):=by
 unfold CB at*;rw[Cr h,List.all_append,hk];simp[h1]
theorem HZ{α:Type}{p:α→Bool}{l:List α}(h:CB p l l.length):l.all p=true:=by
 unfold CB at h
 rwa [BM]at h
theorem Is{α:Type}{p:α→Bool}{l:List α}{k:Nat}(h:k<l.length)(h1:p l[k]=false):l.all p=false:=by
 rw[Bool.eq_false_iff]
 intro hc;rw[jzy]at hc;rw[hc _ (AZ h)]at h1;cases h1
def Di(n:Int)(a:Int):Bool:=decide (a<0)||decide (n≤a)
def FE(n:Int)(l:List Int)(k:Nat):Prop:=(l.take k).any (Di n)=false
theorem jim(n:Int)(l:List Int):FE n l 0:=by simp[FE]
theorem jbJ{n:Int}{l:List Int}{k:Nat}(h:k<l.length)(hk:FE n l k)(h1: ¬l[k]<0)(h2: ¬n≤l[k]):FE n l (k+1):=by
 unfold FE at*;rw[Cr h,List.any_append,hk];simp[Di,h1,h2]
theorem jfJ{n:Int}{l:List Int}(h:FE n l l.length):l.any (Di n)=false:=by
 unfold FE at h
 rwa [BM]at h
theorem Rw{n:Int}{l:List Int}{k:Nat}(h:k<l.length)(h1:l[k]<0∨n≤l[k]):l.any (Di n)=true:=List.any_eq_true.2 ⟨_,AZ h,by simpa [Di]using h1⟩
end Go.Va
namespace Go.Va
open Go.Proofs
structure Grd where
 kind:Int
 args:List Int
 deriving DecidableEq
def Grd.ds(g:Grd):List D:=[.int .i64 g.kind,AT g.args]
theorem Grd.ds_len(g:Grd):g.ds.length=2:=rfl
def Dd(l:List Grd):D:= .slice l.length (l.flatMap Grd.ds)
@[simp high]theorem grd_len(l:List Grd):(l.flatMap Grd.ds).length=l.length*2:=Qw Grd.ds_len l
end Go.Va
namespace Go.Va
open Go.Proofs Go.ChangeShapes Go.WideShapes Go.ChangeAt Go.RowKit
theorem jad{E:Type}{n:Nat}(hn:0<n){ds:E→List D}(hds: ∀e,(ds e).length=n)(l:List E)(j:Nat):(l.flatMap ds)[j]? =(l[j/n]?).bind fun f=>(ds f)[j%n]? :=by
 have e:j=j/n*n+j%n:=by rw[Nat.mul_comm];exact(Nat.div_add_mod j n).symm
 have hm:=Nat.mod_lt j hn;have h1:(l.flatMap ds)[j]? =((l.flatMap ds).drop (j/n*n))[j%n]? :=by
  rw[List.getElem?_drop]
  congr 1
 rw[h1,jdj hds]
 by_cases h:j/n<l.length
 ·rw[BQ h,AD h,List.flatMap_cons,List.getElem?_append_left (by rw[hds];exact hm)]
  rfl
 ·rw[List.drop_eq_nil_of_le (by omega),B9 (l:=l) (by omega)]
  rfl
section
variable {H:Type} {enc:TypeId×Value→H} {w:World} {base:Nat} {sp:Nat→Bool} {hd:Bool}
theorem JI{E:Type}[Inhabited E]{n:Nat}(hn:0<n){ds:E→List D}(hds: ∀e,(ds e).length=n){Q:E→Prop}{tE tS:TypeId}(hu:Tryz.prog.underlying tS=some (.slice tE))(hcell:Tryz.prog.cellsOf tE=n)
  (he: ∀{fuel:Nat} {cs:List Value} {x:DataW H×List MemPlace},cs.length=n→DataW.trod enc Tryz.prog w base sp hd fuel tE cs=some x→ ∃f:E,Q f∧ ∀(j:Nat) (x:D) (u:Value),(ds f)[j]? =some x→cs[j]? =some u→RepD w Z0 x u)
  {fuel:Nat} {cs:List Value} {x:DataW H×List MemPlace} (h:DataW.trod enc Tryz.prog w base sp hd fuel tS cs=some x):
  ∃(l:List E) (v:Value),(∀f∈l,Q f)∧cs=[v]∧RepD w Z0 (.slice l.length (l.flatMap ds)) v:=by
 rcases Go.Deep.open_slice hu h with⟨e,_⟩|⟨a,len,cap,m,k,DD,Pl,e,_,h1,h2,h3,_,h4⟩
 ·exact⟨[],_,by simp,e,.snil⟩
 ·have hm:len≤m:=by rw[h3];split<;>omega
  rw[hcell]at h4
  have each: ∀i,i<m→ ∃q:E×List Value,Q q.1∧q.2.length=n∧(∀k,k<n→w.cell? ((a.add (i*n)).add k)=q.2[k]?)∧ ∀(j:Nat) (x:D) (u:Value),(ds q.1)[j]? =some x→q.2[j]? =some u→RepD w Z0 x u:=fun i hi=>by
   obtain⟨cs,c1,c2⟩:=h4 i hi
   obtain⟨_,c3,c4⟩:=World.cells?_some c1
   obtain⟨f,f1,f2⟩:=he c3 c2
   exact⟨(f,cs),f1,c3,c4,f2⟩
  obtain⟨q,hq⟩:=Go.Deep.choose_lt each
  have hspot:0<len→a.spot=none:=fun h=>by
   obtain⟨_,q1,q2,_⟩:=hq 0 (by omega)
   have q2:=q2 0 hn;rw[AD (by omega)]at q2
   have:=q2
   unfold Addr.add at this;simp only[Nat.zero_mul,if_true]at this;unfold World.cell? at this;split at this
   ·split at this
    ·cases this
    ·rename_i hn
     simpa using hn
   ·cases this
  refine⟨(List.range len).map fun i=>(q i).1,_,fun f hf=> ?_,e,?_⟩
  ·obtain⟨i,hi,rfl⟩:=jzk.1 hf
   exact(hq i (by have:=List.mem_range.1 hi;omega)).1
  ·have hx: ∀(j:Nat) (x:Va.D),((((List.range len).map fun i=>(q i).1)).flatMap ds)[j]? =some x→j/n<len∧(ds (q (j/n)).1)[j%n]? =some x:=fun j x hj=>by
    rw[jad hn hds,Bf]at hj
    by_cases h:j/n<len
    ·rw[List.getElem?_range h]at hj
     exact⟨h,by simpa using hj⟩
    ·rw[B9 (by simpa using h)]at hj
     cases hj
   rw[show((List.range len).map fun i=>(q i).1).length=len by simp]
   have hat: ∀j,j/n<len→w.cell? ⟨a.block,a.off+j,none⟩=some ((q (j/n)).2.getD (j%n) .nilFunc):=fun j hj=>by
    obtain⟨_,q1,q2,_⟩:=hq (j/n) (by omega)
    have hmd:=Nat.mod_lt j hn;have q2:=q2 (j%n) hmd;rw[AL,AD (by omega)]
    rw[AD (by omega),Go.Deep.add_add]at q2
    have hs:=hspot (Nat.lt_of_le_of_lt (Nat.zero_le _) hj);have:a.add (j/n*n+j%n)=⟨a.block,a.off+j,none⟩:=by
     rw[show j/n*n+j%n=j by rw[Nat.mul_comm];exact Nat.div_add_mod j n]
     unfold Addr.add;split
     ·rename_i h0
      subst h0;obtain⟨b,o,s⟩:=a;simp only at hs;subst hs;rfl
     ·rfl
    rw[←this]
    exact q2
   refine .slice len _ a cap (fun j=>(q (j/n)).2.getD (j%n) .nilFunc) (fun hne=> ?_) h1 h2 (fun j x hj=>hat j (hx j x hj).1) (fun j x hj h=>h) (fun j x hj=> ?_)
   ·obtain⟨x,hx2⟩:=List.exists_mem_of_ne_nil _ hne
    obtain⟨j,hj⟩:=List.getElem?_of_mem hx2
    exact hspot (Nat.lt_of_le_of_lt (Nat.zero_le _) (hx j x hj).1)
   ·obtain⟨hj1,hj2⟩:=hx j x hj
    obtain⟨_,q1,_,q3⟩:=hq (j/n) (by omega)
    refine q3 _ _ _ hj2 ?_;rw[AL,AD (by have:=Nat.mod_lt j hn;omega)]
    rfl
end
end Go.Va
namespace Go.Va
open Go.Proofs
structure Der where
 fact:Fct
 rule:Int
 frm:List Int
def Der.ds(x:Der):List D:=x.fact.ds++[.int .i64 x.rule,AT x.frm]
theorem Der.ds_len(x:Der):x.ds.length=7:=rfl
def Dh(l:List Der):D:= .slice l.length (l.flatMap Der.ds)
def Der.Mild(x:Der):Prop:=x.fact.Mild∧x.frm.length≤1000
theorem Xp(l:List Der)(i:Nat)(h:i<l.length):((l.flatMap Der.ds).drop (i*7)).take 7=l[i].ds:=Ic Der.ds_len l i h
theorem Kp(l:List Der)(i:Nat)(h:i<l.length):((l.flatMap Der.ds).map C.d|>.drop (i*7)).take 7=[.d (.int .i64 l[i].fact.kind),.d (AT l[i].fact.args),.d (.bool l[i].fact.neg),.d (Ad l[i].fact.abs),.d (Ad l[i].fact.den),.d (.int .i64 l[i].rule),.d (AT l[i].frm)]:=by
 have:=Xp l i h
 rw[←List.map_drop,←List.map_take,this]
 rfl
@[simp high]theorem der_len(l:List Der):(l.flatMap Der.ds).length=l.length*7:=Qw Der.ds_len l
def grdN(k:Int):Int:=if k=1 then 2 else if k=2 then 3 else if k=3 then 4 else -1
def errG(n:Int)(g:Grd):Int:=
 if grdN g.kind= -1 then 8 else if (g.args.length:Int)≠grdN g.kind then 1 else if g.args.any (Di n) then 2 else 0
end Go.Va
namespace Go.Va
open Int renaming natCast_add → qA, natCast_mul → qB, natCast_emod → qC, natCast_ediv → qD, natCast_pow → qE
open List renaming reduceReplicate → qF
open Go.Proofs
def bs(l:List UInt8):ByteArray:=⟨l.toArray⟩
structure Pat where
 kind:Int
 letters:List UInt8
 n:Int
def Pat.ds(p:Pat):List D:=[.int .i64 p.kind,.str (bs p.letters),.int .i64 p.n]
theorem Pat.ds_len(p:Pat):p.ds.length=3:=rfl
def MB(l:List Pat):D:= .slice l.length (l.flatMap Pat.ds)
structure Rul where
 name:List UInt8
 prem:List Pat
 concl:List Pat
 guards:List Pat
 count:Int
 derive:D
def Rul.ds(r:Rul):List D:=[.str (bs r.name),MB r.prem,MB r.concl,MB r.guards,.int .i64 r.count,r.derive]
def Rul.zero:Rul:=⟨[],[],[],[],0,.nilFn⟩
theorem IC(n:Nat)(cs:List D):CallsF Tryz.prog 263 [.c (.slice n cs)] (.u (.c (.d (.slice n cs)))):=by
 refine cO Tryz.func263 rfl ?_;simp -implicitDefEqProofs[jJ,-qA,-qB]
def BE(s:List UInt8):Pat:=⟨2,s,0⟩
def BJ(s:List UInt8):Pat:=⟨3,s,0⟩
def Bv(s:List UInt8):Pat:=⟨4,s,0⟩
def E4(s:List UInt8):Pat:=⟨1,s,0⟩
def BA(s:List UInt8):Pat:=⟨5,s,0⟩
def C3(s:List UInt8):Pat:=⟨6,s,0⟩
def Bx(s:List UInt8):Pat:=⟨7,s,0⟩
def GR(s:List UInt8):Pat:=⟨8,s,0⟩
def Ft(s:List UInt8)(n:Int):Pat:=⟨9,s,n⟩
def BF(s:List UInt8):Pat:=⟨1,s,0⟩
def Dw(s:List UInt8):Pat:=⟨2,s,0⟩
theorem I3(s:ByteArray):CallsF Tryz.prog 264 [.c (.str s)] (.u (.agg [.d (.int .i64 2),.d (.str s),.d (.int .i64 0)])):=by
 refine cO Tryz.func264 rfl ?_;simp -implicitDefEqProofs[jJ,-qA,-qB]
theorem Jn(s:ByteArray):CallsF Tryz.prog 266 [.c (.str s)] (.u (.agg [.d (.int .i64 3),.d (.str s),.d (.int .i64 0)])):=by
 refine cO Tryz.func266 rfl ?_;simp -implicitDefEqProofs[jJ,-qA,-qB]
theorem J2(s:ByteArray):CallsF Tryz.prog 270 [.c (.str s)] (.u (.agg [.d (.int .i64 4),.d (.str s),.d (.int .i64 0)])):=by
 refine cO Tryz.func270 rfl ?_;simp -implicitDefEqProofs[jJ,-qA,-qB]
theorem J5(s:ByteArray):CallsF Tryz.prog 269 [.c (.str s)] (.u (.agg [.d (.int .i64 1),.d (.str s),.d (.int .i64 0)])):=by
 refine cO Tryz.func269 rfl ?_;simp -implicitDefEqProofs[jJ,-qA,-qB]
theorem If(s:ByteArray):CallsF Tryz.prog 268 [.c (.str s)] (.u (.agg [.d (.int .i64 5),.d (.str s),.d (.int .i64 0)])):=by
 refine cO Tryz.func268 rfl ?_;simp -implicitDefEqProofs[jJ,-qA,-qB]
theorem Jt(s:ByteArray):CallsF Tryz.prog 274 [.c (.str s)] (.u (.agg [.d (.int .i64 6),.d (.str s),.d (.int .i64 0)])):=by
 refine cO Tryz.func274 rfl ?_;simp -implicitDefEqProofs[jJ,-qA,-qB]
theorem Jd(s:ByteArray):CallsF Tryz.prog 276 [.c (.str s)] (.u (.agg [.d (.int .i64 7),.d (.str s),.d (.int .i64 0)])):=by
 refine cO Tryz.func276 rfl ?_;simp -implicitDefEqProofs[jJ,-qA,-qB]
theorem JF(s:ByteArray):CallsF Tryz.prog 272 [.c (.str s)] (.u (.agg [.d (.int .i64 8),.d (.str s),.d (.int .i64 0)])):=by
 refine cO Tryz.func272 rfl ?_;simp -implicitDefEqProofs[jJ,-qA,-qB]
theorem Jw(s:ByteArray)(n:Int):CallsF Tryz.prog 271 [.c (.str s),.c (.int .i64 n)] (.u (.agg [.d (.int .i64 9),.d (.str s),.d (.int .i64 n)])):=by
 refine cO Tryz.func271 rfl ?_;simp -implicitDefEqProofs[jJ,-qA,-qB]
theorem JD(s:ByteArray):CallsF Tryz.prog 265 [.c (.str s)] (.u (.agg [.d (.int .i64 1),.d (.str s),.d (.int .i64 0)])):=by
 refine cO Tryz.func265 rfl ?_;simp -implicitDefEqProofs[jJ,-qA,-qB]
theorem IU(s:ByteArray):CallsF Tryz.prog 275 [.c (.str s)] (.u (.agg [.d (.int .i64 2),.d (.str s),.d (.int .i64 0)])):=by
 refine cO Tryz.func275 rfl ?_;simp -implicitDefEqProofs[jJ,-qA,-qB]
def A4:Nat→Rul
 |1=>⟨[112,97,114,97,108,108,101,108],[BE [115,116],BE [115,117]],[BE [116,117]],[BF [115]],0,.nilFn⟩
 |2=>⟨[112,101,114,112,101,110,100,105,99,117,108,97,114],[BE [115,116],BJ [115,117]],[BJ [116,117]],[BF [115]],0,.nilFn⟩
 |3=>⟨[110,111,114,109,97,108,115],[BJ [115,116],BJ [115,117]],[BE [116,117]],[BF [115]],0,.nilFn⟩
 |4=>⟨[108,101,110,103,116,104,115],[],[],[],2,.fn 267 []⟩
 |5=>⟨[109,105,100,112,111,105,110,116],[BA [77,65,66]],[E4 [77,65,66],Bv [77,65,77,66],Ft [65,66,77,65] 4],[],0,.nilFn⟩
 |6=>⟨[109,105,100,108,105,110,101],[BA [77,65,66],BA [78,65,67]],[BE [77,78,66,67],Ft [66,67,77,78] 4],[],0,.nilFn⟩
 |7=>⟨[100,105,97,103,111,110,97,108,115],[BA [77,65,66],BA [77,67,68]],[BE [65,67,66,68],Bv [65,67,66,68]],[],0,.nilFn⟩
 |8=>⟨[117,110,105,113,117,101],[BA [77,65,66],BA [78,65,66]],[GR [77,78]],[],0,.nilFn⟩
 |9=>⟨[115,117,98,115,116,105,116,117,116,105,111,110],[],[],[],2,.fn 273 []⟩
 |10=>⟨[101,113,117,105,100,105,115,116,97,110,116],[Bv [80,65,80,66],Bv [81,65,81,66]],[BJ [65,66,80,81]],[],0,.nilFn⟩
 |11=>⟨[99,105,114,99,108,101],[Bv [79,65,79,66],Bv [79,65,79,67],Bv [79,65,79,68]],[C3 [65,66,67,68]],[],0,.nilFn⟩
 |12=>⟨[99,111,110,99,121,99,108,105,99],[C3 [65,66,67,68],C3 [65,66,67,69]],[C3 [65,66,68,69]],[Dw [65,66,67]],0,.nilFn⟩
 |13=>⟨[105,110,115,99,114,105,98,101,100],[C3 [65,66,67,68]],[Bx [67,65,67,66,68,65,68,66]],[],0,.nilFn⟩
 |14=>⟨[97,114,99],[Bx [67,65,67,66,68,65,68,66]],[C3 [65,66,67,68]],[],0,.nilFn⟩
 |15=>⟨[115,117,109,115],[Bx [117,115,116,118],Bx [115,119,120,116]],[Bx [117,119,120,118]],[BF [115],BF [116]],0,.nilFn⟩
 |16=>⟨[100,105,102,102,101,114,101,110,99,101,115],[Bx [115,116,117,118],Bx [115,116,119,120]],[Bx [119,117,120,118]],[BF [115],BF [116]],0,.nilFn⟩
 |17=>⟨[100,105,114,101,99,116,105,111,110,115],[Bx [115,117,118,119],BE [115,116]],[Bx [116,117,118,119]],[BF [115]],0,.nilFn⟩
 |18=>⟨[100,105,97,109,101,116,101,114],[BJ [67,65,67,66],BJ [68,65,68,66]],[C3 [65,66,67,68]],[],0,.nilFn⟩
 |19=>⟨[99,97,110,99,101,108],[Bx [115,115,116,117]],[BE [116,117]],[BF [115]],0,.nilFn⟩
 |20=>⟨[114,105,103,104,116],[Bx [115,116,117,118],BJ [115,116]],[BJ [117,118]],[BF [115],BF [116]],0,.nilFn⟩
 |21=>⟨[105,115,111,115,99,101,108,101,115],[Bv [79,65,79,66]],[Bx [79,65,65,66,65,66,79,66]],[],0,.nilFn⟩
 |22=>⟨[98,97,115,101],[Bx [79,65,65,66,65,66,79,66]],[Bv [79,65,79,66]],[Dw [79,65,66]],0,.nilFn⟩
 |23=>⟨[116,104,97,108,101,115],[BA [79,65,66],Bv [79,65,79,67]],[BJ [67,65,67,66]],[],0,.nilFn⟩
 |24=>⟨[104,121,112,111,116,101,110,117,115,101],[BA [77,65,66],BJ [67,65,67,66]],[Bv [77,65,77,67]],[],0,.nilFn⟩
 |25=>⟨[98,105,115,101,99,116,111,114],[BA [77,65,66],BJ [77,67,65,66]],[Bv [67,65,67,66]],[],0,.nilFn⟩
 |26=>⟨[115,105,100,101],[BA [77,65,66],BE [77,78,66,67],E4 [65,78,67]],[BA [78,65,67]],[Dw [65,66,67]],0,.nilFn⟩
 |27=>⟨[112,97,114,97,108,108,101,108,111,103,114,97,109],[BE [65,66,67,68],BE [65,67,66,68]],[Bv [65,66,67,68],Bv [65,67,66,68]],[Dw [65,66,67]],0,.nilFn⟩
 |28=>⟨[109,105,100,100,108,101],[E4 [77,65,66],Bv [77,65,77,66]],[BA [77,65,66]],[BF [65,66]],0,.nilFn⟩
 |_=> .zero
def Rul.res(r:Rul):R:= .u (.agg (r.ds.map .d))
theorem SX(n:Int)(h:n<10):CallsF Tryz.prog 181 [.c (.int .i64 n)] (Rul.res (if 1≤n then A4 n.toNat else .zero)):=by
 refine cO Tryz.func181 rfl ?_;by_cases h1:n=1
 rotate_left
 by_cases h2:n=2
 rotate_left
 by_cases h3:n=3
 rotate_left
 by_cases h4:n=4
 rotate_left
 by_cases h5:n=5
 rotate_left
 by_cases h6:n=6
 rotate_left
 by_cases h7:n=7
 rotate_left
 by_cases h8:n=8
 rotate_left
 by_cases h9:n=9
 rotate_left
 simp -implicitDefEqProofs[jJ,-qA,-qB,h1,h2,h3,h4,h5,h6,h7,h8,h9];rw[if_neg (by omega)]
 simp[Rul.res,Rul.ds,Rul.zero,MB,bs,show ByteArray.empty=⟨#[]⟩ from rfl]
 all_goals
  subst n;simp -implicitDefEqProofs[jJ,-qA,-qB]
  repeat ((first|refine .inl ⟨_,IC _ _,?_⟩|refine .inl ⟨_,I3 _,?_⟩|refine .inl ⟨_,Jn _,?_⟩|refine .inl ⟨_,J2 _,?_⟩|refine .inl ⟨_,J5 _,?_⟩|refine .inl ⟨_,If _,?_⟩|refine .inl ⟨_,Jt _,?_⟩|refine .inl ⟨_,Jd _,?_⟩|refine .inl ⟨_,JF _,?_⟩|refine .inl ⟨_,Jw _ _,?_⟩|refine .inl ⟨_,JD _,?_⟩|refine .inl ⟨_,IU _,?_⟩);simp -implicitDefEqProofs[jJ,-qA,-qB])
  simp[Rul.res,Rul.ds,A4,MB,Pat.ds,bs,BE,BJ,Bv,E4,BA,C3,Bx,GR,Ft,BF,Dw]
theorem SA(n:Int)(h:n<19):CallsF Tryz.prog 182 [.c (.int .i64 n)] (Rul.res (if 10≤n then A4 n.toNat else .zero)):=by
 refine cO Tryz.func182 rfl ?_;by_cases h10:n=10
 rotate_left
 by_cases h11:n=11
 rotate_left
 by_cases h12:n=12
 rotate_left
 by_cases h13:n=13
 rotate_left
 by_cases h14:n=14
 rotate_left
 by_cases h15:n=15
 rotate_left
 by_cases h16:n=16
 rotate_left
 by_cases h17:n=17
 rotate_left
 by_cases h18:n=18
 rotate_left
 simp -implicitDefEqProofs[jJ,-qA,-qB,h10,h11,h12,h13,h14,h15,h16,h17,h18];rw[if_neg (by omega)]
 simp[Rul.res,Rul.ds,Rul.zero,MB,bs,show ByteArray.empty=⟨#[]⟩ from rfl]
 all_goals
  subst n;simp -implicitDefEqProofs[jJ,-qA,-qB]
  repeat ((first|refine .inl ⟨_,IC _ _,?_⟩|refine .inl ⟨_,I3 _,?_⟩|refine .inl ⟨_,Jn _,?_⟩|refine .inl ⟨_,J2 _,?_⟩|refine .inl ⟨_,J5 _,?_⟩|refine .inl ⟨_,If _,?_⟩|refine .inl ⟨_,Jt _,?_⟩|refine .inl ⟨_,Jd _,?_⟩|refine .inl ⟨_,JF _,?_⟩|refine .inl ⟨_,Jw _ _,?_⟩|refine .inl ⟨_,JD _,?_⟩|refine .inl ⟨_,IU _,?_⟩);simp -implicitDefEqProofs[jJ,-qA,-qB])
  simp[Rul.res,Rul.ds,A4,MB,Pat.ds,bs,BE,BJ,Bv,E4,BA,C3,Bx,GR,Ft,BF,Dw]
theorem Vy(n:Int):CallsF Tryz.prog 183 [.c (.int .i64 n)] (Rul.res (if 19≤n∧n<29 then A4 n.toNat else .zero)):=by
 refine cO Tryz.func183 rfl ?_;by_cases h19:n=19
 rotate_left
 by_cases h20:n=20
 rotate_left
 by_cases h21:n=21
 rotate_left
 by_cases h22:n=22
 rotate_left
 by_cases h23:n=23
 rotate_left
 by_cases h24:n=24
 rotate_left
 by_cases h25:n=25
 rotate_left
 by_cases h26:n=26
 rotate_left
 by_cases h27:n=27
 rotate_left
 by_cases h28:n=28
 rotate_left
 simp -implicitDefEqProofs[jJ,-qA,-qB,h19,h20,h21,h22,h23,h24,h25,h26,h27,h28];rw[if_neg (by omega)]
 simp[Rul.res,Rul.ds,Rul.zero,MB,bs,show ByteArray.empty=⟨#[]⟩ from rfl]
 all_goals
  subst n;simp -implicitDefEqProofs[jJ,-qA,-qB]
  repeat ((first|refine .inl ⟨_,IC _ _,?_⟩|refine .inl ⟨_,I3 _,?_⟩|refine .inl ⟨_,Jn _,?_⟩|refine .inl ⟨_,J2 _,?_⟩|refine .inl ⟨_,J5 _,?_⟩|refine .inl ⟨_,If _,?_⟩|refine .inl ⟨_,Jt _,?_⟩|refine .inl ⟨_,Jd _,?_⟩|refine .inl ⟨_,JF _,?_⟩|refine .inl ⟨_,Jw _ _,?_⟩|refine .inl ⟨_,JD _,?_⟩|refine .inl ⟨_,IU _,?_⟩);simp -implicitDefEqProofs[jJ,-qA,-qB])
  simp[Rul.res,Rul.ds,A4,MB,Pat.ds,bs,BE,BJ,Bv,E4,BA,C3,Bx,GR,Ft,BF,Dw]
def rulT(n:Int):Rul:={ A4 n.toNat with count:=(A4 n.toNat).count+(A4 n.toNat).prem.length }
theorem Nh(n:Nat)(h:28<n):A4 n= .zero:=by
 unfold A4;split<;>first|omega|rfl
theorem PX(n:Int):(if n<10 then (if 1≤n then A4 n.toNat else Rul.zero) else if n<19 then (if 10≤n then A4 n.toNat else .zero) else (if 19≤n∧n<29 then A4 n.toNat else .zero))=A4 n.toNat:=by
 by_cases h1:n<10
 ·rw[if_pos h1]
  by_cases h2:1≤n
  ·rw[if_pos h2]
  ·rw[if_neg h2,show n.toNat=0 by omega];rfl
 rw[if_neg h1]
 by_cases h2:n<19
 ·rw[if_pos h2,if_pos (by omega)]
 rw[if_neg h2]
 by_cases h3:n<29
 ·rw[if_pos ⟨by omega,h3⟩]
 ·rw[if_neg (by omega),Nh n.toNat (by omega)]
theorem SE(n:Nat):(A4 n).count≤2∧0≤(A4 n).count∧(A4 n).prem.length≤3:=by
 unfold A4;split<;>simp[Rul.zero]
theorem Yz(n:Int):CallsF Tryz.prog 104 [.c (.int .i64 n)] (rulT n).res:=by
 have hs:=SE n.toNat;have e:=PX n;unfold rulT;generalize hR:A4 n.toNat=R at*;obtain⟨nm,p,c,g,k,d⟩:=R;simp only at hs;simp only[Rul.res,Rul.ds]at*;refine cO Tryz.func104 rfl ?_;by_cases h1:n<10
 ·have c1:=SX n h1;rw[if_pos h1]at e;rw[hR,e]at c1;simp only[Rul.res,Rul.ds]at c1;simp -implicitDefEqProofs[jJ,-qA,-qB,h1];refine Ac c1 ?_;simp -implicitDefEqProofs[jJ,-qA,-qB,MB]
  trace_state
  omega
 rw[if_neg h1]at e
 by_cases h2:n<19
 ·have c1:=SA n h2;rw[if_pos h2]at e;rw[hR,e]at c1;simp only[Rul.res,Rul.ds]at c1;simp -implicitDefEqProofs[jJ,-qA,-qB,h1,h2];refine Ac c1 ?_;simp -implicitDefEqProofs[jJ,-qA,-qB,MB]
  trace_state
  omega
 rw[if_neg h2]at e
 have c1:=Vy n;rw[hR,e]at c1;simp only[Rul.res,Rul.ds]at c1;simp -implicitDefEqProofs[jJ,-qA,-qB,h1,h2];refine Ac c1 ?_;simp -implicitDefEqProofs[jJ,-qA,-qB,MB];omega
end Go.Va
namespace Go.Va
open Go.Proofs
structure RPat where
 kind:Int
 letters:List UInt8
 seg:Bool
 num:Int
def RPat.ds(p:RPat):List D:=[.int .i64 p.kind,.str (bs p.letters),.bool p.seg,.int .i64 p.num]
theorem RPat.ds_len(p:RPat):p.ds.length=4:=rfl
def CQ(l:List RPat):D:= .slice l.length (l.flatMap RPat.ds)
end Go.Va
namespace Go.Va
open Int renaming natCast_add → qA, natCast_mul → qB, natCast_emod → qC, natCast_ediv → qD, natCast_pow → qE
open List renaming reduceReplicate → qF
open Go.Proofs
structure RRul where
 name:List UInt8
 frm:List RPat
 to:List RPat
 guards:List RPat
def RRul.ds(r:RRul):List D:=[.str (bs r.name),CQ r.frm,CQ r.to,CQ r.guards]
def RRul.zero:RRul:=⟨[],[],[],[]⟩
def RRul.res(r:RRul):R:= .u (.agg (r.ds.map .d))
def MW:Nat→RRul
 |1=>⟨[112,97,114,97,108,108,101,108],[⟨2,[115,116],true,0⟩,⟨2,[115,117],true,0⟩],[⟨2,[116,117],true,0⟩],[⟨1,[115],true,0⟩]⟩
 |2=>⟨[112,101,114,112,101,110,100,105,99,117,108,97,114],[⟨2,[115,116],true,0⟩,⟨3,[115,117],true,0⟩],[⟨3,[116,117],true,0⟩],[⟨1,[115],true,0⟩]⟩
 |3=>⟨[110,111,114,109,97,108,115],[⟨3,[115,116],true,0⟩,⟨3,[115,117],true,0⟩],[⟨2,[116,117],true,0⟩],[⟨1,[115],true,0⟩]⟩
 |4=>⟨[108,101,110,103,116,104,115],[⟨9,[115,116],true,0⟩,⟨9,[116,117],true,0⟩],[],[]⟩
 |5=>⟨[109,105,100,112,111,105,110,116],[⟨5,[109,97,98],false,0⟩],[⟨1,[109,97,98],false,0⟩,⟨4,[109,97,109,98],false,0⟩,⟨9,[97,98,109,97],false,4⟩],[]⟩
 |6=>⟨[109,105,100,108,105,110,101],[⟨5,[109,97,98],false,0⟩,⟨5,[110,97,99],false,0⟩],[⟨2,[109,110,98,99],false,0⟩,⟨9,[98,99,109,110],false,4⟩],[]⟩
 |7=>⟨[100,105,97,103,111,110,97,108,115],[⟨5,[109,97,98],false,0⟩,⟨5,[109,99,100],false,0⟩],[⟨2,[97,99,98,100],false,0⟩,⟨4,[97,99,98,100],false,0⟩],[]⟩
 |8=>⟨[117,110,105,113,117,101],[⟨5,[109,97,98],false,0⟩,⟨5,[110,97,98],false,0⟩],[⟨8,[109,110],false,0⟩],[]⟩
 |9=>⟨[115,117,98,115,116,105,116,117,116,105,111,110],[⟨8,[97,98],false,0⟩,⟨0,[],false,0⟩],[],[]⟩
 |10=>⟨[101,113,117,105,100,105,115,116,97,110,116],[⟨4,[112,97,112,98],false,0⟩,⟨4,[113,97,113,98],false,0⟩],[⟨3,[97,98,112,113],false,0⟩],[]⟩
 |11=>⟨[99,105,114,99,108,101],[⟨4,[111,97,111,98],false,0⟩,⟨4,[111,97,111,99],false,0⟩,⟨4,[111,97,111,100],false,0⟩],[⟨6,[97,98,99,100],false,0⟩],[]⟩
 |12=>⟨[99,111,110,99,121,99,108,105,99],[⟨6,[97,98,99,100],false,0⟩,⟨6,[97,98,99,101],false,0⟩],[⟨6,[97,98,100,101],false,0⟩],[⟨2,[97,98,99],false,0⟩]⟩
 |13=>⟨[105,110,115,99,114,105,98,101,100],[⟨6,[97,98,99,100],false,0⟩],[⟨7,[99,97,99,98,100,97,100,98],false,0⟩],[]⟩
 |14=>⟨[97,114,99],[⟨7,[99,97,99,98,100,97,100,98],false,0⟩],[⟨6,[97,98,99,100],false,0⟩],[]⟩
 |15=>⟨[115,117,109,115],[⟨7,[117,115,116,118],true,0⟩,⟨7,[115,119,120,116],true,0⟩],[⟨7,[117,119,120,118],true,0⟩],[⟨1,[115],true,0⟩,⟨1,[116],true,0⟩]⟩
 |16=>⟨[100,105,102,102,101,114,101,110,99,101,115],[⟨7,[115,116,117,118],true,0⟩,⟨7,[115,116,119,120],true,0⟩],[⟨7,[119,117,120,118],true,0⟩],[⟨1,[115],true,0⟩,⟨1,[116],true,0⟩]⟩
 |17=>⟨[100,105,114,101,99,116,105,111,110,115],[⟨7,[115,117,118,119],true,0⟩,⟨2,[115,116],true,0⟩],[⟨7,[116,117,118,119],true,0⟩],[⟨1,[115],true,0⟩]⟩
 |18=>⟨[100,105,97,109,101,116,101,114],[⟨3,[99,97,99,98],false,0⟩,⟨3,[100,97,100,98],false,0⟩],[⟨6,[97,98,99,100],false,0⟩],[]⟩
 |19=>⟨[99,97,110,99,101,108],[⟨7,[115,115,116,117],true,0⟩],[⟨2,[116,117],true,0⟩],[⟨1,[115],true,0⟩]⟩
 |20=>⟨[114,105,103,104,116],[⟨7,[115,116,117,118],true,0⟩,⟨3,[115,116],true,0⟩],[⟨3,[117,118],true,0⟩],[⟨1,[115],true,0⟩,⟨1,[116],true,0⟩]⟩
 |21=>⟨[105,115,111,115,99,101,108,101,115],[⟨4,[111,97,111,98],false,0⟩],[⟨7,[111,97,97,98,97,98,111,98],false,0⟩],[]⟩
 |22=>⟨[98,97,115,101],[⟨7,[111,97,97,98,97,98,111,98],false,0⟩],[⟨4,[111,97,111,98],false,0⟩],[⟨2,[111,97,98],false,0⟩]⟩
 |23=>⟨[116,104,97,108,101,115],[⟨5,[111,97,98],false,0⟩,⟨4,[111,97,111,99],false,0⟩],[⟨3,[99,97,99,98],false,0⟩],[]⟩
 |24=>⟨[104,121,112,111,116,101,110,117,115,101],[⟨5,[109,97,98],false,0⟩,⟨3,[99,97,99,98],false,0⟩],[⟨4,[109,97,109,99],false,0⟩],[]⟩
 |25=>⟨[98,105,115,101,99,116,111,114],[⟨5,[109,97,98],false,0⟩,⟨3,[109,99,97,98],false,0⟩],[⟨4,[99,97,99,98],false,0⟩],[]⟩
 |26=>⟨[115,105,100,101],[⟨5,[109,97,98],false,0⟩,⟨2,[109,110,98,99],false,0⟩,⟨1,[97,110,99],false,0⟩],[⟨5,[110,97,99],false,0⟩],[⟨2,[97,98,99],false,0⟩]⟩
 |27=>⟨[112,97,114,97,108,108,101,108,111,103,114,97,109],[⟨2,[97,98,99,100],false,0⟩,⟨2,[97,99,98,100],false,0⟩],[⟨4,[97,98,99,100],false,0⟩,⟨4,[97,99,98,100],false,0⟩],[⟨2,[97,98,99],false,0⟩]⟩
 |28=>⟨[109,105,100,100,108,101],[⟨1,[109,97,98],false,0⟩,⟨4,[109,97,109,98],false,0⟩],[⟨5,[109,97,98],false,0⟩],[⟨1,[97,98],false,0⟩]⟩
 |_=> .zero
theorem O4(k:Int)(s:ByteArray):CallsF Tryz.prog 361 [.c (.int .i64 k),.c (.str s)] (.u (.agg [.d (.int .i64 k),.d (.str s),.d (.bool true),.d (.int .i64 0)])):=by
 refine cO Tryz.func361 rfl ?_;simp -implicitDefEqProofs[jJ,-qA,-qB]
theorem O1(k:Int)(s:ByteArray):CallsF Tryz.prog 362 [.c (.int .i64 k),.c (.str s)] (.u (.agg [.d (.int .i64 k),.d (.str s),.d (.bool false),.d (.int .i64 0)])):=by
 refine cO Tryz.func362 rfl ?_;simp -implicitDefEqProofs[jJ,-qA,-qB]
theorem U3(s:ByteArray):CallsF Tryz.prog 363 [.c (.str s)] (.u (.agg [.d (.int .i64 9),.d (.str s),.d (.bool false),.d (.int .i64 4)])):=by
 refine cO Tryz.func363 rfl ?_;simp -implicitDefEqProofs[jJ,-qA,-qB]
theorem jon(n:Int):CallsF Tryz.prog 278 [.c (.int .i64 n)] (RRul.res (if 1≤n∧n≤14 then MW n.toNat else .zero)):=by
 refine cO Tryz.func278 rfl ?_;simp -implicitDefEqProofs[jJ,-qA,-qB]
 repeat ((first|refine .inl ⟨_,O4 _ _,?_⟩|refine .inl ⟨_,O1 _ _,?_⟩);simp -implicitDefEqProofs[jJ,-qA,-qB])
 by_cases h1:n=1
 rotate_left
 by_cases h2:n=2
 rotate_left
 by_cases h3:n=3
 rotate_left
 by_cases h4:n=4
 rotate_left
 by_cases h5:n=5
 rotate_left
 by_cases h6:n=6
 rotate_left
 by_cases h7:n=7
 rotate_left
 by_cases h8:n=8
 rotate_left
 by_cases h9:n=9
 rotate_left
 by_cases h10:n=10
 rotate_left
 by_cases h11:n=11
 rotate_left
 by_cases h12:n=12
 rotate_left
 by_cases h13:n=13
 rotate_left
 by_cases h14:n=14
 rotate_left
 have hz: ¬(1≤n∧n≤14):=by omega
 rw[if_neg hz]
 simp -implicitDefEqProofs[jJ,-qA,-qB,h1,h2,h3,h4,h5,h6,h7,h8,h9,h10,h11,h12,h13,h14]
 try simp[RRul.res,RRul.ds,RRul.zero,CQ,bs]
 try rfl
 all_goals
  subst n;simp -implicitDefEqProofs[jJ,-qA,-qB]
  repeat ((first|refine .inl ⟨_,O4 _ _,?_⟩|refine .inl ⟨_,O1 _ _,?_⟩|refine .inl ⟨_,U3 _,?_⟩);simp -implicitDefEqProofs[jJ,-qA,-qB])
  try simp[RRul.res,RRul.ds,MW,CQ,RPat.ds,bs]
  try rfl
end Go.Va
