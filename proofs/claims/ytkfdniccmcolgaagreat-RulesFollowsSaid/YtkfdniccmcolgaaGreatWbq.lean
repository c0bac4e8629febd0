/- a part of the proof -/
import Derived.Test.YtkfdniccmcolgaaGreatWbd
import Derived.Test.YtkfdniccmcolgaaGreatWbc
import Derived.Test.YtkfdniccmcolgaaGreatWbl
set_option linter.all false
set_option maxHeartbeats 4000000
set_option maxRecDepth 10000
namespace Go.Va
open Int (natCast_add natCast_mul natCast_emod natCast_ediv natCast_pow)
open Go.Proofs
def MO:List (List Nat):=(Aj [0,0,2,7,15,31,31,127,255,31,1023,2047,4095])
@[simp]def Nn:List Seg:=[.any [] [] (Ao [[5],[0],[7]]),.one,.one,.any [] [] (Ao [[0,10],[5,10],[11,12,10],[13,10],[3,10]]),.one,.one,.one]
def V6:List (List Nat):=(Aj [0,0,2,7,15,31,31,127,255,31,1023,2047,4095])
@[simp]def Vv:List Seg:=[.any [] [] (Ao [[5],[0],[22]]),.one,.one,.any [] [] (Ao [[0,25],[5,25],[26,27,25],[28,25],[3,25]]),.one,.one,.one]
def Rc:List (List Nat):=(Aj [0,0,0,6,15,0,32,127,0,0,768,2047,4095])
@[simp]def SD:List Seg:=[.any [] [35,39,41,42] [⟨1,[],[41],[39,41,42],[]⟩,⟨0,[0],[35,41],[35,39,41,42],[]⟩,⟨0,[5],[35,41],[35,39,41,42],[]⟩,⟨0,[36,37],[35,41],[35,39,41,42],[]⟩,⟨3,[35,38],[41],[41,42],[35]⟩,⟨0,[3],[35,39],[35,39,41,42],[]⟩,⟨1,[40],[35,39],[35,39,42],[]⟩,⟨3,[39,41],[],[],[39]⟩,⟨0,[0],[35,39,41,42],[35,39,41,42],[]⟩,⟨0,[5],[35,39,41,42],[35,39,41,42],[]⟩,⟨0,[43,44],[35,39,41,42],[35,39,41,42],[]⟩],.one,.one]
@[simp]theorem jiY(h:List (Nat×Blk))(l:List Grd)(k:Int):sliceV h (.d (grdsD l)) none (some k) 2=if 0≤k∧k≤l.length then some (.d (grdsD (l.take k.toNat))) else none:=by
 unfold grdsD sliceV D5;simp only[H5,if_true,Option.getD_none,Option.getD_some,Int.toNat_zero,Nat.sub_zero];by_cases hk:0≤k∧k≤l.length
 ·rw[if_pos hk,if_pos (by omega)]
  simp only[Ay,Nat.zero_mul,List.drop_zero,JC Grd.ds_len,AG];rw[AU (by omega)]
 ·rw[if_neg hk,if_neg (by omega)]
@[simp]theorem jiW(h:List (Nat×Blk))(l:List Grd)(k:Int):sliceV h (.d (grdsD l)) (some k) none 2=if 0≤k∧k≤l.length then some (.d (grdsD (l.drop k.toNat))) else none:=by
 unfold grdsD sliceV D5;simp only[H5,if_true,Option.getD_none,Option.getD_some];by_cases hk:0≤k∧k≤l.length
 ·rw[if_pos hk,if_pos (by omega)]
  simp only[Ay,DZ Grd.ds_len,List.length_drop];rw[AI (by rw[H5,List.length_drop];omega)]
  have e:(l.length:Int).toNat - k.toNat=l.length - k.toNat:=by simp
  rw[e]
 ·rw[if_neg hk,if_neg (by omega)]
theorem Wi{m:List Grd}{n:Nat}{cs:List D}(hn:n=m.length)(hc:cs=m.flatMap Grd.ds):D.slice n (List.take (n*2) cs)=grdsD m:=by
 subst hn hc;rw[YN];rfl
def Bf:List Grd→Grd→List Grd
 |[],f=>[f]
 |a::l,f=>if cmpGd a f<0 then a::Bf l f else if cmpGd a f=0 then a::l else f::a::l
theorem J8(f:Grd): ∀(p:Nat) (l:List Grd),p≤l.length→(∀j (hj:j<l.length),j<p→cmpGd l[j] f<0)→Bf l f=l.take p++Bf (l.drop p) f
 |0,l,_,_=>rfl
 |p+1,[],h,_=>by simp at h
 |p+1,a::l,h,hc=>by
  have h0:=hc 0 (by simp) (by omega)
  have ih:=J8 f p l (by simpa using h) (fun j hj hp=>hc (j+1) (by simpa using hj) (by omega))
  simp only[List.getElem_cons_zero]at h0;rw[Bf,if_pos h0,List.take_succ_cons,List.drop_succ_cons,ih];rfl
theorem jgv{f:Grd}{l:List Grd}(hc: ∀j (hj:j<l.length),cmpGd l[j] f<0):Bf l f=l++[f]:=by
 rw[J8 f l.length l (AA _) (fun j hj _=>hc j hj),AZ,List.drop_length]
 rfl
theorem jhR{f:Grd}{l:List Grd}{p:Nat}(h:p<l.length)(hc: ∀j (hj:j<l.length),j<p→cmpGd l[j] f<0)(h0:cmpGd l[p] f=0):Bf l f=l:=by
 rw[J8 f p l (by omega) hc,AD h,Bf,if_neg (by omega),if_pos h0,←AD h,List.take_append_drop]
theorem jca{f:Grd}{l:List Grd}{p:Nat}(h:p<l.length)(hc: ∀j (hj:j<l.length),j<p→cmpGd l[j] f<0)(h0: ¬cmpGd l[p] f<0)(h1: ¬cmpGd l[p] f=0):Bf l f=l.take p++f::l.drop p:=by
 rw[J8 f p l (by omega) hc,AD h,Bf,if_neg h0,if_neg h1]
theorem Nr(f:Grd)(l:List Grd)(hf:f.Short)(hm: ∀g∈l,g.Short)(hk: ∀g∈l,g.kind=f.kind∨(-1000≤g.kind∧g.kind≤1000∧ -1000≤f.kind∧f.kind≤1000))(hn:l.length≤2000000000000):CallsF Tryz.prog 32 [.c (grdsD l),.agg f.ds] (.u (.c (.d (grdsD (Bf l f))))):=by
 have k:=fun g hg=>Ns g f (hm g hg) hf (hk g hg)
 clear hm hf hk;simp only[Grd.ds]at k ⊢;refine Ae (T:=tb) Ad mixed Tryz.func32 rfl (by decide) (Ac rfl) rfl ?_;unfold St.init
 simp -implicitDefEqProofs[jJ,-natCast_add,-natCast_mul];refine Av (fun i:Nat=>⟨[(5,vI .i64 i),(3,vC (.ptr 3 0)),(0,vC (.d (grdsD l)))],[(3,.box [.d (.int .i64 f.kind),.d (intsD f.args)])]⟩) (fun i=>i≤l.length∧ ∀j (hj:j<l.length),j<i→cmpGd l[j] f<0) (fun i=>l.length - i) 0 (by simp) (by simp) ?_
 rintro i ⟨h1,h2⟩
 by_cases h:i<l.length
 ·have k:=k l[i] (Ak h);have e2:=F8 h;by_cases g:cmpGd l[i] f<0
  ·simp -implicitDefEqProofs[jJ,-natCast_add,-natCast_mul,h];refine Af MO Nn (by rfl) ?_
   simp -implicitDefEqProofs[jJ,-natCast_add,-natCast_mul,h,e2];refine Aa k ?_;simp -implicitDefEqProofs[jJ,-natCast_add,-natCast_mul,g];exact⟨by omega,⟨by omega,fun j hj hp=>if e:j=i then by subst e;exact g else h2 j hj (by omega)⟩,by omega⟩
  ·simp -implicitDefEqProofs[jJ,-natCast_add,-natCast_mul,h];refine Af MO Nn (by rfl) ?_
   simp -implicitDefEqProofs[jJ,-natCast_add,-natCast_mul,h,e2];refine Aa k ?_;simp -implicitDefEqProofs[jJ,-natCast_add,-natCast_mul,g];refine Af V6 Vv (by rfl) ?_
   simp -implicitDefEqProofs[jJ,-natCast_add,-natCast_mul,h,e2];refine Aa k ?_;by_cases g0:cmpGd l[i] f=0
   ·simp -implicitDefEqProofs[jJ,-natCast_add,-natCast_mul,g0];rw[jhR h h2 g0]
   ·simp -implicitDefEqProofs[jJ,-natCast_add,-natCast_mul,g0];refine Af Rc SD (by rfl) ?_
    simp -implicitDefEqProofs[jJ,-natCast_add,-natCast_mul,h];have hmin:min i l.length=i:=by omega
    rw[hmin,jca h h2 g g0]
    refine⟨by omega,by omega,by omega,by omega,by omega,by omega,by omega,Wi ?_ ?_⟩
    ·simp
     omega
    ·simp[Grd.ds]
 ·have:i=l.length:=by omega
  subst this;simp -implicitDefEqProofs[jJ,-natCast_add,-natCast_mul];refine Af MO Nn (by rfl) ?_
  simp -implicitDefEqProofs[jJ,-natCast_add,-natCast_mul,h];refine Af V6 Vv (by rfl) ?_
  simp -implicitDefEqProofs[jJ,-natCast_add,-natCast_mul,h];refine Af Rc SD (by rfl) ?_
  simp -implicitDefEqProofs[jJ,-natCast_add,-natCast_mul,h];rw[jgv (fun j hj=>h2 j hj hj)]
  refine⟨by omega,by omega,by omega,by omega,by omega,Wi ?_ ?_⟩
  ·simp
  ·simp[Grd.ds]
structure RRul where
 name:List UInt8
 frm:List RPat
 to:List RPat
 guards:List RPat
def RRul.ds(r:RRul):List D:=[.str (bs r.name),Bg r.frm,Bg r.to,Bg r.guards]
def RRul.zero:RRul:=⟨[],[],[],[]⟩
def RRul.res(r:RRul):R:= .u (.agg (r.ds.map .d))
def refN:Nat→RRul
 |1=>⟨[112,97,114,97,108,108,101,108],[⟨2,[115,116],true,0⟩,⟨2,[115,117],true,0⟩],[⟨2,[116,117],true,0⟩],[⟨1,[115],true,0⟩]⟩
 |2=>⟨[112,101,114,112,101,110,100,105,99,117,108,97,114],[⟨2,[115,116],true,0⟩,⟨3,[115,117],true,0⟩],[⟨3,[116,117],true,0⟩],[⟨1,[115],true,0⟩]⟩
 |3=>⟨[110,111,114,109,97,108,115],[⟨3,[115,116],true,0⟩,⟨3,[115,117],true,0⟩],[⟨2,[116,117],true,0⟩],[⟨1,[115],true,0⟩]⟩
 |4=>⟨[108,101,110,103,116,104,115],[⟨9,[115,116],true,0⟩,⟨9,[116,117],true,0⟩],[],[]⟩
 |5=>⟨[109,105,100,112,111,105,110,116],[⟨5,[109,97,98],false,0⟩],[⟨1,[109,97,98],false,0⟩,⟨4,[109,97,109,98],false,0⟩,⟨9,[97,98,109,97],false,4⟩],[]⟩
 |6=>⟨[109,105,100,108,105,110,101],[⟨5,[109,97,98],false,0⟩,⟨5,[110,97,99],false,0⟩],[⟨2,[109,110,98,99],false,0⟩,⟨9,[98,99,109,110],false,4⟩],[]⟩
 |7=>⟨[100,105,97,103,111,110,97,108,115],[⟨5,[109,97,98],false,0⟩,⟨5,[109,99,100],false,0⟩],[⟨2,[97,99,98,100],false,0⟩,⟨4,[97,99,98,100],false,0⟩],[]⟩
 |8=>⟨[117,110,105,113,117,101],[⟨5,[109,97,98],false,0⟩,⟨5,[110,97,98],false,0⟩],[⟨8,[109,110],false,0⟩],[]⟩
 |9=>⟨[115,117,98,115,116,105,116,117,116,105,111,110],[⟨8,[97,98],false,0⟩,⟨0,[],false,0⟩],[],[]⟩
 |10=>⟨[101,113,117,105,100,105,115,116,97,110,116],[⟨4,[112,97,112,98],false,0⟩,⟨4,[113,97,113,98],false,0⟩],[⟨3,[97,98,112,113],false,0⟩],[]⟩
 |11=>⟨[99,105,114,99,108,101],[⟨4,[111,97,111,98],false,0⟩,⟨4,[111,97,111,99],false,0⟩,⟨4,[111,97,111,100],false,0⟩],[⟨6,[97,98,99,100],false,0⟩],[]⟩
 |12=>⟨[99,111,110,99,121,99,108,105,99],[⟨6,[97,98,99,100],false,0⟩,⟨6,[97,98,99,101],false,0⟩],[⟨6,[97,98,100,101],false,0⟩],[⟨2,[97,98,99],false,0⟩]⟩
 |13=>⟨[105,110,115,99,114,105,98,101,100],[⟨6,[97,98,99,100],false,0⟩],[⟨7,[99,97,99,98,100,97,100,98],false,0⟩],[]⟩
 |14=>⟨[97,114,99],[⟨7,[99,97,99,98,100,97,100,98],false,0⟩],[⟨6,[97,98,99,100],false,0⟩],[]⟩
 |15=>⟨[115,117,109,115],[⟨7,[117,115,116,118],true,0⟩,⟨7,[115,119,120,116],true,0⟩],[⟨7,[117,119,120,118],true,0⟩],[⟨1,[115],true,0⟩,⟨1,[116],true,0⟩]⟩
 |16=>⟨[100,105,102,102,101,114,101,110,99,101,115],[⟨7,[115,116,117,118],true,0⟩,⟨7,[115,116,119,120],true,0⟩],[⟨7,[119,117,120,118],true,0⟩],[⟨1,[115],true,0⟩,⟨1,[116],true,0⟩]⟩
 |17=>⟨[100,105,114,101,99,116,105,111,110,115],[⟨7,[115,117,118,119],true,0⟩,⟨2,[115,116],true,0⟩],[⟨7,[116,117,118,119],true,0⟩],[⟨1,[115],true,0⟩]⟩
 |18=>⟨[100,105,97,109,101,116,101,114],[⟨3,[99,97,99,98],false,0⟩,⟨3,[100,97,100,98],false,0⟩],[⟨6,[97,98,99,100],false,0⟩],[]⟩
 |19=>⟨[99,97,110,99,101,108],[⟨7,[115,115,116,117],true,0⟩],[⟨2,[116,117],true,0⟩],[⟨1,[115],true,0⟩]⟩
 |20=>⟨[114,105,103,104,116],[⟨7,[115,116,117,118],true,0⟩,⟨3,[115,116],true,0⟩],[⟨3,[117,118],true,0⟩],[⟨1,[115],true,0⟩,⟨1,[116],true,0⟩]⟩
 |21=>⟨[105,115,111,115,99,101,108,101,115],[⟨4,[111,97,111,98],false,0⟩],[⟨7,[111,97,97,98,97,98,111,98],false,0⟩],[]⟩
 |22=>⟨[98,97,115,101],[⟨7,[111,97,97,98,97,98,111,98],false,0⟩],[⟨4,[111,97,111,98],false,0⟩],[⟨2,[111,97,98],false,0⟩]⟩
 |23=>⟨[116,104,97,108,101,115],[⟨5,[111,97,98],false,0⟩,⟨4,[111,97,111,99],false,0⟩],[⟨3,[99,97,99,98],false,0⟩],[]⟩
 |24=>⟨[104,121,112,111,116,101,110,117,115,101],[⟨5,[109,97,98],false,0⟩,⟨3,[99,97,99,98],false,0⟩],[⟨4,[109,97,109,99],false,0⟩],[]⟩
 |25=>⟨[98,105,115,101,99,116,111,114],[⟨5,[109,97,98],false,0⟩,⟨3,[109,99,97,98],false,0⟩],[⟨4,[99,97,99,98],false,0⟩],[]⟩
 |26=>⟨[115,105,100,101],[⟨5,[109,97,98],false,0⟩,⟨2,[109,110,98,99],false,0⟩,⟨1,[97,110,99],false,0⟩],[⟨5,[110,97,99],false,0⟩],[⟨2,[97,98,99],false,0⟩]⟩
 |27=>⟨[112,97,114,97,108,108,101,108,111,103,114,97,109],[⟨2,[97,98,99,100],false,0⟩,⟨2,[97,99,98,100],false,0⟩],[⟨4,[97,98,99,100],false,0⟩,⟨4,[97,99,98,100],false,0⟩],[⟨2,[97,98,99],false,0⟩]⟩
 |28=>⟨[109,105,100,100,108,101],[⟨1,[109,97,98],false,0⟩,⟨4,[109,97,109,98],false,0⟩],[⟨5,[109,97,98],false,0⟩],[⟨1,[97,98],false,0⟩]⟩
 |_=> .zero
theorem F9(k:Int)(s:ByteArray):CallsF Tryz.prog 152 [.c (.int .i64 k),.c (.str s)] (.u (.agg [.d (.int .i64 k),.d (.str s),.d (.bool true),.d (.int .i64 0)])):=by
 refine Ae (T:=tb) Ad mixed Tryz.func152 rfl (by decide) (Ac rfl) rfl ?_;unfold St.init
 simp -implicitDefEqProofs[jJ,-natCast_add,-natCast_mul]
theorem FI(k:Int)(s:ByteArray):CallsF Tryz.prog 153 [.c (.int .i64 k),.c (.str s)] (.u (.agg [.d (.int .i64 k),.d (.str s),.d (.bool false),.d (.int .i64 0)])):=by
 refine Ae (T:=tb) Ad mixed Tryz.func153 rfl (by decide) (Ac rfl) rfl ?_;unfold St.init
 simp -implicitDefEqProofs[jJ,-natCast_add,-natCast_mul]
theorem KN(s:ByteArray):CallsF Tryz.prog 154 [.c (.str s)] (.u (.agg [.d (.int .i64 9),.d (.str s),.d (.bool false),.d (.int .i64 4)])):=by
 refine Ae (T:=tb) Ad mixed Tryz.func154 rfl (by decide) (Ac rfl) rfl ?_;unfold St.init
 simp -implicitDefEqProofs[jJ,-natCast_add,-natCast_mul]
theorem jdw(n:Int):CallsF Tryz.prog 78 [.c (.int .i64 n)] (RRul.res (if 1≤n∧n≤14 then refN n.toNat else .zero)):=by
 refine Ae (T:=tb) Ad mixed Tryz.func78 rfl (by decide) (Ac rfl) rfl ?_;unfold St.init
 simp -implicitDefEqProofs[jJ,-natCast_add,-natCast_mul]
 repeat ((first|refine .inl ⟨_,F9 _ _,?_⟩|refine .inl ⟨_,FI _ _,?_⟩);simp -implicitDefEqProofs[jJ,-natCast_add,-natCast_mul])
 by_cases h1:n=1
 rotate_left
 by_cases h2:n=2
 rotate_left
 by_cases h3:n=3
 rotate_left
 by_cases h4:n=4
 rotate_left
 by_cases h5:n=5
 rotate_left
 by_cases h6:n=6
 rotate_left
 by_cases h7:n=7
 rotate_left
 by_cases h8:n=8
 rotate_left
 by_cases h9:n=9
 rotate_left
 by_cases h10:n=10
 rotate_left
 by_cases h11:n=11
 rotate_left
 by_cases h12:n=12
 rotate_left
 by_cases h13:n=13
 rotate_left
 by_cases h14:n=14
 rotate_left
 have hz: ¬(1≤n∧n≤14):=by omega
 rw[if_neg hz]
 simp -implicitDefEqProofs[jJ,-natCast_add,-natCast_mul,h1,h2,h3,h4,h5,h6,h7,h8,h9,h10,h11,h12,h13,h14]
 try simp[RRul.res,RRul.ds,RRul.zero,Bg,bs]
 try rfl
 all_goals
  subst n;simp -implicitDefEqProofs[jJ,-natCast_add,-natCast_mul]
  repeat ((first|refine .inl ⟨_,F9 _ _,?_⟩|refine .inl ⟨_,FI _ _,?_⟩|refine .inl ⟨_,KN _,?_⟩);simp -implicitDefEqProofs[jJ,-natCast_add,-natCast_mul])
  try simp[RRul.res,RRul.ds,refN,Bg,RPat.ds,bs]
  try rfl
theorem Yr(n:Int):CallsF Tryz.prog 79 [.c (.int .i64 n)] (RRul.res (if 15≤n∧n≤28 then refN n.toNat else .zero)):=by
 refine Ae (T:=tb) Ad mixed Tryz.func79 rfl (by decide) (Ac rfl) rfl ?_;unfold St.init
 simp -implicitDefEqProofs[jJ,-natCast_add,-natCast_mul]
 repeat ((first|refine .inl ⟨_,F9 _ _,?_⟩|refine .inl ⟨_,FI _ _,?_⟩);simp -implicitDefEqProofs[jJ,-natCast_add,-natCast_mul])
 by_cases h15:n=15
 rotate_left
 by_cases h16:n=16
 rotate_left
 by_cases h17:n=17
 ·subst h17;simp -implicitDefEqProofs[jJ,-natCast_add,-natCast_mul];refine Af (Aj [0,1,3,3,11,0,32,127,255]) [.any [] [30,32] [⟨0,[],[],[30,32],[]⟩,⟨0,[],[],[30,32],[]⟩,⟨1,[28,29],[32],[32],[]⟩,⟨0,[],[30],[30,32],[]⟩,⟨1,[31],[30],[30],[]⟩,⟨0,[3],[30,32],[30,32],[]⟩,⟨0,[33],[30,32],[30,32],[]⟩],.one,.one] (by rfl) ?_
  simp -implicitDefEqProofs[jJ,-natCast_add,-natCast_mul]
  repeat ((first|refine .inl ⟨_,F9 _ _,?_⟩|refine .inl ⟨_,FI _ _,?_⟩|refine .inl ⟨_,KN _,?_⟩|refine⟨_,F9 _ _,?_⟩|refine⟨_,FI _ _,?_⟩);simp -implicitDefEqProofs[jJ,-natCast_add,-natCast_mul])
  try simp[RRul.res,RRul.ds,refN,Bg,RPat.ds,bs]
  try rfl
 by_cases h18:n=18
 rotate_left
 by_cases h19:n=19
 ·subst h19;simp -implicitDefEqProofs[jJ,-natCast_add,-natCast_mul];refine Af (Aj [0,1,1,5,0,16,63,127]) [.any [] [47,49] [⟨0,[],[],[47,49],[]⟩,⟨1,[46],[49],[49],[]⟩,⟨0,[],[47],[47,49],[]⟩,⟨1,[48],[47],[47],[]⟩,⟨0,[3],[47,49],[47,49],[]⟩,⟨0,[50],[47,49],[47,49],[]⟩],.one,.one] (by rfl) ?_
  simp -implicitDefEqProofs[jJ,-natCast_add,-natCast_mul]
  repeat ((first|refine .inl ⟨_,F9 _ _,?_⟩|refine .inl ⟨_,FI _ _,?_⟩|refine .inl ⟨_,KN _,?_⟩|refine⟨_,F9 _ _,?_⟩|refine⟨_,FI _ _,?_⟩);simp -implicitDefEqProofs[jJ,-natCast_add,-natCast_mul])
  try simp[RRul.res,RRul.ds,refN,Bg,RPat.ds,bs]
  try rfl
 by_cases h20:n=20
 rotate_left
 by_cases h21:n=21
 rotate_left
 by_cases h22:n=22
 rotate_left
 by_cases h23:n=23
 rotate_left
 by_cases h24:n=24
 rotate_left
 by_cases h25:n=25
 rotate_left
 by_cases h26:n=26
 rotate_left
 by_cases h27:n=27
 rotate_left
 by_cases h28:n=28
 rotate_left
 have hz: ¬(15≤n∧n≤28):=by omega
 rw[if_neg hz]
 simp -implicitDefEqProofs[jJ,-natCast_add,-natCast_mul,h15,h16,h17,h18,h19,h20,h21,h22,h23,h24,h25,h26,h27,h28]
 try simp[RRul.res,RRul.ds,RRul.zero,Bg,bs]
 try rfl
 all_goals
  subst n;simp -implicitDefEqProofs[jJ,-natCast_add,-natCast_mul]
  repeat ((first|refine .inl ⟨_,F9 _ _,?_⟩|refine .inl ⟨_,FI _ _,?_⟩|refine .inl ⟨_,KN _,?_⟩|refine⟨_,F9 _ _,?_⟩|refine⟨_,FI _ _,?_⟩);simp -implicitDefEqProofs[jJ,-natCast_add,-natCast_mul])
  try simp[RRul.res,RRul.ds,refN,Bg,RPat.ds,bs]
  try rfl
theorem WP(n:Nat)(h:28<n):refN n= .zero:=by
 unfold refN;split<;>first|omega|rfl
theorem Qy(n:Int):CallsF Tryz.prog 38 [.c (.int .i64 n)] (refN n.toNat).res:=by
 refine Ae (T:=tb) Ad mixed Tryz.func38 rfl (by decide) (Ac rfl) rfl ?_;unfold St.init
 by_cases h:n≤14
 ·have k:=jdw n;have e:(if 1≤n∧n≤14 then refN n.toNat else RRul.zero)=refN n.toNat:=by
   split
   ·rfl
   ·rw[show n.toNat=0 by omega];rfl
  rw[e]at k
  generalize refN n.toNat=r at*;simp only[RRul.res,RRul.ds,Bg]at*;simp -implicitDefEqProofs[jJ,-natCast_add,-natCast_mul,h];refine Aa k ?_;simp -implicitDefEqProofs[jJ,-natCast_add,-natCast_mul]
 ·have k:=Yr n;have e:(if 15≤n∧n≤28 then refN n.toNat else RRul.zero)=refN n.toNat:=by
   split
   ·rfl
   ·rw[WP n.toNat (by omega)]
  rw[e]at k
  generalize refN n.toNat=r at*;simp only[RRul.res,RRul.ds,Bg]at*;simp -implicitDefEqProofs[jJ,-natCast_add,-natCast_mul,h];refine Aa k ?_;simp -implicitDefEqProofs[jJ,-natCast_add,-natCast_mul]
theorem jeL(n:Int):CallsF Tryz.prog 19 [.c (.int .i64 n)] (.u (.c (.d (.int .i64 (if n<0∨28<n then -1 else ((refN n.toNat).frm.length:Int)))))):=by
 have k1:=Qy n;generalize refN n.toNat=r at*;simp only[RRul.res,RRul.ds,Bg]at k1;refine Ae (T:=tb) Ad mixed Tryz.func19 rfl (by decide) (Ac rfl) rfl ?_;unfold St.init
 by_cases h:n<0
 ·simp -implicitDefEqProofs[jJ,-natCast_add,-natCast_mul,-List.reduceReplicate,h]
 ·by_cases h2:28<n
  ·simp -implicitDefEqProofs[jJ,-natCast_add,-natCast_mul,-List.reduceReplicate,h,h2]
  ·simp -implicitDefEqProofs[jJ,-natCast_add,-natCast_mul,-List.reduceReplicate,h,h2];refine Aa k1 ?_;simp -implicitDefEqProofs[jJ,-natCast_add,-natCast_mul,-List.reduceReplicate]
theorem RX: ∀n:Fin 29,(AJ n).name=(refN n).name∧(n≠0→(AJ n).name≠[]∧(AJ n).count+(AJ n).prem.length=(refN n).frm.length):=by decide+kernel
end Go.Va
