/- a part of the proof -/
import Derived.Test.YtplacedebenpaaaGreatDoorEbq
import Derived.Test.YtplacedebenpaaaGreatDoorEbd
import Derived.Test.YtplacedebenpaaaGreatDoorEbn
import Derived.Test.YtplacedebenpaaaGreatDoorEbj
import Derived.Test.YtplacedebenpaaaGreatDoorEbf
import Derived.Test.YtplacedebenpaaaGreatDoorEau
import Derived.Test.YtplacedebenpaaaGreatDoorEat
import Derived.Deep.Slices
set_option linter.all false
set_option maxRecDepth 1000000
set_option maxHeartbeats 4000000
namespace Go.Va
open Tb2 renaming ok_app → aD
open Go.Proofs Go.Proofs.Tryz
variable{n:Int}
theorem AS{n:Nat}(h:n<10):Lib.decDigits n=[UInt8.ofNat (48+n)]:=by rw[Lib.decDigits,dif_pos h]
theorem JA{l:List UInt8}(h:0<=n/\n<10)(e:[UInt8.ofNat (48+n.toNat)]=l):CallsF prog 40 [.c (.int .i64 n)] (.u (.c (.d (.str ⟨l.toArray⟩)))):=by
 have:=FU n O O;rwa [show Lib.itoa n=l by unfold Lib.itoa;rw[if_neg O,AS O,e]]at this
theorem Fz{s g:ByteArray}{a b:List UInt8}{f:Bool}(h:s.size<4294967281)(e:Lib.cut s.data.toList g.data.toList=(a,b,f)):
  CallsF prog 48 [.c (.str s),.c (.str g)] (.tup [.c (.d (.str ⟨a.toArray⟩)),.c (.d (.str ⟨b.toArray⟩)),.c (.d (.bool f))]):=by
 have:=UT s g h;rwa [e]at this
theorem XC{s b:ByteArray}{k:Nat}{l:List (List UInt8)}(m:s.size<4294967281)(h:1<=b.size)(e:Lib.countB s b=k)(g:(Lib.splitB b 0 k s).map (λx=>x.data.toList)=l)(i:l.length=k+1)(j:k+1<=maxLen):
  CallsF prog 47 [.c (.str s),.c (.str b)] (.u (.c (.d (.slice (k+1) (l.map λx=> .str ⟨x.toArray⟩))))):=by
 subst e;have f:Lib.splitB b 0 (Lib.countB s b) s=l.map λx=>⟨x.toArray⟩:=by
  rw[<-g,List.map_map];generalize Lib.splitB b 0 (Lib.countB s b) s=M
  induction M with
  |nil=>rfl
  |cons a M o=>rw[List.map_cons,<-o];rfl
 have:=Ze s b m h (by rw[f,List.length_map,i]) j;rwa [f,List.map_map]at this
theorem Og{s:ByteArray}(a:s.size<=18)(h:Lib.atoi s.data.toList=some n):CallsF prog 156 [.c (.str s)] (.tup [.c (.d (.int .i64 n)),.c (.d (.lit .nilIface))]):=TD s n a h
theorem Bn{r:ByteArray}(e:bs (if n=0 then [103,105,118,101,110] else (rulT n).name)=r):CallsF prog 78 [.c (.int .i64 n)] (.u (.c (.d (.str r)))):=e ▸ jaj n
theorem BL(l:List ByteArray){a:ByteArray}{r:List UInt8}(h:l.length<=1000000)(e:Lib.join (l.map (·.data.toList)) a.data.toList=r)(b:r.length<=1000000000):
  CallsF prog 80 [.c (.slice l.length (l.map .str)),.c (.str a)] (.u (.c (.d (.str ⟨r.toArray⟩)))):=by
 have:=Xa l a h (by rw[e];exact b);rwa [e]at this
def fB(f:Fct):Bool:=decide (f.abs.length<=2)&&(decide (f.den.length<=2)&&(f.abs.all (λx=>decide (x<65536))&&(f.den.all (λx=>decide (x<65536))&&(decide (f.args.length<=20)&&(decide (f.kind≠9)||CV f.neg f.abs f.den)))))
theorem Bp{f:Fct}(h:fB f=true):f.Mild/\f.Short2/\f.Val:=by
 unfold fB at h;simp only[AR,Bool.or_eq_true,decide_eq_true_eq,jzy]at h;obtain⟨a,b,g,i,k,j⟩:=h;exact⟨⟨O,O,g,i,O⟩,⟨a,b⟩,λe=>j.resolve_left λq=>q e⟩
theorem AM(f:Fct)(h:fB f=true){r:R}(e:(normF f).res=r):CallsF prog 33 [.agg f.ds] r:=e ▸ jf7 f (Bp h).1
def qB(m d n e:Nat):Bool:=decide (m<65536)&&(decide (d<65536)&&(decide (n<65536)&&(decide (e<65536)&&(decide (d≠0)&&(decide (e≠0)&&(decide (Nat.gcd m d=1)&&decide (Nat.gcd n e=1)))))))
theorem DQ(p q:Bool)(m d n e:Nat)(h:qB m d n e=true){r:Int}(k:Nk (LG p m*e) (LG q n*d)=r):CallsF prog 124 [.agg [.bool p,Ad (limbs m),Ad (limbs d)],.agg [.bool q,Ad (limbs n),Ad (limbs e)]] (.u (.c (.d (.int .i64 r)))):=by
 simp only[qB,AR,decide_eq_true_eq]at h;obtain⟨i,j,l,o,a,b,f,g⟩:=h;exact k ▸ jm7 p q m d n e O O a f O O b g
theorem E0(p q:Bool)(m d n e:Nat)(h:qB m d n e=true){r:Bool}(k:decide (LG p m*e=LG q n*d)=r):CallsF prog 75 [.agg [.bool p,Ad (limbs m),Ad (limbs d)],.agg [.bool q,Ad (limbs n),Ad (limbs e)]] (.u (.c (.d (.bool r)))):=by
 simp only[qB,AR,decide_eq_true_eq]at h;obtain⟨i,j,l,o,a,b,f,g⟩:=h;exact k ▸ jwP p q m d n e O O a f O O b g
theorem AN(f:Fct)(h:fB f=true){b:Bool}(e:RQ f=b):CallsF prog 35 [.agg f.ds] (.u (.c (.d (.bool b)))):=e ▸ jyR f (Bp h).1
theorem C5(f:Fct)(h:fB f=true){b:Bool}(e:Eb f=b):CallsF prog 68 [.agg f.ds] (.u (.c (.d (.bool b)))):=e ▸ XP f (Bp h).1
theorem Fv(ds:List Der)(f:Fct)(h:(ds.all λx=>fB x.fact&&decide (x.frm.length<=20))=true)(b:ds.length<=1000)(k:fB f=true){r:R}(e:jbt ds f=r):CallsF prog 7 [.agg [Dh ds,Dd []],.agg f.ds] r:=
 have q: ∀x∈ds,fB x.fact=true/\x.frm.length<=20:=λx a=>by simpa using jzy.1 h x a
 e ▸ jBD ds [] f b (λx a=>by have:=(q x a).2;omega) (λx a=>⟨(Bp (q x a).1).1,(Bp (q x a).1).2.1⟩) (Bp k).1
def jdU:Tbl:=[(7,[([.agg [.slice 12 [eI 5,At,eO,eN,eN,eI 0,eN,eI 5,Ag,eO,eN,eN,eI 0,eN,eI 1,Bh,eO,eN,eN,eI 5,An,eI 1,Ab,eO,eN,eN,eI 5,Aj,eI 2,Af,eO,eN,eN,eI 6,AF,eI 4,K5,eO,eN,eN,eI 5,An,eI 4,Fe,eO,eN,eN,eI 5,Aj,eI 9,Af,eO,Aa,J6,eI 6,AF,eI 9,Gq,eO,Aa,J6,eI 5,An,eI 9,Ai,eO,Aa,J6,eI 5,An,eI 9,Ay,eO,Aa,J6,eI 5,Aj,eI 9,AC,eO,Aa,J6,eI 5,Aj],eN],.agg [eI 2,Av,eO,eN,eN]],.tup [.agg [.d (.slice 3 [eI 5,At,eO,eN,eN,eI 0,eN,eI 5,Ag,eO,eN,eN,eI 0,eN,eI 2,Af,eO,eN,eN,eI 6,AF]),.d eN],.c (.d (eI 0))])]),
 (33,[([.agg [eI 1,At,eO,eN,eN]],.u (.agg [.d (eI 1),.d Ab,.d eO,.d eN,.d eN])),([.agg [eI 1,As,eO,eN,eN]],.u (.agg [.d (eI 1),.d Ab,.d eO,.d eN,.d eN])),([.agg [eI 1,Ag,eO,eN,eN]],.u (.agg [.d (eI 1),.d Bh,.d eO,.d eN,.d eN])),([.agg [eI 1,F5,eO,eN,eN]],.u (.agg [.d (eI 1),.d Bh,.d eO,.d eN,.d eN])),([.agg [eI 2,Av,eO,eN,eN]],.u (.agg [.d (eI 2),.d Af,.d eO,.d eN,.d eN])),([.agg [eI 2,.slice 4 [eI 3,eI 4,eI 1,eI 0],eO,eN,eN]],.u (.agg [.d (eI 2),.d Af,.d eO,.d eN,.d eN])),([.agg [eI 2,.slice 4 [eI 4,eI 3,eI 0,eI 1],eO,eN,eN]],.u (.agg [.d (eI 2),.d Af,.d eO,.d eN,.d eN])),([.agg [eI 4,.slice 4 [eI 3,eI 1,eI 3,eI 2],eO,eN,eN]],.u (.agg [.d (eI 4),.d Fe,.d eO,.d eN,.d eN])),([.agg [eI 4,.slice 4 [eI 3,eI 2,eI 3,eI 1],eO,eN,eN]],.u (.agg [.d (eI 4),.d Fe,.d eO,.d eN,.d eN])),([.agg [eI 4,.slice 4 [eI 4,eI 0,eI 4,eI 2],eO,eN,eN]],.u (.agg [.d (eI 4),.d K5,.d eO,.d eN,.d eN])),([.agg [eI 4,.slice 4 [eI 4,eI 2,eI 4,eI 0],eO,eN,eN]],.u (.agg [.d (eI 4),.d K5,.d eO,.d eN,.d eN])),([.agg [eI 5,At,eO,eN,eN]],.u (.agg [.d (eI 5),.d At,.d eO,.d eN,.d eN])),([.agg [eI 5,Ag,eO,eN,eN]],.u (.agg [.d (eI 5),.d Ag,.d eO,.d eN,.d eN])),([.agg [eI 9,.slice 4 [eI 0,eI 1,eI 4,eI 3],eO,Aa,J6]],.u (.agg [.d (eI 9),.d Af,.d eO,.d Aa,.d J6])),([.agg [eI 9,.slice 4 [eI 0,eI 2,eI 4,eI 0],eO,Aa,J6]],.u (.agg [.d (eI 9),.d Gq,.d eO,.d Aa,.d J6])),([.agg [eI 9,.slice 4 [eI 1,eI 0,eI 3,eI 4],eO,Aa,J6]],.u (.agg [.d (eI 9),.d Af,.d eO,.d Aa,.d J6])),([.agg [eI 9,.slice 4 [eI 1,eI 2,eI 3,eI 1],eO,Aa,J6]],.u (.agg [.d (eI 9),.d Ay,.d eO,.d Aa,.d J6])),([.agg [eI 9,.slice 4 [eI 2,eI 0,eI 4,eI 2],eO,Aa,J6]],.u (.agg [.d (eI 9),.d Ai,.d eO,.d Aa,.d J6])),([.agg [eI 9,.slice 4 [eI 2,eI 1,eI 3,eI 2],eO,Aa,J6]],.u (.agg [.d (eI 9),.d AC,.d eO,.d Aa,.d J6]))]),
 (35,[([.agg [eI 1,Bh,eO,eN,eN]],.u (.c (.d eO))),([.agg [eI 1,Ab,eO,eN,eN]],.u (.c (.d eO))),([.agg [eI 2,Af,eO,eN,eN]],.u (.c (.d eO))),([.agg [eI 4,K5,eO,eN,eN]],.u (.c (.d eO))),([.agg [eI 4,Fe,eO,eN,eN]],.u (.c (.d eO))),([.agg [eI 5,At,eO,eN,eN]],.u (.c (.d eO))),([.agg [eI 5,Ag,eO,eN,eN]],.u (.c (.d eO))),([.agg [eI 9,Af,eO,Aa,J6]],.u (.c (.d eO))),([.agg [eI 9,Gq,eO,Aa,J6]],.u (.c (.d eO))),([.agg [eI 9,Ai,eO,Aa,J6]],.u (.c (.d eO))),([.agg [eI 9,Ay,eO,Aa,J6]],.u (.c (.d eO))),([.agg [eI 9,AC,eO,Aa,J6]],.u (.c (.d eO)))]),
 (40,[([.c (eI 0)],.u (.c (.d (.str ⟨#[48]⟩)))),([.c (eI 1)],.u (.c (.d (.str ⟨#[49]⟩)))),([.c (eI 2)],.u (.c (.d (.str ⟨#[50]⟩))))]),
 (47,[([.c (.str ⟨#[48,44,32,49]⟩),.c (.str ⟨#[44,32]⟩)],.u (.c (.d Fy)))]),
 (48,[([.c (.str ⟨#[109,105,100,108,105,110,101,32,102,114,111,109,32,48,44,32,49]⟩),.c (.str ⟨#[32,102,114,111,109,32]⟩)],.tup [.c (.d (.str ⟨#[109,105,100,108,105,110,101]⟩)),.c (.d (.str ⟨#[48,44,32,49]⟩)),.c (.d (.bool true))]),([.c (.str ⟨#[112,97,114,97,108,108,101,108,40,65,44,32,66,44,32,77,44,32,78,41,32,98,121,32,109,105,100,108,105,110,101,32,102,114,111,109,32,48,44,32,49]⟩),.c (.str ⟨#[32,98,121,32]⟩)],.tup [.c (.d (.str ⟨#[112,97,114,97,108,108,101,108,40,65,44,32,66,44,32,77,44,32,78,41]⟩)),.c (.d (.str ⟨#[109,105,100,108,105,110,101,32,102,114,111,109,32,48,44,32,49]⟩)),.c (.d (.bool true))]),([.c (.str ⟨#[48,46,32,109,105,100,112,111,105,110,116,40,77,44,32,66,44,32,67,41,32,103,105,118,101,110,10,49,46,32,109,105,100,112,111,105,110,116,40,78,44,32,65,44,32,67,41,32,103,105,118,101,110,10,50,46,32,112,97,114,97,108,108,101,108,40,65,44,32,66,44,32,77,44,32,78,41,32,98,121,32,109,105,100,108,105,110,101,32,102,114,111,109,32,48,44,32,49,10]⟩),.c (.str ⟨#[10]⟩)],.tup [.c (.d (.str ⟨#[48,46,32,109,105,100,112,111,105,110,116,40,77,44,32,66,44,32,67,41,32,103,105,118,101,110]⟩)),.c (.d (.str ⟨#[49,46,32,109,105,100,112,111,105,110,116,40,78,44,32,65,44,32,67,41,32,103,105,118,101,110,10,50,46,32,112,97,114,97,108,108,101,108,40,65,44,32,66,44,32,77,44,32,78,41,32,98,121,32,109,105,100,108,105,110,101,32,102,114,111,109,32,48,44,32,49,10]⟩)),.c (.d (.bool true))]),([.c (.str ⟨#[49,46,32,109,105,100,112,111,105,110,116,40,78,44,32,65,44,32,67,41,32,103,105,118,101,110,10,50,46,32,112,97,114,97,108,108,101,108,40,65,44,32,66,44,32,77,44,32,78,41,32,98,121,32,109,105,100,108,105,110,101,32,102,114,111,109,32,48,44,32,49,10]⟩),.c (.str ⟨#[10]⟩)],.tup [.c (.d (.str ⟨#[49,46,32,109,105,100,112,111,105,110,116,40,78,44,32,65,44,32,67,41,32,103,105,118,101,110]⟩)),.c (.d (.str ⟨#[50,46,32,112,97,114,97,108,108,101,108,40,65,44,32,66,44,32,77,44,32,78,41,32,98,121,32,109,105,100,108,105,110,101,32,102,114,111,109,32,48,44,32,49,10]⟩)),.c (.d (.bool true))]),([.c (.str ⟨#[50,46,32,112,97,114,97,108,108,101,108,40,65,44,32,66,44,32,77,44,32,78,41,32,98,121,32,109,105,100,108,105,110,101,32,102,114,111,109,32,48,44,32,49,10]⟩),.c (.str ⟨#[10]⟩)],.tup [.c (.d (.str ⟨#[50,46,32,112,97,114,97,108,108,101,108,40,65,44,32,66,44,32,77,44,32,78,41,32,98,121,32,109,105,100,108,105,110,101,32,102,114,111,109,32,48,44,32,49]⟩)),.c (.d (.str ⟨#[]⟩)),.c (.d (.bool true))])]),
 (68,[([.agg [eI 5,At,eO,eN,eN]],.u (.c (.d (.bool true)))),([.agg [eI 5,Ag,eO,eN,eN]],.u (.c (.d (.bool true))))]),
 (75,[([.agg [eO,J6,KK],.agg [eO,J6,KK]],.u (.c (.d (.bool true))))]),
 (78,[([.c (eI 0)],.u (.c (.d (.str ⟨#[103,105,118,101,110]⟩)))),([.c (eI 1)],.u (.c (.d (.str ⟨#[112,97,114,97,108,108,101,108]⟩)))),([.c (eI 2)],.u (.c (.d (.str ⟨#[112,101,114,112,101,110,100,105,99,117,108,97,114]⟩)))),([.c (eI 3)],.u (.c (.d (.str ⟨#[110,111,114,109,97,108,115]⟩)))),([.c (eI 4)],.u (.c (.d (.str ⟨#[108,101,110,103,116,104,115]⟩)))),([.c (eI 5)],.u (.c (.d (.str ⟨#[109,105,100,112,111,105,110,116]⟩)))),([.c (eI 6)],.u (.c (.d (.str ⟨#[109,105,100,108,105,110,101]⟩))))]),
 (80,[([.c Fy,.c (.str ⟨#[44,32]⟩)],.u (.c (.d (.str ⟨#[48,44,32,49]⟩)))),([.c (.slice 3 [.str ⟨#[77]⟩,.str ⟨#[66]⟩,.str ⟨#[67]⟩]),.c (.str ⟨#[44,32]⟩)],.u (.c (.d (.str ⟨#[77,44,32,66,44,32,67]⟩)))),([.c (.slice 3 [.str ⟨#[78]⟩,.str ⟨#[65]⟩,.str ⟨#[67]⟩]),.c (.str ⟨#[44,32]⟩)],.u (.c (.d (.str ⟨#[78,44,32,65,44,32,67]⟩)))),([.c (.slice 4 [.str ⟨#[65]⟩,.str ⟨#[66]⟩,.str ⟨#[77]⟩,.str ⟨#[78]⟩]),.c (.str ⟨#[44,32]⟩)],.u (.c (.d (.str ⟨#[65,44,32,66,44,32,77,44,32,78]⟩))))]),
 (124,[([.agg [eO,Aa,J6],.agg [eO,Aa,J6]],.u (.c (.d (eI 0))))]),
 (156,[([.c (.str ⟨#[48]⟩)],.tup [.c (.d (eI 0)),.c (.d (.lit .nilIface))]),([.c (.str ⟨#[49]⟩)],.tup [.c (.d (eI 1)),.c (.d (.lit .nilIface))])])]
def ev0:Tb2:=⟨jdU,[],[]⟩
theorem Lg:ev0.Ok prog:=⟨(Tbl.ok_cons ⟨Fv [⟨⟨5,[3,1,2],false,[],[]⟩,0,[]⟩,⟨⟨5,[4,0,2],false,[],[]⟩,0,[]⟩,⟨⟨1,[0,2,4],false,[],[]⟩,5,[1]⟩,⟨⟨1,[1,2,3],false,[],[]⟩,5,[0]⟩,⟨⟨2,[0,1,3,4],false,[],[]⟩,6,[0,1]⟩,⟨⟨4,[0,4,2,4],false,[],[]⟩,5,[1]⟩,⟨⟨4,[1,3,2,3],false,[],[]⟩,5,[0]⟩,⟨⟨9,[0,1,3,4],false,[4],[1]⟩,6,[0,1]⟩,⟨⟨9,[0,2,0,4],false,[4],[1]⟩,5,[1]⟩,⟨⟨9,[0,2,2,4],false,[4],[1]⟩,5,[1]⟩,⟨⟨9,[1,2,1,3],false,[4],[1]⟩,5,[0]⟩,⟨⟨9,[1,2,2,3],false,[4],[1]⟩,5,[0]⟩] ⟨2,[3,4,0,1],false,[],[]⟩ O6 O2 O6 O4,trivial⟩ (Tbl.ok_cons ⟨AM ⟨1,[3,1,2],false,[],[]⟩ O6 O4,AM ⟨1,[3,2,1],false,[],[]⟩ O6 O4,AM ⟨1,[4,0,2],false,[],[]⟩ O6 O4,AM ⟨1,[4,2,0],false,[],[]⟩ O6 O4,AM ⟨2,[3,4,0,1],false,[],[]⟩ O6 O4,AM ⟨2,[3,4,1,0],false,[],[]⟩ O6 O4,AM ⟨2,[4,3,0,1],false,[],[]⟩ O6 O4,AM ⟨4,[3,1,3,2],false,[],[]⟩ O6 O4,AM ⟨4,[3,2,3,1],false,[],[]⟩ O6 O4,AM ⟨4,[4,0,4,2],false,[],[]⟩ O6 O4,AM ⟨4,[4,2,4,0],false,[],[]⟩ O6 O4,AM ⟨5,[3,1,2],false,[],[]⟩ O6 O4,AM ⟨5,[4,0,2],false,[],[]⟩ O6 O4,AM ⟨9,[0,1,4,3],false,[4],[1]⟩ O6 O4,AM ⟨9,[0,2,4,0],false,[4],[1]⟩ O6 O4,AM ⟨9,[1,0,3,4],false,[4],[1]⟩ O6 O4,AM ⟨9,[1,2,3,1],false,[4],[1]⟩ O6 O4,AM ⟨9,[2,0,4,2],false,[4],[1]⟩ O6 O4,AM ⟨9,[2,1,3,2],false,[4],[1]⟩ O6 O4,trivial⟩ (Tbl.ok_cons ⟨AN ⟨1,[0,2,4],false,[],[]⟩ O6 O4,AN ⟨1,[1,2,3],false,[],[]⟩ O6 O4,AN ⟨2,[0,1,3,4],false,[],[]⟩ O6 O4,AN ⟨4,[0,4,2,4],false,[],[]⟩ O6 O4,AN ⟨4,[1,3,2,3],false,[],[]⟩ O6 O4,AN ⟨5,[3,1,2],false,[],[]⟩ O6 O4,AN ⟨5,[4,0,2],false,[],[]⟩ O6 O4,AN ⟨9,[0,1,3,4],false,[4],[1]⟩ O6 O4,AN ⟨9,[0,2,0,4],false,[4],[1]⟩ O6 O4,AN ⟨9,[0,2,2,4],false,[4],[1]⟩ O6 O4,AN ⟨9,[1,2,1,3],false,[4],[1]⟩ O6 O4,AN ⟨9,[1,2,2,3],false,[4],[1]⟩ O6 O4,trivial⟩ (Tbl.ok_cons ⟨JA O2 O2,JA O2 O2,JA O2 O2,trivial⟩ (Tbl.ok_cons ⟨XC (k:=1) (l:=[[48],[49]]) O2 O2 O6 O6 O2 O2,trivial⟩ (Tbl.ok_cons ⟨Fz O2 O6,Fz O2 O6,Fz O2 O6,Fz O2 O6,Fz O2 O6,trivial⟩ (Tbl.ok_cons ⟨C5 ⟨5,[3,1,2],false,[],[]⟩ O6 O4,C5 ⟨5,[4,0,2],false,[],[]⟩ O6 O4,trivial⟩ (Tbl.ok_cons ⟨E0 false false 1 2 1 2 O6 O4,trivial⟩ (Tbl.ok_cons ⟨Bn O4,Bn O4,Bn O4,Bn O4,Bn O4,Bn O4,Bn O4,trivial⟩ (Tbl.ok_cons ⟨BL [⟨#[48]⟩,⟨#[49]⟩] O2 O6 O2,BL [⟨#[77]⟩,⟨#[66]⟩,⟨#[67]⟩] O2 O6 O2,BL [⟨#[78]⟩,⟨#[65]⟩,⟨#[67]⟩] O2 O6 O2,BL [⟨#[65]⟩,⟨#[66]⟩,⟨#[77]⟩,⟨#[78]⟩] O2 O6 O2,trivial⟩ (Tbl.ok_cons ⟨DQ false false 4 1 4 1 O6 O4,trivial⟩ (Tbl.ok_cons ⟨Og O2 O6,Og O2 O6,trivial⟩ Tbl.ok_nil)))))))))))),TblA.ok_nil,TblH.ok_nil⟩
def ev1_t:Tb2:=⟨[(122,[([.c Aj,.c Aj],.u (.c (.d (eI 0)))),([.c An,.c An],.u (.c (.d (eI 0))))]),(123,[([.c (eI 1),.c (eI 0)],.u (.c (.d (eI 1))))]),(142,[([.c (eI 1),.c Au],.u (.c (.d eN))),([.c (eI 10),.c Au],.u (.c (.d eN))),([.c (eI 11),.c Au],.u (.c (.d eN))),([.c (eI 12),.c Au],.u (.c (.d eN))),([.c (eI 13),.c Au],.u (.c (.d eN))),([.c (eI 14),.c Au],.u (.c (.d eN))),([.c (eI 15),.c Au],.u (.c (.d eN)))])],[],[]⟩
theorem je4:ev1_t.Ok prog:=Bb Lg O6
def ev2_t:Tb2:=⟨[(142,[([.c (eI 16),.c Au],.u (.c (.d eN))),([.c (eI 17),.c Au],.u (.c (.d eN))),([.c (eI 18),.c Au],.u (.c (.d eN))),([.c (eI 19),.c Au],.u (.c (.d eN))),([.c (eI 2),.c Au],.u (.c (.d eN))),([.c (eI 20),.c Au],.u (.c (.d eN))),([.c (eI 22),.c Au],.u (.c (.d eN)))])],[],[]⟩
theorem je7:ev2_t.Ok prog:=Bb Lg O6
def ev3_t:Tb2:=⟨[(38,[([.agg [eI 2,Af,eO,eN,eN,eI 6,AF],.c AB],.tup [.c (.d (.str ⟨#[112,97,114,97,108,108,101,108,40,65,44,32,66,44,32,77,44,32,78,41,32,98,121,32,109,105,100,108,105,110,101,32,102,114,111,109,32,48,44,32,49]⟩)),.c (.d (eI 0))]),([.agg [eI 5,At,eO,eN,eN,eI 0,eN],.c AB],.tup [.c (.d (.str ⟨#[109,105,100,112,111,105,110,116,40,77,44,32,66,44,32,67,41,32,103,105,118,101,110]⟩)),.c (.d (eI 0))]),([.agg [eI 5,Ag,eO,eN,eN,eI 0,eN],.c AB],.tup [.c (.d (.str ⟨#[109,105,100,112,111,105,110,116,40,78,44,32,65,44,32,67,41,32,103,105,118,101,110]⟩)),.c (.d (eI 0))])]),(62,[([.agg [eI 1,Bh,eO,eN,eN],.agg [eI 1,Bh,eO,eN,eN]],.u (.c (.d (eI 0)))),([.agg [eI 1,Ab,eO,eN,eN],.agg [eI 1,Ab,eO,eN,eN]],.u (.c (.d (eI 0))))]),(142,[([.c (eI 27),.c Au],.u (.c (.d eN))),([.c (eI 28),.c Au],.u (.c (.d eN))),([.c (eI 3),.c Au],.u (.c (.d eN))),([.c (eI 4),.c Au],.u (.c (.own 7 0 []))),([.c (eI 9),.c Au],.u (.c (.own 7 0 [])))]),(301,[([.agg [eI 5,At,eO,eN,eN]],.u (.c (.own 5 2 [eI 5,At,eO,eN,eN,eI 5,As,eO,eN,eN]))),([.agg [eI 5,Ag,eO,eN,eN]],.u (.c (.own 5 2 [eI 5,Ag,eO,eN,eN,eI 5,F5,eO,eN,eN])))]),(306,[([.c J6],.u (.c (.d (.int .u64 1))))])],[],[]⟩
theorem jdn:ev3_t.Ok prog:=Bb Lg O6
def ev4_t:Tb2:=⟨[(62,[([.agg [eI 4,K5,eO,eN,eN],.agg [eI 4,K5,eO,eN,eN]],.u (.c (.d (eI 0)))),([.agg [eI 4,Fe,eO,eN,eN],.agg [eI 4,Fe,eO,eN,eN]],.u (.c (.d (eI 0))))])],[],[]⟩
theorem jhk:ev4_t.Ok prog:=Bb Lg O6
def ev5_t:Tb2:=⟨[(87,[([.c (.str ⟨#[109,105,100,112,111,105,110,116,40,77,44,32,66,44,32,67,41]⟩),.c AB],.tup [.agg [.d (eI 5),.d At,.d eO,.d eN,.d eN],.c (.d (.bool true))])])],[],[]⟩
theorem jbl:ev5_t.Ok prog:=Bb Lg O6
def ev6_t:Tb2:=⟨[(87,[([.c (.str ⟨#[109,105,100,112,111,105,110,116,40,78,44,32,65,44,32,67,41]⟩),.c AB],.tup [.agg [.d (eI 5),.d Ag,.d eO,.d eN,.d eN],.c (.d (.bool true))])])],[],[]⟩
theorem jiS:ev6_t.Ok prog:=Bb Lg O6
def ev7_t:Tb2:=⟨[],[],[(239,[(⟨[.c (.ptr 20 0),.c (.d (.str ⟨#[112,97,114,97,108,108,101,108,40,65,44,32,66,44,32,77,44,32,78,41]⟩))],[(20,.box [.nl,.nl,.d AB,eC 0,eC 0,eC 0])],[.ptr 20 0]⟩,⟨[.ptr 20 0],[(100114,.row 1 [eI 0,eI 8,eI 9,eI 10,eI 12,eI 13,eI 15,eI 16,eI 18,eI 19] true),(100107,.row 1 [.str ⟨#[112,97,114,97,108,108,101,108]⟩,.str ⟨#[40]⟩,.str ⟨#[65]⟩,.str ⟨#[44]⟩,.str ⟨#[66]⟩,.str ⟨#[44]⟩,.str ⟨#[77]⟩,.str ⟨#[44]⟩,.str ⟨#[78]⟩,.str ⟨#[41]⟩] true),(20,.box [.sl 100107 0 10,.sl 100114 0 10,.d AB,eC 20,eC 0,eC 0])],.tup []⟩)])]⟩
theorem jdD:ev7_t.Ok prog:=Bb Lg O6
def evL0:Tb2:=(ev1_t.app (ev2_t.app (ev3_t.app (ev4_t.app (ev5_t.app (ev6_t.app (ev7_t.app ev0)))))))
theorem ES:evL0.Ok prog:=(aD je4 (aD je7 (aD jdn (aD jhk (aD jbl (aD jiS (aD jdD Lg)))))))
def ev8_t:Tb2:=⟨[(154,[([.c (.str ⟨#[112,97,114,97,108,108,101,108,40,65,44,32,66,44,32,77,44,32,78,41]⟩),.c AB],.tup [.agg [.d (eI 2),.d Af,.d eO,.d eN,.d eN],.c (.d (eI 0)),.c (.d (eI 0))])]),(199,[([.agg [eI 5,At,eO,eN,eN],.c (eI 5)],.u (.c (.own 1 2 [At,As]))),([.agg [eI 5,Ag,eO,eN,eN],.c (eI 5)],.u (.c (.own 1 2 [Ag,F5])))])],[],[]⟩
theorem jj4:ev8_t.Ok prog:=Bb ES O6
def ev9_t:Tb2:=⟨[(209,[([.c J6,.c KK],.u (.c (.d J6)))]),(210,[([.c J6,.c J6],.tup [.c (.d J6),.c (.d eN),.c (.d (eI 0))]),([.c Aa,.c J6],.tup [.c (.d Aa),.c (.d eN),.c (.d (eI 0))])])],[],[]⟩
theorem jbR:ev9_t.Ok prog:=Bb ES O6
def evL1:Tb2:=(ev8_t.app (ev9_t.app evL0))
theorem H7:evL1.Ok prog:=(aD jj4 (aD jbR ES))
end Go.Va
namespace Go.Va
open Go.Proofs Go.RowKit
def Ch:Nat->(List Value->Prop)->Prop
 |0,p=>p []
 |n+1,p=> ∃x,Ch n λl=>p (x::l)
theorem Dq: ∀(n:Nat) {p:List Value->Prop} {l:List Value},l.length=n->p l->Ch n p
 |0,_,[],_,h=>h
 |n+1,_,x::_,e,h=>⟨x,Dq n (by simpa using e) h⟩
variable{w w':World}{l:List UInt8}{Z:Addr->Prop}
theorem Dv{tm:Array Value}(n:Nat)(h:tm.size=n):Ch n λl=>tm=l.toArray:=Dq n (l:=tm.toList) (by simpa using h) O1
structure MidT2 (bx:Array Value) (w:World) (l:List UInt8) (w':World):Prop where
 b:Bld w.heap.size (w.heap.size+1) l w'
 below:Below w.heap.size w w'
 box:w'.heap[w.heap.size]? =some (.cells bx 25 (0,0))
theorem MidT2.cell{a:Array Value}(h:MidT2 a w l w'){k:Nat}{v:Value}(b:a[k]? =some v):w'.cell? ⟨w.heap.size,k,none⟩=some v:=by
 rw[Lib.cell_of_heap h.box];exact b
theorem MidT2.old{b:Array Value}(h:MidT2 b w l w'){p:Addr}{v:Value}(a:w.cell? p=some v):w'.cell? p=some v:=
 (h.below.cell (World.block_lt_of_cell? _ _ a)).trans a
theorem MidT2.next{f:Array Value}{i j:World}{g:List UInt8}(h:MidT2 f w l i)(a:Ig w.heap.size (w.heap.size+1) g i j):MidT2 f w g j where
 b:=a.1
 below:=h.below.trans a.2.1
 box:=a.2.2.1 _ _ h.box O1 (λc k e=>by simp at e)
theorem Lh{k:Nat}{x:Obj}(h:w.heap[k]? =some x):k<w.heap.size:=(Array.getElem?_eq_some_iff.1 h).1
theorem Bld.ext{B b:Nat}(h:Bld B b l w)(k:Below w.heap.size w w'):Bld B b l w':=by
 have a: ∀p,Lib.BuilderAtF 91 5 B b p (Lib.byteCells l) w->Lib.BuilderAtF 91 5 B b p (Lib.byteCells l) w':=by
  rintro p ⟨x,v,m,⟨y,f⟩,i⟩;refine⟨x,v,(k.block _ (Lh m)).trans m,⟨y,?_⟩,i⟩;rcases f with f|⟨g,cap,e,o,q,r,j,t⟩
  ·exact .inl f
  ·exact .inr ⟨g,cap,e,o,q,r,(k.block _ (Lh j)).trans j,t⟩
 exact h.imp (a _) (a _)
theorem MidT2.ext{f:Array Value}{e g:World}(h:MidT2 f w l e)(a:Below e.heap.size e g):MidT2 f w l g where
 b:=h.b.ext a
 below:=h.below.trans (a.mono h.below.size)
 box:=(a.block _ (Lh h.box)).trans h.box
theorem ZO(w:World)(x:Obj):(w.alloc x).heap.size=w.heap.size+1:=by
 show(w.heap.push x).size=_;simp
theorem MidT2.new(w:World)(a:Array Value):MidT2 a w [] ((w.alloc (.cells a 25)).alloc (.cells #[.pointer none,.slice none 0 0] 91)) where
 b:= .inl ⟨O,.slice none 0 0,by
  show((w.heap.push _).push _)[w.heap.size+1]? =some _;have h:w.heap.size+1=(w.heap.push (Obj.cells a 25)).size:=O1;rw[h,Array.getElem?_push_size],⟨rfl,.inl ⟨rfl,rfl⟩⟩,by simp[Value.ownBlock]⟩
 below:=((Below.refl _ w).alloc (AO _) _).alloc (by rw[ZO];omega) _
 box:=by
  show((w.heap.push _).push _)[w.heap.size]? =some _;rw[Array.getElem?_push_lt O1];simp
theorem DA{n:Nat}{cs:List D}{v:Value}(h:RepD w Z (.slice n cs) v): ∃p c,v= .slice p n c/\ ∀(j:Nat) (x:D),cs[j]? =some x-> ∃g o u,p=some ⟨g,o,none⟩/\w.cell? ⟨g,o+j,none⟩=some u/\RepD w Z x u:=by
 cases h with
 |snil=>exact⟨none,0,rfl,λj x b=>by cases b⟩
 |slice n cs a c m l t r i q k=>
  refine⟨some a,c,rfl,λj x b=> ?_⟩;have f:=l (λe=>by rw[e]at b;cases b);obtain⟨g,o,y⟩:=a;simp only at f;subst f;exact⟨g,o,m j,rfl,i j x b,k j x b⟩
theorem OP{E:Type}{n:Nat}{e:E->List D}(z: ∀x,(e x).length=n){l:List E}{p:Option Addr}{i:Nat}(h:i<l.length)(M:0<n)
  (J: ∀(j:Nat) (x:D),(l.flatMap e)[j]? =some x-> ∃g o u,p=some ⟨g,o,none⟩/\w.cell? ⟨g,o+j,none⟩=some u/\RepD w Z x u):
  ∃(g o:Nat) (H:List Value),p=some ⟨g,o,none⟩/\H.length=n/\(∀k u,H[k]? =some u->w.cell? ⟨g,o+i*n+k,none⟩=some u)/\RepL (RepD w Z) (e l[i]) H:=by
 have t: ∀k,k<n->(l.flatMap e)[i*n+k]? =(e l[i])[k]? :=λk G=>by
  have:=congrArg (λr:List D=>r[k]?) (Ic z l i h);simpa [List.getElem?_take,List.getElem?_drop,G]using this
 obtain⟨g,o,T,K,_,_⟩:=J (i*n+0) ((e l[i])[0]'(by rw[z];omega)) (by rw[t 0 M,AD]);have v: ∀k,k<n-> ∃u,w.cell? ⟨g,o+(i*n+k),none⟩=some u/\ ∀x,(e l[i])[k]? =some x->RepD w Z x u:=λk G=>by
  have F:(e l[i])[k]? =some ((e l[i])[k]'(by rw[z];omega)):=AD _;obtain⟨Q,S,u,y,m,N⟩:=J (i*n+k) _ ((t k G).trans F);rw[K]at y;cases y;exact⟨u,m,λx I=>by rw[F]at I;cases I;exact N⟩
 obtain⟨q,L⟩:=Go.Deep.choose_lt v;refine⟨g,o,(List.range n).map q,K,O1,λk u m=> ?_,by simp[z],λk x u F m=> ?_⟩
 ·simp only[Bf,jze]at m;obtain⟨P,f,rfl⟩:=m;have:=jzg.1 f;obtain⟨b,a⟩:=this;simp at b a;subst a;rw[Nat.add_assoc];exact(L k b).1
 ·simp only[Bf,jze]at m;obtain⟨P,f,rfl⟩:=m;have:=jzg.1 f;obtain⟨b,a⟩:=this;simp at b a;subst a;exact(L k b).2 x F
theorem ZOk.below(h:ZOk w Z Z)(b:Below w.heap.size w w'):ZOk w' Z Z where
 lt:=λe f=>Nat.lt_of_lt_of_le (h e f) b.size
 gl:=λk a=>⟨Nat.lt_of_lt_of_le (h.gl k a).1 b.size,(h.gl k a).2⟩
 gw:=h.gw.keep λk a=>b.block k (h.gl k a).1
theorem NL{P:Program}{f:FuncId}{g:List A}{s:ByteArray}{e:Int}(h:CallsF P f g (.tup [.c (.d (.str s)),.c (.d (.int .i64 e))]))(w:World)(Z:Addr->Prop)(vals:List Value)(i:ZOk w Z Z)(k:RepL (A.rep w Z) g vals):
  Calls P f vals.toArray w λb w'=>b= .returned (.tuple #[.string s,.int .i64 e])/\Below w.heap.size w w':=by
 refine(h.2 w Z vals i k).mono ?_;rintro b w' ⟨v,rfl,l,_,o,_,a⟩;obtain⟨t,rfl,j,a⟩:=(a 0).1
 match t,j with
 |[q,r],_=>
  have m:RepD w' _ (.str s) q:=a 0 _ _ rfl rfl;have p:RepD w' _ (.int .i64 e) r:=a 1 _ _ rfl rfl;cases m;cases p;exact⟨rfl,l.toBelow⟩
theorem X7{P:Program}{f:FuncId}{b:List A}{s:ByteArray}(h:CallsF P f b (.u (.c (.d (.str s)))))(w:World)(Z:Addr->Prop)(vals:List Value)(e:ZOk w Z Z)(i:RepL (A.rep w Z) b vals):
  Calls P f vals.toArray w λa w'=>a= .returned (.string s)/\Below w.heap.size w w':=by
 refine(h.2 w Z vals e i).mono ?_;rintro a w' ⟨v,rfl,j,_,o,_,g⟩;have k:RepD w' _ (.str s) v:=(g 0).1;cases k;exact⟨rfl,j.toBelow⟩
def wL(L:Nat->List UInt8):Nat->List UInt8
 |0=>[]
 |i+1=>wL L i++(Lib.itoa i++[46,32]++L i++[10])
def ClT:Value->Nat
 | .int _ n=>n.toNat
 |_=>0
theorem CA(l m:List UInt8):(⟨l.toArray⟩:ByteArray)++⟨m.toArray⟩=⟨(l++m).toArray⟩:=by
 apply ByteArray.ext;simp[ByteArray.data_append]
theorem Es(a b c d:List UInt8):(⟨a.toArray⟩:ByteArray)++⟨b.toArray⟩++⟨c.toArray⟩++⟨d.toArray⟩=⟨(a++b++c++d).toArray⟩:=by rw[CA,CA,CA]
theorem Dy{i:Nat}(h:i<10):(Lib.itoa (i:Int)).length=1:=by
 have: ∀k<10,(Lib.itoa ((k:Nat):Int)).length=1:=O6;exact this i h
theorem C9{L:Nat->List UInt8}(h: ∀i,(L i).length<=5000): ∀i,i<=9->(wL L i).length<=i*5100
 |0,_=>AO _
 |i+1,hi=>by
  have b:=C9 h i O;have e:=h i;have a:=Dy (i:=i) O;simp only[wL,List.length_append,List.length_cons,List.length_nil,a];omega
theorem Eo(ds:List Der)(sD:D)(L:Nat->List UInt8)(hd:ds.length<=9)(hL: ∀i,(L i).length<=5000)(hf: ∀i (h:i<ds.length),CallsF Tryz.prog 38 [.agg ds[i].ds,.c sD] (.tup [.c (.d (.str ⟨(L i).toArray⟩)),.c (.d (.int .i64 0))]))
  (w:World) (Z:Addr->Prop) (sl sg sn:Value) (hZ:ZOk w Z Z) (hsl:RepD w Z (Dh ds) sl) (hsg:RepD w Z (Dd []) sg) (hsn:RepD w Z sD sn):
  Calls Tryz.prog 12 #[.agg #[sl,sg],sn] w λe w'=>e= .returned (.tuple #[.string ⟨(wL L ds.length).toArray⟩,.int .i64 0])/\Below w.heap.size w w':=by
 obtain⟨pd,cd,rfl,hdc⟩:=DA hsl;obtain⟨pg,cg,rfl,-⟩:=DA (n:=0) (cs:=[]) hsg;have m0:=MidT2.new w #[.slice pd ds.length cd,.slice pg 0 cg]
 go_enter Tryz.func12,Tryz.ntmps12
 go_wp2
 refine wp_loop (λm N=> ∃i:Nat,i<=ds.length/\m.defers=[]/\m.tmps.size=62/\m.tmps.getD 1 undef=sn/\m.tmps.getD 2 undef= .pointer (some ⟨w.heap.size,0,none⟩)/\m.tmps.getD 6 undef= .pointer (some ⟨w.heap.size+1,0,none⟩)/\
   m.tmps.getD 16 undef= .slice pd ds.length cd/\m.tmps.getD 17 undef= .int .i64 ds.length/\m.tmps.getD 18 undef= .int .i64 i/\MidT2 #[.slice pd ds.length cd,.slice pg 0 cg] w (wL L i) N)
  (λm _=>ds.length+1 - ClT (m.tmps.getD 18 undef)) ⟨0,Nat.zero_le _,rfl,rfl,rfl,rfl,rfl,rfl,rfl,rfl,m0⟩ ?_
 clear m0;rintro⟨tm,df⟩ N ⟨i,hi,t,q,Q,T,K,F,G,H,k⟩;simp only at t q Q T K F G H;subst t;obtain⟨x0,x1,x2,x3,x4,x5,x6,x7,x8,x9,x10,x11,x12,x13,x14,x15,x16,x17,x18,x19,x20,x21,x22,x23,x24,x25,x26,x27,x28,x29,x30,x31,x32,x33,x34,x35,x36,x37,x38,x39,x40,x41,x42,x43,x44,x45,x46,x47,x48,x49,x50,x51,x52,x53,x54,x55,x56,x57,x58,x59,x60,x61,rfl⟩:=Dv 62 (tm:=tm) q;have Q:x1=_:=Q;have T:x2=_:=T;have K:x6=_:=K;have F:x16=_:=F;have G:x17=_:=G;have H:x18=_:=H;subst Q T K F G H;clear q;have hll:=C9 hL i O;by_cases h:i<ds.length
 ·have h':(i:Int)<(ds.length:Int):=O;obtain⟨g,o,us,rfl,hul,p,l⟩:=OP Der.ds_len h O hdc;obtain⟨u0,u1,u2,u3,u4,u5,u6,rfl⟩: ∃u0 u1 u2 u3 u4 u5 u6,us=[u0,u1,u2,u3,u4,u5,u6]:=by
   match us,hul with
   |[a,b,c,d,e,f,g],_=>exact⟨a,b,c,d,e,f,g,rfl⟩
  have c0:=k.old (p 0 u0 rfl);rw[Nat.add_zero]at c0;have c1:=k.old (p 1 u1 rfl);have c2:=k.old (p 2 u2 rfl);have c3:=k.old (p 3 u3 rfl);have c4:=k.old (p 4 u4 rfl);have c5:=k.old (p 5 u5 rfl);have c6:=k.old (p 6 u6 rfl);have kf:=hf i h;have X:=hL i;have h1:=Dy (i:=i) O;have ki:=FU (i:Int) O O;obtain⟨bl,hbl⟩: ∃b:ByteArray,b=⟨(L i).toArray⟩:=⟨_,rfl⟩
  obtain⟨bI,hbI⟩: ∃b:ByteArray,b=⟨(Lib.itoa (i:Int)).toArray⟩:=⟨_,rfl⟩
  obtain⟨S,hS⟩: ∃S,S=Lib.itoa (i:Int)++[46,32]++L i++[10]:=⟨_,rfl⟩
  have hW:wL L (i+1)=wL L i++S:=by rw[hS];rfl
  have hSl:S.length<=5004:=by rw[hS];simp only[List.length_append,List.length_cons,List.length_nil,h1];omega
  have hstr:bI++{ data:= #[46,32] }++bl++{ data:= #[10] }=⟨S.toArray⟩:=by rw[hbI,hbl,hS];exact Es _ [46,32] _ [10]
  have sz1:bI.size=1:=by rw[hbI];exact h1
  have sz2:bl.size<=5000:=by rw[hbl];exact X
  have sn1: ¬9223372036854775807<bI.size+2:=O;have sn2: ¬9223372036854775807<bI.size+2+bl.size:=O;have sn3: ¬9223372036854775807<bI.size+2+bl.size+1:=O;rw[<-hbl]at kf;rw[<-hbI]at ki;clear hbl hbI hS h1 X;generalize ds[i]=x at*;obtain⟨f,r,P⟩:=x;have r0:RepD w Z (.int .i64 f.kind) u0:=l.2 0 _ _ rfl rfl;have r1:RepD w Z (AT f.args) u1:=l.2 1 _ _ rfl rfl;have r2:RepD w Z (.bool f.neg) u2:=l.2 2 _ _ rfl rfl;have r3:RepD w Z (Ad f.abs) u3:=l.2 3 _ _ rfl rfl;have r4:RepD w Z (Ad f.den) u4:=l.2 4 _ _ rfl rfl;have r5:RepD w Z (.int .i64 r) u5:=l.2 5 _ _ rfl rfl;have r6:RepD w Z (AT P) u6:=l.2 6 _ _ rfl rfl;cases r0;cases r2;cases r5;obtain⟨p1,k1,rfl,_⟩:=DA r1;obtain⟨p3,k3,rfl,_⟩:=DA r3;obtain⟨p4,k4,rfl,_⟩:=DA r4;obtain⟨p6,k6,rfl,_⟩:=DA r6;have kf2: ∀W,Below w.heap.size w W->Calls Tryz.prog 38 #[.agg #[.int .i64 f.kind,.slice p1 f.args.length k1,.bool f.neg,.slice p3 f.abs.length k3,.slice p4 f.den.length k4,.int .i64 r,.slice p6 P.length k6],x1] W λen w'=>
    en= .returned (.tuple #[.string bl,.int .i64 0])/\Below W.heap.size W w':=λW hb=>by
   have hk:Keep w W Z Z:=Keep.ext ⟨hb,trivial⟩ Z;refine NL kf W Z [.agg #[_,_,_,_,_,_,_],x1] (hZ.below hb) ⟨rfl,λj y v E z=> ?_⟩
   match j,E,z with
   |0,E,z=>
    cases E;cases z;exact⟨_,rfl,rfl,λj y v E z=>RepD.keep hk (l.2 j y v E z)⟩
   |1,E,z=>cases E;cases z;exact hsn.keep hk
  go_wp2_with (go_at_call 38;refine(kf2 _ ?hb).mono ?_)
  case hb=>exact k.below.alloc k.below.size _
  rintro e W3 ⟨rfl,hb3⟩;have Y:=(k.ext ((Below.refl _ N).alloc (AO _) _)).ext hb3;clear hb3
  go_wp2_with (go_at_call 40;refine(X7 ki W3 Z [.int .i64 i] (hZ.below Y.below) ⟨rfl,λj y v E z=>by(match j,E,z with|0,E,z=>cases E;cases z;exact .int _ _)⟩).mono ?_)
  rintro e W4 ⟨rfl,hb4⟩;have M:=Y.ext hb4;clear hb4
  go_wp2_with (go_at_call 39;refine(LE w.heap.size (w.heap.size+1) (wL L i) S W4 M.b O M.below.size).mono ?_)
  rintro e W5 ⟨rfl,pw⟩;have hM5:=M.next pw;clear pw;rw[<-hW]at hM5
  go_wp2
  refine⟨⟨i+1,O,trivial,rfl,rfl,rfl,rfl,rfl,rfl,rfl,hM5⟩,?_⟩;show ds.length+1 - ClT (.int .i64 ((i:Int)+1))<ds.length+1 - ClT (.int .i64 (i:Int));unfold ClT;simp only;omega
 ·have hi2:i=ds.length:=O;subst hi2;have h': ¬(ds.length:Int)<(ds.length:Int):=O;have c1:N.cell? ⟨w.heap.size,1,none⟩=some (.slice pg 0 cg):=k.cell rfl
  go_wp2
  refine wp_loop (λm N=>m.defers=[]/\m.tmps.size=62/\m.tmps.getD 6 undef= .pointer (some ⟨w.heap.size+1,0,none⟩)/\
    m.tmps.getD 42 undef= .int .i64 0/\m.tmps.getD 43 undef= .int .i64 0/\MidT2 #[.slice pd ds.length cd,.slice pg 0 cg] w (wL L ds.length) N)
   (λ_ _=>0) ⟨rfl,rfl,rfl,rfl,rfl,k⟩ ?_
  clear k c1 Q T hsl hdc;rintro⟨tm,df⟩ w3 ⟨t,q,K,I,J,k⟩;simp only at t q K I J;subst t;obtain⟨y0,y1,y2,y3,y4,y5,y6,y7,y8,y9,y10,y11,y12,y13,y14,y15,y16,y17,y18,y19,y20,y21,y22,y23,y24,y25,y26,y27,y28,y29,y30,y31,y32,y33,y34,y35,y36,y37,y38,y39,y40,y41,y42,y43,y44,y45,y46,y47,y48,y49,y50,y51,y52,y53,y54,y55,y56,y57,y58,y59,y60,y61,rfl⟩:=Dv 62 (tm:=tm) q;have K:y6=_:=K;have I:y42=_:=I;have J:y43=_:=J;subst K I J;clear q
  go_wp2_with (go_at_call 42;refine(MT w.heap.size (w.heap.size+1) (wL L ds.length) _ k.b k.below.size).mono ?_)
  rintro e W6 ⟨rfl,p2,_⟩
  go_wp2
  go_ret2
  exact⟨rfl,k.below.trans p2⟩
theorem Et(ds:List Der)(k:D)(L:Nat->List UInt8)(z:ds.length<=9)(r: ∀i,(L i).length<=5000)(E: ∀i (h:i<ds.length),CallsF Tryz.prog 38 [.agg ds[i].ds,.c k] (.tup [.c (.d (.str ⟨(L i).toArray⟩)),.c (.d (.int .i64 0))])):
  CallsF Tryz.prog 12 [.agg [Dh ds,Dd []],.c k] (.tup [.c (.d (.str ⟨(wL L ds.length).toArray⟩)),.c (.d (.int .i64 0))]):=by
 refine Jv (ds:=[.str ⟨(wL L ds.length).toArray⟩,.int .i64 0]) (D8 Tryz.func12 rfl O2) λw Z vals t a=> ?_
 match vals,a.1 with
 |[I,o],_=>
  obtain⟨H,rfl,l,f⟩:=a.2 0 _ _ rfl rfl;have m:RepD w Z k o:=a.2 1 _ _ rfl rfl
  match H,l with
  |[p,q],_=>
   have F:RepD w Z (Dh ds) p:=f 0 _ _ rfl rfl;have G:RepD w Z (Dd []) q:=f 1 _ _ rfl rfl;refine(Eo ds k L z r E w Z p q o t F G m).mono ?_;rintro e J ⟨rfl,y⟩;refine⟨[_,_],rfl,y,rfl,λj x v g b=> ?_⟩
   match j,g,b with
   |0,g,b=>cases g;cases b;exact .str _
   |1,g,b=>cases g;cases b;exact .int _ _
end Go.Va
