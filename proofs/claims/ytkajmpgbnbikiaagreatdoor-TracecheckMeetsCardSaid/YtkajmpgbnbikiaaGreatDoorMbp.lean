/- a part of the proof -/
import Derived.Test.YtkajmpgbnbikiaaGreatDoorMba
import Derived.Test.YtkajmpgbnbikiaaGreatDoorMav
import Derived.Test.YtkajmpgbnbikiaaGreatDoorMbn
import Derived.Shelf.Strings.BuilderK
import Derived.Shelf.Strconv.Itoa3
import Derived.Test.YtkajmpgbnbikiaaGreatDoorProg
import Derived.WalkKit
import Derived.BigCall
set_option linter.all false
set_option maxHeartbeats 4000000
set_option maxRecDepth 100000
namespace Go.Va
open Go.Proofs
def GB(a:Int):List Int→List Int
 |[]=>[a]
 |b::l=>if a≤b then a::b::l else b::GB a l
def G8:List Int→List Int
 |[]=>[]
 |a::l=>GB a (G8 l)
theorem LO(a:Int): ∀l,(GB a l).Perm (a::l)
 |[]=>List.Perm.refl _
 |b::l=>by
  unfold GB;split
  ·exact List.Perm.refl _
  ·exact((LO a l).cons b).trans (List.Perm.swap a b l)
theorem Oi: ∀l,(G8 l).Perm l
 |[]=>List.Perm.refl _
 |a::l=>(LO a _).trans ((Oi l).cons a)
theorem S3(a:Int): ∀l:List Int,l.Pairwise (· ≤ ·)→(GB a l).Pairwise (· ≤ ·)
 |[],_=>by simp[GB]
 |b::l,h=>by
  rw[List.pairwise_cons]at h
  unfold GB;split
  ·rename_i hab
   rw[List.pairwise_cons,List.pairwise_cons]
   refine⟨fun x hx=> ?_,h.1,h.2⟩
   rcases jzn.1 hx with rfl|hx
   ·exact hab
   ·have:=h.1 x hx;omega
  ·rename_i hab
   rw[List.pairwise_cons]
   refine⟨fun x hx=> ?_,S3 a l h.2⟩
   rcases jzn.1 ((LO a l).mem_iff.1 hx)with rfl|hx
   ·omega
   ·exact h.1 x hx
theorem Qt: ∀l:List Int,(G8 l).Pairwise (· ≤ ·)
 |[]=> .nil
 |a::l=>S3 a _ (Qt l)
theorem J0(l:List Int):CI l=G8 l:=(jfI (Oi l) (Qt l)).symm
def JF(b:Bnd)(p:Pat):List Int:=G8 (BJ b p.letters)
def SB(b:Bnd)(ps:List Pat):List Grd:=if ps.any (fun p=>Da (JF b p)) then [] else Ga (ps.map fun p=>⟨p.kind,JF b p⟩)
def MC(r:Rul)(b:Bnd):List CM:=if !r.guards.any (fun p=>Da (JF b p)) then r.concl.map fun p=>(GO b p,SB b r.guards) else []
theorem WY(r:Rul):DC r=MC r:=by
 funext b
 have e:Bm b=JF b:=funext fun p=>J0 _
 unfold DC MC GR guardsL SB Gx;rw[e]
theorem ML(r:Rul)(nl:List Fct):EM r nl=Dp Gl (runF nl [] (En (MC r) (Di r nl) nl.length 0 Bnd.zero)):=by
 unfold EM saysP;rw[WY]
deriving instance DecidableEq for Fnd
def ex1:Fct:=⟨5,[3,1,2],false,[],[]⟩
def ex2:Fct:=⟨5,[4,0,2],false,[],[]⟩
def ex3:Fct:=⟨1,[0,1,2],false,[],[]⟩
def Rz:Fct:=⟨2,[0,1,3,4],false,[],[]⟩
def Q1:Fct:=⟨9,[0,1,3,4],false,limbs 4,limbs 1⟩
theorem jdd:ex1.Rt:=FV (by decide) (by decide) (by decide) (by decide)
theorem XI:ex2.Rt:=FV (by decide) (by decide) (by decide) (by decide)
theorem Is{f:Fct}(h:f.Rt):normF f=normG f:=by unfold normF;rw[if_pos h.ok]
theorem jil:normF ex1=ex1:=by rw[Is jdd];decide
theorem jbX:normF ex2=ex2:=by rw[Is XI];decide
theorem ZG:EM (rulT 6) [ex1,ex2]=[⟨Rz,[]⟩,⟨Q1,[]⟩]:=by
 rw[ML]
 decide+kernel
theorem jdL:Cw 6 [ex1,ex2]=[⟨Rz,[]⟩,⟨Q1,[]⟩]:=by
 unfold Cw;rw[if_neg (by decide)]
 simp only[List.map_cons,List.map_nil,jil,jbX];rw[if_neg (by decide)]
 exact ZG
theorem jd9(n:Int)(ps:List Fct)(hps: ∀f∈ps,f.Mild)(h3:ps.length≤3):FndOk (Cw n ps)∧(Cw n ps).length≤100000000000:=by
 unfold Cw;split
 ·exact⟨.nil,by simp⟩
 split
 ·exact⟨.nil,by simp⟩
 ·rename_i h0 hz
  have hrt: ∀f∈ps.map normF,f.Rt:=fun f hf=>by
   obtain⟨g,hg,rfl⟩:=jzk.1 hf
   refine Iy (hps g hg) fun hk=>hz (List.any_eq_true.2 ⟨_,hf,by simpa using hk⟩)
  have hP:=Qw _ (Lh n) _ hrt;have hl:=S7 _ (Lh n) _ hrt (by simpa using h3)
  have hok:=KW (nl:=ps.map normF) _ [] .nil hP;have hlen:=Km (ps.map normF) (saysP (rulT n) (ps.map normF)) [];unfold EM;refine⟨⟨fun x hx=>hok.rt x ((Fa _).mem_iff.1 hx),fun x hx=>hok.sh x ((Fa _).mem_iff.1 hx),?_⟩,?_⟩
  ·exact((Fa _).pairwise_iff (fun h=>Ne.symm h)).2 hok.nd
  ·rw[Lw]
   simp at hlen;omega
theorem jhq(n:Int)(ps:List Fct)(hps: ∀f∈ps,f.Mild)(hd:(rulT n).derive= .nilFn)(hcn:(rulT n).count=((rulT n).prem.length:Int))(hl:ps.length≤1099511627776):
  CallsF Tryz.prog 120 [.c (.int .i64 n),.c (Cn ps)] (.u (.c (.d (DV (Cw n ps))))):=by
 have q:=(jeM n ps hps hd hcn hl).dat;simp only[R.dat,RU.dat,RC.dat]at q;rw[Zq]at q;exact q
theorem jcD(k:Nat)(h4:k≠4)(h9:k≠9):(Bw k).derive= .nilFn∧(Bw k).count=0:=by
 unfold Bw;split<;>first|exact absurd rfl h4|exact absurd rfl h9|exact⟨rfl,rfl⟩
theorem Qi(n:Int)(h4:n≠4)(h9:n≠9):(rulT n).derive= .nilFn∧(rulT n).count=((rulT n).prem.length:Int):=by
 obtain⟨a,b⟩:=jcD n.toNat (by omega) (by omega)
 refine⟨a,?_⟩
 show(Bw n.toNat).count+((Bw n.toNat).prem.length:Int)=_
 rw[b,Int.zero_add]
 rfl
def fG:Fct:=⟨2,[3,4,0,1],false,[],[]⟩
def fB:Fct:=⟨5,[3,0,1],false,[],[]⟩
def f0:Fct:=⟨5,[3,1,2],false,[],[]⟩
def f1:Fct:=⟨5,[4,0,2],false,[],[]⟩
def f2:Fct:=⟨1,[0,2,4],false,[],[]⟩
def f3:Fct:=⟨1,[1,2,3],false,[],[]⟩
def f4:Fct:=⟨2,[0,1,3,4],false,[],[]⟩
def f5:Fct:=⟨4,[0,4,2,4],false,[],[]⟩
def f6:Fct:=⟨4,[1,3,2,3],false,[],[]⟩
def f7:Fct:=⟨9,[0,1,3,4],false,[4],[1]⟩
def f8:Fct:=⟨9,[0,2,0,4],false,[4],[1]⟩
def f9:Fct:=⟨9,[0,2,2,4],false,[4],[1]⟩
def f10:Fct:=⟨9,[1,2,1,3],false,[4],[1]⟩
def f11:Fct:=⟨9,[1,2,2,3],false,[4],[1]⟩
theorem Hg{a:List Nat}(h:a.all (fun x=>decide (x<65536))=true):Ok a:=fun x hx=>by simpa using jzy.1 h x hx
theorem C3{f:Fct}(h:CU f=true)(h1:f.abs.length≤2)(h2:f.den.length≤2)(h3:f.abs.all (fun x=>decide (x<65536))=true)(h4:f.den.all (fun x=>decide (x<65536))=true)(h5:f.args.length≤10):f.Rt:=
 ⟨h,⟨by omega,by omega,Hg h3,Hg h4,by omega⟩⟩
theorem rG:fG.Rt:=C3 (by decide+kernel) (by decide) (by decide) (by decide) (by decide) (by decide)
theorem rB:fB.Rt:=C3 (by decide+kernel) (by decide) (by decide) (by decide) (by decide) (by decide)
theorem r0:f0.Rt:=C3 (by decide+kernel) (by decide) (by decide) (by decide) (by decide) (by decide)
theorem r1:f1.Rt:=C3 (by decide+kernel) (by decide) (by decide) (by decide) (by decide) (by decide)
theorem r2:f2.Rt:=C3 (by decide+kernel) (by decide) (by decide) (by decide) (by decide) (by decide)
theorem r3:f3.Rt:=C3 (by decide+kernel) (by decide) (by decide) (by decide) (by decide) (by decide)
theorem r4:f4.Rt:=C3 (by decide+kernel) (by decide) (by decide) (by decide) (by decide) (by decide)
theorem r5:f5.Rt:=C3 (by decide+kernel) (by decide) (by decide) (by decide) (by decide) (by decide)
theorem r6:f6.Rt:=C3 (by decide+kernel) (by decide) (by decide) (by decide) (by decide) (by decide)
theorem r7:f7.Rt:=C3 (by decide+kernel) (by decide) (by decide) (by decide) (by decide) (by decide)
theorem r8:f8.Rt:=C3 (by decide+kernel) (by decide) (by decide) (by decide) (by decide) (by decide)
theorem r9:f9.Rt:=C3 (by decide+kernel) (by decide) (by decide) (by decide) (by decide) (by decide)
theorem jgS:f10.Rt:=C3 (by decide+kernel) (by decide) (by decide) (by decide) (by decide) (by decide)
theorem jgE:f11.Rt:=C3 (by decide+kernel) (by decide) (by decide) (by decide) (by decide) (by decide)
theorem nG:normG fG=f4:=by decide+kernel
theorem nB:normG fB=fB:=by decide+kernel
theorem n0:normG f0=f0:=by decide+kernel
theorem n1:normG f1=f1:=by decide+kernel
theorem n2:normG f2=f2:=by
 have h:normG f2=⟨1,CI [0,2,4],false,[],[]⟩:=rfl
 rw[h,J0];rfl
theorem n3:normG f3=f3:=by
 have h:normG f3=⟨1,CI [1,2,3],false,[],[]⟩:=rfl
 rw[h,J0];rfl
theorem n4:normG f4=f4:=by decide+kernel
theorem n5:normG f5=f5:=by decide+kernel
theorem n6:normG f6=f6:=by decide+kernel
theorem n7:normG f7=f7:=by decide+kernel
theorem n8:normG f8=f8:=by decide+kernel
theorem n9:normG f9=f9:=by decide+kernel
theorem Vi:normG f10=f10:=by decide+kernel
theorem jhF:normG f11=f11:=by decide+kernel
theorem P8{f:Fct}(h:f.Rt)(hn:normG f=f):CallsF Tryz.prog 72 [.agg f.ds] f.res:=by
 have:=Hf f h.mild
 rwa [Is h,hn]at this
theorem LY{f:Fct}(h:f.Rt)(hn:E5 f=false):CallsF Tryz.prog 27 [.agg f.ds] (.u (.c (.d (.bool false)))):=by
 have:=Lz f h.mild
 rwa [hn]at this
theorem El{f g f' g':Fct}(h:f.Rt)(hg:g.Rt)(hn:normG f=f')(hm:normG g=g')(b:Bool)(hb:decide (BC f' g'=0)=b):CallsF Tryz.prog 30 [.agg f.ds,.agg g.ds] (.u (.c (.d (.bool b)))):=by
 have:=jeP f g h.mild hg.mild
 unfold Nl at this
 rwa [h.ok,hg.ok,hn,hm,Bool.true_and,Bool.true_and,hb]at this
theorem Ey{n:Int}{ps:List Fct}{f:Fct}{L:List Fnd}(hps: ∀p∈ps,p.Rt)(hf:f.Rt)(hl:ps.length≤3)(hn:normG f=f)(hk:f.kind≠0)(hL:Cw n ps=L)(hg:Ff L f=([],true))(h4:n≠4)(h9:n≠9):
  CallsF Tryz.prog 60 [.c (.int .i64 n),.c (Cn ps),.agg f.ds] (.tup [.c (.d (.slice 0 [])),.c (.d (.bool true))]):=by
 have hm: ∀p∈ps,p.Mild:=fun p hp=>(hps p hp).mild
 have ok:=jd9 n ps hm hl;have kf:=jhq n ps hm (Qi n h4 h9).1 (Qi n h4 h9).2 (by omega)
 have:=jcC n ps f hf.mild _ ok.1 ok.2 kf
 rw[Is hf,hn,if_neg hk,hL,hg]at this
 exact this
theorem Fl{f:Fct}(h:f.Rt): ∀p∈[f],p.Rt:=fun p hp=>by simp at hp;subst hp;exact h
theorem N1{f g:Fct}(h:f.Rt)(h2:g.Rt): ∀p∈[f,g],p.Rt:=fun p hp=>by simp at hp;rcases hp with rfl|rfl;exact h;exact h2
theorem OT{f:Fct}(hf:f.Rt)(hn:normG f=f)(hk:f.kind≠0):Cw 5 [f]=EM (rulT 5) [f]:=by
 unfold Cw;rw[if_neg (by intro h;rcases h with h|h;exact absurd h (by decide);exact h (by show((1:Nat):Int)=_;decide))]
 simp only[List.map_cons,List.map_nil,Is hf,hn];rw[if_neg (by simpa using hk)]
def Kz(f:Fct):Fct:=if CU f=true then (if f.kind=1∨f.kind=6∨f.kind=8 then ⟨f.kind,G8 f.args,false,[],[]⟩ else normG f) else .zero
theorem jfo(f:Fct):normF f=Kz f:=by
 unfold normF Kz;split
 ·split
  ·rename_i h
   obtain⟨k,l,n,m,d⟩:=f
   simp only at h ⊢;rcases h with rfl|rfl|rfl<;>exact congrArg (fun x=>Fct.mk _ x false [] []) (J0 l)
  ·rfl
 ·rfl
def U0(nl:List Fct)(l:List Fnd)(P:List CM):List Fnd:=P.foldl (fun l x=>C8 nl l (Kz x.1) x.2) l
theorem L7(nl:List Fct): ∀(P:List CM) (l:List Fnd),runF nl l P=U0 nl l P
 |[],_=>rfl
 |x::P,l=>by
  show runF nl (C8 nl l (normF x.1) x.2) P=U0 nl (C8 nl l (Kz x.1) x.2) P
  rw[jfo,L7 nl P]
theorem o0:EM (rulT 5) [f0]=[⟨f3,[]⟩,⟨f6,[]⟩,⟨f10,[]⟩,⟨f11,[]⟩]:=by
 rw[ML,L7]
 decide+kernel
theorem o1:EM (rulT 5) [f1]=[⟨f2,[]⟩,⟨f5,[]⟩,⟨f8,[]⟩,⟨f9,[]⟩]:=by
 rw[ML,L7]
 decide+kernel
theorem a0:Cw 5 [f0]=[⟨f3,[]⟩,⟨f6,[]⟩,⟨f10,[]⟩,⟨f11,[]⟩]:=(OT r0 n0 (by decide)).trans o0
theorem a1:Cw 5 [f1]=[⟨f2,[]⟩,⟨f5,[]⟩,⟨f8,[]⟩,⟨f9,[]⟩]:=(OT r1 n1 (by decide)).trans o1
theorem NP:Cw 6 [f0,f1]=[⟨f4,[]⟩,⟨f7,[]⟩]:=jdL
end Go.Va
namespace Go.Proofs
open Go.Shelf
def Tryz.laysWS_ren:Go.Shelf.Ren:=⟨fun|166=>186|240=>266|276=>308|n=>n,fun|0=>0|3=>3|4=>4|9=>9|20=>20|37=>93|70=>224|72=>226|75=>228|164=>320|80=>234|n=>n,fun|n=>n⟩
theorem Tryz.laysWS:Go.Proofs.Lays.n166 Tryz.prog Tryz.laysWS_ren:={
 mixed:=by kernel_rfl
 f166:=Tryz.func186.trans (congrArg some (by kernel_rfl))
 f240:=Tryz.func266.trans (congrArg some (by kernel_rfl))
 f276:=Tryz.func308.trans (congrArg some (by kernel_rfl))
 t0:=Tryz.underlying0
 a0:=Tryz.isAgg0
 z0:=Tryz.sizeOf0
 v0:=Tryz.zeroValue0
 t3:=Tryz.underlying3
 a3:=Tryz.isAgg3
 z3:=Tryz.sizeOf3
 v3:=Tryz.zeroValue3
 t4:=Tryz.underlying4
 a4:=Tryz.isAgg4
 z4:=Tryz.sizeOf4
 v4:=Tryz.zeroValue4
 t9:=Tryz.underlying9
 a9:=Tryz.isAgg9
 z9:=Tryz.sizeOf9
 v9:=Tryz.zeroValue9
 t20:=Tryz.underlying20
 a20:=Tryz.isAgg20
 z20:=Tryz.sizeOf20
 v20:=Tryz.zeroValue20
 t37:=Tryz.underlying93
 a37:=Tryz.isAgg93
 z37:=Tryz.sizeOf93
 v37:=Tryz.zeroValue93
 t70:=Tryz.underlying224
 a70:=Tryz.isAgg224
 z70:=Tryz.sizeOf224
 v70:=Tryz.zeroValue224
 t72:=Tryz.underlying226
 a72:=Tryz.isAgg226
 z72:=Tryz.sizeOf226
 v72:=Tryz.zeroValue226
 t75:=Tryz.underlying228
 a75:=Tryz.isAgg228
 z75:=Tryz.sizeOf228
 v75:=Tryz.zeroValue228
 t164:=Tryz.underlying320
 a164:=Tryz.isAgg320
 z164:=Tryz.sizeOf320
 v164:=Tryz.zeroValue320 }
theorem Tryz.extWS:Builder.Extra Tryz.prog Tryz.laysWS_ren where
 sizeBuilder:=by kernel_rfl
 liesBuilder:=by kernel_rfl
 t5:=Tryz.underlying5
 a5:=Tryz.isAgg5
 z5:=Tryz.sizeOf5
 v5:=Tryz.zeroValue5
 infoByte:=by kernel_rfl
 cellsByte:=by kernel_rfl
 sizeByte:=by kernel_rfl
 neB5:=by decide
def Tryz.laysBS_ren:Go.Shelf.Ren:=⟨fun|169=>190|n=>n,fun|70=>224|9=>9|0=>0|72=>226|37=>93|127=>288|3=>3|5=>5|n=>n,fun|n=>n⟩
theorem Tryz.extBS:Builder.Extra Tryz.prog Tryz.laysBS_ren:={
 sizeBuilder:=by kernel_rfl
 liesBuilder:=by kernel_rfl
 t5:=Tryz.underlying5
 a5:=Tryz.isAgg5
 z5:=Tryz.sizeOf5
 v5:=Tryz.zeroValue5
 infoByte:=by kernel_rfl
 cellsByte:=by kernel_rfl
 sizeByte:=by kernel_rfl
 neB5:=by decide }
def Tryz.laysIt_ren:Go.Shelf.Ren:=⟨fun|171=>187|243=>267|246=>309|283=>340|284=>341|285=>342|286=>343|129=>327|317=>367|318=>368|319=>369|320=>370|337=>376|338=>377|n=>n,fun|3=>3|9=>9|2=>2|4=>4|171=>349|0=>0|53=>155|37=>93|5=>5|173=>351|212=>373|51=>339|20=>20|213=>374|46=>302|232=>388|233=>389|n=>n,fun|17=>0|18=>1|19=>2|n=>n⟩
theorem Tryz.laysIt:Go.Proofs.Lays.n171 Tryz.prog Tryz.laysIt_ren:={
 mixed:=by kernel_rfl
 f129:=Tryz.func327.trans (congrArg some (by kernel_rfl))
 f171:=Tryz.func187.trans (congrArg some (by kernel_rfl))
 f243:=Tryz.func267.trans (congrArg some (by kernel_rfl))
 f246:=Tryz.func309.trans (congrArg some (by kernel_rfl))
 f283:=Tryz.func340.trans (congrArg some (by kernel_rfl))
 f284:=Tryz.func341.trans (congrArg some (by kernel_rfl))
 f285:=Tryz.func342.trans (congrArg some (by kernel_rfl))
 f286:=Tryz.func343.trans (congrArg some (by kernel_rfl))
 f317:=Tryz.func367.trans (congrArg some (by kernel_rfl))
 f318:=Tryz.func368.trans (congrArg some (by kernel_rfl))
 f319:=Tryz.func369.trans (congrArg some (by kernel_rfl))
 f320:=Tryz.func370.trans (congrArg some (by kernel_rfl))
 f337:=Tryz.func376.trans (congrArg some (by kernel_rfl))
 f338:=Tryz.func377.trans (congrArg some (by kernel_rfl))
 t0:=Tryz.underlying0
 a0:=Tryz.isAgg0
 z0:=Tryz.sizeOf0
 v0:=Tryz.zeroValue0
 t2:=Tryz.underlying2
 a2:=Tryz.isAgg2
 z2:=Tryz.sizeOf2
 v2:=Tryz.zeroValue2
 t3:=Tryz.underlying3
 a3:=Tryz.isAgg3
 z3:=Tryz.sizeOf3
 v3:=Tryz.zeroValue3
 t4:=Tryz.underlying4
 a4:=Tryz.isAgg4
 z4:=Tryz.sizeOf4
 v4:=Tryz.zeroValue4
 t5:=Tryz.underlying5
 a5:=Tryz.isAgg5
 z5:=Tryz.sizeOf5
 v5:=Tryz.zeroValue5
 t9:=Tryz.underlying9
 a9:=Tryz.isAgg9
 z9:=Tryz.sizeOf9
 v9:=Tryz.zeroValue9
 t20:=Tryz.underlying20
 a20:=Tryz.isAgg20
 z20:=Tryz.sizeOf20
 v20:=Tryz.zeroValue20
 t37:=Tryz.underlying93
 a37:=Tryz.isAgg93
 z37:=Tryz.sizeOf93
 v37:=Tryz.zeroValue93
 t46:=Tryz.underlying302
 a46:=Tryz.isAgg302
 z46:=Tryz.sizeOf302
 v46:=Tryz.zeroValue302
 t51:=Tryz.underlying339
 a51:=Tryz.isAgg339
 z51:=Tryz.sizeOf339
 v51:=Tryz.zeroValue339
 t53:=Tryz.underlying155
 a53:=Tryz.isAgg155
 z53:=Tryz.sizeOf155
 v53:=Tryz.zeroValue155
 t171:=Tryz.underlying349
 a171:=Tryz.isAgg349
 z171:=Tryz.sizeOf349
 v171:=Tryz.zeroValue349
 t173:=Tryz.underlying351
 a173:=Tryz.isAgg351
 z173:=Tryz.sizeOf351
 v173:=Tryz.zeroValue351
 t212:=Tryz.underlying373
 a212:=Tryz.isAgg373
 z212:=Tryz.sizeOf373
 v212:=Tryz.zeroValue373
 t213:=Tryz.underlying374
 a213:=Tryz.isAgg374
 z213:=Tryz.sizeOf374
 t232:=Tryz.underlying388
 a232:=Tryz.isAgg388
 z232:=Tryz.sizeOf388
 v232:=Tryz.zeroValue388
 t233:=Tryz.underlying389
 a233:=Tryz.isAgg389
 z233:=Tryz.sizeOf389
 v233:=Tryz.zeroValue389
 g17:=by kernel_rfl
 g18:=by kernel_rfl
 g19:=by kernel_rfl }
end Go.Proofs
namespace Go.Va
open Go.Proofs Go.RowKit
theorem jeq{p:Program}{w w':World}{a:Addr}{u:TypeId}{k:Addr}{v:Value}{b:Bool}{l:List Addr}(h:w.viewStore p a u k v b= .ok (w',l)):w'.drawn=w.drawn:=by
 unfold World.viewStore at h;simp only[bind,Except.bind,pure,Except.pure]at h
 repeat' split at h
 all_goals first
  |cases h;rfl
  |cases h
theorem jcI{p:Program}{w w':World}{a:Addr}{v:Value}{b:Bool}{l:List Addr}(h:w.farStore p a v b= .ok (w',l)):w'.drawn=w.drawn:=by
 unfold World.farStore at h;split at h
 ·split at h
  ·rename_i r hr
   cases h;exact jeq hr
  ·cases h
 ·cases h
theorem M6{α:Type}: ∀(k:Ask α) (w:World),w.drawn≤(w.ask k).2.drawn
 | .done a,w=>Az _
 | .ask what range k,w=>by
  unfold World.ask;simp only;split
  ·exact M6 (k 0) w
  ·exact Nat.le_trans (Nat.le_succ _) (M6 _ { w with drawn:=w.drawn+1 })
theorem TU(w:World)(a:Addr)(n:Nat):(w.freeze a n).drawn=w.drawn:=by
 unfold World.freeze;split<;>rfl
theorem T4{P:Program}{α:Type}: ∀(m:Sem α) (w:World) (v:α) (w':World),m.run P w= .ok v w'→w.drawn≤w'.drawn:=by
 intro m
 induction m with
 |pure a=>intro w v w' h;simp only[Sem.run,Result.ok.injEq]at h;rw[h.2];exact Az _
 |load m a k ih=>
  intro w v w' h;simp only[Sem.run]at h;split at h
  ·exact ih _ _ _ _ h
  ·split at h
   ·exact ih _ _ _ _ h
   ·cases h
 |store m a x k ih=>
  intro w v w' h;have go: ∀(r:Result α),r= .ok v w'→(r=(match w.cell? a with
    | some _ => if w.frozen? a then .halt (.unsupported (.unsafePointer "a write to bytes that a string shares")) w else k.run P (w.setCell a x)
    |none=>match w.farStore P a x (m== .atomic)with
     | .ok (w,_)=>k.run P w
     | .error h=> .halt h w))→w.drawn≤w'.drawn:=fun r hr e=>by
   rw[hr]at e
   split at e
   ·split at e
    ·cases e
    ·have q:=ih _ _ _ e.symm;exact q
   ·split at e
    ·rename_i w2 l hf
     have q:=ih _ _ _ e.symm
     rwa [jcI hf]at q
    ·cases e
  cases x with
  |agg c=>simp only[Sem.run]at h;cases h
  |tuple c=>simp only[Sem.run]at h;cases h
  |_=>exact go _ h (by simp only[Sem.run]<;>rfl)
 |new o k ih=>intro w v w' h;simp only[Sem.run]at h;have q:=ih _ _ _ _ h;exact q
 |shape r k ih=>intro w v w' h;simp only[Sem.run]at h;exact ih _ _ _ _ h
 |freeze a n k ih=>intro w v w' h;simp only[Sem.run]at h;have:=ih _ _ _ h;rwa [TU]at this
 |frozen a k ih=>intro w v w' h;simp only[Sem.run]at h;exact ih _ _ _ _ h
 |getObj r k ih=>
  intro w v w' h;simp only[Sem.run]at h;split at h
  ·cases h
  ·exact ih _ _ _ _ h
  ·cases h
 |setObj r o k ih=>
  intro w v w' h;simp only[Sem.run]at h;split at h
  ·cases h
  ·have q:=ih _ _ _ h;exact q
  ·cases h
 |choose q k ih=>
  intro w v w' h;simp only[Sem.run]at h;split at h
  ·exact ih _ _ _ _ h
  ·exact Nat.le_trans (Nat.le_succ _) (ih _ _ _ _ h)
 |sys c k ih=>
  intro w v w' h;simp only[Sem.run]at h;refine Nat.le_trans ?_ (ih _ _ _ _ h);unfold World.sys;split
  ·exact Az _
  ·rename_i r os w2 _ he
   have:=M6 (Kernel.perform c w.os) w
   rw[he]at this
   exact this
 |program k ih=>intro w v w' h;simp only[Sem.run]at h;exact ih _ _ _ _ h
 |mark m k ih=>intro w v w' h;simp only[Sem.run]at h;exact ih _ _ _ h
 |halt h=>intro w v w' hh;simp only[Sem.run]at hh;cases hh
theorem PW: ∃i0,Tryz.prog.info? 5=some i0∧i0.zero=some (.int .u8 0)∧i0.size=1∧i0.bytes=1:=by
 have h:=Tryz.extWS.infoByte;obtain⟨i0,hi,he⟩:=jze.1 h;simp only[Prod.mk.injEq]at he;exact⟨i0,hi,he.1,he.2.1,he.2.2⟩
def HP(B b:Nat)(l:List UInt8)(w:World):Prop:=Lib.IsBuilderF 226 5 B b (Lib.byteCells l) w
def Nz(B b:Nat)(l:List UInt8)(w w':World):Prop:=HP B b l w'∧Below B w w'∧Lib.OthersKept 5 (some b) w w'∧w.drawn≤w'.drawn
theorem Qc(B b:Nat)(bs:List Value)(w:World)(h:Lib.IsBuilderF 226 5 B b bs w):
  Calls Tryz.prog 266 #[.pointer (some ⟨b,0,none⟩)] w fun e w'=>e= .returned (.tuple #[])∧(Lib.BuilderAtF 226 5 B b (.pointer (some ⟨b,0,none⟩)) bs w'∧Below B w w'∧Lib.OthersKept 5 (some b) w w'∧w.drawn≤w'.drawn):=by
 rcases h with h|h
 ·refine(Any.Builder_copyCheck_fresh { Tryz.laysWS with } Tryz.extWS.toX72 b w h.cell0 h.shape h.frozen0).mono ?_
  rintro e w' ⟨rfl,rfl⟩
  exact⟨rfl,h.used _,(Below.refl B w).setCell (p:=⟨b,0,none⟩) h.1 _,(Lib.OthersKept.refl _ _ w).setCell ⟨b,0,none⟩ rfl _,Az _⟩
 ·refine(Any.Builder_copyCheck_used { Tryz.laysWS with } Tryz.extWS.toX72 b w h.cell0).mono ?_
  rintro e w' ⟨rfl,rfl⟩
  exact⟨rfl,h,Below.refl B _,Lib.OthersKept.refl _ _ _,Az _⟩
theorem jiM{P:Program}{w:World}{ops:Array Oper}{rest:List Oper}{o:Oper}{a:Act}{Q:Exit→Act→World→Prop}(hgd:o.guard=none)(sl x:Operand)(t u:TypeId)
  (ho:o.op= .call { callee:= .builtin .append,args:= #[sl,x],argTypes:= #[t,u] })
  (base:Nat) (e:TypeId) (i:TypeInfo) (ht:P.underlying t=some (.slice e)) (hu:P.underlying u=some .string) (hi:P.info? e=some i) (hz:i.zero=some (.int .u8 0))
  (hsize:i.size=1) (hby:i.bytes=1)
  (v:Value) (n:Nat) (xs:List Value) (hs:a.eval sl=v) (hown:w.ownsRowF base e 1 v n xs) (s:ByteArray) (hx:a.eval x= .string s)
  (h63:n+s.size≤maxLen) (hbytes:n+s.size≤140737488355328) (hbase:base≤w.heap.size)
  (h: ∀v' w',w'.ownsRowF base e 1 v' (n+s.size) (xs++Lib.strCells s)→w.grownBy w' v.ownBlock→w.drawn≤w'.drawn→wpList P ops Q rest (a.put o.dst v') w'):wpList P ops Q (o::rest) a w:=by
 refine wpList_plain hgd fun K hK=> ?_
 obtain⟨v',w',hr,h2,h3,h4⟩:=Lib.run_append_own_stringF (P:=P) w base t u o.type e i ht hu hi hz hsize hby v n xs hown s h63 hbytes hbase
 unfold Oper.wp execOp;simp only[ho,resolve,invoke,builtin,Sem.run_bind,Sem.run_pure,Result.andThen_ok,List.map_toArray,List.map_cons,List.map_nil,hs,hx,hr];exact hK _ _ (h v' w' h2 h3 (T4 _ _ _ _ hr))
theorem J7(B b:Nat)(l s:List UInt8)(w:World)(h:HP B b l w)(hlen:l.length+s.length≤1000)(hBw:B≤w.heap.size):
  Calls Tryz.prog 186 #[.pointer (some ⟨b,0,none⟩),.string ⟨s.toArray⟩] w fun e w'=>e= .returned (.tuple #[.int .i64 s.length,.nilIface])∧Nz B b (l++s) w w':=by
 obtain⟨i0,hi,hz0,hz1,hz2⟩:=PW
 go_enter Tryz.func186,Tryz.ntmps186
 go_wp2_with (go_at_call 266;refine(Qc B b _ _ h).mono ?_)
 rintro e w1 ⟨rfl,h1,hb1,hk1,hd1⟩
 obtain⟨hB,v,hbk,hown,hne⟩:=h1
 have c0:w1.cell? ⟨b,0,none⟩=some (.pointer (some ⟨b,0,none⟩)):=by rw[Lib.cell_of_heap hbk];rfl
 have c1:w1.cell? ⟨b,1,none⟩=some v:=by rw[Lib.cell_of_heap hbk];rfl
 go_wp2_with (at_builtin;refine jiM rfl _ _ 93 9 rfl B 5 i0 Tryz.underlying93 Tryz.underlying9 hi hz0 hz1 hz2 _ _ _ rfl hown ⟨s.toArray⟩ rfl ?c3 ?c4 ?c5 ?_)
 case c3=>have:=Lib.byteCells_length l;simp[ByteArray.size];unfold maxLen;omega
 case c4=>have:=Lib.byteCells_length l;simp[ByteArray.size];omega
 case c5=>have:=hb1.size;omega
 intro v' w2 hown' hgrow hd2;have hlt:b<w1.heap.size:=by
  rcases Nat.lt_or_ge b w1.heap.size with h'|h'
  ·exact h'
  ·simp[Array.getElem?_eq_none h']at hbk
 have hb2:w2.heap[b]? =some (.cells #[.pointer (some ⟨b,0,none⟩),v] 226 (0,0)):=by
  rw[hgrow.block b hlt (fun e=>hne e.symm)]
  exact hbk
 have d0:w2.cell? ⟨b,0,none⟩=some (.pointer (some ⟨b,0,none⟩)):=by rw[Lib.cell_of_heap hb2];rfl
 have d1:w2.cell? ⟨b,1,none⟩=some v:=by rw[Lib.cell_of_heap hb2];rfl
 have f1:w2.frozen? ⟨b,1,none⟩=false:=Lib.frozen_of_heap hb2 1
 obtain⟨ao,n',cap,rfl⟩: ∃ao n' cap,v'= .slice ao n' cap:=by
  rcases hown'.2 with⟨hv,_⟩|⟨g,cap,cur,fz,hv,_⟩
  ·exact⟨_,_,_,hv⟩
  ·exact⟨_,_,_,hv⟩
 go_wp2
 go_ret2
 refine⟨rfl,Or.inr ?_,?_,(hk1.grown hgrow (Lib.ownsRowF_kind hown)).setCell ⟨b,1,none⟩ rfl _,Nat.le_trans hd1 hd2⟩
 ·refine Lib.BuilderAtF.put (T:=226) (e:=5) hB hb2 (bs':=Lib.byteCells (l++s)) ?_ (by decide)
  have e1:Lib.byteCells (l++s)=Lib.byteCells l++Lib.strCells ⟨s.toArray⟩:=by rw[Lib.strCells_eq];simp[Lib.byteCells]
  rw[e1,List.length_append,Lib.strCells_length]
  exact hown'
 ·exact(hb1.grown hgrow (by have:=hb1.size;omega) (fun k hk=>(hown.lt k hk).1)).setCell (p:=⟨b,1,none⟩) hB _
theorem jd2{P:Program}{w:World}{ops:Array Oper}{rest:List Oper}{o:Oper}{a:Act}{Q:Exit→Act→World→Prop}(hgd:o.guard=none)(s x:Operand)(t:TypeId)
  (ho:o.op= .call { callee:= .builtin .append,args:= #[s,x],argTypes:= #[t,t] })
  (base:Nat) (e:TypeId) (i:TypeInfo) (z:Value) (size bytes:Nat) (ht:P.underlying t=some (.slice e)) (hi:P.info? e=some i) (hz:i.zero=some z)
  (hsize:i.size=size) (hby:i.bytes=bytes) (hzs:z.cells.size=size) (hsz:0<size)
  (v:Value) (n:Nat) (xs:List Value) (hs:a.eval s=v) (hown:w.ownsRowF base e size v n xs)
  (ad:Addr) (m c:Nat) (news:List Value) (hx:a.eval x= .slice (some ad) m c) (hl:news.length=m*size) (hnews: ∀j u,news[j]? =some u→w.cell? (ad.add j)=some u) (h1: ∀u∈news,u.oneCell'=true)
  (h63:n+m≤maxLen) (hbytes:(n+m)*bytes≤140737488355328) (hbase:base≤w.heap.size)
  (h: ∀v' w',w'.ownsRowF base e size v' (n+m) (xs++news)→w.grownBy w' v.ownBlock→w.drawn≤w'.drawn→wpList P ops Q rest (a.put o.dst v') w'):wpList P ops Q (o::rest) a w:=by
 refine wpList_plain hgd fun K hK=> ?_
 obtain⟨v',w',hr,h2,h3,h4⟩:=run_append_ownF (P:=P) w base t o.type e i z size bytes ht hi hz hsize hby hzs hsz v n xs hown ad m c news hl hnews h1 h63 hbytes hbase
 unfold Oper.wp execOp;simp only[ho,resolve,invoke,builtin,Sem.run_bind,Sem.run_pure,Result.andThen_ok,List.map_toArray,List.map_cons,List.map_nil,hs,hx,hr];exact hK _ _ (h v' w' h2 h3 (T4 _ _ _ _ hr))
theorem MP(B b:Nat)(l:List UInt8)(w:World)(h:HP B b l w)(hlen:l.length≤1000)(hBw:B≤w.heap.size):
  Calls Tryz.prog 188 #[.pointer (some ⟨b,0,none⟩),.int .u8 32] w fun e w'=>e= .returned .nilIface∧Nz B b (l++[32]) w w':=by
 obtain⟨i0,hi,hz0,hz1,hz2⟩:=PW
 go_enter Tryz.func188,Tryz.ntmps188
 go_wp2_with (go_at_call 266;refine(Qc B b _ _ h).mono ?_)
 rintro e w1 ⟨rfl,h1,hb1,hk1,hd1⟩
 obtain⟨hB,v,hbk,hown,hne⟩:=h1
 have c0:w1.cell? ⟨b,0,none⟩=some (.pointer (some ⟨b,0,none⟩)):=by rw[Lib.cell_of_heap hbk];rfl
 have c1:w1.cell? ⟨b,1,none⟩=some v:=by rw[Lib.cell_of_heap hbk];rfl
 go_wp2_with (at_builtin;refine jd2 rfl _ _ 93 rfl B 5 i0 (.int .u8 0) 1 1 Tryz.underlying93 hi hz0 hz1 hz2 rfl (by decide) _ _ _ rfl (hown.alloc _) ⟨w1.heap.size,0,none⟩ 1 1 [.int .u8 32] rfl rfl ?c1 ?c2 ?c3 ?c4 ?c5 ?_)
 case c1=>
  intro j u hj
  match j,hj with
  |0,hj=>simp at hj;subst hj;simp[Addr.add]
 case c2=>intro u hu;simp at hu;subst hu;rfl
 case c3=>have:=Lib.byteCells_length l;unfold maxLen;omega
 case c4=>have:=Lib.byteCells_length l;omega
 case c5=>have:=hb1.size;simp;omega
 intro v' w2 hown' hgrow hd2;have hlt:b<w1.heap.size:=by
  rcases Nat.lt_or_ge b w1.heap.size with h'|h'
  ·exact h'
  ·simp[Array.getElem?_eq_none h']at hbk
 have hb2:w2.heap[b]? =some (.cells #[.pointer (some ⟨b,0,none⟩),v] 226 (0,0)):=by
  rw[hgrow.block b (by simp;omega) (fun e=>hne e.symm),Lib.alloc_old w1 _ b hlt]
  exact hbk
 have d0:w2.cell? ⟨b,0,none⟩=some (.pointer (some ⟨b,0,none⟩)):=by rw[Lib.cell_of_heap hb2];rfl
 have d1:w2.cell? ⟨b,1,none⟩=some v:=by rw[Lib.cell_of_heap hb2];rfl
 have f1:w2.frozen? ⟨b,1,none⟩=false:=Lib.frozen_of_heap hb2 1
 obtain⟨g,cap,rfl⟩: ∃g cap,v'= .slice (some ⟨g,0,none⟩) ((Lib.byteCells l).length+1) cap:=by
  rcases hown'.2 with⟨_,h0⟩|⟨g,cap,cur,fz,hv,_⟩
  ·omega
  ·exact⟨g,cap,hv⟩
 go_wp2
 go_ret
 refine⟨rfl,Or.inr ?_,?_,((hk1.alloc _).grown hgrow (Lib.ownsRowF_kind (hown.alloc _))).setCell ⟨b,1,none⟩ rfl _,Nat.le_trans hd1 hd2⟩
 ·refine Lib.BuilderAtF.put (T:=226) (e:=5) hB hb2 (bs':=Lib.byteCells (l++[32])) ?_ (by decide)
  have e1:Lib.byteCells (l++[32])=Lib.byteCells l++[.int .u8 32]:=by simp[Lib.byteCells]
  rw[e1,List.length_append]
  exact hown'
 ·exact((hb1.alloc (by have:=hb1.size;omega) _).grown hgrow (by have:=hb1.size;simp;omega) (fun k hk=>(hown.lt k hk).1)).setCell (p:=⟨b,1,none⟩) hB _
theorem jg7(B b:Nat)(l:List UInt8)(w:World)(h:HP B b l w)(h0:l≠[])(hBw:B≤w.heap.size):
  Calls Tryz.prog 190 #[.pointer (some ⟨b,0,none⟩)] w fun e w'=>e= .returned (.string ⟨l.toArray⟩)∧Below B w w'∧w.drawn≤w'.drawn:=by
 obtain⟨p,hAt⟩: ∃p,Lib.BuilderAtF 226 5 B b p (Lib.byteCells l) w:=by
  rcases h with h|h
  ·exact⟨_,h⟩
  ·exact⟨_,h⟩
 obtain⟨hB,v,hbk,hown,hne⟩:=hAt
 have hl0:l.length≠0:=by simpa using h0
 rw[Lib.byteCells_length]at hown
 obtain⟨g,cap,cur,fz,rfl,hbg,hg,hfz,hnc,hcm,hcs,htake⟩: ∃g cap cur fz,v= .slice (some ⟨g,0,none⟩) l.length cap∧B≤g∧w.heap[g]? =some (.cells cur 5 fz)∧fz.2≤l.length*1∧l.length≤cap∧cap≤maxLen∧cur.size=cap*1∧cur.toList.take (l.length*1)=Lib.byteCells l:=by
  rcases hown.2 with⟨_,hz⟩|⟨g,cap,cur,fz,hv,r⟩
  ·exact absurd hz hl0
  ·exact⟨g,cap,cur,fz,hv,r⟩
 have c1:w.drew.cell? ⟨b,1,none⟩=some (.slice (some ⟨g,0,none⟩) l.length cap):=by
  have:w.drew.heap[b]? =some (.cells #[p,.slice (some ⟨g,0,none⟩) l.length cap] 226 (0,0)):=hbk
  rw[Lib.cell_of_heap this];rfl
 have hSD:(Builtin.unsafeSliceData_ #[93] 288 #[.slice (some ⟨g,0,none⟩) l.length cap]).run Tryz.prog w.drew= .ok (.pointer (some ⟨g,0,none⟩)) w.drew:=
  Lib.run_unsafeSliceData_row _ _ _ _ _ _ (by omega)
 have hUS:(Builtin.unsafeString_ #[288,3] 9 #[.pointer (some ⟨g,0,none⟩),.int .i64 l.length]).run Tryz.prog w.drew= .ok (.string ⟨l.toArray⟩) (w.drew.freeze ⟨g,0,none⟩ l.length):=by
  refine Lib.run_unsafeString_row w.drew 288 3 9 5 Tryz.underlying288 Tryz.extBS.cellsByte g cur.size (by have hg':w.drew.heap[g]? =some (.cells cur 5 fz):=hg;simp[World.shape?,hg']) l h0 (by omega) (by unfold maxLen at hcm;omega) ?_
  intro j x hx;have:=hown.cells (g:=g) rfl j (.int .u8 x.toNat) (by simp[Lib.byteCells,hx])
  exact this
 have hdr:w.drawn≤(w.drew.freeze ⟨g,0,none⟩ l.length).drawn:=by rw[TU];exact Nat.le_succ _
 have mixed:Tryz.prog.follows .mixedOrders=true:=by kernel_rfl
 go_enter Tryz.func190,Tryz.ntmps190
 go_wp2
 go_region_o
 all_goals (go_wp2;go_ret;exact⟨rfl,Lib.below_freeze (Below.drew (Below.refl B w)) (p:=⟨g,0,none⟩) hbg _,hdr⟩)
end Go.Va
