/- a part of the proof -/
import Derived.Test.YtfmhdeggclefdaaGreatDoorKbn
import Derived.Test.YtfmhdeggclefdaaGreatDoorKba
import Derived.Test.YtfmhdeggclefdaaGreatDoorKaw
import Derived.Test.YtfmhdeggclefdaaGreatDoorKat
import Derived.Test.YtfmhdeggclefdaaGreatDoorKbj
import Derived.Shelf.Strconv.AtoiAll
import Derived.Test.YtfmhdeggclefdaaGreatDoorKav
import Derived.Test.YtfmhdeggclefdaaGreatDoorKbk
set_option linter.all false
set_option maxHeartbeats 4000000
set_option maxRecDepth 100000
namespace Go.Va
open Go.Proofs
theorem jb4(ns:List ByteArray)(t:List UInt8):(readF ns t).1.Wide:=by
 unfold readF;simp only;split
 ·exact(YT ns (Ch t)).1
 ·exact⟨by decide,by decide,Aw 0,Aw 0,by decide⟩
theorem jlm(ns:List ByteArray)(i:Nat)(s:List UInt8):(derR ns i s).1.fact.Wide:=by
 have z:(Der.none).fact.Wide:=⟨by decide,by decide,Aw 0,Aw 0,by decide⟩
 unfold derR;split
 ·exact z
 ·split
  ·exact jb4 ns _
  ·simp only;split
   ·exact z
   ·split
    ·exact z
    ·split
     ·exact z
     ·split
      ·exact z
      ·exact jb4 ns _
theorem jlh{ns:List ByteArray}{ds:List Der}{gs:List Grd}{n:Int}{s:List UInt8}(hd: ∀x∈ds,x.fact.Wide): ∀x∈(KQ ns ds gs n s).1,x.fact.Wide:=by
 induction hk:s.length using Nat.strongRecOn generalizing ds gs n s with
 |ind k ih=>
  rw[KQ]
  split
  ·exact hd
  split
  ·rename_i h0 hc
   have hlt:=Vk (by simp) hc
   split
   ·split
    ·intro x hx;cases hx
    ·exact ih _ (by omega) hd rfl
   ·split
    ·intro x hx;cases hx
    ·exact ih _ (by omega) (fun x hx=>by
      rcases List.mem_append.1 hx with hx|hx
      ·exact hd x hx
      ·rw[List.mem_singleton.1 hx];exact jlm ns _ _) rfl
  ·intro x hx;cases hx
theorem ji1(n:Int):Md n≤20:=by
 unfold Md;split
 ·decide
 ·split
  ·decide
  ·have key: ∀k<29,(rulT ((k:Nat):Int)).count≤20:=by decide+kernel
   have e:rulT n=rulT ((n.toNat:Nat):Int):=by unfold rulT;rw[Int.toNat_natCast]
   by_cases h:n.toNat<29
   ·rw[e];exact key _ h
   ·rw[show(rulT n).count=0 by unfold rulT;rw[Nh _ (by omega)];rfl]
    decide
theorem jff{ns:List ByteArray}{i:Nat}{x:Der}(h:DerOk ns i x)(hw:x.fact.Wide)(hi:i≤100000):x.Brief:=by
 have e:=h.e;have hf:wrong x.fact ns.length=0:=by
  unfold lineE at e;split at e
  ·cases e
  ·exact e
 obtain⟨h1,h2,h3,h4,h5⟩:=RS hf
 refine⟨hw,by rw[h2];have:=Ty x.fact.kind;omega,by have:=h.p;have:=ji1 x.rule;omega,fun a ha=>by have:=h.f a ha;omega⟩
theorem jlv(ns:List ByteArray):DersOk ns []:=fun i x h=>by simp at h
theorem jl7(ns:List ByteArray)(hnd:ns.Nodup)(hN:ns.length≤60)(hn: ∀s∈ns,s.size≤30)(s:ByteArray)(hs:s.size≤1500){ds:List Der}{gs:List Grd}{m:Int}(h:KQ ns [] [] 1 (B s)=(ds,gs,m,0)):
  CallsF Tryz.prog 9 [.agg [Dh ds,Dd gs],.c (A6 ns)] (.tup [.c (.d (.str s)),.c (.d (.int .i64 0))]):=by
 obtain⟨h1,h2,h3,h4,h5⟩:=jmN hnd (jlv ns) (fun g hg=>by cases hg) h
 have hw: ∀x∈ds,x.fact.Wide:=by
  have:=jlh (ns:=ns) (ds:=[]) (gs:=[]) (n:=1) (s:=B s) (fun x hx=>by cases hx)
  rwa [h]at this
 rw[Hg,List.length_nil]at h4 h5
 have k:=NE ds gs ns (by omega) (by omega) (fun x hx=>by
  obtain⟨i,hi,rfl⟩:=List.mem_iff_getElem.1 hx
  exact jff (h1 i _ (AD hi)) (hw _ hx) (by omega)) (fun g hg=>by
  have:=h2 g hg
  unfold errG at this;have hk:grdN g.kind≤4:=by
   unfold grdN
   repeat' split
   all_goals decide
  by_cases e:grdN g.kind= -1
  ·rw[if_pos e]at this;cases this
  ·rw[if_neg e]at this
   by_cases e2:(g.args.length:Int)≠grdN g.kind
   ·rw[if_pos e2]at this;cases this
   ·omega) hN hn
 have e1:textE ns.length ds gs=0:=jh6 h1 h2
 have e2:C4 ns ds gs=B s:=by rw[h3];rfl
 unfold Br at k;rw[e1,e2,if_pos rfl,O9]at k;exact k
theorem jgq{x:Der}(hn:Bp x.rule≠[])(hp:(x.frm.length:Int)=Md x.rule)(h0:x.rule≠0):x.frm≠[]:=fun e=>by
 obtain⟨h1,h2⟩:=Xi hn
 have key: ∀k<29,k≠0→Md ((k:Nat):Int)≠0:=by decide+kernel
 have:=key x.rule.toNat (by omega) (by omega)
 rw[Int.toNat_of_nonneg h1,←hp,e]at this
 exact this rfl
theorem jmI{f:Fct}(hw:f.Wide)(la:f.abs.length≤2)(ld:f.den.length≤2):f.Small:=by
 have key: ∀l:List Nat,Ok l→l.length≤2→(Lib.decDigits (val l)).length≤1000:=fun l ho hl=>by
  have h1:=Bz l ho;have h2:val l<65536^2:=Nat.lt_of_lt_of_le h1 (Nat.pow_le_pow_right (by omega) hl)
  have:=KT 10 (val l) (Nat.lt_of_lt_of_le h2 (by decide))
  omega
 exact⟨hw.oa,hw.od,key _ hw.oa la,key _ hw.od ld⟩
theorem jmk(hA: ∀x:ByteArray,x.size≤100000→Qf x)(ns:List ByteArray)(hok:Mb ns)(hN:ns.length≤60)(hn: ∀s∈ns,s.size≤30)(ds:List Der)(gs:List Grd)(hd:ds.length≤12)(hg:gs.length≤12)
  (hx: ∀x∈ds,x.fact.Wide∧x.fact.abs.length≤2∧x.fact.den.length≤2∧x.fact.args.length≤20) (hga: ∀g∈gs,g.args.length≤20) (he:textE ns.length ds gs=0)
  (hp: ∀(i:Nat) x,ds[i]? =some x→(x.frm.length:Int)=Md x.rule∧ ∀a∈x.frm,0≤a∧a<i):
  CallsF Tryz.prog 8 [.c (.str (Ch (C4 ns ds gs))),.c (A6 ns)] (.tup [.agg [.d (Dh ds),.d (Dd gs)],.c (.d (.int .i64 0)),.c (.d (.int .i64 0))]):=by
 have hl: ∀x∈ds,lineE ns.length x=0:=by
  unfold textE at he;by_cases h:CZ (lineE ns.length) ds=0
  ·exact UZ h
  ·rw[if_neg h]at he;exact absurd he h
 have hgz: ∀g∈gs,errG ns.length g=0:=by
  unfold textE at he;by_cases h:CZ (lineE ns.length) ds=0
  ·rw[if_pos h]at he;exact UZ he
  ·rw[if_neg h]at he;exact absurd he h
 have hD: ∀(i:Nat) x,ds[i]? =some x→DerOk ns i x:=fun i x h=>⟨hl x (BY h),(hp i x h).1,(hp i x h).2⟩
 have hr:KQ ns [] [] 1 (C4 ns ds gs)=(ds,gs,0,0):=by
  rw[Th]
  refine jfP hok gs hgz ds [] 1 fun i x h=> ?_
  have hm:=BY h;obtain⟨w1,w2,w3,w4⟩:=hx x hm;have hnm:Bp x.rule≠[]:=fun e=>by
   have:=hl x hm
   unfold lineE at this;rw[if_pos e]at this;cases this
  exact⟨by rw[List.length_nil,Nat.zero_add];exact hD i x h,jmI w1 w2 w3,Nat.le_trans (JC w1 hn w4) (by decide),jgq hnm (hp i x h).1⟩
 have hB: ∀x∈ds,x.Brief:=fun x hm=>by
  obtain⟨i,hi,rfl⟩:=List.mem_iff_getElem.1 hm
  exact jff (hD i _ (AD hi)) (hx _ hm).1 (by omega)
 have hsz:(Ch (C4 ns ds gs)).size≤100000:=by
  have h1:=FT hB hn (by omega) ds.length (AO _)
  have h2:=HD hga hn gs.length (AO _);rw[Ja];unfold C4;rw[List.length_append];omega
 have k:=jdP hA ns hok.2 hN hn (Ch (C4 ns ds gs)) hsz;rw[Mw,hr]at k;exact k
end Go.Va
namespace Go.Va
open Int renaming natCast_add → qA, natCast_mul → qB, natCast_emod → qC, natCast_ediv → qD, natCast_pow → qE
open List renaming reduceReplicate → qF
open Go.Proofs
def Wz:List (List Nat):=(Ah [0,0,3,7,0,0,48,112,255])
@[simp]def Xu:List Seg:=[.any [] [] (Aq [[0],[5],[18,19],[20],[1],[5],[22,23],[24]]),.one]
def jeb:List (List Nat):=(Ah [0,0,3,7,0,0,48,112,255])
@[simp]def ja4:List Seg:=[.any [] [] (Aq [[0],[5],[27,28],[29],[1],[5],[31,32],[33]]),.one]
def Grd.Short(g:Grd):Prop:=g.args.length≤1000000
def cmpLL:List Int→List Int→Int
 |[],b=>0 - (b.length:Int)
 |a::x,[]=>((a::x).length:Int)
 |a::x,b::y=>if a<b then -1 else if b<a then 1 else cmpLL x y
theorem jlW{a b:List Int}{i:Nat}(ha:i<a.length)(hb:i<b.length):cmpLL (a.drop i) (b.drop i)=if a[i]<b[i] then -1 else if b[i]<a[i] then 1 else cmpLL (a.drop (i+1)) (b.drop (i+1)):=by
 rw[BQ ha,BQ hb,cmpLL]
theorem ja9{a b:List Int}{i:Nat}(ha:i≤a.length)(hb:i≤b.length)(h:i=a.length∨i=b.length):cmpLL (a.drop i) (b.drop i)=(a.length:Int) - b.length:=by
 rcases Nat.lt_or_ge i a.length with h1|h1
 ·have h2:i=b.length:=by omega
  rw[DU (by omega:b.length≤i)]
  have hl:(a.drop i).length=a.length - i:=List.length_drop
  cases hd:a.drop i with
  |nil=>rw[hd]at hl;simp at hl;omega
  |cons x l=>rw[cmpLL,←hd,hl];omega
 ·rw[DU h1,cmpLL,List.length_drop];omega
theorem jdd: ∀a b:List Int,cmpLL a b=0↔a=b
 |[],[]=>by simp[cmpLL]
 |[],b::y=>by simp[cmpLL];omega
 |a::x,[]=>by simp[cmpLL];omega
 |a::x,b::y=>by
  have:=jdd x y
  rw[cmpLL]
  split
  ·simp;omega
  ·split
   ·simp;omega
   ·rw[this];simp;omega
theorem jjP(a b:List Int)(ha:a.length≤1000000)(hb:b.length≤1000000):CallsF Tryz.prog 120 [.c (AT a),.c (AT b)] (.u (.c (.d (.int .i64 (cmpLL a b))))):=by
 refine cO Tryz.func120 rfl ?_;simp -implicitDefEqProofs[jJ,-qA,-qB];refine AV (fun i:Nat=>⟨[(5,vI .i64 i),(0,vC (.d (AT a))),(1,vC (.d (AT b)))],[]⟩) (fun i=>i≤a.length∧i≤b.length∧cmpLL (a.drop i) (b.drop i)=cmpLL a b) (fun i=>a.length - i) 0 (by simp[AW,lk,St.le,vI,vC]) ⟨by omega,by omega,rfl⟩ ?_
 rintro i ⟨h1,h2,h3⟩
 by_cases hA:i<a.length
 ·by_cases hB:i<b.length
  ·rw[jlW hA hB]at h3
   by_cases c1:a[i]<b[i]
   ·rw[if_pos c1]at h3
    rw[←h3]
    simp -implicitDefEqProofs[jJ,-qA,-qB,hA,hB];refine AA Wz Xu (by rfl) ?_
    simp -implicitDefEqProofs[jJ,-qA,-qB,hA,hB,c1,i64]
   ·rw[if_neg c1]at h3
    by_cases c2:b[i]<a[i]
    ·rw[if_pos c2]at h3
     rw[←h3]
     simp -implicitDefEqProofs[jJ,-qA,-qB,hA,hB];refine AA Wz Xu (by rfl) ?_
     simp -implicitDefEqProofs[jJ,-qA,-qB,hA,hB,c1,i64];refine AA jeb ja4 (by rfl) ?_
     simp -implicitDefEqProofs[jJ,-qA,-qB,hA,hB,c2,i64]
    ·rw[if_neg c2]at h3
     simp -implicitDefEqProofs[jJ,-qA,-qB,hA,hB];refine AA Wz Xu (by rfl) ?_
     simp -implicitDefEqProofs[jJ,-qA,-qB,hA,hB,c1,i64];refine AA jeb ja4 (by rfl) ?_
     simp -implicitDefEqProofs[jJ,-qA,-qB,hA,hB,c2,i64];exact⟨by omega,⟨by omega,by omega,h3⟩,by omega⟩
  ·rw[ja9 h1 h2 (by omega)]at h3
   simp -implicitDefEqProofs[jJ,-qA,-qB,hA,hB];omega
 ·rw[ja9 h1 h2 (by omega)]at h3
  simp -implicitDefEqProofs[jJ,-qA,-qB,hA];omega
def TX(a b:Grd):Int:=if a.kind≠b.kind then a.kind - b.kind else cmpLL a.args b.args
theorem cmpGd_zero{a b:Grd}:TX a b=0↔a=b:=by
 unfold TX;obtain⟨k,l⟩:=a;obtain⟨k',l'⟩:=b;simp only[Grd.mk.injEq];by_cases h:k=k'
 ·rw[if_neg (by simp[h]),jdd];simp[h]
 ·rw[if_pos h]
  constructor
  ·intro h2;omega
  ·intro h2;exact absurd h2.1 h
theorem jki(a b:Grd)(ha:a.Short)(hb:b.Short)(hk:a.kind=b.kind∨(-1000≤a.kind∧a.kind≤1000∧ -1000≤b.kind∧b.kind≤1000)):CallsF Tryz.prog 64 [.agg a.ds,.agg b.ds] (.u (.c (.d (.int .i64 (TX a b))))):=by
 have k:=jjP a.args b.args ha hb;unfold TX;simp only[Grd.ds];generalize cmpLL a.args b.args=r at*;refine cO Tryz.func64 rfl ?_;by_cases h:a.kind=b.kind
 ·simp -implicitDefEqProofs[jJ,-qA,-qB,h]
  (first|refine Ac k ?_|refine Ae k ?_)
  simp -implicitDefEqProofs[jJ,-qA,-qB]
 ·have hk: -1000≤a.kind∧a.kind≤1000∧ -1000≤b.kind∧b.kind≤1000:=by rcases hk with hk|hk;exact absurd hk h;exact hk
  simp -implicitDefEqProofs[jJ,-qA,-qB,h];omega
theorem jkK(a:List Grd)(ha: ∀g∈a,g.Short)(hal:a.length≤1099511627776):CallsF Tryz.prog 31 [.c (Dd a),.c (Dd a)] (.u (.c (.d (.bool true)))):=by
 have k: ∀i (h1:i<a.length),CallsF Tryz.prog 64 [.agg a[i].ds,.agg a[i].ds] (.u (.c (.d (.int .i64 0)))):=fun i h1=>by
  have:=jki _ _ (ha _ (AZ h1)) (ha _ (AZ h1)) (.inl rfl)
  rwa [cmpGd_zero.2 rfl]at this
 have hfl:(a.flatMap Grd.ds).length=a.length*2:=So (k:=2) (fun _=>rfl) a
 simp only[Grd.ds]at k;clear ha;unfold Dd;refine cO Tryz.func31 rfl ?_;simp -implicitDefEqProofs[jJ,-qA,-qB];refine AV (fun i:Nat=>⟨[(5,vI .i64 i),(0,vC (.d (.slice a.length (a.flatMap Grd.ds)))),(1,vC (.d (.slice a.length (a.flatMap Grd.ds))))],[]⟩) (fun i=>i≤a.length) (fun i=>a.length - i) 0 (by simp[AW,lk,St.le,vI,vC]) (by omega) ?_
 rintro i hi
 by_cases h:i<a.length
 ·have ea:(((a.flatMap Grd.ds).map C.d).drop (i*2)).take 2=[.d (.int .i64 a[i].kind),.d (AT a[i].args)]:=by
   rw[←List.map_drop,←List.map_take,Ic (k:=2) (fun _=>rfl) a i h];rfl
  have h2:2≤a.length*2 - i*2:=by omega
  have k:=k i h;simp -implicitDefEqProofs[jJ,-qA,-qB,h,hfl];refine AA (Ah [0,0,3,7,0,0,48,112,255,511]) [.any [] [] (Aq [[0],[5],[17,18],[19],[1],[5],[21,22],[23]]),.one,.one] (by rfl) ?_
  simp -implicitDefEqProofs[jJ,-qA,-qB,h,hfl];refine⟨h2,?_⟩;simp -implicitDefEqProofs[jJ,-qA,-qB,ea]
  (first|refine Ac k ?_|refine Ae k ?_)
  simp -implicitDefEqProofs[jJ,-qA,-qB];omega
 ·simp -implicitDefEqProofs[jJ,-qA,-qB,h]
theorem jm4(f:Fct)(hf:f.Mild)(nf:f.kind=9→CV f.neg f.abs f.den=true):CallsF Tryz.prog 65 [.agg f.ds,.agg f.ds] (.u (.c (.d (.int .i64 0)))):=by
 obtain⟨k,a,n,m,d⟩:=f
 obtain⟨la,ld,oa,od,ln⟩:=hf
 simp only[Fct.ds]at*;refine cO Tryz.func65 rfl ?_;simp -implicitDefEqProofs[jJ,-qA,-qB];refine AV (fun i:Nat=>⟨[(5,vI .i64 i),(2,vC (.ptr 2 0)),(3,vC (.ptr 3 0))],[(3,.box [.d (.int .i64 k),.d (AT a),.d (.bool n),.d (Ad m),.d (Ad d)]),(2,.box [.d (.int .i64 k),.d (AT a),.d (.bool n),.d (Ad m),.d (Ad d)])]⟩) (fun i=>i≤a.length) (fun i=>a.length - i) 0 (by simp[AW,lk,St.le,vI,vC]) (by omega) ?_
 rintro i hi
 by_cases h:i<a.length
 ·simp -implicitDefEqProofs[jJ,-qA,-qB,h];refine AA (Ah [0,1,0,7,15,0,32,0,224,480,1023]) [.any [] [] (Aq [[2],[30],[5],[31,32],[33],[3],[35],[5],[36,37],[38]]),.one] (by rfl) ?_
  simp -implicitDefEqProofs[jJ,-qA,-qB,h,i64];exact⟨by omega,by omega,by omega⟩
 ·by_cases h9:k=9
  ·obtain⟨p1,p2,p3,p4,p5⟩:=Cz (nf h9) oa od
   have l1:=oa.ltW la;have l2:=od.ltW ld;have r:=jiY n n (val m) (val d) (val m) (val d) (by omega) (by omega) p3 p4 (by omega) (by omega) p3 p4
   rw[←p1,←p2,(jmP _ _).2 rfl]at r
   simp -implicitDefEqProofs[jJ,-qA,-qB,h,h9]
   (first|refine Ac r ?_|refine Ae r ?_)
   simp -implicitDefEqProofs[jJ,-qA,-qB,h9]
  ·simp -implicitDefEqProofs[jJ,-qA,-qB,h,h9]
theorem jl2(f:Fct)(hf:f.Mild)(nf:f.kind=9→CV f.neg f.abs f.den=true):CallsF Tryz.prog 32 [.agg f.ds,.agg f.ds] (.u (.c (.d (.bool true)))):=by
 have k:=jm4 f hf nf;clear hf nf;simp only[Fct.ds]at*;refine cO Tryz.func32 rfl ?_;simp -implicitDefEqProofs[jJ,-qA,-qB]
 (first|refine Ac k ?_|refine Ae k ?_)
 simp -implicitDefEqProofs[jJ,-qA,-qB]
theorem jiM(ds:List Der)(gs:List Grd)(hm: ∀x∈ds,x.fact.Mild∧(x.fact.kind=9→CV x.fact.neg x.fact.abs x.fact.den=true)∧x.frm.length≤1000)(hg: ∀g∈gs,g.Short)(hdl:ds.length≤100000)(hgl:gs.length≤100000):
  CallsF Tryz.prog 11 [.agg [Dh ds,Dd gs],.agg [Dh ds,Dd gs]] (.u (.c (.d (.bool true)))):=by
 have kg:=jkK gs hg (by omega)
 have hfl:(ds.flatMap Der.ds).length=ds.length*7:=So Der.ds_len ds
 generalize Dd gs=G at*;unfold Dh;refine cO Tryz.func11 rfl ?_;simp -implicitDefEqProofs[jJ,-qA,-qB]
 (first|refine Ac kg ?_|refine Ae kg ?_)
 simp -implicitDefEqProofs[jJ,-qA,-qB];refine AV (fun i:Nat=>⟨[(5,vI .i64 i),(2,vC (.ptr 2 0)),(3,vC (.ptr 3 0))],[(3,.box [.d (.slice ds.length (ds.flatMap Der.ds)),.d G]),(2,.box [.d (.slice ds.length (ds.flatMap Der.ds)),.d G])]⟩) (fun i=>i≤ds.length) (fun i=>ds.length - i) 0 (by simp[AW,lk,St.le,vI,vC]) (by omega) ?_
 rintro i hi
 by_cases h:i<ds.length
 ·have ea:=Kp ds i h;have h7:7≤ds.length*7 - i*7:=by omega
  obtain⟨x1,x2,x3⟩:=hm _ (AZ h)
  have kq:=jl2 ds[i].fact x1 x2;simp only[Fct.ds]at kq;simp -implicitDefEqProofs[jJ,-qA,-qB,h,hfl];refine AA (Ah [0,1,0,7,15,0,32,0,224,480,0,0,3103,8191]) [.any [] [6,7] [⟨0,[2],[6,7],[6,7],[]⟩,⟨0,[31],[6,7],[6,7],[]⟩,⟨0,[5],[6,7],[6,7],[]⟩,⟨0,[32,33],[6,7],[6,7],[]⟩,⟨0,[34],[6,7],[6,7],[]⟩,⟨0,[3],[6,7],[6,7],[]⟩,⟨0,[36],[6,7],[6,7],[]⟩,⟨0,[5],[6,7],[6,7],[]⟩,⟨0,[37,38],[6,7],[6,7],[]⟩,⟨0,[39],[6,7],[6,7],[]⟩,⟨1,[],[7],[7],[]⟩,⟨1,[],[6],[6],[]⟩,⟨2,[6,35],[],[],[6]⟩],.one] (by rfl) ?_
  have hmin:min 7 (ds.length*7 - i*7)=7:=by omega
  generalize ds[i]=x at*;obtain⟨⟨k,a,n,m,d⟩,r,fr⟩:=x;simp only at ea kq x3;simp -implicitDefEqProofs[jJ,-qA,-qB,h,hfl,ea,h7,hmin]
  (first|refine Ac kq ?_|refine Ae kq ?_)
  have hlen:lenC (.d (AT fr))=some fr.length:=rfl
  simp -implicitDefEqProofs[jJ,-qA,-qB,hlen];refine AV (fun j:Nat=>⟨[(8,vI .i64 j),(5,vI .i64 i),(2,vC (.ptr 2 0)),(3,vC (.ptr 3 0)),(6,vC (.ptr 6 0)),(7,vC (.ptr 7 0))],
   [(7,.box [.d (.int .i64 k),.d (AT a),.d (.bool n),.d (Ad m),.d (Ad d),.d (.int .i64 r),.d (AT fr)]),(6,.box [.d (.int .i64 k),.d (AT a),.d (.bool n),.d (Ad m),.d (Ad d),.d (.int .i64 r),.d (AT fr)]),
   (3,.box [.d (.slice ds.length (ds.flatMap Der.ds)),.d G]),(2,.box [.d (.slice ds.length (ds.flatMap Der.ds)),.d G])]⟩) (fun j=>j≤fr.length) (fun j=>fr.length - j) 0 (by simp[AW,lk,St.le,vI,vC]) (by omega) ?_
  rintro j hj
  by_cases h':j<fr.length
  ·simp -implicitDefEqProofs[jJ,-qA,-qB,h',hlen];refine AA (Ah [0,1,0,7,15,0,32,0,224,480,1023]) [.any [] [] (Aq [[6],[70],[8],[71,72],[73],[7],[75],[8],[76,77],[78]]),.one] (by rfl) ?_
   simp -implicitDefEqProofs[jJ,-qA,-qB,h',i64];exact⟨by omega,by omega,by omega⟩
  ·simp -implicitDefEqProofs[jJ,-qA,-qB,h',hlen];exact⟨by omega,by omega,by omega⟩
 ·simp -implicitDefEqProofs[jJ,-qA,-qB,h]
def jcx:List (List Nat):=(Ah [0,0,3,7,0,0,48,112,255])
@[simp]def Y3:List Seg:=[.any [] [] (Aq [[0],[6],[59,60],[61],[0],[3],[63,64],[65]]),.one]
def okB(c:UInt8):Bool:=decide (c.toNat=36∨(48≤c.toNat∧c.toNat≤57)∨(65≤c.toNat∧c.toNat≤90)∨(97≤c.toNat∧c.toNat≤122))
def ND(ns:List ByteArray)(i:Nat):Bool:=match ns[i]? with
 |some s=>(B s).all okB&&((ns.take i).all (fun x=> !decide (x=s))&&decide (s.size≠0))
 |none=>true
def Rh(ns:List ByteArray):Bool:=(List.range ns.length).all (ND ns)
theorem jnf{c:UInt8}(h:okB c=true):Eb c=false∧HX c=false:=by
 unfold okB at h;rw[decide_eq_true_eq]at h;have n: ∀k:UInt8,¬c.toNat=k.toNat→(c==k)=false:=fun k hk=>beq_eq_false_iff_ne.2 fun q=>hk (by rw[q])
 have e: ∀k:Nat,(k=32∨k=9∨k=13∨k=10∨k=40∨k=41∨k=44)→ ¬c.toNat=k:=fun k hk=>by omega
 constructor
 ·unfold Eb;rw[n 32 (e 32 (by omega)),n 9 (e 9 (by omega)),n 13 (e 13 (by omega)),n 10 (e 10 (by omega))];rfl
 ·unfold HX;rw[n 40 (e 40 (by omega)),n 41 (e 41 (by omega)),n 44 (e 44 (by omega))];rfl
theorem jgB{ns:List ByteArray}(h:Rh ns=true):Mb ns:=by
 unfold Rh at h;rw[jzy]at h;have key: ∀(i:Nat) (hi:i<ns.length),(∀c∈B ns[i],okB c=true)∧(∀x∈ns.take i,x≠ns[i])∧ns[i].size≠0:=fun i hi=>by
  have q:=h i (List.mem_range.2 hi);unfold ND at q;rw[AD hi]at q;simp only[AR,jzy,decide_eq_true_eq,Bool.not_eq_true',decide_eq_false_iff_not]at q;exact q
 refine⟨fun s hs=> ?_,?_⟩
 ·obtain⟨i,hi,rfl⟩:=List.mem_iff_getElem.1 hs
  obtain⟨h1,_,h3⟩:=key i hi
  refine⟨fun e=>h3 (by rw[←Hg,e];rfl),fun c hc=> ?_⟩
  exact jnf (h1 c hc)
 ·refine List.pairwise_iff_getElem.2 fun i j hi hj hij=> ?_
  exact(key j hj).2.1 _ (List.mem_take_iff_getElem.2 ⟨i,by omega,rfl⟩)
theorem jlM(c:UInt8):(okB c=true∧(c.toNat=36∨(¬c.toNat=36∧ ¬c.toNat<48∧ ¬57<c.toNat)∨(¬c.toNat=36∧ ¬c.toNat<48∧57<c.toNat∧ ¬c.toNat<65∧ ¬90<c.toNat)∨
   (¬c.toNat=36∧ ¬c.toNat<48∧57<c.toNat∧ ¬c.toNat<65∧90<c.toNat∧ ¬c.toNat<97∧ ¬122<c.toNat)))∨
  (okB c=false∧((¬c.toNat=36∧c.toNat<48∧c.toNat<65∧c.toNat<97)∨(¬c.toNat=36∧ ¬c.toNat<48∧57<c.toNat∧c.toNat<65∧c.toNat<97)∨(¬c.toNat=36∧ ¬c.toNat<48∧57<c.toNat∧ ¬c.toNat<65∧90<c.toNat∧c.toNat<97)∨
   (¬c.toNat=36∧ ¬c.toNat<48∧57<c.toNat∧ ¬c.toNat<65∧90<c.toNat∧ ¬c.toNat<97∧122<c.toNat))):=by
 unfold okB;simp only[decide_eq_true_eq,decide_eq_false_iff_not];omega
theorem jgJ(ns:List ByteArray)(hN:ns.length≤60)(hS: ∀s∈ns,s.size≤30):CallsF Tryz.prog 6 [.c (A6 ns)] (.u (.c (.d (.bool (Rh ns))))):=by
 obtain⟨r,hr⟩: ∃r,r=Rh ns:=⟨_,rfl⟩
 rw[←hr]
 unfold Rh at hr;unfold A6;refine cO Tryz.func6 rfl ?_;simp -implicitDefEqProofs[jJ,-qA,-qB];refine AV (fun i:Nat=>⟨[(3,vI .i64 i),(0,vC (.d (EC D.str ns)))],[]⟩)
  (fun i=>i≤ns.length∧CB (ND ns) (List.range ns.length) i) (fun i=>ns.length - i) 0 (by simp[AW,lk,St.le,vI,vC]) ⟨by omega,HJ _ _⟩ ?_
 rintro i ⟨hi,he⟩
 by_cases h:i<ns.length
 ·have g0:ns[i]? =some ns[i]:=AD h
  have hl:i<(List.range ns.length).length:=by simpa using h
  have hs:ND ns i=true→CB (ND ns) (List.range ns.length) (i+1):=fun q=>Iu hl he (by simpa using q)
  have hn:ND ns i=false→(List.range ns.length).all (ND ns)=false:=fun q=>Is hl (by simpa using q)
  have hI:ND ns i=((B ns[i]).all okB&&((ns.take i).all (fun x=> !decide (x=ns[i]))&&decide (ns[i].size≠0))):=by unfold ND;rw[g0]
  clear he;have hz:(B ns[i]).length=ns[i].size:=Hg _;have hw3:=hS _ (AZ h);obtain⟨w,hw⟩: ∃w,w=ns[i]:=⟨_,rfl⟩;rw[←hw]at g0 hI hz hw3;have hw':ns[i]=w:=hw.symm;simp -implicitDefEqProofs[jJ,-qA,-qB,h];refine AV (fun k:Nat=>⟨[(4,vI .i64 k),(3,vI .i64 i),(0,vC (.d (EC D.str ns)))],[]⟩)
   (fun k=>k≤w.size∧CB okB (B w) k) (fun k=>w.size - k) 0 (by simp[AW,lk,St.le,vI,vC]) ⟨by omega,HJ _ _⟩ ?_
  rintro k ⟨hk,hek⟩
  by_cases h':k<w.size
  ·have gi:=SV w h';have h'':k<(B w).length:=by omega
   have ks:=fun q=>Iu h'' hek q
   have kn:=fun q=>Is h'' (p:=okB) q
   clear hek;generalize (B w)[k]=c at*;rcases jlM c with⟨q,hc⟩|⟨q,hc⟩
   ·rcases hc with hc|⟨c1,c2,c3⟩|⟨c1,c2,c3,c4,c5⟩|⟨c1,c2,c3,c4,c5,c6,c7⟩
    ·simp -implicitDefEqProofs[jJ,-qA,-qB,h,hw',h',gi,hc];exact⟨by omega,⟨by omega,ks q⟩,by omega⟩
    ·simp -implicitDefEqProofs[jJ,-qA,-qB,h,hw',h',gi,c1,c2,c3];exact⟨by omega,⟨by omega,ks q⟩,by omega⟩
    ·simp -implicitDefEqProofs[jJ,-qA,-qB,h,hw',h',gi,c1,c2,c3,c4,c5];exact⟨by omega,⟨by omega,ks q⟩,by omega⟩
    ·simp -implicitDefEqProofs[jJ,-qA,-qB,h,hw',h',gi,c1,c2,c3,c4,c5,c6,c7];exact⟨by omega,⟨by omega,ks q⟩,by omega⟩
   ·rw[hn (by rw[hI,kn q];rfl)]at hr
    subst hr;rcases hc with⟨c1,c2,c3,c4⟩|⟨c1,c2,c3,c4,c5⟩|⟨c1,c2,c3,c4,c5,c6⟩|⟨c1,c2,c3,c4,c5,c6,c7⟩
    ·simp -implicitDefEqProofs[jJ,-qA,-qB,h,hw',h',gi,c1,c2,c3,c4]
    ·simp -implicitDefEqProofs[jJ,-qA,-qB,h,hw',h',gi,c1,c2,c3,c4,c5]
    ·simp -implicitDefEqProofs[jJ,-qA,-qB,h,hw',h',gi,c1,c2,c3,c4,c5,c6]
    ·simp -implicitDefEqProofs[jJ,-qA,-qB,h,hw',h',gi,c1,c2,c3,c4,c5,c6,c7]
  ·have hk2:k=(B w).length:=by omega
   subst hk2;rw[HZ hek,Bool.true_and]at hI;simp -implicitDefEqProofs[jJ,-qA,-qB,h,hw',h',hz];refine AV (fun k:Nat=>⟨[(6,vI .i64 k),(3,vI .i64 i),(0,vC (.d (EC D.str ns)))],[]⟩)
    (fun k=>k≤i∧CB (fun x=> !decide (x=w)) (ns.take i) k) (fun k=>i - k) 0 (by simp[AW,lk,St.le,vI,vC]) ⟨by omega,HJ _ _⟩ ?_
   rintro k ⟨hk,hek⟩
   by_cases h1:k<i
   ·have hkn:k<ns.length:=by omega
    have g1:ns[k]? =some ns[k]:=AD hkn
    have h2:k<(ns.take i).length:=by rw[A8];omega
    have ks:=fun q=>Iu h2 hek q
    have kn:=fun q=>Is h2 (p:=fun x=> !decide (x=w)) q
    rw[List.getElem_take]at ks kn
    rcases MK ns[k] w with⟨e,eb⟩|⟨e,eb⟩
    ·rw[hn (by rw[hI,kn (by simp[e])];rfl)]at hr
     subst hr;simp -implicitDefEqProofs[jJ,-qA,-qB,h1];refine AA jcx Y3 (by rfl) ?_
     simp -implicitDefEqProofs[jJ,-qA,-qB,h,hkn,hw',g1,eb]
    ·simp -implicitDefEqProofs[jJ,-qA,-qB,h1];refine AA jcx Y3 (by rfl) ?_
     simp -implicitDefEqProofs[jJ,-qA,-qB,h,hkn,hw',g1,eb];exact⟨by omega,⟨by omega,ks (by simp[e])⟩,by omega⟩
   ·have hk2:k=i:=by omega
    subst hk2;have ha:(ns.take k).all (fun x=> !decide (x=w))=true:=by
     have hlk:(ns.take k).length=k:=by rw[A8];omega
     have:=HZ (l:=ns.take k) (p:=fun x=> !decide (x=w)) (by rw[hlk];exact hek)
     exact this
    rw[ha,Bool.true_and]at hI
    rcases MK w { data:= #[] } with⟨e,eb⟩|⟨e,eb⟩
    ·rw[hn (by rw[hI,e];rfl)]at hr
     subst hr;simp -implicitDefEqProofs[jJ,-qA,-qB,h,hw',eb]
    ·simp -implicitDefEqProofs[jJ,-qA,-qB,h,hw',eb];refine⟨by omega,⟨by omega,hs ?_⟩,by omega⟩
     rw[hI,decide_eq_true_eq]
     exact fun q=>e (by rw[←O9 w,jzv.1 (hz.trans q)];rfl)
 ·have hi2:i=(List.range ns.length).length:=by rw[List.length_range];omega
  subst hi2;rw[HZ he]at hr;subst hr;simp -implicitDefEqProofs[jJ,-qA,-qB]
end Go.Va
namespace Go.Proofs
open Go.Shelf
theorem Tryz.laysAtC:Go.Proofs.LaysC.n172 Tryz.prog Tryz.laysAt_ren:={
 toM:={
  ton172:=Tryz.laysAt
  t80:=Tryz.underlying61
  a80:=Tryz.isAgg61
  z80:=Tryz.sizeOf61
  v80:=Tryz.zeroValue61
  i0:=by kernel_rfl
  i2:=by kernel_rfl
  i3:=by kernel_rfl
  i4:=by kernel_rfl
  i5:=by kernel_rfl
  i9:=by kernel_rfl
  i20:=by kernel_rfl
  i21:=by kernel_rfl
  i37:=by kernel_rfl
  i46:=by kernel_rfl
  i51:=by kernel_rfl
  i53:=by kernel_rfl
  i75:=by kernel_rfl
  i76:=by kernel_rfl
  i80:=by kernel_rfl
  i85:=by kernel_rfl
  i127:=by kernel_rfl
  i143:=by kernel_rfl
  i145:=by kernel_rfl
  i167:=by kernel_rfl
  i168:=by kernel_rfl
  i171:=by kernel_rfl
  i173:=by kernel_rfl
  i175:=by kernel_rfl
  i210:=by kernel_rfl
  i212:=by kernel_rfl
  i232:=by kernel_rfl
  i233:=by kernel_rfl
  m15:=by kernel_rfl
  m16:=by kernel_rfl
  m17:=by kernel_rfl
  m18:=by kernel_rfl
  m19:=by kernel_rfl
 }
 c0:=by kernel_rfl
 c2:=by kernel_rfl
 c3:=by kernel_rfl
 c4:=by kernel_rfl
 c5:=by kernel_rfl
 c9:=by kernel_rfl
 c20:=by kernel_rfl
 c21:=by kernel_rfl
 c37:=by kernel_rfl
 c46:=by kernel_rfl
 c51:=by kernel_rfl
 c53:=by kernel_rfl
 c75:=by kernel_rfl
 c76:=by kernel_rfl
 c80:=by kernel_rfl
 c85:=by kernel_rfl
 c127:=by kernel_rfl
 c143:=by kernel_rfl
 c145:=by kernel_rfl
 c167:=by kernel_rfl
 c168:=by kernel_rfl
 c171:=by kernel_rfl
 c173:=by kernel_rfl
 c175:=by kernel_rfl
 c210:=by kernel_rfl
 c212:=by kernel_rfl
 c213:=by kernel_rfl
 c232:=by kernel_rfl
 c233:=by kernel_rfl
}
end Go.Proofs
namespace Go.Va
open Go.Proofs Go.RowKit
theorem jf7{l:List UInt8}{v:Int}(h:Lib.atoiAll l= .ok v): -9223372036854775808≤v∧v≤9223372036854775807:=by
 unfold Lib.atoiAll at h;split at h
 ·cases h
 ·simp only at h;split at h
  ·cases h
  ·cases h
  ·split at h
   ·cases h
   ·split at h
    ·cases h
    ·injection h with h
     subst h;split<;>omega
theorem jm3(hg: ∀w,GW w→R9 4 w∧R9 5 w)(s:ByteArray)(hs:s.size≤100000):Qf s:=by
 cases h:Lib.atoiAll s.data.toList with
 |ok v=>
  obtain⟨h1,h2⟩:=jf7 h
  refine⟨v,.lit .nilIface,?_,h1,h2,.inl rfl⟩
  refine Jv (D8 Tryz.func99 rfl (by decide)) (ds:=[D.int .i64 v,D.lit .nilIface]) fun w Z vals hZ hvs=> ?_
  obtain⟨x,rfl,hv⟩:=OK hvs
  clear hvs;cases hv;refine(Any.strconv_Atoi_ok Tryz.laysAtC s (by omega) v h w).mono ?_
  rintro e w' ⟨rfl,hw⟩
  refine⟨_,rfl,?_,rfl,fun j x v hx hv=> ?_⟩
  ·rcases hw with rfl|⟨t,rfl⟩
   ·exact Below.refl _ _
   ·exact YO w _ t
  ·match j,hx,hv with
   |0,hx,hv=>cases hx;cases hv;exact .int _ _
   |1,hx,hv=>cases hx;cases hv;exact .lit _ rfl
 |range=>
  have hsat: -9223372036854775808≤Lib.atoiSat s.data.toList∧Lib.atoiSat s.data.toList≤9223372036854775807:=by
   unfold Lib.atoiSat;split<;>decide
  refine⟨Lib.atoiSat s.data.toList,.nn,?_,hsat.1,hsat.2,.inr rfl⟩
  refine Jv (D8 Tryz.func99 rfl (by decide)) (ds:=[D.int .i64 (Lib.atoiSat s.data.toList),D.nn]) fun w Z vals hZ hvs=> ?_
  obtain⟨x,rfl,hv⟩:=OK hvs
  clear hvs;cases hv;obtain⟨ev,he,hev⟩:=(hg w hZ.gw).2;refine(Any.strconv_Atoi_range Tryz.laysAtC s (by omega) h ev w he hev).mono ?_
  rintro e w' ⟨N,rfl,hN,hc,hb⟩
  refine⟨_,rfl,hb,rfl,fun j x v hx hv=> ?_⟩
  match j,hx,hv with
  |0,hx,hv=>cases hx;cases hv;exact .int _ _
  |1,hx,hv=>cases hx;cases hv;exact .nn _ _
 |_=>
  refine⟨0,.nn,?_,by decide,by decide,.inr rfl⟩
  refine Jv (D8 Tryz.func99 rfl (by decide)) (ds:=[D.int .i64 0,D.nn]) fun w Z vals hZ hvs=> ?_
  obtain⟨x,rfl,hv⟩:=OK hvs
  clear hvs;cases hv;obtain⟨ev,he,hev⟩:=(hg w hZ.gw).1;refine(Any.strconv_Atoi_syntax Tryz.laysAtC s (by omega) h ev w he hev).mono ?_
  rintro e w' ⟨N,rfl,hN,hc,hb⟩
  refine⟨_,rfl,hb,rfl,fun j x v hx hv=> ?_⟩
  match j,hx,hv with
  |0,hx,hv=>cases hx;cases hv;exact .int _ _
  |1,hx,hv=>cases hx;cases hv;exact .nn _ _
end Go.Va
