/- a part of the proof -/
import Derived.Test.YtplacedebenpaaaGreatDoorEbo
import Derived.Test.YtplacedebenpaaaGreatDoorEaa
import Derived.Test.YtplacedebenpaaaGreatDoorEzL
import Derived.Test.YtplacedebenpaaaGreatDoorEak
set_option linter.all false
set_option maxHeartbeats 4000000
set_option maxRecDepth 10000
namespace Go.Va
open Int renaming natCast_add → qA, natCast_mul → qB
open Go.Proofs Go.Proofs.Tryz
theorem jwy(f:Fct)(e:f.Wide):CallsF prog 62 [.agg f.ds,.agg f.ds] (.u (.c (.d (.int .i64 0)))):=by
 obtain⟨k,a,n,m,d⟩:=f;obtain⟨g,j,l,o,p⟩:=e;simp only[Fct.ds]at*;refine cO func62 rfl ?_;simp -implicitDefEqProofs[jJ,-qA,-qB];refine AV (λi:Nat=>⟨[(5,vI .i64 i),(2,vC (.ptr 2 0)),(3,vC (.ptr 3 0))],[(3,.box [.d (.int .i64 k),.d (AT a),.d (.bool n),.d (Ad m),.d (Ad d)]),(2,.box [.d (.int .i64 k),.d (AT a),.d (.bool n),.d (Ad m),.d (Ad d)])]⟩) (λi=>i<=a.length) (λi=>a.length - i) 0 (by simp[AW,lk,St.le,vI,vC]) O ?_;rintro i hi;by_cases h:i<a.length
 ·simp -implicitDefEqProofs[jJ,-qA,-qB,h];refine AA (Ah [0,1,0,7,15,0,32,0,224,480,1023]) [.any [] [] (Aq [[2],[30],[5],[31,32],[33],[3],[35],[5],[36,37],[38]]),.one] O5 ?_;simp -implicitDefEqProofs[jJ,-qA,-qB,h,i64];exact⟨O,O,O⟩
 ·by_cases b:k=9
  ·have r:=jwF n m d l o g j;simp -implicitDefEqProofs[jJ,-qA,-qB,h,b]
   (first|refine Ac r ?_|refine Ae r ?_);simp -implicitDefEqProofs[jJ,-qA,-qB,b]
  ·simp -implicitDefEqProofs[jJ,-qA,-qB,h,b]
theorem jtD(f:Fct)(a:f.Wide):CallsF prog 30 [.agg f.ds,.agg f.ds] (.u (.c (.d (.bool true)))):=by
 have k:=jwy f a;clear a;simp only[Fct.ds]at*;refine cO func30 rfl ?_;simp -implicitDefEqProofs[jJ,-qA,-qB]
 (first|refine Ac k ?_|refine Ae k ?_);simp -implicitDefEqProofs[jJ,-qA,-qB]
theorem jxy(ds:List Der)(f:List Grd)(F: ∀x∈ds,x.fact.Wide/\x.frm.length<=1000)(z: ∀g∈f,g.Short)(y:ds.length<=100000)(E:f.length<=100000):
  CallsF prog 9 [.agg [Dh ds,Dd f],.agg [Dh ds,Dd f]] (.u (.c (.d (.bool true)))):=by
 have v:=jkK f z O;have l:(ds.flatMap Der.ds).length=ds.length*7:=So Der.ds_len ds;generalize Dd f=G at*;unfold Dh;refine cO func9 rfl ?_;simp -implicitDefEqProofs[jJ,-qA,-qB]
 (first|refine Ac v ?_|refine Ae v ?_);simp -implicitDefEqProofs[jJ,-qA,-qB];refine AV (λi:Nat=>⟨[(5,vI .i64 i),(2,vC (.ptr 2 0)),(3,vC (.ptr 3 0))],[(3,.box [.d (.slice ds.length (ds.flatMap Der.ds)),.d G]),(2,.box [.d (.slice ds.length (ds.flatMap Der.ds)),.d G])]⟩) (λi=>i<=ds.length) (λi=>ds.length - i) 0 (by simp[AW,lk,St.le,vI,vC]) O ?_;rintro i hi;by_cases h:i<ds.length
 ·have t:=Kp ds i h;have w:7<=ds.length*7 - i*7:=O;obtain⟨H,I⟩:=F _ (AZ h);have p:=jtD ds[i].fact H;simp only[Fct.ds]at p;simp -implicitDefEqProofs[jJ,-qA,-qB,h,l];refine AA (Ah [0,1,0,7,15,0,32,0,224,480,0,0,3103,8191]) [.any [] [6,7] [⟨0,[2],[6,7],[6,7],[]⟩,⟨0,[31],[6,7],[6,7],[]⟩,⟨0,[5],[6,7],[6,7],[]⟩,⟨0,[32,33],[6,7],[6,7],[]⟩,⟨0,[34],[6,7],[6,7],[]⟩,⟨0,[3],[6,7],[6,7],[]⟩,⟨0,[36],[6,7],[6,7],[]⟩,⟨0,[5],[6,7],[6,7],[]⟩,⟨0,[37,38],[6,7],[6,7],[]⟩,⟨0,[39],[6,7],[6,7],[]⟩,⟨1,[],[7],[7],[]⟩,⟨1,[],[6],[6],[]⟩,⟨2,[6,35],[],[],[6]⟩],.one] O5 ?_;have o:min 7 (ds.length*7 - i*7)=7:=O;generalize ds[i]=x at*;obtain⟨⟨k,a,n,m,d⟩,r,e⟩:=x;simp only at t p I;simp -implicitDefEqProofs[jJ,-qA,-qB,h,l,t,w,o]
  (first|refine Ac p ?_|refine Ae p ?_);have b:lenC (.d (AT e))=some e.length:=rfl;simp -implicitDefEqProofs[jJ,-qA,-qB,b];refine AV (λj:Nat=>⟨[(8,vI .i64 j),(5,vI .i64 i),(2,vC (.ptr 2 0)),(3,vC (.ptr 3 0)),(6,vC (.ptr 6 0)),(7,vC (.ptr 7 0))],
   [(7,.box [.d (.int .i64 k),.d (AT a),.d (.bool n),.d (Ad m),.d (Ad d),.d (.int .i64 r),.d (AT e)]),(6,.box [.d (.int .i64 k),.d (AT a),.d (.bool n),.d (Ad m),.d (Ad d),.d (.int .i64 r),.d (AT e)]),
   (3,.box [.d (.slice ds.length (ds.flatMap Der.ds)),.d G]),(2,.box [.d (.slice ds.length (ds.flatMap Der.ds)),.d G])]⟩) (λj=>j<=e.length) (λj=>e.length - j) 0 (by simp[AW,lk,St.le,vI,vC]) O ?_
  rintro j J;by_cases q:j<e.length
  ·simp -implicitDefEqProofs[jJ,-qA,-qB,q,b];refine AA (Ah [0,1,0,7,15,0,32,0,224,480,1023]) [.any [] [] (Aq [[6],[70],[8],[71,72],[73],[7],[75],[8],[76,77],[78]]),.one] O5 ?_;simp -implicitDefEqProofs[jJ,-qA,-qB,q,i64];exact⟨O,O,O⟩
  ·simp -implicitDefEqProofs[jJ,-qA,-qB,q,b];exact⟨O,O,O⟩
 ·simp -implicitDefEqProofs[jJ,-qA,-qB,h]
end Go.Va
namespace Go.Va
open _root_.Nat renaming beq → aD, beq_eq → aH
open _root_.Bool renaming false_eq_true → aG
mutual
def CC:D->D->Bool
 | .int k n,.int j g=>decide (k=j)&&decide (n=g)
 | .bool b,.bool h=>b==h
 | .str s,.str l=>decide (s.data.toList=l.data.toList)
 | .slice n e,.slice g a=>aD n g&&LP e a
 | .ref e,.ref a=>LP e a
 | .fn f e,.fn i a=>aD f i&&LP e a
 | .nilFn,.nilFn=>true
 | .nilPtr,.nilPtr=>true
 | .iface t e,.iface m a=>aD t m&&LP e a
 |_,_=>false
def LP:List D->List D->Bool
 |[],[]=>true
 |x::r,y::s=>CC x y&&LP r s
 |_,_=>false
end
mutual
theorem JU: ∀{x y:D},CC x y=true->x=y
 | .int k n,y,h=>by
  cases y<;>simp[CC]at h;rw[h.1,h.2]
 | .bool b,y,h=>by
  cases y<;>simp[CC]at h;rw[h]
 | .str s,y,h=>by
  cases y<;>simp[CC]at h;rename_i g;obtain⟨a⟩:=s;simp_all
 | .slice n e,y,h=>by
  cases y<;>simp[CC]at h;rw[h.1,Ed h.2]
 | .ref e,y,h=>by
  cases y<;>simp[CC]at h;rw[Ed h]
 | .fn f e,y,h=>by
  cases y<;>simp[CC]at h;rw[h.1,Ed h.2]
 | .nilFn,y,h=>by
  cases y<;>simp[CC]at h;rfl
 | .nilPtr,y,h=>by
  cases y<;>simp[CC]at h;rfl
 | .iface t e,y,h=>by
  cases y<;>simp[CC]at h;rw[h.1,Ed h.2]
 | .lit x,y,h=>by grind[CC]
 | .any,y,h=>by grind[CC]
 | .nn,y,h=>by grind[CC]
theorem Ed: ∀{l m:List D},LP l m=true->l=m
 |[],[],_=>rfl
 |[],_::_,h=>by simp[LP]at h
 |_::_,[],h=>by simp[LP]at h
 |x::r,y::s,h=>by
  simp only[LP,AR]at h;rw[JU h.1,Ed h.2]
end
def Kd:A->A->Bool
 | .c x,.c y=>CC x y
 | .agg xs,.agg a=>LP xs a
 |_,_=>false
theorem S7{x y:A}(h:Kd x y=true):x=y:=by
 cases x<;>cases y<;>simp only[Kd,aG]at h
 ·rw[JU h]
 ·rw[Ed h]
def B8{α:Type}(e:α->α->Bool):List α->List α->Bool
 |[],[]=>true
 |x::r,y::s=>e x y&&B8 e r s
 |_,_=>false
theorem Cw{α:Type}{e:α->α->Bool}(a: ∀x y,e x y=true->x=y): ∀{l m:List α},B8 e l m=true->l=m
 |[],[],_=>rfl
 |[],_::_,h=>by simp[B8]at h
 |_::_,[],h=>by simp[B8]at h
 |x::r,y::s,h=>by
  simp only[B8,AR]at h;rw[a _ _ h.1,Cw a h.2]
def E1:C->C->Bool
 | .d x,.d y=>CC x y
 | .nl,.nl=>true
 | .sl i o n,.sl j p m=>aD i j&&(aD o p&&aD n m)
 | .ptr i o,.ptr j p=>aD i j&&aD o p
 | .bad,.bad=>true
 | .mp q i,.mp r j=>(q==r)&&aD i j
 |_,_=>false
theorem Gk(x y:C)(h:E1 x y=true):x=y:=by
 cases x<;>cases y<;>simp[E1]at h
 ·rw[JU h]
 ·rfl
 ·grind
 ·rw[h.1,h.2]
 ·rfl
 ·rw[h.1,h.2]
def HH:U->U->Bool
 | .c x,.c y=>E1 x y
 | .agg a,.agg b=>B8 E1 a b
 | .clo f a,.clo g b=>aD f g&&B8 E1 a b
 |_,_=>false
theorem LM(x y:U)(h:HH x y=true):x=y:=by
 cases x<;>cases y<;>simp only[HH,aG,AR,aH]at h
 ·rw[Gk _ _ h]
 ·rw[Cw Gk h]
 grind[Cw,Gk]
def jpx:Ky->Ky->Bool
 | .s a,.s b=>decide (a.data.toList=b.data.toList)
 | .n a,.n b=>decide (a=b)
 |_,_=>false
def Lm(x y:Ky×Int):Bool:=jpx x.1 y.1&&decide (x.2=y.2)
theorem jkg(x y:Ky×Int)(h:Lm x y=true):x=y:=by
 obtain⟨x,n⟩:=x;obtain⟨y,m⟩:=y;simp only[Lm,AR,decide_eq_true_eq]at h;obtain⟨e,rfl⟩:=h;unfold jpx at e;split at e
 ·rename_i a b;obtain⟨⟨a⟩⟩:=a;simp_all
 ·grind
 ·cases e
def MP:Blk->Blk->Bool
 | .row a e p,.row b h q=>aD a b&&(LP e h&&(p==q))
 | .box e,.box h=>B8 E1 e h
 | .fbox f e,.fbox g h=>aD f g&&B8 E1 e h
 | .mp (.mp es),.mp (.mp i)=>B8 Lm es i
 | .mp (.it s p),.mp (.it t q)=>decide (s.data.toList=t.data.toList)&&aD p q
 | .gh e,.gh h=>B8 E1 e h
 |_,_=>false
theorem ZR{x y:Blk}(h:MP x y=true):x=y:=by
 unfold MP at h;split at h
 ·simp only[AR,aH,beq_iff_eq]at h;grind[Ed]
 ·rw[Cw Gk h]
 ·simp only[AR,aH]at h;rw[h.1,Cw Gk h.2]
 ·rw[Cw jkg h]
 ·rename_i s p t q;obtain⟨⟨a⟩⟩:=s;simp_all
 ·rw[Cw Gk h]
 ·cases h
def Kc(x y:Nat×Blk):Bool:=aD x.1 y.1&&MP x.2 y.2
theorem N3(x y:Nat×Blk)(h:Kc x y=true):x=y:=by
 obtain⟨i,b⟩:=x;obtain⟨j,c⟩:=y;simp only[Kc,AR,aH]at h;rw[h.1,ZR h.2]
def Mx:V->V->Bool
 | .u x,.u y=>HH x y
 | .tup xs,.tup a=>B8 HH xs a
 |_,_=>false
theorem jdL{x y:V}(h:Mx x y=true):x=y:=by
 cases x<;>cases y<;>simp only[Mx,aG]at h
 ·rw[LM _ _ h]
 ·rw[Cw LM h]
end Go.Va
namespace Go.Va
open Go.RowKit
variable [DrC]
variable [Gv]
def KE(k:Nat):List U->List (Nat×V)
 |[]=>[]
 |u::r=>(k,.u u)::KE (k+1) r
def St.initH(a:List U)(h:List (Nat×Blk)):St:={ t:=KE 0 a,h:=h }
def St.clean(ids:List Nat)(st:St):St:={ st.on (L7 ids)with h:=Ds (λi=> !ids.contains i) (st.on (L7 ids)).h }
def Cv:Nat:=3000000000000
def St.initG(b:List U)(a:List C)(h:List (Nat×Blk)):St:=St.initH b (h++[(Cv,.gh a)])
def C.dat:C->C
 | .nl=> .d (.slice 0 [])
 |c=>c
def Blk.dat:Blk->Blk
 | .box cs=> .box (cs.map C.dat)
 |b=>b
def St.fin(b:Option (List Nat))(st:St):St:=match b with
 |none=>st
 |some a=>{ st.freeze a with h:=(st.freeze a).h.map λe=>(e.1,e.2.dat) }
def Lc(T:AH)(j:List ResultVar)(g:List C)(b:List (Nat×Blk))(v:V)(e:Exit)(st:St):Prop:=
 (e= .ret\/e= .normal)/\ ∃(i:List (Nat×Nat)) (f:Option (List Nat)) (a:List C),lk Cv ((rns i st).fin f).h=some (.gh a)/\g=a.map (C.on (L7 (b.map (·.1))))/\let s:=((rns i st).fin f).clean (b.map (·.1));(s.res T j=some v\/ ∃k,((rns i st).fin f).res T j=some k/\v=k.on (L7 (b.map (·.1))))/\AW s.h b
section
variable {P:Program} {T:AH} {M Z:Addr->Prop} {w0 w:World} {ρ:AE} {st:St} {a:Act}
theorem Nv(ρ:AE)(w:World)(Z:Addr->Prop)(ids:List Nat):Cf ρ (Bj ids ρ) w w Z (L7 ids):=by
 intro c v h;have j:Keep w w (Ar ρ Z) (Ar (Bj ids ρ) Z):=Keep.mono λl f=>f.imp id λ⟨i,o,hi,f⟩=>⟨i,o,(A9 hi).2,f⟩
 have b: ∀i,c.id? =some i->ids.contains i=true->RepC (Bj ids ρ) w Z c v:=λi hi a=>RepC.keep j (λk e=>by rw[hi]at e;cases e;exact D5 (by simpa using a)) h;cases c with
 |d x=>exact RepC.keep j (λ_ h=>by cases h) h
 |nl=>exact h
 |bad=>exact h
 |sl i g n=>
  simp only[C.on,L7];split
  ·rename_i a;exact b i rfl a
  ·exact RepC.one h
 |ptr i g=>
  simp only[C.on,L7];split
  ·rename_i a;exact b i rfl a
  ·exact RepC.one h
 |mp q i=>
  simp only[C.on,L7];split
  ·rename_i a;exact b i rfl a
  ·exact RepC.one h
theorem Rel.clean(h:Rel M Z w0 ρ st a w)(ids:List Nat):Rel M Z w0 (Bj ids ρ) (st.clean ids) a w where
 fr:=h.fr
 heap:=⟨⟨λj o e=>h.heap.owns.cells j o (A9 e).2,λj y o z e l=>h.heap.owns.apart j y o z (A9 e).2 (A9 l).2,λj o e=>h.heap.owns.lim j o (A9 e).2⟩,λj b f=>by
  simp only[St.clean]at f;rw[FZ]at f;split at f
  ·cases f
  ·rename_i e;simp only[St.on]at f;rw[BN,jze]at f;obtain⟨r,k,rfl⟩:=f;obtain⟨o,g,x⟩:=h.heap.rep j r k;exact⟨o,(D5 (by simpa using e)).trans g,x.turn (Nv ρ w Z ids) (Keep.mono λq g=>g.imp id λ⟨i,o,hi,g⟩=>⟨i,o,(A9 hi).2,g⟩) (λ_ _ _=>rfl) (λ_ _ _ h=>h)⟩⟩
 mine:=λj o q e=>h.mine j o q (A9 e).2
 out:=h.out
 mz:=h.mz
 tmps:=λt v m=>by
  simp only[St.clean,St.on]at m;rw[BN,jze]at m;obtain⟨E,p,rfl⟩:=m;exact(h.tmps t E p).turn (Nv ρ w Z ids)
 defers:=h.defers
 mps:=h.mps.sub λj o e _=>(A9 e).2
theorem RepC.dat{c:C}{v:Value}(h:RepC ρ w Z c v):RepC ρ w Z c.dat v:=by
 cases c with
 |nl=>cases (show v=_ from h);exact .snil
 |_=>exact h
theorem Rel.fin(h:Rel M Z w0 ρ st a w)(q:Option (List Nat)): ∃m,Rel M Z w0 m (st.fin q) a w:=by
 cases q with
 |none=>exact⟨ρ,h⟩
 |some l=>
  have k:=h.freeze l;refine⟨_,k.fr,⟨k.heap.owns,λi b e=> ?_⟩,k.mine,k.out,k.mz,k.tmps,k.defers,k.mps⟩;simp only[St.fin]at e;rw[BN,jze]at e;obtain⟨p,f,rfl⟩:=e;obtain⟨o,F,t⟩:=k.heap.rep i p f;refine⟨o,F,?_⟩;cases p with
  |box K=>
   obtain⟨G,H,I,J⟩:=t;refine⟨G,by rw[List.length_map];exact H,I,λj c r=> ?_⟩;rw[Bf,jze]at r;obtain⟨x,g,rfl⟩:=r;obtain⟨v,y,z,E⟩:=J j x g;exact⟨v,y,z,E.dat⟩
  |_=>exact t
theorem Nc: ∀(a:List U) (k t:Nat) (v:V),lk t (KE k a)=some v->k<=t/\ ∃u,a[t - k]? =some u/\v= .u u
 |[],_,_,_,h=>by cases h
 |c::f,k,t,v,h=>by
  simp only[KE,lk]at h;split at h
  ·rename_i e;subst e;cases h;exact⟨AO _,c,O1,rfl⟩
  ·obtain⟨j,b,g,i⟩:=Nc f (k+1) t v h;exact⟨O,b,by rw[show t - k=t - (k+1)+1 by omega];simpa using g,i⟩
theorem Z3(r0:List (Nat×Nat))(hT:Dk P T)(hm:P.follows .mixedOrders=true){f:FuncId}{fn:Func}{c:Code}{us:List U}{gs gs':List C}{h h':List (Nat×Blk)}{v:V}(hf:P.funcs[f]? =some fn)(hb:fn.body=some c)
  (hname : (fn.name == "runtime.NumGoroutine") = false) (hn : us.length ≤ fn.ntmps) (hys : fn.ntmps ≤ YS) (hok : B6 fn.ntmps [] c = true) (hG : lk Cv h = none) (hng : ∀ i cs, lk i h ≠ some (.gh cs)) (hng' : ∀ i cs, lk i h' ≠ some (.gh cs))
  (hw:Bl P T c (rns r0 (St.initG us gs h)) (Lc T fn.results.toList gs' h' v)):GJ P f us gs gs' h h' v:=by
 refine⟨⟨fn,hf,by rw[hb];rfl,hname⟩,λ{G1} w Z ρ0 vals hZ hh hcz hl0 hvals=> ?_⟩;have hlen:vals.length=us.length:=hvals.1.symm;refine calls_of_wp hf hb ?_;generalize htm:(vals.toArray++Array.replicate (fn.ntmps - vals.toArray.size) undef)=tm;have hsz:tm.size=fn.ntmps:=by rw[<-htm];simp;omega
 have hgv: ∀t,t<vals.length->tm.getD t undef=vals.getD t undef:=λt ht=>by
  rw[<-htm,Cn,Array.getElem?_append_left (by simp;omega)];simp
 have hG0:ρ0 Cv=none:=by
  cases hq:ρ0 Cv with
  |none=>rfl
  |some o=>have:=hl0 _ _ hq;rw[hG]at this;cases this
 have hmp0:Mps ρ0 w:=Heap.mps hh hl0;let og:Own:={ g:=0,o:=0,sz:=0,room:=0,app:=false,nil:=true }
 let ρG:AE:=upd ρ0 Cv (some og);have hhas: ∀ad,¬og.has ad:=λad hh=>by cases hh.1
 have hgs1: ∀i o,ρG i=some o->(∃ad,o.has ad)->ρ0 i=some o:=λi o hi ⟨ad,ha⟩=>by
  by_cases e:i=Cv
  ·subst e;simp only[ρG,BZ]at hi;cases hi;exact(hhas ad ha).elim
  ·simpa only[ρG,BG _ _ e]using hi
 have hmono: ∀i o,ρ0 i=some o->ρG i=some o:=λi o hi=>by
  by_cases e:i=Cv
  ·subst e;rw[hG0]at hi;cases hi
  ·exact(BG _ _ e).trans hi
 have hout: ∀ad,Ar ρG Z ad->Ar ρ0 Z ad:=λad ho=>ho.imp id λ⟨i,o,hi,ho⟩=>⟨i,o,hgs1 i o hi ⟨ad,ho⟩,ho⟩
 have hcells: ∀ad,Cells ρG ad->Cells ρ0 ad:=λad ⟨i,o,hi,ho⟩=>⟨i,o,hgs1 i o hi ⟨ad,ho⟩,ho⟩
 have hC: ∀(c:C) (y:Value),RepC ρ0 w Z c y->RepC ρG w Z c y:=λc y hr=>by
  cases c with
  |d x=>exact RepD.keep (Keep.mono hout) hr
  |nl=>exact hr
  |bad=>exact hr
  |sl i off n=>obtain⟨o,ho,r⟩:=hr;exact⟨o,hmono i o ho,r⟩
  |ptr i off=>obtain⟨o,ho,r⟩:=hr;exact⟨o,hmono i o ho,r⟩
  |mp q i=>obtain⟨o,ho,r⟩:=hr;exact⟨o,hmono i o ho,r⟩
 have hU: ∀(u:U) (y:Value),RepU ρ0 w Z u y->RepU ρG w Z u y:=λu y hr=>by
  cases u with
  |c x=>exact hC x y hr
  |agg cs=>obtain⟨vs,hv,hl,hr⟩:=hr;exact⟨vs,hv,hl,λj x v hx hv=>hC x v (hr j x v hx hv)⟩
  |clo f cs=>obtain⟨vs,hv,hl,hr⟩:=hr;exact⟨vs,hv,hl,λj x v hx hv=>hC x v (hr j x v hx hv)⟩
 have hmpG:Mps ρG w:=λi o hi hm=>by
  by_cases e:i=Cv
  ·subst e;simp only[ρG,BZ]at hi;cases hi;cases hm.2
  ·simp only[ρG,BG _ _ e]at hi;exact hmp0 i o hi hm
 obtain⟨hho,hhr⟩:=hh;let G2:Gv:=⟨λj y=> ∃x,gs[j]? =some x/\RepC ρ0 w Z x y⟩
 have hheapG: @Heap G2 ρG w Z (h++[(Cv,.gh gs)]):=⟨⟨λi o hi hg j hj=>by
   by_cases e:i=Cv
   ·subst e;simp only[ρG,BZ]at hi;cases hi;cases hg
   ·simp only[ρG,BG _ _ e]at hi;exact hho.cells i o hi hg j hj,
  λi i' o o' hi hi' hne ad ho ho'=>hho.apart i i' o o' (hgs1 i o hi ⟨ad,ho⟩) (hgs1 i' o' hi' ⟨ad,ho'⟩) hne ad ho ho',
  λi o hi=>by
   by_cases e:i=Cv
   ·subst e;simp only[ρG,BZ]at hi;cases hi;exact Nat.zero_le _
   ·simp only[ρG,BG _ _ e]at hi;exact hho.lim i o hi⟩,λi b hb=>by
  rw[HQ]at hb;cases hl:lk i h with
  |some b2=>
   rw[hl]at hb;have hb:b2=b:=Bi hb;subst hb;obtain⟨o,ho,hr⟩:=hhr i _ hl;refine⟨o,hmono i o ho,?_⟩;cases b2 with
   |row sz cs app=>obtain⟨q1,q2,q3,q4,q5⟩:=hr;exact⟨q1,q2,q3,q4,λj x hx=>by obtain⟨v,hv,hd⟩:=q5 j x hx;exact⟨v,hv,hd.keep (Keep.mono hout)⟩⟩
   |box cs=>obtain⟨q1,q2,q3,q4⟩:=hr;exact⟨q1,q2,q3,λj x hx=>by obtain⟨v,hv,h1,hd⟩:=q4 j x hx;exact⟨v,hv,h1,hC _ _ hd⟩⟩
   |fbox f cs=>obtain⟨q1,q2,q3,v,hv,vs,hvs,hl,hd⟩:=hr;exact⟨q1,q2,q3,v,hv,vs,hvs,hl,λj x u hx hu=>hC _ _ (hd j x u hx hu)⟩
   |mp x=>exact hr
   |gh cs=>exact absurd hl (hng i cs)
  |none=>
   rw[hl]at hb;simp only[Option.none_or,lk]at hb;split at hb
   ·rename_i e;subst e;cases hb;exact⟨og,BZ _ _ _,rfl,⟨rfl,rfl⟩,λj x hx y ⟨x',hx',hr⟩=>by rw[hx]at hx';cases hx';exact hC _ _ hr⟩
   ·cases hb⟩
 have hrel: @Rel _ G2 (Cells ρ0) Z w ρG (St.initG us gs h) { tmps:=tm,defers:=[] } w:=
  {fr:=⟨rfl,DR.refl _,rfl,rfl,AO _,λa v _ h=>h,λ_ _ _=>rfl,λ_ _ _=>rfl⟩
   heap:=hheapG
   mine:=λi o ad hi ho=> .inl (hcells ad ⟨i,o,hi,ho⟩)
   out:=hZ
   mz:=hcz
   tmps:=λt v hv=>by
    obtain⟨_,u,hu,rfl⟩:=Nc us 0 t v hv;simp only[Nat.sub_zero]at hu;have ht:t<vals.length:=by rw[hlen];exact(jzg.1 hu).1
    rw[hgv t ht];exact hU _ _ (hvals.2 t u _ hu (by simp[ht]))
   defers:=rfl
   mps:=hmpG }
 have htr: ∀x r,lk YS (rns r0 (St.initG us gs h)).t≠some (.tr x r):=λx r hx=>by
  have hx:=TrLe.rns r0 (s:=St.initG us gs h) _ _ hx;obtain⟨_,_,_,he⟩:=Nc us 0 YS _ hx;cases he
 obtain⟨ρi,hrel1⟩:=Rel.rns r0 hrel;have hc:=Dr (P:=P) (T:=T) (X:=⟨Cells ρ0,Z,w,fn.ntmps,[],λk=>tm.getD k undef,none,λ_=>False,λ_=>False⟩) hT (λY' h=>by cases h) hm c (Lc T fn.results.toList gs' h' v) _ w hok
  ⟨_,_,_,_,_,⟨λk hk=>rfl,λ_=>⟨rfl,rfl,rfl⟩,hrel.fr.mono λ_ h=> .inl h,λ_ h=>h,λ_ h=> .inl h,λx r hx=>absurd hx (htr x r)⟩,hrel1,hsz,hw⟩
 refine hc.mono' λe a' w' hg=> ?_;obtain⟨M1,Z1,w1,ρ1,st,hL,h1,h2,hend,r1,fz,gs0,hgh,rfl,hres,hhp⟩:=hg;obtain⟨rfl,rfl,rfl⟩:=hL.plain rfl;obtain⟨ρ2,h30⟩:=Rel.rns r1 h1;obtain⟨ρ,h3⟩:=h30.fin fz;have h4:=Rel.clean h3 (h'.map (·.1));obtain⟨x,hx,hrx⟩: ∃x,(results fn a'.tmps).run P w'= .ok x w'/\RepV (Bj (h'.map (·.1)) ρ) w' Z1 v x:=by
  rcases hres with hres|⟨v0,hres,rfl⟩
  ·exact GT (P:=P) hT h4 hres
  ·obtain⟨x,hx,hrx⟩:=GT (P:=P) hT h3 hres;exact⟨x,hx,hrx.turn (Nv ρ w' Z1 _)⟩
 have hpost: ∃ρ',Fr (Cells ρ0) w1 w'/\ @Heap G1 ρ' w' Z1 h'/\(∀i o,ρ' i=some o->(lk i h').isSome=true)/\(∀ad,Cells ρ' ad->Cells ρ0 ad\/w1.heap.size<=ad.block)/\
   (∀(j:Nat) (c c':C),gs[j]? =some c->(gs0.map (C.on (L7 (h'.map (·.1)))))[j]? =some c'-> ∀y,RepC ρ0 w1 Z1 c y->RepC ρ' w' Z1 c' y)/\RepV ρ' w' Z1 v x:=by
  refine⟨Bj (h'.map (·.1)) ρ,h4.fr,@Heap.mk G1 _ _ _ _ h4.heap.owns λi b hb=> ?_,λi o hi=>UN (A9 hi).1,λad ⟨i,o,hi,ho⟩=>h4.mine i o ad hi ho,λj c c' hc hc' y hy=> ?_,hrx⟩
  ·obtain⟨o,ho,hr⟩:=h4.heap.rep i b (IN hhp i b hb);refine⟨o,ho,?_⟩;cases b with
   |gh cs=>exact absurd hb (hng' i cs)
   |_=>exact hr
  ·rw[Bf,jze]at hc';obtain⟨c0,hc0,rfl⟩:=hc';obtain⟨o,ho,_,_,hr⟩:=h3.heap.rep _ _ hgh;exact Nv ρ w' Z1 _ _ _ (hr j c0 hc0 y ⟨c,hc,hy⟩)
 rcases hend with rfl|rfl
 ·exact⟨h1.defers,x,hx,x,rfl,hpost⟩
 ·exact⟨h1.defers,x,hx,x,rfl,hpost⟩
end
end Go.Va
namespace Go.Va
open _root_.Nat renaming beq → aD
def BO{α:Type}(n:Nat)(k:Nat->α):α:=Nat.rec (motive:=λ_=>α) (k 0) (λp _=>k (p+1)) n
variable{α:Type}{st E:St}{g:FuncId}{K:St->Prop}{o:Oper}{k:Eff->Prop}{l:List Nat}
theorem BS(n:Nat)(k:Nat->α):BO n k=k n:=by cases n<;>rfl
def Jx{α:Type}:Int->(Int->α)->α
 | .ofNat n,k=>BO n λn=>k (.ofNat n)
 | .negSucc n,k=>BO n λn=>k (.negSucc n)
theorem P9(n:Int)(k:Int->α):Jx n k=k n:=by cases n<;>simp[Jx,BS]
def Ju{α:Type}:Bool->(Bool->α)->α
 |true,k=>k true
 |false,k=>k false
theorem MQ(b:Bool)(k:Bool->α):Ju b k=k b:=by cases b<;>rfl
def QQ{α:Type}(x:IntKind)(k:IntKind->α):α:=match x with| .i8=>k .i8| .i16=>k .i16| .i32=>k .i32| .i64=>k .i64| .u8=>k .u8| .u16=>k .u16| .u32=>k .u32| .u64=>k .u64
theorem jiB(x:IntKind)(k:IntKind->α):QQ x k=k x:=by cases x<;>rfl
mutual
def fD{α:Type}:D->(D->α)->α
 | .int q n,k=>QQ q λq=>Jx n λn=>k (.int q n)
 | .bool b,k=>Ju b λb=>k (.bool b)
 | .str s,k=>k (.str s)
 | .slice n a,k=>BO n λn=>De a λa=>k (.slice n a)
 | .ref a,k=>De a λa=>k (.ref a)
 | .fn f a,k=>BO f λf=>De a λa=>k (.fn f a)
 | .nilFn,k=>k .nilFn
 | .nilPtr,k=>k .nilPtr
 | .iface t a,k=>BO t λt=>De a λa=>k (.iface t a)
 | .lit x,k=>k (.lit x)
 | .any,k=>k .any
 | .nn,k=>k .nn
def De{α:Type}:List D->(List D->α)->α
 |[],k=>k []
 |x::r,k=>fD x λx=>De r λr=>k (x::r)
end
mutual
theorem J3{α:Type}: ∀(x:D) (k:D->α),fD x k=k x
 | .int q n,k=>by simp only[fD,jiB,P9]
 | .bool b,k=>by simp only[fD,MQ]
 | .str s,k=>by simp only[fD]
 | .slice n a,k=>by simp only[fD,BS,EX a]
 | .ref a,k=>by simp only[fD,EX a]
 | .fn f a,k=>by simp only[fD,BS,EX a]
 | .nilFn,k=>by simp only[fD]
 | .nilPtr,k=>by simp only[fD]
 | .iface t a,k=>by simp only[fD,BS,EX a]
 | .lit x,k=>by simp only[fD]
 | .any,k=>by simp only[fD]
 | .nn,k=>by simp only[fD]
theorem EX{α:Type}: ∀(l:List D) (k:List D->α),De l k=k l
 |[],k=>by simp only[De]
 |x::r,k=>by simp only[De,J3 x,EX r]
end
def Cg{α β:Type}(f:β->(β->α)->α):List β->(List β->α)->α
 |[],k=>k []
 |x::r,k=>f x λx=>Cg f r λr=>k (x::r)
theorem Cy{α β:Type}{f:β->(β->α)->α}(a: ∀x k,f x k=k x): ∀(l:List β) (k:List β->α),Cg f l k=k l
 |[],k=>rfl
 |x::r,k=>by simp only[Cg,a,Cy a r]
def HE{α:Type}(s:St)(k:St->α):α:=k s
theorem Jf(s:St)(k:St->α):HE s k=k s:=rfl
def fA{α:Type}:A->(A->α)->α
 | .c x,k=>fD x λx=>k (.c x)
 | .agg a,k=>De a λa=>k (.agg a)
theorem Qt(x:A)(k:A->α):fA x k=k x:=by cases x<;>simp only[fA,J3,EX]
def Ik{α:Type}:RC->(RC->α)->α
 | .d x,k=>fD x λx=>k (.d x)
 | .own a b e,k=>BO a λa=>BO b λb=>De e λe=>k (.own a b e)
theorem Uh(x:RC)(k:RC->α):Ik x k=k x:=by cases x<;>simp only[Ik,J3,BS,EX]
def Ii{α:Type}:RU->(RU->α)->α
 | .c x,k=>Ik x λx=>k (.c x)
 | .agg a,k=>Cg Ik a λa=>k (.agg a)
theorem RN(x:RU)(k:RU->α):Ii x k=k x:=by cases x<;>simp only[Ii,Uh,Cy (f:=Ik) Uh]
def fR{α:Type}:R->(R->α)->α
 | .u x,k=>Ii x λx=>k (.u x)
 | .tup a,k=>Cg Ii a λa=>k (.tup a)
theorem jf9(x:R)(k:R->α):fR x k=k x:=by cases x<;>simp only[fR,RN,Cy (f:=Ii) RN]
def IR{α:Type}(L:List (Nat×α)):List Nat->List (Nat×α)
 |[]=>[]
 |k::r=>match lk k L with|some v=>(k,v)::IR L r|none=>IR L r
theorem NJ{α:Type}(L:List (Nat×α)): ∀l,AW L (IR L l)
 |[]=>trivial
 |k::r=>by
  unfold IR;split
  ·rename_i v h;exact⟨h,NJ L r⟩
  ·exact NJ L r
structure Cal2 where
 a:FuncId->Nat->Nat->List D->List A->Option (Nat×List D)
 h:FuncId->List U->List (Nat×Blk)->List C->Option (List C×List (Nat×Blk)×V)
structure Sh2 where
 sz:FuncId->Option Nat
 sh:FuncId->Bool
structure CalOk (P:Program) (c:Cal2):Prop where
 a: ∀g sz n cs aa m cs',c.a g sz n cs aa=some (m,cs')->CallsA P g sz n cs aa m cs'
 h: ∀g us h gs gs' h' v,c.h g us h gs=some (gs',h',v)->GJ P g us gs gs' h h' v
def fC{α:Type}:C->(C->α)->α
 | .d x,k=>fD x λx=>k (.d x)
 | .nl,k=>k .nl
 | .sl i o n,k=>BO i λi=>BO o λo=>BO n λn=>k (.sl i o n)
 | .ptr i o,k=>BO i λi=>BO o λo=>k (.ptr i o)
 | .bad,k=>k .bad
 | .mp q i,k=>Ju q λq=>BO i λi=>k (.mp q i)
theorem Fp(c:C)(k:C->α):fC c k=k c:=by cases c<;>simp only[fC,J3,BS,MQ]
def fU{α:Type}:U->(U->α)->α
 | .c x,k=>fC x λx=>k (.c x)
 | .agg a,k=>Cg fC a λa=>k (.agg a)
 | .clo f a,k=>BO f λf=>Cg fC a λa=>k (.clo f a)
theorem Nj(u:U)(k:U->α):fU u k=k u:=by cases u<;>simp only[fU,Fp,BS,Cy (f:=fC) Fp]
def KO{α:Type}:List (Ky×Int)->(List (Ky×Int)->α)->α
 |[],k=>k []
 |(s,n)::r,k=>Jx n λn=>KO r λr=>k ((s,n)::r)
theorem NV{α:Type}: ∀(l:List (Ky×Int)) (k:List (Ky×Int)->α),KO l k=k l
 |[],k=>rfl
 |(s,n)::r,k=>by simp only[KO,P9,NV r]
def Ei{α:Type}:Nat×Blk->(Nat×Blk->α)->α
 |(i,.row e a app),k=>BO i λi=>BO e λe=>De a λa=>Ju app λapp=>k (i,.row e a app)
 |(i,.box a),k=>BO i λi=>Cg fC a λa=>k (i,.box a)
 |(i,.fbox f a),k=>BO i λi=>BO f λf=>Cg fC a λa=>k (i,.fbox f a)
 |(i,.mp (.mp b)),k=>BO i λi=>KO b λb=>k (i,.mp (.mp b))
 |(i,.mp (.it s p)),k=>BO i λi=>BO p λp=>k (i,.mp (.it s p))
 |(i,.gh a),k=>BO i λi=>Cg fC a λa=>k (i,.gh a)
theorem Ol(b:Nat×Blk)(k:Nat×Blk->α):Ei b k=k b:=by
 obtain⟨i,b⟩:=b;cases b with
 |row=>simp only[Ei,BS,EX,MQ]
 |box=>simp only[Ei,BS,Cy (f:=fC) Fp]
 |fbox=>simp only[Ei,BS,Cy (f:=fC) Fp]
 |mp x=>cases x<;>simp only[Ei,BS,NV]
 |gh=>simp only[Ei,BS,Cy (f:=fC) Fp]
def fV{α:Type}:V->(V->α)->α
 | .u u,k=>fU u λu=>k (.u u)
 | .tup a,k=>Cg fU a λa=>k (.tup a)
 | .tr x b,k=>k (.tr x b)
theorem ji4(v:V)(k:V->α):fV v k=k v:=by cases v<;>simp only[fV,Nj,Cy (f:=fU) Nj]
inductive PlE where
 |no
 |ex (pl:List (List Nat)) (sg:List Seg)
 |au (ov:List (Nat×(Nat×List Nat))) (ids:List Nat)
def CI:Operand->List Nat
 | .tmp n=>[n]
 |_=>[]
def Fj(ops:List Oper)(o:Oper):List Nat:=o.op.operands.toList.flatMap CI++(match o.guard with|some (g,_)=>((ops[g]?).bind (·.dst)).toList|none=>[])
def kO(o:Oper):Nat:=
 match o.op with
 | .alloc _=>1
 | .box _ _=>1
 | .buildSlice _ _ _=>1
 | .makeSlice _ _ _=>1
 | .assign (.const (.slice _ _ _))=>1
 | .store _ _ _=>2
 | .call c=>(match c.callee with
  | .value _=>1
  | .builtin .append=>3
  | .builtin .copy=>2
  |_=>0)
 |_=>0
def Bd(ops:List Oper):Nat->Nat->List Nat
 |0,_=>[]
 |n+1,t=>match ops.find? λo=>match o.dst with|some d=>aD d t|none=>false with
  |none=>[]
  |some o=>match kO o,o.op with
   |1,_=>[t]
   |3,_=>[t]
   |_,.move (.tmp s)=>Bd ops n s
   |_,.assign (.tmp s)=>Bd ops n s
   |_,.nilCheck (.tmp s)=>Bd ops n s
   |_,.fieldAddr _ (.tmp s) _=>Bd ops n s
   |_,.indexAddr _ (.tmp s) _=>Bd ops n s
   |_,_=>[]
def Ez(ops:List Oper)(o:Oper):List Nat:=
 match kO o with
 |2=>(o.op.operands.toList.flatMap CI).take 1|>.flatMap (Bd ops 20)
 |3=>(o.op.operands.toList.flatMap CI).take 1|>.flatMap (Bd ops 20)
 |_=>[]
def BI(m j:Nat):Bool:=aD (m/2^j%2) 1
def BV:List Oper->List Nat->List Nat
 |[],acc=>acc
 |o::r,acc=>BV r (acc++[o.after.toList.foldl (λm e=>if Region.binds .any e then m|||(2^e.on)|||acc.getD e.on 0 else m) 0])
def EQ(n:Nat)(l:List Nat):List (List Nat):=l.map λm=>(List.range n).filter (BI m)
def Er(x:Option Nat×(Nat×List Nat)):List Nat:=(match x.2.1 with|1=>x.1.toList|3=>x.1.toList|5=>x.1.toList|_=>[])++x.2.2
def DK(x:Option Nat×(Nat×List Nat)):List Nat:=match x.2.1 with|0=>[]|2=>[]|_=>x.1.toList
def By:Option Nat×(Nat×List Nat):=(none,0,[])
def D9(ops:List Oper)(ms:List Nat)(a:List (Option Nat×(Nat×List Nat)))(L:List Nat)(i:Nat):DI:=
 ⟨(a.getD i By).2.1,match ops[i]? with|some o=>Fj ops o|none=>[],L.flatMap λj=>if aD j i||(BI (ms.getD i 0) j||BI (ms.getD j 0) i) then [] else Er (a.getD j By),
  L.flatMap λj=>if aD j i||BI (ms.getD i 0) j then [] else DK (a.getD j By),(a.getD i By).2.2⟩
def Di(ops:List Oper)(ms:List Nat)(e:List (Option Nat×(Nat×List Nat)))(ids:List Nat):List Nat->List Seg
 |a::b::r=>(if aD b (a+1) then Seg.one else .any ids ((List.range' a (b - a)).flatMap λj=>DK (e.getD j By)) ((List.range' a (b - a)).map (D9 ops ms e (List.range' a (b - a)))))::Di ops ms e ids (b::r)
 |_=>[]
def Fk(ms:List Nat):List Nat:=(List.range (ms.length+1)).filter λm=>(ms.drop m).all λx=>aD (x%2^m) (2^m - 1)
def DG(ops:List Oper)(a:List (Nat×(Nat×List Nat)))(ids:List Nat):List (List Nat)×List Seg:=
 (EQ ops.length (BV ops []),Di ops (BV ops []) (ops.zipIdx.map λx=>(x.1.dst,match lk x.2 a with|some k=>k|none=>(kO x.1,Ez ops x.1))) ids (Fk (BV ops [])))
def Ef(g:List (Nat×PlE))(i:Nat)(ops:List Oper):Option (List (List Nat)×List Seg):=
 match lk i g with
 |none=>some (DG ops [] [])
 |some .no=>none
 |some (.ex a b)=>some (a,b)
 |some (.au f e)=>some (DG ops f e)
section
variable (T:AH) (cal:FuncId->List A->Option R) (sA:Sh2) (calA:Cal2)
def Mh(dst:Option Nat)(st:St)(g sz:Nat)(m:List U):Option St:=
 match m,dst with
 | .c .nl::b,some d=>let e:=st.reachU b;(b.mapM (U.toA e st.h)).bind λf=>(calA.a g sz 0 [] f).map λr=>(((((st.freeze e).new d (.row sz [] true)).drop d).new d (.row sz r.2 true)).put (some d) (vC (.sl d 0 r.1)))
 | .c (.sl k 0 n)::b,some d=>
  let e:=(st.reachU b).filter λi=>i !=k;let j:=st.freeze e
  match lk k j.h with
  |some (.row z l true)=>if z=sz then (b.mapM (U.toA e st.h)).bind λf=>(calA.a g sz n l f).map λr=>((j.drop k).new d (.row sz r.2 true)).put (some d) (vC (.sl d 0 r.1)) else none
  |_=>none
 |_,_=>none
def KC(a:List U):List Nat:=a.flatMap λu=>u.all.filterMap C.id?
def clos(h:List (Nat×Blk)):Nat->List Nat->List Nat->List Nat
 |0,_,seen=>seen
 |_+1,[],seen=>seen
 |n+1,i::r,seen=>if seen.contains i then clos h n r seen else match lk i h with
  |some (.box bs)=>clos h n (bs.filterMap C.id? ++r) (i::seen)
  |some (.fbox _ bs)=>clos h n (bs.filterMap C.id? ++r) (i::seen)
  |some _=>clos h n r (i::seen)
  |none=>clos h n r seen
def Gx(h:List (Nat×Blk))(all:List Nat):List Nat->List (Nat×Blk)
 |[]=>[]
 |i::r=>match lk i h with|some b=>(i,b.on (L7 all))::Gx h all r|none=>Gx h all r
def ML:Nat:=100000
def Ek(h:List (Nat×Blk)):Nat:=h.foldl (λm e=>if Nat.blt e.1 Cv&&Nat.ble m e.1 then e.1 else m) ML
def Sv(h:List (Nat×Blk)):List Nat:=match lk (Ek h) h with|some _=>[Ek h]|none=>[]
def EB(ids:List Nat):List C->List C->List C
 |[],a=>a
 |c::r,a=>match c.id? with
  |some i=>if ids.contains i then (if a.any (C.same c) then EB ids r a else EB ids r (c::a)) else EB ids r a
  |none=>EB ids r a
def I0(ids:List Nat):List U->List C->List C
 |[],a=>a
 | .c x::r,a=>I0 ids r (EB ids [x] a)
 | .agg b::r,a=>I0 ids r (EB ids b a)
 | .clo _ b::r,a=>I0 ids r (EB ids b a)
def Jq(ids:List Nat):List (Nat×V)->List C->List C
 |[],a=>a
 |(_,.u u)::r,a=>Jq ids r (I0 ids [u] a)
 |(_,.tup b)::r,a=>Jq ids r (I0 ids b a)
 |(_,.tr _ _)::r,a=>Jq ids r a
def Hu(ids:List Nat):List (Nat×Blk)->List C->List C
 |[],a=>a
 |(i,b)::r,a=>if ids.contains i then Hu ids r a else match b with
  | .box e=>Hu ids r (EB ids e a)
  | .fbox _ e=>Hu ids r (EB ids e a)
  | .gh e=>Hu ids r (EB ids e a)
  |_=>Hu ids r a
def jen:V->Bool
 | .tr _ _=>false
 |_=>true
def Nt(dst:Option Nat)(st:St)(g:FuncId)(e:List U):Option St:=
 let a:=clos st.h 1000 (KC e++Sv st.h) []
 if a.all (λi=>(lk i st.h).isSome)=true then
  Cg fC (Hu a st.h (Jq a st.t [])) λb=>(calA.h g (e.map (U.on (L7 a))) (Gx st.h a a) b).bind λr=>
   if jen r.2.2=true then some (st.backH dst a ((r.2.1.map (·.1)).filter λi=> !a.contains i) b r.1 r.2.1 r.2.2) else none
 else none
def jhx(dst:Option Nat)(st:St)(g:FuncId)(caps:List D)(a:List U):Option St:=
 match sA.sz g,caps with
 |some e,[]=>Mh calA dst st g e a
 |_,_=>if sA.sh g=true/\caps=[] then Nt calA dst st g a else (st.argsW (st.reachU a) a caps).bind λb=>(cal g b).map λr=>st.back dst (st.reachU a) r
def PU(dst:Option Nat)(st:St)(a:List U)(u:U):Option St:=
 match u with
 | .c (.d (.fn g caps))=>jhx cal sA calA dst st g caps a
 | .clo g b=>jhx cal sA calA dst st g [] (a++b.map .c)
 |_=>none
def JZ(o:Oper)(st:St):Option St:=
 match o.op with
 | .call { callee:= .value f,args,.. }=>(st.evU f).bind λu=>(args.toList.mapM st.evU).bind λa=>PU cal sA calA o.dst st a u
 |_=>DH T o st
def KR(ops:List Oper)(o:Oper)(st:St):Option St:=
 match o.guard with
 |none=>JZ T cal sA calA o st
 |some (j,a)=>
  match (ops[j]?).bind (·.dst)with
  |some d=>
   (match lk d st.t with
   |some (.u (.c (.d (.bool b))))=>if b=a then JZ T cal sA calA o (st.put (some d) (vB a)) else some ((st.put (some d) (vB !a)).put o.dst (.tup []))
   |some (.tup [])=>some (st.put o.dst (.tup []))
   |_=>none)
  |none=>none
def H2(ops:List Oper):List Oper->St->Option St
 |[],st=>some st
 |o::r,st=>(KR T cal sA calA ops o st).bind (H2 ops r)
def JW(d:Option Nat)(E:St)(g:FuncId)(caps:List D)(a:List U):Option Eff:=
 (E.argsW (E.reachU a) a caps).bind λb=>(cal g b).bind λr=>if r.flat=true\/FY a=true then some (Ec d r) else none
def Kh(o:Oper)(E:St):Option Eff:=
 match o.op with
 | .call { callee:= .value f,args,.. }=>(E.evU f).bind λu=>(args.toList.mapM E.evU).bind λa=>
  (match u with
  | .c (.d (.fn g caps))=>JW cal o.dst E g caps a
  | .clo g b=>JW cal o.dst E g [] (a++b.map .c)
  |_=>none)
 |_=>effOp T o E
def JL(a:Bool)(v:Option V)(e:Option Eff):Option Eff:=
 match v with
 |some (.u (.c (.d (.bool b))))=>if b=a then e else some (.val (.tup []))
 |some (.tup [])=>some (.val (.tup []))
 |_=>none
def JH(ops:List Oper)(o:Oper)(E:St):Option Eff:=
 match o.guard with
 |none=>Kh T cal o E
 |some (j,a)=>match (ops[j]?).bind (·.dst)with|some d=>JL a (lk d E.t) (Kh T cal o E)|none=>none
def K4(ops:List Oper)(o:Oper)(E:St):Option Eff:=
 match o.guard with
 |none=>GG T o E
 |some (j,a)=>match (ops[j]?).bind (·.dst)with|some d=>JL a (lk d E.t) (GG T o E)|none=>none
def NR(o:Oper)(E:St):Option Eff:=
 match o.guard,o.op with
 |none,.call { callee:= .value f,args,.. }=>(E.evU f).bind λu=>(args.toList.mapM E.evU).bind λl=>
  (match u with
  | .c (.d (.fn g []))=>(sA.sz g).bind λi=>(match l,o.dst with
   | .c (.sl b 0 n)::e,some d=>(match lk b E.h with
    |some (.row z k true)=>if z=i then (e.mapM (U.toA [] E.h)).bind λj=>(calA.a g i n k j).map λr=> .app b (.row i r.2 true) (vC (.sl d 0 r.1)) else none
    |_=>none)
   | .c .nl::e,some d=>(e.mapM (U.toA [] E.h)).bind λj=>(calA.a g i 0 [] j).map λr=> .new (.row i r.2 true) (vC (.sl d 0 r.1))
   |_,_=>none)
  |_=>none)
 |_,_=>none
def TS(d:Option Nat)(x:Eff):Option Eff:=
 match x with
 | .new (.row sz b true) (.u (.c (.sl e 0 a)))=>if d=some e/\b.length=a*sz then some (.dat (.slice a b)) else none
 | .val v=>some (.val v)
 |_=>none
def Hv(ops:List Oper):List DI->List Oper->St->Option (List Oper×St)
 |[],a,S=>some (a,S)
 |i::b,o::r,S=>
  (if i.k=4 then K4 T ops o (seen i S) else if i.k=5 then NR sA calA o (seen i S) else if i.k=6 then (JH T cal ops o (seen i S)).bind (TS o.dst) else JH T cal ops o (seen i S)).bind λx=>
   if DF i (o.dst.getD 0) x=true then Hv ops b r (L9 o.dst x S) else none
 |_::_,[],_=>none
def Rr(st:St)(a:List Nat):List Nat:=(a.flatMap λt=>match lk t st.t with|some (.u u)=>DZ st.h 5 u.all|_=>[]).filter λi=>match lk i st.h with|some (.row ..)=>true|_=>false
def GQ(f:Nat->Option (List St)):List Nat->Option (List St)
 |[]=>some []
 |i::r=>(f i).bind λa=>(GQ f r).map λb=>a++b
def FR(ops a:List Oper)(b:List (List Nat)):Nat->List Nat->St->Option (List St)
 |0,_,st=>some [st]
 |n+1,L,st=>GQ (λi=>(a[i]?).bind λo=>(KR T cal sA calA ops o st).bind λs=>FR ops a b n (i::L) s) ((List.range a.length).filter λi=> !L.contains i&&(b.getD i []).all (L.contains ·))
def Gg{α:Type}(e:α->α->Bool)(f:St->List (Nat×α))(a:List St)(l:List (Nat×α)):List (Nat×α):=l.filter λx=>a.all λs=>match lk x.1 (f s)with|some v=>e v x.2|none=>false
def Fm(ops:List Oper):List Seg->List Oper->St->Option St
 |[],_,st=>some st
 | .one::r,o::a,st=>(KR T cal sA calA ops o st).bind λs=>Fm ops r a s
 | .one::_,[],_=>none
 | .rn l::r,a,st=>Fm ops r a (rns l st)
 | .all pl::r,a,st=>(FR T cal sA calA ops (a.take pl.length) pl pl.length [] st).bind λb=>match b with
  |[]=>none
  |s1::_=>Fm ops r (a.drop pl.length) ⟨Gg Mx St.t b s1.t,Gg MP St.h b s1.h⟩
 | .any ts e f::r,a,st=>(Hv T cal sA calA ops f a (purges e (st.freeze (Rr st ts)))).bind λp=>Fm ops r p.1 p.2
def I4{α:Type}(L:List (Nat×α)):List (Nat×α)->List (Nat×α)
 |[]=>[]
 |(k,_)::r=>match lk k L with
  |some v=>(k,v)::I4 L r
  |none=>I4 L r
def Hj(l:List Nat)(s:St):St:=⟨IR s.t l,I4 s.h s.h⟩
def HF(l:List Nat)(f:St->Option (Exit×St)):Nat->St->Option (Exit×St)
 |0,_=>none
 |n+1,st=>(f st).bind λp=>match p.1 with| .normal=>HE (Hj l p.2) λs=>HF l f n s|_=>some p
abbrev HA:=Nat->List Oper->Option (List (List Nat)×List Seg)
def evC(e:HA)(l:List Nat)(N:Nat):Code->St->Option (Exit×St)
 | .skip,st=>some (.normal,st)
 | .region id f g,st=>
  if g then (e id f.toList).bind λp=>(Fm T cal sA calA f.toList p.2 f.toList st).bind λs=>HE s λs=>some (.normal,s)
  else (H2 T cal sA calA f.toList f.toList st).bind λs=>HE s λs=>some (.normal,s)
 | .seq a b,st=>(evC e l N a st).bind λp=>match p.1 with| .normal=>evC e l N b p.2|_=>some p
 | .cond c x y,st=>match st.evB c with|some true=>evC e l N x st|some false=>evC e l N y st|none=>none
 | .block id c,st=>(evC e l N c st).map λp=>match p.1 with| .exit j=>if j=id then (.normal,p.2) else p|_=>p
 | .loop c,st=>HE (Hj l st) λs=>HF l (evC e l N c) N s
 | .exit id,st=>some (.exit id,st)
 | .ret,st=>some (.ret,st)
 | .scope c,st=>(evC e l N c st).bind λp=>match p.1 with| .goto _=>none|_=>some p
 | .label _,st=>some (.normal,st)
 |_,_=>none
def Cq(e:HA):Code->Bool
 | .region id g f=> !f||(match e id g.toList with|some p=>Jy g.toList p.1 p.2|none=>true)
 | .seq a b=>Cq e a&&Cq e b
 | .cond _ x y=>Cq e x&&Cq e y
 | .block _ c=>Cq e c
 | .loop c=>Cq e c
 | .scope c=>Cq e c
 |_=>true
def Ur(st:St):C->Bool
 | .sl i 0 n=>(match lk i st.h with|some (.row b a true)=>decide (a.length=n*b)|_=>false)
 |_=>false
def I6(st:St)(c:C):Option RC:=
 match c with
 | .sl i 0 n=>(match lk i st.h with|some (.row b a true)=>if a.length=n*b then some (.own b n a) else none|_=>none)
 |_=>none
def KB(st:St)(pure:Bool)(c:C):Option RC:=if pure=true/\c.id?.isSome=true then none else (st.cD c).map .d
def EN(st:St)(pure:Bool):U->Option RU
 | .c x=>(KB st pure x).map .c
 | .agg cs=>(cs.mapM (KB st pure)).map .agg
 | .clo _ _=>none
def NH(st:St)(v:V):Option R:=
 match v with
 | .u (.c x)=>if Ur st x then (I6 st x).map λr=> .u (.c r) else (EN st false (.c x)).map .u
 | .u u=>(EN st false u).map .u
 | .tup (.c x::a)=>if Ur st x&&a.all (λu=>u.all.all λc=>c.id?.isNone) then (I6 st x).bind λr=>(a.mapM (EN st true)).map λb=> .tup (.c r::b)
  else ((U.c x::a).mapM (EN st false)).map .tup
 | .tup a=>(a.mapM (EN st false)).map .tup
 |_=>none
end
section
variable {P:Program} {T:AH} {cal:FuncId->List A->Option R} {sA:Sh2} {calA:Cal2}
theorem jhb(j:CalOk P calA){dst:Option Nat}{s:St}{g sz:Nat}{m:List U}
  (h:Mh calA dst st g sz m=some s) (l:K s):DM P dst st K g [] m:=by
 unfold Mh at h;split at h
 ·rename_i e d;simp only[jzd,jze]at h;obtain⟨f,b,r,i,rfl⟩:=h;exact .inr (.inr (.inr (.inr (.inl (.inr (.inr (.inr (.inr (.inl ⟨rfl,_,sz,r.1,d,r.2,e,f,rfl,b,rfl,j.a _ _ _ _ _ _ _ i,l⟩)))))))))
 ·rename_i k n e d;simp only at h;split at h
  ·rename_i z o p;split at h
   ·rename_i q;subst q;simp only[jzd,jze]at h;obtain⟨f,b,r,i,rfl⟩:=h;refine .inr (.inr (.inr (.inr (.inl (.inr (.inr (.inr (.inl ⟨rfl,_,k,n,z,r.1,d,o,r.2,e,f,rfl,?_,p,b,rfl,j.a _ _ _ _ _ _ _ i,l⟩))))))));simp
   ·cases h
  ·cases h
 ·cases h
theorem K3{h:List (Nat×Blk)}{all:List Nat}{i:Nat}{b:Blk}: ∀{l:List Nat},lk i (Gx h all l)=some b->i∈l/\ ∃f,lk i h=some f/\b=f.on (L7 all)
 |[],a=>by cases a
 |j::r,a=>by
  unfold Gx at a;split at a
  ·rename_i f m;by_cases e:i=j
   ·subst e;rw[Bt]at a;cases a;exact⟨O1,f,m,rfl⟩
   ·rw[BD e]at a;obtain⟨g,k⟩:=K3 a;exact⟨by simp[g],k⟩
  ·obtain⟨g,k⟩:=K3 a;exact⟨by simp[g],k⟩
theorem TR{h:List (Nat×Blk)}{all:List Nat}{i:Nat}(hi:(lk i h).isSome=true): ∀{l:List Nat},i∈l->(lk i (Gx h all l)).isSome=true
 |j::r,g=>by
  unfold Gx;by_cases e:i=j
  ·subst e;obtain⟨b,f⟩:=Option.isSome_iff_exists.1 hi;rw[f];dsimp only;rw[Bt];rfl
  ·have a:=TR (all:=all) hi (l:=r) (by simpa [e]using g);split
   ·rw[BD e];exact a
   ·exact a
theorem jjR(o:CalOk P calA){dst:Option Nat}{s:St}{m:List U}(h:Nt calA dst st g m=some s)(p:K s):Rx P dst st K g [] m:=by
 unfold Nt at h;simp only at h;generalize clos st.h 1000 (KC m++Sv st.h) []=k at h;split at h
 case isFalse=>cases h
 rename_i a;rw[jzy]at a;rw[Cy (f:=fC) Fp,jzd]at h;obtain⟨r,t,h⟩:=h;split at h
 case isFalse=>cases h
 rename_i j;cases h;refine⟨rfl,_,r.1,_,r.2.1,r.2.2,k,_,o.h _ _ _ _ _ _ _ t,λx q e=>(by rw[e]at j;cases j),⟨λi b l=>K3 l,λi hi=>TR (a i hi) hi,λi b l=> ?_⟩,p⟩;by_cases e:i∈k
 ·exact .inl e
 ·refine .inr ?_;rw[List.mem_filter];exact⟨RP l,by simpa using e⟩
theorem UM(j: ∀g a r,cal g a=some r->CallsF P g a r)(f:CalOk P calA){dst:Option Nat}{s:St}{caps:List D}{i:List U}
  (h:jhx cal sA calA dst st g caps i=some s) (e:K s):DM P dst st K g caps i:=by
 unfold jhx at h;split at h
 ·exact jhb f h e
 ·split at h
  case isTrue l=>
   obtain⟨_,rfl⟩:=l;exact .inr (.inr (.inr (.inr (.inl (.inr (.inr (.inr (.inr (.inr (jjR f h e))))))))))
  simp only[jzd,jze]at h;obtain⟨a,b,r,k,rfl⟩:=h;exact .inl ⟨a,b,r,j _ _ _ k,e⟩
theorem Sa(l: ∀g j r,cal g j=some r->CallsF P g j r)(k:CalOk P calA){s:St}
  (h:JZ T cal sA calA o st=some s) (b:K s):wpOp P T o st K:=by
 unfold JZ at h;unfold wpOp;split at h
 ·rename_i f args m i;rw[i];simp only[jzd]at h;obtain⟨u,q,p,a,h⟩:=h;refine⟨u,q,?_⟩;unfold PU at h;unfold Eh;split at h
  ·exact⟨p,a,UM l k h b⟩
  ·exact⟨p,a,UM l k h b⟩
  ·cases h
 ·rename_i e;split
  ·rename_i f args m i;exact absurd i (e f args m)
  ·exact⟨s,h,b⟩
theorem QE(p: ∀g l r,cal g l=some r->CallsF P g l r)(m:CalOk P calA){ops:List Oper}{s:St}
  (h:KR T cal sA calA ops o st=some s) (a:K s):Ca P T ops o st K:=by
 unfold KR at h;unfold Ca;split at h
 ·rename_i k;rw[k];exact Sa p m h a
 ·rename_i j q k;rw[k];dsimp only;split at h
  ·rename_i d t;rw[t];dsimp only;unfold EW;split at h
   ·rename_i b i;rw[i];dsimp only;split at h
    ·rename_i e;exact⟨λ_=>Sa p m h a,λf=>by subst e;cases b<;>cases f⟩
    ·rename_i e;refine⟨λf=>absurd f e,λ_=> ?_⟩;unfold Gr;cases h;exact a
   ·rename_i i;rw[i];dsimp only;unfold Gr;cases h;exact a
   ·cases h
  ·cases h
theorem Tv(f: ∀g b r,cal g b=some r->CallsF P g b r)(e:CalOk P calA){ops:List Oper}: ∀{l:List Oper} {st s:St} {K:St->Prop},
  H2 T cal sA calA ops l st=some s->K s->Xj P T ops l st K
 |[],st,s,K,h,a=>by
  simp only[H2,Option.some.injEq]at h;subst h;exact a
 |o::r,st,s,K,h,a=>by
  simp only[H2,jzd]at h;obtain⟨k,i,j⟩:=h;exact QE f e i (Tv f e j a)
theorem NU(f: ∀g a r,cal g a=some r->CallsF P g a r){d:Option Nat}{caps:List D}{e:List U}{x:Eff}(h:JW cal d E g caps e=some x)(j:k x):GZ P d E k g caps e:=by
 unfold JW at h;simp only[jzd]at h;obtain⟨a,b,r,l,h⟩:=h;split at h
 ·rename_i i;cases h;exact⟨a,b,r,f _ _ _ l,i,j⟩
 ·cases h
theorem UW(l: ∀g j r,cal g j=some r->CallsF P g j r){x:Eff}(h:Kh T cal o E=some x)(b:k x):Bo P T o E k:=by
 unfold Kh at h;unfold Bo;split at h
 ·rename_i f args m i;rw[i];simp only[jzd]at h;obtain⟨u,q,p,a,h⟩:=h;refine⟨u,q,?_⟩;unfold Gl;split at h
  ·exact⟨p,a,NU l h b⟩
  ·exact⟨p,a,NU l h b⟩
  ·cases h
 ·rename_i e;split
  ·rename_i f args m i;exact absurd i (e f args m)
  ·exact⟨x,h,b⟩
theorem RR{a:Bool}{v:Option V}{j:Option Eff}{x:Eff}{g:Prop}(l:j=some x->g)(h:JL a v j=some x)(i:k x):CS a v g (k (.val (.tup []))):=by
 unfold JL at h;unfold CS;split at h
 ·rename_i b;split at h
  ·rename_i e;exact⟨λ_=>l h,λf=>by subst e;cases b<;>cases f⟩
  ·rename_i e;cases h;exact⟨λf=>absurd f e,λ_=>i⟩
 ·cases h;exact i
 ·cases h
theorem Uq(i: ∀g f r,cal g f=some r->CallsF P g f r){ops:List Oper}{x:Eff}(h:JH T cal ops o E=some x)(b:k x):CN P T ops o E k:=by
 unfold JH at h;unfold CN;split at h
 ·rename_i a;rw[a];exact UW i h b
 ·rename_i j l a;rw[a];dsimp only;split at h
  ·rename_i d m;rw[m];exact RR (λe=>UW i e b) h b
  ·cases h
theorem jil{ops:List Oper}{x:Eff}(h:K4 T ops o E=some x)(b:k x):Dx T ops o E k:=by
 unfold K4 at h;unfold Dx;split at h
 ·rename_i a;rw[a];exact⟨x,h,b⟩
 ·rename_i j f a;rw[a];dsimp only;split at h
  ·rename_i d g;rw[g];exact RR (λe=>⟨x,e,b⟩) h b
  ·cases h
theorem jeG(q:CalOk P calA){x:Eff}(h:NR sA calA o E=some x)(t:k x):Fb P o E k:=by
 unfold NR at h;unfold Fb;split at h
 ·rename_i f args L w F;rw[w,F];dsimp only;simp only[jzd]at h;obtain⟨u,H,K,p,h⟩:=h;refine⟨u,H,?_⟩;unfold Qm;split at h
  ·rename_i g;simp only[jzd]at h;obtain⟨J,G,h⟩:=h;refine⟨K,p,?_⟩;split at h
   ·rename_i b n i d l;split at h
    ·rename_i z v y;split at h
     ·rename_i I;subst I;simp only[jzd,jze]at h;obtain⟨j,e,r,m,rfl⟩:=h;exact .inl ⟨b,n,z,r.1,d,v,r.2,i,j,rfl,y,e,l,q.a _ _ _ _ _ _ _ m,t⟩
     ·cases h
    ·cases h
   ·rename_i i d l;simp only[jzd,jze]at h;obtain⟨j,e,r,m,rfl⟩:=h;exact .inr ⟨J,r.1,d,r.2,i,j,rfl,e,l,q.a _ _ _ _ _ _ _ m,t⟩
   ·cases h
  ·cases h
 ·cases h
theorem Rq(m: ∀g w r,cal g w=some r->CallsF P g w r)(y:CalOk P calA){ops:List Oper}: ∀{j:List DI} {f:List Oper} {S:St} {p:List Oper×St} {fin:List Oper->St->Prop},
  Hv T cal sA calA ops j f S=some p->fin p.1 p.2->BH P T ops j f S fin
 |[],f,S,p,fin,h,q=>by
  simp only[Hv,Option.some.injEq]at h;subst h;exact q
 |i::j,o::r,S,p,fin,h,q=>by
  simp only[Hv,jzd]at h;obtain⟨x,b,h⟩:=h;split at h
  case isFalse=>cases h
  rename_i t;have a:Cu i o.dst S (λz=>BH P T ops j r z fin) x:=⟨t,Rq m y h q⟩
  simp only[BH];split at b
  ·rename_i e;rw[if_pos e];exact jil b a
  ·rename_i e;rw[if_neg e];split at b
   ·rename_i k;rw[if_pos k];exact jeG y b a
   ·rename_i k;rw[if_neg k];split at b
    ·rename_i l;rw[if_pos l];rw[jzd]at b;obtain⟨F,v,b⟩:=b;refine Uq m v ?_;unfold TS at b;split at b
     ·split at b
      ·rename_i E;cases b;exact⟨E,a⟩
      ·cases b
     ·cases b;exact a
     ·cases b
    ·rename_i l;rw[if_neg l];exact Uq m b a
 |_::_,[],_,_,_,h,_=>by simp[Hv]at h
theorem ON{f:Nat->Option (List St)}: ∀{l:List Nat} {out:List St},GQ f l=some out-> ∀i∈l,∃a,f i=some a/\ ∀s∈a,s∈out
 |[],_,_,i,hi=>by cases hi
 |j::r,out,h,i,hi=>by
  simp only[GQ,jzd,jze]at h;obtain⟨a,g,b,k,rfl⟩:=h;rcases jzn.1 hi with rfl|hi
  ·exact⟨a,g,λs e=>List.mem_append_left _ e⟩
  ·obtain⟨c,m,o⟩:=ON k i hi;exact⟨c,m,λs e=>List.mem_append_right _ (o s e)⟩
theorem OT(p: ∀g j r,cal g j=some r->CallsF P g j r)(m:CalOk P calA){ops b:List Oper}{q:List (List Nat)}{K:St->Prop}: ∀{n:Nat} {L:List Nat} {st:St} {e:List St},
  FR T cal sA calA ops b q n L st=some e->(∀s∈e,K s)->E3 P T ops b q n L st K
 |0,L,st,e,h,f=>by
  simp only[FR,Option.some.injEq]at h;subst h;exact f st (List.mem_singleton.2 rfl)
 |n+1,L,st,e,h,f=>λi o k t v=>by
  simp only[FR]at h;obtain⟨a,l,w⟩:=ON h i (List.mem_filter.2 ⟨List.mem_range.2 (jzg.1 k).1,by rw[t,v];rfl⟩);simp only[k,Option.bind_some,jzd]at l;obtain⟨s,x,y⟩:=l;exact QE p m x (OT p m y λs z=>f s (w s z))
theorem G8{α:Type}{e:α->α->Bool}(b: ∀{x y},e x y=true->x=y)(f:St->List (Nat×α))(a:List St){s:St}(g:s∈a): ∀l:List (Nat×α),AW (f s) (Gg e f a l)
 |[]=>trivial
 |(k,v)::r=>by
  unfold Gg;rw[List.filter_cons];split
  ·rename_i h;have:=jzy.1 h s g;dsimp only at this;split at this
   ·rename_i u i;exact⟨by rw[i,b this],G8 b f a g r⟩
   ·cases this
  ·exact G8 b f a g r
theorem Br(m: ∀g z r,cal g z=some r->CallsF P g z r)(k:CalOk P calA){ops:List Oper}: ∀{i:List Seg} {b:List Oper} {st s:St} {K:St->Prop},
  Fm T cal sA calA ops i b st=some s->K s-> ∃a,(∀x lo,DT ops x lo a=DT ops x lo i)/\DY P T ops a b K st
 |[],_,st,s,K,h,f=>by
  simp only[Fm,Option.some.injEq]at h;subst h;exact⟨[],λ_ _=>rfl,f⟩
 | .one::r,o::b,st,s,K,h,f=>by
  simp only[Fm,jzd]at h;obtain⟨G,y,j⟩:=h;obtain⟨a,e,v⟩:=Br m k j f;exact⟨.one::a,λx lo=>by simp only[DT,e],QE m k y v⟩
 | .one::_,[],_,_,_,h,_=>by simp[Fm]at h
 | .rn l::r,b,st,s,K,h,f=>by
  simp only[Fm]at h;obtain⟨a,e,v⟩:=Br m k h f;exact⟨.rn l::a,λx lo=>by simp only[DT,e],v⟩
 | .all q::r,b,st,s,K,h,f=>by
  simp only[Fm,jzd]at h;obtain⟨H,y,j⟩:=h;split at j
  ·cases j
  ·rename_i H G l;obtain⟨a,e,v⟩:=Br m k j f;exact⟨.all q::a,λx lo=>by simp only[DT,e],OT m k y λs e=>⟨_,⟨G8 jdL St.t _ e _,G8 ZR St.h _ e _⟩,v⟩⟩
 | .any ts E F::r,b,st,s,K,h,f=>by
  simp only[Fm,jzd]at h;obtain⟨p,y,j⟩:=h;obtain⟨a,e,v⟩:=Br m k j f;exact⟨.any (Rr st ts) E F::a,λx lo=>by simp only[DT,e],Rq m k (fin:=λw s=>DY P T ops a w K s) y v⟩
theorem Mf{α:Type}(L:List (Nat×α)): ∀l,AW L (I4 L l)
 |[]=>trivial
 |(k,v)::r=>by
  unfold I4;split
  ·rename_i w h;exact⟨h,Mf L r⟩
  ·exact Mf L r
theorem FP(l:List Nat)(s:St):(Hj l s).le s:=⟨NJ _ _,Mf _ _⟩
theorem jf1{f:St->Option (Exit×St)}{a:St->Bk->Prop}(g: ∀st p Q,f st=some p->Q p.1 p.2->a st Q){n:Nat}{p:Exit×St}{Q:Bk}(h:HF l f n (Hj l st)=some p)(i:Q p.1 p.2):HN a st Q:=by
 refine⟨λs m=>HF l f m s=some p,[],⟨Hj l st,n,FP l st,h⟩,λs m b=> ?_⟩;cases m with
 |zero=>cases b
 |succ m=>
  simp only[HF,jzd]at b;obtain⟨⟨e,q⟩,j,b⟩:=b;refine g s (e,q) _ j ?_;cases e with
  |normal=>
   simp only[Jf]at b;exact⟨Hj l q,m,FP l q,b,Nat.lt_succ_self m⟩
  |_=>
   simp only[Option.some.injEq]at b;subst b;exact i
theorem K0(L: ∀g J r,cal g J=some r->CallsF P g J r)(K:CalOk P calA){v:HA}{N:Nat}: ∀(c:Code),Cq v c=true-> ∀(st:St) (p:Exit×St) (Q:Bk),
  evC T cal sA calA v l N c st=some p->Q p.1 p.2->Bl P T c st Q:=by
 intro c
 induction c with
 |skip=>
  intro _ st p Q h f;simp only[evC,Option.some.injEq]at h;subst h;exact f
 |region w Y o=>
  intro i st p Q h f;simp only[evC]at h;unfold Bl JS;cases o with
  |true=>
   simp only[if_true,jzd,Jf,Option.some.injEq]at h ⊢;obtain⟨x,X,s,E,rfl⟩:=h;simp only[Cq,Bool.not_true,Bool.false_or,X]at i;obtain⟨m,S,W⟩:=Br L K E f;refine AA x.1 m ?_ W;simp only[Jy,S]at i ⊢;exact i
  |false=>
   simp only[Bool.false_eq_true,if_false,jzd,Jf,Option.some.injEq]at h ⊢;obtain⟨s,E,rfl⟩:=h;exact Tv L K E f
 |seq a b F G=>
  intro i st p Q h f;simp only[Cq,AR]at i;simp only[evC,jzd]at h;obtain⟨⟨e,s⟩,q,k⟩:=h;refine F i.1 st (e,s) _ q ?_;cases e with
  |normal=>exact G i.2 s p Q k f
  |_=>
   simp only[Option.some.injEq]at k;subst k;exact f
 |cond c x y H I=>
  intro i st p Q h f;simp only[Cq,AR]at i;simp only[evC]at h;show Ie (st.evB c) st (Bl P T x) (Bl P T y) Q;split at h
  ·rename_i z;rw[z];exact⟨λ_=>H i.1 st p Q h f,λe=>by cases e⟩
  ·rename_i z;rw[z];exact⟨λe=>by(cases e),λ_=>I i.2 st p Q h f⟩
  ·cases h
 |block w c t=>
  intro i st p Q h f;simp only[Cq]at i;simp only[evC,jze]at h;obtain⟨⟨e,s⟩,q,k⟩:=h;refine t i st (e,s) _ q ?_;cases e with
  |exit j=>
   simp only at k;show if j=w then Q .normal s else Q (.exit j) s
   by_cases M:j=w
   ·rw[if_pos M]at k ⊢;subst k;exact f
   ·rw[if_neg M]at k ⊢;subst k;exact f
  |_=>
   simp only at k;subst k;exact f
 |loop c t=>
  intro i st p Q h f;simp only[Cq]at i;simp only[evC,Jf]at h;exact jf1 (λst p Q h f=>t i st p Q h f) h f
 |exit w=>
  intro _ st p Q h f;simp only[evC,Option.some.injEq]at h;subst h;exact f
 |ret=>
  intro _ st p Q h f;simp only[evC,Option.some.injEq]at h;subst h;exact f
 |scope c t=>
  intro i st p Q h f;simp only[Cq]at i;simp only[evC,jzd]at h;obtain⟨⟨e,s⟩,q,k⟩:=h;refine t i st (e,s) _ q ?_;cases e with
  |goto j=>cases k
  |_=>
   simp only[Option.some.injEq]at k;subst k;exact f
 |label j=>
  intro _ st p Q h f;simp only[evC,Option.some.injEq]at h;subst h;exact f
 |_=>
  intro _ st p Q h f;simp only[evC]at h;cases h
theorem PZ{pure:Bool}{c:C}{r:RC}(h:KB st pure c=some r):fitC st pure c r/\r.rows=[]:=by
 unfold KB at h;split at h
 ·cases h
 ·rename_i a;simp only[jze]at h;obtain⟨x,b,rfl⟩:=h;refine⟨?_,rfl⟩;have:(pure=true->c.id? =none)/\st.cD c=some x:=⟨λe=>by
   cases hi:c.id? with
   |none=>rfl
   |some i=>exact absurd ⟨e,by rw[hi];rfl⟩ a,b⟩
  cases c<;>exact this
theorem I8{α β:Type}{f:α->Option β}{r:α->β->Prop}{q:β->Prop}(e: ∀a b,f a=some b->r a b/\q b): ∀{l:List α} {m:List β},l.mapM f=some m->fitL r l m/\ ∀b∈m,q b
 |[],m,h=>by
  simp only[List.mapM_nil,Option.pure_def,Option.some.injEq]at h;subst h;exact⟨trivial,O1⟩
 |a::l,m,h=>by
  simp only[List.mapM_cons,Option.pure_def,Option.bind_eq_bind,jzd,Option.some.injEq]at h;obtain⟨b,o,t,p,rfl⟩:=h;obtain⟨g,i⟩:=e a b o;obtain⟨j,k⟩:=I8 e p;exact⟨⟨g,j⟩,λx hx=>by
   rcases jzn.1 hx with rfl|hx
   ·exact i
   ·exact k x hx⟩
theorem KX{pure:Bool}{u:U}{r:RU}(h:EN st pure u=some r):fitU st pure u r/\r.rows=[]:=by
 unfold EN at h;cases u with
 |c x=>
  simp only[jze]at h;obtain⟨y,g,rfl⟩:=h;exact PZ g
 |agg i=>
  simp only[jze]at h;obtain⟨y,g,rfl⟩:=h;obtain⟨j,k⟩:=I8 (r:=fitC st pure) (q:=λr=>r.rows=[]) (λa b e=>PZ e) g;refine⟨j,?_⟩;show y.flatMap RC.rows=[];rw[List.flatMap_eq_nil_iff];exact k
 |clo f i=>cases h
theorem S5{c:C}{r:RC}(h:I6 st c=some r):fitC st true c r/\r.rows.length=1:=by
 unfold I6 at h;split at h
 ·rename_i i n;split at h
  ·rename_i f e b;split at h
   ·rename_i a;cases h;exact⟨⟨rfl,b,a⟩,rfl⟩
   ·cases h
  ·cases h
 ·cases h
theorem jkm{v:V}{r:R}(h:NH st v=some r)(z:r.rows.length<=1):fitV st (!r.rows.isEmpty) v r:=by
 have data: ∀{u:U} {x:RU},EN st false u=some x->fitV st (!(R.u x).rows.isEmpty) (.u u) (.u x):=λh=>by
  obtain⟨j,i⟩:=KX h;have:(R.u _).rows=[]:=i;rw[this];exact j
 have f: ∀{t:List U} {k:List RU},t.mapM (EN st false)=some k->fitV st (!(R.tup k).rows.isEmpty) (.tup t) (.tup k):=λh=>by
  obtain⟨j,i⟩:=I8 (r:=fitU st false) (q:=λr=>r.rows=[]) (λa b e=>KX e) h;have:(R.tup _).rows=[]:=List.flatMap_eq_nil_iff.2 i;rw[this];exact j
 unfold NH at h;split at h
 ·rename_i x;split at h
  ·simp only[jze]at h;obtain⟨y,g,rfl⟩:=h;obtain⟨j,i⟩:=S5 g;have m:(R.u (RU.c y)).rows=y.rows:=rfl;rw[m];have:(!y.rows.isEmpty)=true:=by
    cases o:y.rows with
    |nil=>rw[o]at i;cases i
    |cons a l=>rfl
   rw[this];exact j
  ·simp only[jze]at h;obtain⟨y,g,rfl⟩:=h;exact data g
 ·simp only[jze]at h;obtain⟨y,g,rfl⟩:=h;exact data g
 ·rename_i x t;split at h
  ·simp only[jzd,jze]at h;obtain⟨y,g,k,p,rfl⟩:=h;obtain⟨j,i⟩:=S5 g;obtain⟨m,w⟩:=I8 (r:=fitU st true) (q:=λr=>r.rows=[]) (λa b e=>KX e) p;have:(!(R.tup (RU.c y::k)).rows.isEmpty)=true:=by
    have e:(R.tup (RU.c y::k)).rows=y.rows++k.flatMap RU.rows:=rfl;rw[e];cases o:y.rows with
    |nil=>rw[o]at i;cases i
    |cons a l=>rfl
   rw[this];exact⟨j,m⟩
  ·simp only[jze]at h;obtain⟨y,g,rfl⟩:=h;exact f g
 ·simp only[jze]at h;obtain⟨y,g,rfl⟩:=h;exact f g
 ·cases h
end
end Go.Va
