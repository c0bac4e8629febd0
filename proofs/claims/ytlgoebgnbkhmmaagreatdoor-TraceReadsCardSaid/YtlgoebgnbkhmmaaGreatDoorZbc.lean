/- a part of the proof -/
import Derived.Test.YtlgoebgnbkhmmaaGreatDoorZbb
import Derived.Test.YtlgoebgnbkhmmaaGreatDoorZaz
import Derived.Test.YtlgoebgnbkhmmaaGreatDoorZay
import Derived.Test.YtlgoebgnbkhmmaaGreatDoorZau
import Derived.Test.YtlgoebgnbkhmmaaGreatDoorZav
set_option linter.all false
set_option maxRecDepth 10000
set_option maxHeartbeats 4000000
namespace Go.Va
open Go
theorem joJ{a b sep:List UInt8}{c:UInt8}(h:c∉a): ∀j,j<a.length→Lib.occAt (a++b) (c::sep) j=false:=fun j hj=>by
 unfold Lib.occAt;rw[List.drop_append_of_le_length (by omega),BQ hj,List.cons_append,List.isPrefixOf]
 grind
theorem Su{a b sep:List UInt8}{c:UInt8}(h:c∉a):Lib.cut (a++(c::sep++b)) (c::sep)=(a,b,true):=WE (joJ h)
theorem jh4{a sep:List UInt8}{c:UInt8}(h:c∉a):Lib.cut a (c::sep)=(a,[],false):=by
 cases hc:(Lib.cut a (c::sep)).2.2 with
 |true=>
  grind[P8,absurd]
 |false=>
  unfold Lib.cut at*
  grind
def prt(s:List UInt8):List (List UInt8):=
 if h:(Lib.cut s [44,32]).2.2=true then (Lib.cut s [44,32]).1::prt (Lib.cut s [44,32]).2.1 else [(Lib.cut s [44,32]).1]
termination_by s.length
decreasing_by simp_all[Vk]
theorem Uk: ∀{l:List (List UInt8)},l≠[]→(∀w∈l,(44:UInt8)∉w)→prt (Bc l)=l
 |[x],_,h=>by
  grind[OR,prt,jh4]
 |x::y::r,_,h=>by
  rw[Na,prt]
  have e:=Su (a:=x) (b:=Bc (y::r)) (sep:=[32]) (c:=44) (h x (by simp))
  simp only[List.cons_append,List.nil_append]at e;rw[e];simp only[dite_true];rw[Uk (by simp) (by grind)]
theorem QZ{w:List UInt8}(h:Pl w){c:UInt8}(hc:Eb c=true∨HX c=true):c∉w:=fun hm=>by
 obtain⟨h1,h2⟩:=h.2 c hm
 grind
def FM(ns:List ByteArray)(s:List UInt8):Option (List UInt8×List Int×(Bool×Nat×Nat)):=
 let c:=Lib.cut s [40]
 if c.2.2=false∨c.2.1=[]∨c.2.1.getLast? ≠some 41 then none else
 let l:=prt c.2.1.dropLast
 if c.1=By 9 then
  let r:=M8 (l.getLast?.getD [])
  if r.2.2.2≠0 then none else (UK ns l.dropLast).map fun a=>(c.1,a,(r.1,r.2.1,r.2.2.1))
 else (UK ns l).map fun a=>(c.1,a,(false,0,0))
theorem ZI{ns:List ByteArray}(hn:ns.Nodup){w:List UInt8}(hw:(40:UInt8)∉w)(h9:w≠By 9){al:List Int}(h0:al≠[])(ha: ∀a∈al,0≤a∧a<ns.length)(hp: ∀a∈al,Pl (AN ns a)):
  FM ns (w++[40]++Bc (al.map (AN ns))++[41])=some (w,al,(false,0,0)):=by
 unfold FM;have e:=Su (a:=w) (b:=Bc (al.map (AN ns))++[41]) (sep:=[]) (c:=40) hw;simp only[List.cons_append,List.nil_append,List.append_assoc]at e ⊢;rw[e];simp only;rw[if_neg (by simp),if_neg h9,List.dropLast_concat,Uk (by simpa using h0) fun x hx=>by
  obtain⟨a,h1,rfl⟩:=jzk.1 hx
  exact QZ (hp a h1) (.inr rfl),(X8 hn).2 ⟨rfl,ha⟩]
 rfl
theorem jjC{ns:List ByteArray}(hn:ns.Nodup){al:List Int}(ha: ∀a∈al,0≤a∧a<ns.length)(hp: ∀a∈al,Pl (AN ns a)){neg:Bool}{m d:Nat}(hr:M8 (BL neg m d)=(neg,m,d,0)):
  FM ns (By 9++[40]++Bc (al.map (AN ns)++[BL neg m d])++[41])=some (By 9,al,(neg,m,d)):=by
 unfold FM;have e:=Su (a:=By 9) (b:=Bc (al.map (AN ns)++[BL neg m d])++[41]) (sep:=[]) (c:=40) (by decide)
 simp only[List.cons_append,List.nil_append,List.append_assoc]at e ⊢;rw[e];simp only;rw[if_neg (by simp),if_pos trivial,List.dropLast_concat,Uk (by simp) fun x hx=>by
  rcases List.mem_append.1 hx with hx|hx
  ·obtain⟨a,h1,rfl⟩:=jzk.1 hx
   exact QZ (hp a h1) (.inr rfl)
  ·rw[List.mem_singleton.1 hx];exact QZ Uu (.inr rfl),List.getLast?_append]
 simp only[List.getLast?_singleton,Option.some_or,Option.getD_some,hr,List.dropLast_concat];rw[if_neg (by simp),(X8 hn).2 ⟨rfl,ha⟩]
 rfl
theorem jgr: ∀{l:List UInt8} (n:Nat),l.all KI=true→l.foldl (fun n c=>n*10+(c.toNat - 48)) n<(n+1)*10^l.length
 |[],n,_=>by simp
 |c::l,n,h=>by
  rw[List.all_cons,AR]at h
  have q:=jgr (l:=l) (n*10+(c.toNat - 48)) h.2;have hc:=h.1;unfold KI at hc;simp only[AR,decide_eq_true_eq]at hc;rw[List.foldl_cons,List.length_cons,Nat.pow_succ];refine Nat.lt_of_lt_of_le q ?_;rw[Nat.mul_comm (10^l.length) 10,←Nat.mul_assoc];exact BC _ (by omega)
def mX(k:Nat):Nat:=10^k
theorem I2(k:Nat):0<mX k:=Nat.pow_pos (by omega)
theorem jpe{a b:Nat}(h:a≤b):10^a≤mX b:=Nat.pow_le_pow_right (by omega) h
theorem jmR{k:Nat}(h:k≠0):1<mX k:=Nat.one_lt_pow h (by omega)
theorem jgD{k n:Nat}(h:n<mX (k+1)):(Lib.decDigits n).length≤k+1:=KT k n h
theorem jfm(l:List UInt8):(natR l).1<mX 1000:=by
 have z:=(I2 1000);unfold natR;split
 ·exact(I2 1000)
 split
 ·exact(I2 1000)
 split
 ·exact(I2 1000)
 split
 ·rename_i h1 h2 h3 h4
  have:=jgr (l:=l) 0 h4
  refine Nat.lt_of_lt_of_le this ?_
  simp_all[Nat.zero_add,Nat.one_mul,jpe]
 omega
theorem joR(l:List UInt8):(intR l).2.1<mX 1000:=by
 have z:=(I2 1000);unfold intR;have h:=jfm (if decide (l.head? =some 45)=true then l.tail else l)
 grind
theorem jhy(p:List UInt8)(r:Option (List UInt8)):(Oj p r).2.1<mX 1000∧(Oj p r).2.2.1<mX 1000:=by
 have h1:=joR p;have low: ∀n m d,m<mX 1000→d<mX 1000→(O7 n m d).2.1<mX 1000∧(O7 n m d).2.2.1<mX 1000:=fun n m d hm hd=>
  ⟨Nat.lt_of_le_of_lt (Nat.div_le_self _ _) hm,Nat.lt_of_le_of_lt (Nat.div_le_self _ _) hd⟩
 have z:=(I2 1000);have o:1<mX 1000:=jmR (by omega)
 unfold Oj
 grind[jfm]
theorem jnm(s:Ps):s.num.1.2.1<mX 1000∧s.num.1.2.2<mX 1000:=by
 have z:=(I2 1000);unfold Ps.num;split
 ·exact⟨z,z⟩
 ·rename_i w _
  simp only;have h:=jhy (LW (B w)).1 (LW (B w)).2;split
  ·exact h
  ·exact⟨z,z⟩
theorem UD{k:Int}{a:List Int}{n:Bool}{m d:Nat}(hm:m<mX 1000)(hd:d<mX 1000):(⟨k,a,n,limbs m,limbs d⟩:Fct).Small:=
 ⟨Aw _,Aw _,by simp_all[Az,jgD],by simp_all[Az,jgD]⟩
theorem jog(ns:List ByteArray)(s:ByteArray):(H0 ns s).fct.Small:=by
 have z:=(I2 1000);have key: ∀r:FrR,r.r.2.1<mX 1000→r.r.2.2<mX 1000→r.fct.Small:=fun r h1 h2=>UD h1 h2
 have ite: ∀(p:Prop) [Decidable p] (a b:FrR),a.fct.Small→b.fct.Small→(if p then a else b).fct.Small:=(by grind)
 grind[H0,jnm]
theorem joS(ns:List ByteArray)(t:List UInt8):(readF ns t).1.Small:=by
 unfold readF;simp only;split
 ·exact jog ns _
 ·have:=UD (k:=0) (a:=[]) (n:=false) (I2 1000) (I2 1000)
  rw[Cm]at this
  exact this
theorem jmQ(ns:List ByteArray)(i:Nat)(s:List UInt8):(derR ns i s).1.fact.Small:=by
 have z:Der.none.fact.Small:=by
  have:=UD (k:=0) (a:=[]) (n:=false) (I2 1000) (I2 1000)
  rw[Cm]at this
  exact this
 grind[derR,joS]
def LZ(w:List UInt8):Int:=if w=[]∨6<w.length then -1 else if w.all KI=true then (valB w:Int) else -1
theorem joa{a:Int}(h0:0≤a)(h1:a<1000000):LZ (A3 a)=a:=by
 rw[QT h0]
 have hl:=KT 5 a.toNat (by omega)
 obtain⟨h2,h3,_⟩:=Tk a.toNat
 unfold LZ;rw[if_neg (by grind[RI]),if_pos h2,h3]
 omega
def O0(s:List UInt8):Option (Int×List Int):=
 let c:=Lib.cut s [32,102,114,111,109,32]
 if c.2.2=false then none else
 let l:=prt c.2.1
 if ruleR c.1=0∨Md (ruleR c.1)≠(l.length:Int) then none else some (ruleR c.1,l.map LZ)
def LC(ns:List ByteArray)(i:Nat)(s:List UInt8):Option Der:=
 let c:=Lib.cut s [46,32]
 let d:=Lib.cut c.2.1 [41]
 if c.2.2=false∨d.2.2=false then none else
 match FM ns (d.1++[41])with
 |none=>none
 |some q=>
  let b:=Lib.cut d.2.1 [32,98,121,32]
  match (if b.2.2=true∧b.1=[] then O0 b.2.1 else some (0,[]))with
  |none=>none
  |some p=>
   let x:Der:=⟨⟨Pz q.1,q.2.1,q.2.2.1,limbs q.2.2.2.1,limbs q.2.2.2.2⟩,p.1,p.2⟩
   if (∀a∈p.2,0≤a∧a<(i:Int))∧lineE ns.length x=0∧CI ns i x=s then some x else none
theorem Yv{ns:List ByteArray}{s:List UInt8}{q}(h:FM ns s=some q):q.2.2.2.1<mX 1000∧q.2.2.2.2<mX 1000:=by
 unfold FM at h;simp only at h;split at h
 ·cases h
 split at h
 ·split at h
  ·cases h
  ·obtain⟨a,_,rfl⟩:=jze.1 h
   exact jhy _ _
 ·obtain⟨a,_,rfl⟩:=jze.1 h
  grind[I2]
theorem XP(s:List UInt8):prt s≠[]:=by
 grind[prt]
theorem jky:Md 0=0:=rfl
theorem jbp{s:List UInt8}{p:Int×List Int}(h:O0 s=some p):(p.2.length:Int)=Md p.1∧p.2≠[]:=by
 grind[O0,XP,List.length_map]
theorem jlS{ns:List ByteArray}{i:Nat}{s:List UInt8}{x:Der}(hn:Mb ns)(hs:s.length≤20000)(h:LC ns i s=some x):derR ns i s=(x,true):=by
 unfold LC at h;simp only at h;split at h
 ·cases h
 split at h
 ·cases h
 rename_i q hq
 obtain⟨l1,l2⟩:=Yv hq
 have fin: ∀p:Int×List Int,((p.2.length:Int)=Md p.1∧(p.1≠0→p.2≠[]))→
   (if (∀a∈p.2,0≤a∧a<(i:Int))∧lineE ns.length (⟨⟨Pz q.1,q.2.1,q.2.2.1,limbs q.2.2.2.1,limbs q.2.2.2.2⟩,p.1,p.2⟩:Der)=0∧CI ns i (⟨⟨Pz q.1,q.2.1,q.2.2.1,limbs q.2.2.2.1,limbs q.2.2.2.2⟩,p.1,p.2⟩:Der)=s then some (⟨⟨Pz q.1,q.2.1,q.2.2.1,limbs q.2.2.2.1,limbs q.2.2.2.2⟩,p.1,p.2⟩:Der) else none)=some x→derR ns i s=(x,true):=fun p hp h=>by
  split at h
  ·rename_i hc
   cases h;obtain⟨c1,c2,c3⟩:=hc
   rw[←c3]
   refine jh7 hn ⟨c2,hp.1,c1⟩ (UD l1 l2) ?_ hp.2;have:=congrArg List.length c3
   grind[CI,Cc,List.length_append]
  ·cases h
 split at h
 ·cases h
 rename_i p hp
 refine fin p ?_ h;split at hp
 ·grind[jbp]
 ·cases hp;exact⟨by rfl,(by simp)⟩
theorem jgS{c:UInt8}(h1:c≠44)(h2:c≠32): ∀{l:List (List UInt8)},(∀w∈l,c∉w)→c∉Bc l
 |[],_=>by simp[Bc,Lib.join_nil]
 |[x],h=>by grind[OR]
 |x::y::r,h=>by
  rw[Na]
  intro hm;rcases List.mem_append.1 hm with hm|hm
  ·grind
  ·rcases jzn.1 hm with hm|hm
   ·exact h1 hm
   ·rcases jzn.1 hm with hm|hm
    ·exact h2 hm
    ·exact jgS h1 h2 (by grind) hm
theorem jei{a:Int}(h:0≤a){c:UInt8}(hc:KI c=false):c∉A3 a:=(by grind[QT,UV])
theorem jnr{r:Int}(h0:r≠0)(hn:Bp r≠[]):ruleR (Bp r)=r∧Pl (Bp r):=by
 obtain⟨h1,h2⟩:=Xi hn
 have i:=Vx (r.toNat - 1) (by omega)
 have p:=X0 (r.toNat - 1) (by omega)
 rw[show((r.toNat - 1+1:Nat):Int)=r by omega]at i p
 exact⟨i,p⟩
theorem jmL{ns:List ByteArray}(hn:Mb ns){f:Fct}(hf:wrong f ns.length=0)(hsm:f.Small):
  FM ns (Bd f ns)=some (By f.kind,f.args,(f.neg,val f.abs,val f.den))∧limbs (val f.abs)=f.abs∧limbs (val f.den)=f.den:=by
 obtain⟨h1,h2,h3,h4,h5⟩:=RS hf
 have hp: ∀a∈f.args,Pl (AN ns a):=fun a ha=>by
  obtain⟨a0,a1⟩:=h3 a ha
  unfold AN;rw[AL,AD (by omega)]
  exact hn.1 _ (by simp)
 unfold Bd DQ;by_cases h9:f.kind=9
 ·obtain⟨e1,e2,d0,g,hneg⟩:=Cz (h4 h9) hsm.oa hsm.od
  rw[if_pos h9,h9]
  exact⟨jjC hn.2 h3 hp (jgg hsm.la hsm.ld hneg d0 g),e1.symm,e2.symm⟩
 ·obtain⟨e1,e2,e3⟩:=h5 h9
  rw[if_neg h9,List.append_nil,e1,e2,e3]
  refine⟨ZI hn.2 (QZ (Uw h1) (.inr rfl)) (fun e=>h9 ?_) (fun e=>h1 ?_) h3 hp,Cm,Cm⟩
  ·have:=jmf h1
   rw[e,jmf (by decide)]at this
   exact this.symm
  grind
theorem jnu{ns:List ByteArray}{i:Nat}(hi:i≤100000){x:Der}(hn:Mb ns)(hx:DerOk ns i x)(hsm:x.fact.Small):LC ns i (CI ns i x)=some x:=by
 obtain⟨he,hp,hf⟩:=hx
 have hnm:Bp x.rule≠[]:=fun e=>by simp_all[lineE,if_pos]
 have hw:wrong x.fact ns.length=0:=by simp_all[lineE,if_neg]
 obtain⟨k1,k2,k3⟩:=jmL hn hw hsm
 obtain⟨a1,a2,a3,a4,a5⟩:=RS hw
 have hpl: ∀w∈DQ x.fact ns,Pl w:=jjN hn a3;have n41:(41:UInt8)∉By x.fact.kind++[40]++Bc (DQ x.fact ns):=fun hm=>by
  rcases List.mem_append.1 hm with hm|hm
  ·rcases List.mem_append.1 hm with hm|hm
   ·exact QZ (Uw a1) (.inr rfl) hm
   ·simp at hm
  ·exact jgS (by decide) (by decide) (fun w hw=>QZ (hpl w hw) (.inr rfl)) hm
 have c1:=Su (a:=A3 i) (b:=Cc ns x) (sep:=[32]) (c:=46) (jei (by omega) rfl)
 have c2:=Su (a:=By x.fact.kind++[40]++Bc (DQ x.fact ns)) (b:=FD x) (sep:=[]) (c:=41) n41;have e1:CI ns i x=A3 i++(46::[32]++Cc ns x):=by unfold CI;simp
 have e2:Cc ns x=By x.fact.kind++[40]++Bc (DQ x.fact ns)++(41::[]++FD x):=by unfold Cc Bd;simp
 have e3:By x.fact.kind++[40]++Bc (DQ x.fact ns)++[41]=Bd x.fact ns:=rfl
 unfold LC;simp only;rw[e1,c1];simp only;rw[e2,c2];simp only;rw[e3,k1,←e2,←e1];simp only;rw[if_neg (by simp)]
 have ht:(if (Lib.cut (FD x) [32,98,121,32]).2.2=true∧(Lib.cut (FD x) [32,98,121,32]).1=[] then O0 (Lib.cut (FD x) [32,98,121,32]).2.1 else some (0,[]))=some (x.rule,x.frm):=by
  unfold FD;by_cases hr:x.rule=0
  ·rw[if_pos hr,hr]
   have hl:x.frm=[]:=by
    simp_all[jky]
   rw[hl]
   decide+kernel
  ·rw[if_neg hr]
   obtain⟨r1,r2⟩:=jnr hr hnm
   have hne:x.frm≠[]:=fun e=>by
    obtain⟨q1,q2⟩:=Xi hnm
    have key: ∀k<29,k≠0→Md ((k:Nat):Int)≠0:=by decide+kernel
    have:=key x.rule.toNat (by omega) (by omega)
    rw[Int.toNat_of_nonneg q1,←hp,e]at this
    exact this rfl
   have d1:Lib.cut ([32,98,121,32]++Bp x.rule++[32,102,114,111,109,32]++Bc (x.frm.map A3)) [32,98,121,32]=([],Bp x.rule++[32,102,114,111,109,32]++Bc (x.frm.map A3),true):=by
    rfl
   rw[d1]
   simp only;rw[if_pos (by simp)]
   have d2:=Su (a:=Bp x.rule) (b:=Bc (x.frm.map A3)) (sep:=[102,114,111,109,32]) (c:=32) (QZ r2 (.inl rfl));simp only[List.cons_append,List.nil_append,List.append_assoc]at d2;unfold O0;simp only[List.append_assoc,List.cons_append,List.nil_append];rw[d2];simp only;rw[if_neg (by simp),Uk (by simpa using hne) fun w hw=>by
    obtain⟨a,ha,rfl⟩:=jzk.1 hw
    exact jei (hf a ha).1 rfl,r1,if_neg (by grind)]
   congr 2
   rw[List.map_map]
   conv=>rhs;rw[←List.map_id x.frm]
   grind[List.map_congr_left,joa]
 rw[ht]
 simp only;rw[k2,k3,jmf a1,if_pos ⟨hf,he,rfl⟩]
theorem jkC{ns:List ByteArray}{i:Nat}{s:List UInt8}(hn:Mb ns)(hi:i≤100000)(hs:s.length≤20000):LC ns i s=if (derR ns i s).2=true then some (derR ns i s).1 else none:=by
 cases h:(derR ns i s).2 with
 |true=>
  rw[if_pos rfl]
  have hd:derR ns i s=((derR ns i s).1,true):=by rw[←h]
  obtain⟨h1,h2⟩:=jkY hd
  grind[jnu,jmQ]
 |false=>
  rw[if_neg (by simp)]
  cases hr:LC ns i s with
  |none=>rfl
  |some x=>simp_all[jlS]
def Kg(w:List UInt8):Int:=if w=A7 3 then 3 else if w=A7 2 then 2 else if w=A7 1 then 1 else 0
def NF(ns:List ByteArray)(s:List UInt8):Option Grd:=
 let c:=Lib.cut s [105,102,32]
 if c.2.2=false∨c.1≠[] then none else
 match FM ns c.2.1 with
 |none=>none
 |some q=>if errG ns.length ⟨Kg q.1,q.2.1⟩=0∧[105,102,32]++Bq ns ⟨Kg q.1,q.2.1⟩=s then some ⟨Kg q.1,q.2.1⟩ else none
theorem joN{n:Int}{g:Grd}(h:errG n g=0):(g.kind=1∨g.kind=2∨g.kind=3)∧g.args≠[]∧ ∀a∈g.args,0≤a∧a<n:=by
 unfold errG at h;by_cases h1:grdN g.kind= -1
 ·omega
 rw[if_neg h1]at h
 by_cases h2:(g.args.length:Int)≠grdN g.kind
 ·omega
 rw[if_neg h2]at h
 by_cases h3:g.args.any (Di n)=true
 ·grind
 have hk:g.kind=1∨g.kind=2∨g.kind=3:=by
  unfold grdN at h1;omega
 grind[grdN,decide,Di]
theorem jn9{ns:List ByteArray}(hn:Mb ns)(s:List UInt8):NF ns s=(Dj s [105,102,32]).bind (Nw ns):=by
 cases h:NF ns s with
 |some g=>
  unfold NF at h;simp only at h;split at h
  ·cases h
  split at h
  ·cases h
  split at h
  ·rename_i hc
   cases h;obtain⟨c1,c2⟩:=hc
   rw[cutP_some.2 c2.symm,Option.bind_some,jlr hn c1]
  ·cases h
 |none=>
  cases hc:Dj s [105,102,32]with
  |none=>rfl
  |some t=>
   rw[Option.bind_some]
   cases hg:Nw ns t with
   |none=>rfl
   |some g=>
    obtain⟨h1,h2⟩:=jjz hn.2 hg
    have hs:=cutP_some.1 hc;obtain⟨hk,hne,ha⟩:=joN h1;have c1:Lib.cut s [105,102,32]=([],t,true):=by
     have:=WE (a:=[]) (b:=t) (sep:=[105,102,32]) (fun j hj=>absurd hj (by simp))
     grind
    have hp: ∀a∈g.args,Pl (AN ns a):=fun a ha'=>by
     obtain⟨a0,a1⟩:=ha a ha'
     unfold AN;rw[AL,AD (by omega)]
     exact hn.1 _ (by simp)
    have k1:FM ns t=some (A7 g.kind,g.args,(false,0,0)):=by
     rw[←h2]
     unfold Bq;refine ZI hn.2 ?_ ?_ hne ha hp
     ·rcases hk with hk|hk|hk<;>rw[hk]<;>decide
     ·rcases hk with hk|hk|hk<;>rw[hk]<;>decide
    have kg:Kg (A7 g.kind)=g.kind:=by rcases hk with hk|hk|hk<;>rw[hk]<;>decide
    simp_all[NF,if_neg,if_pos]
theorem jkj{ns:List ByteArray}{i:Nat}{s t:List UInt8}(h:Dj s [105,102,32]=some t):(derR ns i s).2=false:=by
 have hs:=cutP_some.1 h;unfold derR;split
 ·rfl
 ·rename_i u hu
  have:=cutP_some.1 hu
  rw[hs,QT (by omega)]at this
  exfalso
  cases hd:Lib.decDigits (i:Int).toNat with
  |nil=>exact RI _ hd
  |cons c r=>
   have hc:=UV (u:=(i:Int).toNat) (c:=c) (by rw[hd];simp)
   rw[hd]at this
   simp only[List.cons_append,List.cons.injEq]at this;rw[←this.1]at hc;cases hc
theorem jnl{ns:List ByteArray}(hn:Mb ns){ds:List Der}{gs:List Grd}{n:Int}{s l r:List UInt8}(h0:s≠[])(hc:Lib.cut s [10]=(l,r,true))(hi:ds.length≤100000)(hl:l.length≤20000):
  KQ ns ds gs n s=match NF ns l with
   |some g=>KQ ns ds (gs++[g]) (n+1) r
   |none=>match LC ns ds.length l with
    |some x=>if gs=[] then KQ ns (ds++[x]) gs (n+1) r else ([],[],n,9)
    |none=>([],[],n,9):=by
 rw[KQ,if_neg h0,dif_pos (by rw[hc]),hc]
 simp only;rw[jn9 hn,jkC hn hi hl];cases hp:Dj l [105,102,32]with
 |some t=>
  simp only[Option.bind_some];cases hg:Nw ns t with
  |some g=>rfl
  |none=>
   grind[jkj]
 |none=>
  grind
theorem jb8{s p:ByteArray}{i:Nat}(h:i+p.size≤s.size):s.extract i (i+p.size)=p↔Lib.occAt (B s) (B p) i=true:=by
 unfold Lib.occAt;rw[List.isPrefixOf_iff_prefix,List.prefix_iff_eq_take,Hg]
 constructor
 ·intro e;have:=congrArg B e;rw[Mq,List.drop_take]at this
  grind
 ·intro e;refine T9 ?_
  simp_all[Mq,List.drop_take,congr]
theorem jmu{s p:ByteArray}{i:Nat}(h:i+p.size≤s.size)(hn: ∀j,j<i→Lib.occAt (B s) (B p) j=false)(hi:Lib.occAt (B s) (B p) i=true):
  Lib.cut (B s) (B p)=(B (s.extract 0 i),B (s.extract (i+p.size) s.size),true):=by
 have hl:=Hg s;have hp:=Hg p;unfold Lib.occAt at hi;rw[List.isPrefixOf_iff_prefix]at hi;obtain⟨t,ht⟩:=hi;have e1:B (s.extract 0 i)=(B s).take i:=by rw[Mq,List.drop_zero]
 have e2:B (s.extract (i+p.size) s.size)=t:=by
  rw[Mq,Ba (by omega),←List.drop_drop,←ht,List.drop_append_of_le_length (by omega),DU (by omega),List.nil_append]
 grind[B,List.take_append_drop,List.length_take,WE]
theorem jjD{s p:ByteArray}(hn: ∀j,j+p.size≤s.size→Lib.occAt (B s) (B p) j=false):Lib.cut (B s) (B p)=(B s,[],false):=by
 have hl:=Hg s;have hp:=Hg p;cases hc:(Lib.cut (B s) (B p)).2.2 with
 |true=>
  have e:=P8 hc;have hq:Lib.occAt (B s) (B p) (Lib.cut (B s) (B p)).1.length=true:=by
   conv=>lhs;arg 1;rw[←e]
   grind[Lib.occAt,List.drop_of_length_le,List.isPrefixOf_iff_prefix,List.prefix_append]
  grind
 |false=>
  unfold Lib.cut at*
  grind
end Go.Va
namespace Go.Va
open Int renaming natCast_add → qA, natCast_mul → qB, natCast_emod → qC, natCast_ediv → qD, natCast_pow → qE
open List renaming reduceReplicate → qF
open Go.Proofs
theorem jcV(k:Int)(hk:arity k≠0):CallsF Tryz.prog 160 [.c (.int .i64 k)] (.u (.c (.d (.str (Ch (By k)))))):=by
 unfold By;refine cO Tryz.func160 rfl ?_;by_cases h1:k=1
 ·subst h1;simp -implicitDefEqProofs[jJ,-qA,-qB];rfl
 by_cases h2:k=2
 ·subst h2;simp -implicitDefEqProofs[jJ,-qA,-qB];rfl
 by_cases h3:k=3
 ·subst h3;simp -implicitDefEqProofs[jJ,-qA,-qB];rfl
 by_cases h4:k=4
 ·subst h4;simp -implicitDefEqProofs[jJ,-qA,-qB];rfl
 by_cases h5:k=5
 ·subst h5;simp -implicitDefEqProofs[jJ,-qA,-qB];rfl
 by_cases h6:k=6
 ·subst h6;simp -implicitDefEqProofs[jJ,-qA,-qB];rfl
 by_cases h7:k=7
 ·subst h7;simp -implicitDefEqProofs[jJ,-qA,-qB];rfl
 by_cases h8:k=8
 ·subst h8;simp -implicitDefEqProofs[jJ,-qA,-qB];rfl
 by_cases h9:k=9
 ·subst h9;simp -implicitDefEqProofs[jJ,-qA,-qB];rfl
 exact absurd (by simp[arity,h1,h2,h3,h4,h5,h6,h7,h8,h9]) hk
theorem Pf{f:Fct}{n:Int}(h:wrong f n=0):arity f.kind≠0∧(∀a∈f.args,0≤a∧a<n)∧(f.kind=9→CV f.neg f.abs f.den=true):=by
 unfold wrong at h;by_cases h1:arity f.kind=0
 ·rw[if_pos h1]at h;cases h
 rw[if_neg h1]at h
 by_cases h2:f.args.length≠arity f.kind
 ·rw[if_pos h2]at h;cases h
 rw[if_neg h2]at h
 by_cases h3:f.args.any (fun a=>decide (a<0)||decide (n≤a))=true
 ·rw[if_pos h3]at h;cases h
 rw[if_neg h3]at h
 refine⟨h1,fun a ha=> ?_,fun h9=> ?_⟩
 ·have:=List.any_eq_false.1 (Bool.eq_false_iff.2 h3) a ha
  simp at this;omega
 ·rw[if_pos h9]at h
  cases hr:CV f.neg f.abs f.den with
  |true=>rfl
  |false=>rw[hr]at h;cases h
def A2(ns:List ByteArray)(a:Int):ByteArray:=ns.getD a.toNat ⟨#[]⟩
theorem Gi{ns:List ByteArray}{a:Int}(h0:0≤a)(h1:a<ns.length):ns[a.toNat]? =some (A2 ns a):=by
 have h:a.toNat<ns.length:=by omega
 unfold A2;rw[AD h,AL,AD h];rfl
theorem Hc{ns:List ByteArray}(h: ∀s∈ns,s.size≤30)(a:Int):(A2 ns a).size≤30:=Er h a
def strsD(l:List ByteArray):List D:=l.map D.str
@[simp]theorem HR(l:List ByteArray):(strsD l).length=l.length:=by simp[strsD]
theorem Hq(l:List ByteArray)(x:ByteArray):strsD (l++[x])=strsD l++[.str x]:=by simp[strsD]
def mapTo{α β:Type}(f:α→β)(l:List α)(i:Nat):List β:=(l.take i).map f
theorem CA{α β:Type}(f:α→β)(l:List α):mapTo f l 0=[]:=rfl
theorem DC{α β:Type}(f:α→β){l:List α}{i:Nat}(h:i≤l.length):(mapTo f l i).length=i:=by
 unfold mapTo;rw[List.length_map,A8];omega
theorem D9{α β:Type}(f:α→β){l:List α}{i:Nat}(h:i<l.length):mapTo f l (i+1)=mapTo f l i++[f l[i]]:=by
 unfold mapTo;rw[Cr h,List.map_append];rfl
theorem Eo{α β:Type}(f:α→β)(l:List α):mapTo f l l.length=l.map f:=by
 unfold mapTo;rw[BM]
theorem G4(l:List ByteArray)(hN:l.length≤2000)(hlen: ∀s∈l,s.size≤2900):
  CallsF Tryz.prog 92 [.c (.slice l.length (strsD l)),.c (.str { data:= #[44,32] })] (.u (.c (.d (.str (Ch (Bc (l.map B))))))):=
 Xa l { data:= #[44,32] } (by omega) (by
  have:=Dn (k:=2900) (l.map B) fun x hx=>by
   obtain⟨s,hs,rfl⟩:=jzk.1 hx
   exact hlen s hs
  rw[List.length_map]at this
  show(Bc (l.map B)).length≤_
  omega)
theorem Oh(f:Fct)(ns:List ByteArray)(hm:f.Wide)(hal:f.args.length≤20)(hl:ns.length≤60)(hn: ∀s∈ns,s.size≤30):
  CallsF Tryz.prog 91 [.agg f.ds,.c (A6 ns)] (Br (wrong f ns.length) (Bd f ns)):=by
 have k1:=jlL f hm ns.length;have hw:=IB f.kind;obtain⟨kind,args,neg,abs,den⟩:=f;unfold Br;obtain⟨F,hF⟩: ∃F,F=Ch (Bd ⟨kind,args,neg,abs,den⟩ ns):=⟨_,rfl⟩;rw[←hF];unfold Bd DQ at hF;unfold A6;simp only at*;obtain⟨e,he⟩: ∃e,e=wrong ⟨kind,args,neg,abs,den⟩ (ns.length:Int):=⟨_,rfl⟩;rw[←he]at k1 ⊢;refine cO Tryz.func91 rfl ?_;simp -implicitDefEqProofs[jJ,-qA,-qB]
 (first|refine Ac k1 ?_|refine Ae k1 ?_)
 by_cases h0:e=0
 ·subst h0;obtain⟨z1,z2,z3⟩:=Pf he.symm;simp only at z1 z2 z3;have k2:=jcV kind z1;simp -implicitDefEqProofs[jJ,-qA,-qB];have hfin: ∀L:List ByteArray,L.length≤21→(∀s∈L,s.size≤2900)→(Ch (Bc (L.map B))).size≤61000:=fun L h1 h2=>by
   have:=Dn (k:=2900) (L.map B) fun x hx=>by
    obtain⟨s,hs,rfl⟩:=jzk.1 hx
    exact h2 s hs
   rw[List.length_map]at this
   rw[Ja]
   omega
  have hsz: ∀s∈mapTo (A2 ns) args args.length,s.size≤2900:=fun s hs=>by
   unfold mapTo at hs;obtain⟨a,_,rfl⟩:=jzk.1 hs;have:=Hc hn a;omega
  have hmap:(mapTo (A2 ns) args args.length).map B=args.map (AN ns):=by
   rw[Eo,List.map_map]
   rfl
  have hws:=Ja (By kind);have hs1:({ data:= #[40] }:ByteArray).size=1:=rfl;have hs2:({ data:= #[41] }:ByteArray).size=1:=rfl;have hres: ∀W C:List UInt8,Ch W++{ data:= #[40] }++Ch C++{ data:= #[41] }=Ch (W++[40]++C++[41]):=fun W C=>by
   rw[show({ data:= #[40] }:ByteArray)=Ch [40] from rfl,show({ data:= #[41] }:ByteArray)=Ch [41] from rfl,Ng,Ng,Ng]
  refine CE [(7,30)] (fun i:Nat=>⟨[(20,vI .i64 i),(19,vI .i64 args.length),(18,vC (.d (AT args))),(7,vC (.sl 7 0 i)),(2,vC (.ptr 2 0)),(1,vC (.d (EC D.str ns)))],
   [(7,.row 1 (strsD (mapTo (A2 ns) args i)) true),(2,.box [.d (.int .i64 kind),.d (AT args),.d (.bool neg),.d (Ad abs),.d (Ad den)])]⟩)
   (fun i=>i≤args.length) (fun i=>args.length - i) 0 (by simp[AW,lk,St.le,vI,vC,CA,strsD]) (by omega) ?_
  intro i hi;have hlen:=DC (A2 ns) hi;by_cases h:i<args.length
  ·have g0:args[i]? =some args[i]:=AD h
   obtain⟨r0,r1⟩:=z2 _ (AZ h)
   have g1:=Gi r0 r1;have e1:=D9 (A2 ns) h;have e2:=Hq (mapTo (A2 ns) args i) (A2 ns args[i]);rw[←e1]at e2;simp -implicitDefEqProofs[jJ,-qA,-qB,h,g0,i64,g1,hlen];exact⟨⟨r0,r1⟩,⟨by omega,by omega⟩,by omega,i+1,⟨rfl,e2.symm⟩,by omega,by omega⟩
  ·have hi2:i=args.length:=by omega
   subst hi2;have kj0:=G4 (mapTo (A2 ns) args args.length) (by omega) hsz
   have hf0:=hfin _ (by omega) hsz
   have hSM:=HR (mapTo (A2 ns) args args.length);rw[hlen]at hSM;by_cases h9:kind=9
   ·subst h9;have kt:=jhM neg abs den hm.oa hm.od hm.la hm.ld (z3 rfl);have hrl:=jaA (neg:=neg) hm.oa hm.od hm.la hm.ld;have e2:=Hq (mapTo (A2 ns) args args.length) (Ch (BL neg (val abs) (val den)));have hL:(mapTo (A2 ns) args args.length++[Ch (BL neg (val abs) (val den))]).length=args.length+1:=by rw[List.length_append,hlen];rfl
    have hsz2: ∀s∈mapTo (A2 ns) args args.length++[Ch (BL neg (val abs) (val den))],s.size≤2900:=fun s hs=>by
     rcases List.mem_append.1 hs with hs|hs
     ·exact hsz s hs
     ·rw[List.mem_singleton.1 hs,Ja];exact hrl
    have kj:=G4 _ (by rw[hL];omega) hsz2
    have hf:=hfin _ (by rw[hL];omega) hsz2
    rw[List.map_append,hmap]at kj hf
    rw[hL,e2]at kj
    rw[if_pos rfl,←hres]at hF
    generalize mapTo (A2 ns) args args.length=M at*;generalize strsD M=SM at*;rw[show Bc (args.map (AN ns)++[BL neg (val abs) (val den)])=Bc (args.map (AN ns)++List.map B [Ch (BL neg (val abs) (val den))]) from rfl]at hF
    generalize Ch (Bc (args.map (AN ns)++List.map B [Ch (BL neg (val abs) (val den))]))=C at*;generalize hR:Ch (BL neg (val abs) (val den))=R at*;generalize hW:Ch (By 9)=Wd at*;have hS2:(SM++[D.str R]).length=args.length+1:=by rw[List.length_append,hSM];rfl
    have hS3:(SM++[D.str R]).take (args.length+1)=SM++[D.str R]:=Ba (by omega)
    generalize hSR:SM++[D.str R]=SR at*;simp -implicitDefEqProofs[jJ,-qA,-qB,hlen]
    (first|refine Ac kt ?_|refine Ae kt ?_)
    simp -implicitDefEqProofs[jJ,-qA,-qB,hlen,hSR];refine⟨hSM,⟨by omega,by omega⟩,?_⟩
    (first|refine Ac k2 ?_|refine Ae k2 ?_)
    simp -implicitDefEqProofs[jJ,-qA,-qB,G6,hs1,hlen,hSR,hS2,hS3];refine⟨by omega,?_⟩
    (first|refine Ac kj ?_|refine Ae kj ?_)
    simp -implicitDefEqProofs[jJ,-qA,-qB,G6,hs1,hs2,hF];omega
   ·rw[if_neg h9,List.append_nil,←hres]at hF
    rw[hmap]at kj0 hf0
    rw[hlen]at kj0
    generalize mapTo (A2 ns) args args.length=M at*;generalize strsD M=SM at*;generalize Ch (Bc (args.map (AN ns)))=C at*;generalize Ch (By kind)=Wd at*;have hS3:SM.take args.length=SM:=Ba (by omega)
    simp -implicitDefEqProofs[jJ,-qA,-qB,h9,hlen]
    (first|refine Ac k2 ?_|refine Ae k2 ?_)
    simp -implicitDefEqProofs[jJ,-qA,-qB,G6,hs1,hlen,hSM,hS3];refine⟨by omega,?_⟩
    (first|refine Ac kj0 ?_|refine Ae kj0 ?_)
    simp -implicitDefEqProofs[jJ,-qA,-qB,G6,hs1,hs2,hF];omega
 ·simp -implicitDefEqProofs[jJ,-qA,-qB,h0];rfl
theorem jaj(n:Int):CallsF Tryz.prog 90 [.c (.int .i64 n)] (.u (.c (.d (.str (bs (if n=0 then [103,105,118,101,110] else (rulT n).name)))))):=by
 have k1:=Yz n;generalize rulT n=r at*;simp only[Rul.res,Rul.ds,MB]at k1;refine cO Tryz.func90 rfl ?_;by_cases h:n=0
 ·simp -implicitDefEqProofs[jJ,-qA,-qB,-qF,h];rfl
 ·simp -implicitDefEqProofs[jJ,-qA,-qB,-qF,h]
  (first|refine Ac k1 ?_|refine Ae k1 ?_)
  simp -implicitDefEqProofs[jJ,-qA,-qB,-qF]
end Go.Va
