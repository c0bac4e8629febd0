/- a part of the proof -/
import Derived.Test.YtkfdniccmcolgaaGreatWbp
import Derived.Test.YtkfdniccmcolgaaGreatWbq
set_option linter.all false
set_option maxHeartbeats 4000000
set_option maxRecDepth 100000
namespace Go.Va
theorem Ko{v:Int}(h:0≤v∧v<40):Bt false (v+1,0):=by
 unfold Bt;simp only[Bool.false_eq_true,if_false,and_true];omega
theorem jcP{v w:Int}(h:0≤v∧v<40)(k:0≤w∧w<40):Bt true (v+1,w+1):=by
 unfold Bt;simp only[if_true];omega
def IP(sg:Bool)(ls:List UInt8)(a:List Cs):Prop:=a.map Prod.fst=ls∧ ∀s∈a,Bt sg s.2
theorem Uf: ∀(l:List UInt8) (pts:List Int),(∀p∈pts,0≤p∧p<40)→ ∀a∈ET l pts,IP false l a
 |[],pts,_=>by
  intro a ha;rw[ET,List.mem_singleton]at ha;subst ha;exact⟨rfl,by simp⟩
 |c::r,pts,hp=>by
  intro a ha;rw[ET]at ha;simp only[List.mem_flatMap,jzk,List.mem_range]at ha;obtain⟨i,hi,a',ha',rfl⟩:=ha;obtain⟨e1,e2⟩:=Uf r _ (fun p hp2=>hp p (List.mem_of_mem_eraseIdx hp2)) a' ha'
  refine⟨by rw[List.map_cons,e1],fun s hs=> ?_⟩
  rcases jzn.1 hs with rfl|hs
  ·exact Ko (by rw[Ff _ hi];exact hp _ (Ak hi))
  ·exact e2 s hs
theorem N7(sg:Bool): ∀(n:Nat) (ls:List UInt8) (l:List (Int×Int)),ls.length≤n→(∀c∈ls,cls sg c)→(∀s∈l,(0≤s.1∧s.1<40)∧(0≤s.2∧s.2<40))→ ∀a∈AS ls l,IP sg ls a
 |n,[],l,_,_,_=>by
  have e2:AS [] l=[[]]:=by cases l<;>rfl
  rw[e2]
  intro a ha;rw[List.mem_singleton]at ha;subst ha;exact⟨rfl,by simp⟩
 |n,x::r,[],_,_,_=>by simp[AS]
 |0,x::r,s::l,hn,_,_=>by simp at hn
 |n+1,x::r,s::l,hn,hc,hp=>by
  simp only[List.length_cons,Nat.add_le_add_iff_right]at hn;have hs0:=hp s (by simp)
  have hp2: ∀t∈l,(0≤t.1∧t.1<40)∧(0≤t.2∧t.2<40):=fun t ht=>hp t (by simp[ht])
  intro a ha;by_cases h97:97≤x.toNat
  ·have hsg:=(HQ (hc x (by simp))).1 h97
   subst hsg;have e2:AS (x::r) (s::l)=(AS r l).map (fun a=>(x,(s.1+1,s.2+1))::a):=by
    cases r<;>simp only[AS,if_pos h97]
   rw[e2,jzk]at ha
   obtain⟨a',ha',rfl⟩:=ha
   obtain⟨e1,e3⟩:=N7 true n r l hn (fun c h=>hc c (by simp[h])) hp2 a' ha'
   refine⟨by rw[List.map_cons,e1],fun t ht=> ?_⟩
   rcases jzn.1 ht with rfl|ht
   ·exact jcP hs0.1 hs0.2
   ·exact e3 t ht
  ·have hsg:sg=false:=by
    cases sg with
    |true=>exact absurd ((HQ (hc x (by simp))).2 rfl) h97
    |false=>rfl
   subst hsg;cases r with
   |nil=>simp only[AS,if_neg h97]at ha;cases ha
   |cons d r=>
    have e2:AS (x::d::r) (s::l)=(AS r l).map (fun a=>(x,(s.1+1,0))::(d,(s.2+1,0))::a)++(if s.1=s.2 then [] else (AS r l).map (fun a=>(x,(s.2+1,0))::(d,(s.1+1,0))::a)):=by
     simp only[AS,if_neg h97]
    have aux: ∀u v:Int,(0≤u∧u<40)→(0≤v∧v<40)→a∈(AS r l).map (fun a=>((x,(u+1,0))::(d,(v+1,0))::a:List Cs))→IP false (x::d::r) a:=by
     intro u v hu hv ha;obtain⟨a',ha',rfl⟩:=jzk.1 ha;obtain⟨e1,e3⟩:=N7 false n r l (by simp at hn;omega) (fun c h=>hc c (by simp[h])) hp2 a' ha'
     refine⟨by rw[List.map_cons,List.map_cons,e1],fun t ht=> ?_⟩
     rcases jzn.1 ht with rfl|ht
     ·exact Ko hu
     ·rcases jzn.1 ht with rfl|ht
      ·exact Ko hv
      ·exact e3 t ht
    rw[e2,List.mem_append]at ha
    rcases ha with ha|ha
    ·exact aux _ _ hs0.1 hs0.2 ha
    ·split at ha
     ·cases ha
     ·exact aux _ _ hs0.2 hs0.1 ha
theorem Kp{sg:Bool}{p:Pat}(ht:EI sg p=true): ∀c∈p.letters,cls sg c:=by
 unfold EI at ht;rw[Ax]at ht;exact fun c h=>by simpa using jzy.1 ht.1 c h
theorem Qh{sg:Bool}{p:Pat}(ht:EI sg p=true){f:Fct}(hf:f.Rt): ∀a∈DN p f,IP sg p.letters a:=by
 have hc:=Kp ht;have hg:=KG hf;have h3:=hf.parts.2.2.1;unfold EI at ht;rw[Ax]at ht;have ht:=ht.2;intro a ha;unfold DN at ha;by_cases hk:p.kind=1∨p.kind=6∨p.kind=8
 ·have hsg:sg=false:=by
   rcases hk with k|k|k
   ·rw[if_pos k,Ax,Bool.not_eq_true']at ht;exact ht.1
   ·rw[if_neg (by omega),if_pos k,Ax,Bool.not_eq_true']at ht;exact ht.1
   ·rw[if_neg (by omega),if_neg (by omega),if_pos k,Ax,Bool.not_eq_true']at ht;exact ht.1
  subst hsg;rw[if_pos hk]at ha;split at ha
  ·exact Uf _ _ h3 a ha
  ·cases ha
 ·rw[if_neg hk]at ha
  by_cases h5:p.kind=5
  ·rw[if_pos h5]at ha
   rw[if_neg (by omega),if_neg (by omega),if_neg (by omega),if_pos h5,Ax,Bool.not_eq_true',decide_eq_true_eq]at ht
   obtain⟨rfl,hl⟩:=ht
   obtain⟨c1,c2,c3,hl⟩:=Da hl
   split at ha
   ·rw[hl]at ha ⊢
    simp only[List.getD_cons_zero,List.getD_cons_succ,jzn,AM,or_false]at ha;have q0:=hg 0;have q1:=hg 1;have q2:=hg 2;rcases ha with rfl|rfl<;>(refine⟨rfl,fun s hs=> ?_⟩;simp only[jzn,AM,or_false]at hs;rcases hs with rfl|rfl|rfl<;>(refine Ko ?_;assumption))
   ·cases ha
  ·rw[if_neg h5,List.mem_flatMap]at ha
   obtain⟨l,hl,ha⟩:=ha
   exact N7 sg _ _ l (AA _) hc (QX _ f hf l hl) a ha
theorem TT{sg:Bool}{ls:List UInt8}{a:List Cs}(h:IP sg ls a):GD sg a=ls.map (D7 sg):=by
 unfold GD;rw[←h.1,List.map_map];rfl
theorem ZP{sg:Bool}{p:Pat}(hp:p.Fit)(ht:EI sg p=true){f:Fct}(hf:f.Rt){b:Bnd}{n:Nmz}(hL:Eh sg b n):
  (∀c∈C5 p f b,(∃v∈C6 (BB sg p) f,∃m,Be (BB sg p).letters v n=(m,true)∧Eh sg c m)∧(∀x∈p.letters,Bt sg (c.get x))∧ ∀x,Cu x→b.get x≠(0,0)→c.get x=b.get x)∧
  (∀v∈C6 (BB sg p) f,∀m,Be (BB sg p).letters v n=(m,true)→ ∃c∈C5 p f b,Eh sg c m):=by
 have hc:=Kp ht;have st:=Qh ht hf;have cl: ∀a∈DN p f,∀s∈a,cls sg s.1∧Bt sg s.2:=fun a ha s hs=>by
  obtain⟨e1,e2⟩:=st a ha
  exact⟨hc _ (by rw[←e1];exact jzk.2 ⟨s,hs,rfl⟩),e2 s hs⟩
 constructor
 ·intro c hcm;obtain⟨a,ha,hr⟩:=(Ss hp hf b c).1 hcm;have hl:=Nf sg a b n (cl a ha) hL;rw[hr]at hl;obtain⟨m,hm,hLc⟩:=hl;have hsp:=S5 (fun s hs=>IT (cl a ha s hs).1 (cl a ha s hs).2) hr
  refine⟨⟨vals sg a,(MY ht hf _).2 ⟨a,ha,rfl⟩,m,?_,hLc⟩,fun x hx=> ?_,hsp.2.1⟩
  ·have e:(BB sg p).letters=GD sg a:=(TT (st a ha)).symm
   rw[e]
   exact hm
  ·rw[←(st a ha).1]at hx
   obtain⟨s,hs,rfl⟩:=jzk.1 hx
   rw[hsp.1 s hs]
   exact(cl a ha s hs).2
 ·intro v hv m hm;obtain⟨a,ha,rfl⟩:=(MY ht hf v).1 hv;have hl:=Nf sg a b n (cl a ha) hL;have e:(BB sg p).letters=GD sg a:=(TT (st a ha)).symm;rw[e]at hm;cases hr:run a b with
  |none=>
   rw[hr]at hl
   rw[hm]at hl
   cases hl
  |some c=>
   rw[hr]at hl
   obtain⟨m',hm',hLc⟩:=hl
   rw[hm]at hm'
   cases hm'
   exact⟨c,(Ss hp hf b c).2 ⟨a,ha,hr⟩,hLc⟩
def Ey(n:Nmz)(q:RPat):Fct:=⟨q.kind,argsR q n,false,if q.kind=9 then limbs q.num.toNat else [],if q.kind=9 then limbs 1 else []⟩
def CB:List RPat→Nmz→List Grd→List Grd×Bool
 |[],_,out=>(out,true)
 |q::ps,n,out=>match FG (argsR q n)with|none=>([],false)|some a=>CB ps n (Bf out ⟨q.kind,a⟩)
def DG(r:RRul)(n:Nmz):List AR:=if (CB r.guards n []).2 then r.to.map fun q=>(Ey n q,(CB r.guards n []).1) else []
theorem KM{sg:Bool}{b:Bnd}{n:Nmz}(hL:Eh sg b n)(p:Pat)(hc: ∀c∈p.letters,cls sg c∧Bt sg (b.get c)):argsR (BB sg p) n=Bi b p.letters∧(∀v∈Bi b p.letters,0≤v∧v<40)∧(Bi b p.letters).length=if sg then 2*p.letters.length else p.letters.length:=by
 obtain⟨k,ls,pn⟩:=p
 simp only at hc;unfold argsR BB Bi;simp only
 induction ls with
 |nil=>cases sg<;>simp
 |cons c ls ih=>
  obtain⟨i1,i2,i3⟩:=ih fun x hx=>hc x (by simp[hx])
  obtain⟨h1,h2⟩:=hc c (by simp)
  have h97:=HQ h1;have hn:n.get ((D7 sg c).toNat - 97)=CO sg (b.get c):=by
   rcases hL c h1 with⟨e,_⟩|⟨_,e⟩
   ·exact absurd e (O2 h2)
   ·exact e
  have e:(if sg then [(n.get ((D7 sg c).toNat - 97)).tdiv 40,(n.get ((D7 sg c).toNat - 97)).tmod 40] else [n.get ((D7 sg c).toNat - 97)])=C4 b c∧(∀v∈C4 b c,0≤v∧v<40)∧(C4 b c).length=if sg then 2 else 1:=by
   rw[hn,jgn]
   unfold CO Bt at*;cases sg with
   |true=>
    simp only[if_pos (h97.2 rfl)];simp only[if_true]at h2 ⊢;have q1:((b.get c).1 - 1)*40+((b.get c).2 - 1)=40*((b.get c).1 - 1)+((b.get c).2 - 1):=by omega
    have t1:(((b.get c).1 - 1)*40+((b.get c).2 - 1)).tdiv 40=(b.get c).1 - 1:=by
     rw[Int.tdiv_eq_ediv_of_nonneg (by omega)];omega
    have t2:(((b.get c).1 - 1)*40+((b.get c).2 - 1)).tmod 40=(b.get c).2 - 1:=by
     rw[Int.tmod_eq_emod_of_nonneg (by omega)];omega
    rw[t1,t2]
    refine⟨by trivial,fun v hv=> ?_,by simp⟩
    simp only[jzn,AM,or_false]at hv;omega
   |false=>
    have hn97: ¬97≤c.toNat:=fun h=>by have:=h97.1 h;cases this
    simp only[if_neg hn97];simp only[Bool.false_eq_true,if_false]at h2 ⊢;refine⟨by trivial,fun v hv=> ?_,by simp⟩
    simp only[jzn,AM,or_false]at hv;omega
  rw[List.map_cons,List.flatMap_cons,List.flatMap_cons,i1,e.1]
  refine⟨rfl,fun v hv=> ?_,?_⟩
  ·rcases List.mem_append.1 hv with hv|hv
   ·exact e.2.1 v hv
   ·exact i2 v hv
  ·rw[List.length_append,i3,e.2.2,List.length_cons]
   cases sg<;>simp<;>omega
theorem KR(a b:Int):(a<b∧ ¬b<a∧ ¬a=b∧ ¬b=a∧a≤b∧ ¬b≤a)∨(a=b)∨(b<a∧ ¬a<b∧ ¬a=b∧ ¬b=a∧b≤a∧ ¬a≤b):=by omega
theorem jf4(x y:Int):FG [x,y]=if BO (BE [x,y]) then none else some (BE [x,y]):=by
 rw[Hy]
 unfold FG;simp only[List.length_cons,List.length_nil,Dj,CA,List.getD_cons_zero,List.getD_cons_succ,Hp,Ed];rcases KR x y with⟨a1,a2,a3,a4,a5,a6⟩|e|⟨a1,a2,a3,a4,a5,a6⟩
 ·simp[a1,a2,a3,a4,a5,a6,Ed,BO,CA,Dj]
 ·subst e;simp[Ed,BO,CA,Dj]
 ·simp[a1,a2,a3,a4,a5,a6,Ed,BO,CA,Dj]
theorem jha(x y z:Int):FG [x,y,z]=if BO (BE [x,y,z]) then none else some (BE [x,y,z]):=by
 rw[Hy]
 unfold FG;simp only[List.length_cons,List.length_nil,Dj,CA,List.getD_cons_zero,List.getD_cons_succ,Hp,Ed];have q1:=KR x y;have q2:=KR x z;have q3:=KR y z;rcases q1 with⟨a1,a2,a3,a4,a5,a6⟩|e1|⟨a1,a2,a3,a4,a5,a6⟩<;>rcases q2 with⟨b1,b2,b3,b4,b5,b6⟩|e2|⟨b1,b2,b3,b4,b5,b6⟩<;>rcases q3 with⟨c1,c2,c3,c4,c5,c6⟩|e3|⟨c1,c2,c3,c4,c5,c6⟩<;>
  first|(exfalso;omega)|(subst_vars;simp[*,Ed,BO,CA,Dj])
theorem Q4: ∀a b:List Int,cmpLL a b<0↔AL a b<0
 |[],[]=>by simp[cmpLL,AL]
 |[],b::y=>by simp[cmpLL,AL]<;>omega
 |a::x,[]=>by simp[cmpLL,AL]<;>omega
 |a::x,b::y=>by
  have:=Q4 x y
  rw[cmpLL,AL]
  unfold Az;by_cases h1:a<b
  ·simp[h1]
  ·by_cases h2:b<a
   ·simp[h1,h2]
   ·simp[h1,h2,this]
theorem O3(a b:Grd):cmpGd a b<0↔cmpG a b<0:=by
 have e:cmpG a b=Bm [Az a.kind b.kind,AL a.args b.args]:=rfl
 rw[e]
 unfold cmpGd Bm Bm Bm Az;by_cases h:a.kind=b.kind
 ·rw[if_neg (by simp[h]),Q4]
  simp[h]
  split<;>omega
 ·rw[if_pos h]
  by_cases h1:a.kind<b.kind
  ·simp[h1];omega
  ·have h2:b.kind<a.kind:=by omega
   simp[h1,h2];omega
theorem jdD{a b c:Grd}(h1:cmpG a b<0)(h2:cmpG b c<0):cmpG a c<0:=by
 have t:=isCmp_G'.tr a b c trivial trivial trivial (by omega) (by omega)
 have:cmpG a c≠0:=fun h=>by have:=(t.2 h).1;omega
 omega
theorem jhB(a b:Grd)(h: ¬cmpG a b<0)(hn:a≠b):cmpG b a<0:=by
 have an:=isCmp_G'.anti a b trivial trivial;have:cmpG a b≠0:=fun h=>hn (cmpG_zero.1 h)
 omega
def Ez(l:List Grd):Prop:=l.Pairwise fun a b=>cmpG a b<0
theorem It(f:Grd): ∀(l:List Grd) (x:Grd),x∈Bf l f↔x=f∨x∈l
 |[],x=>by simp[Bf]
 |a::l,x=>by
  have ih:=It f l x;unfold Bf;split
  ·simp only[jzn,ih]
   constructor
   ·rintro (h|h|h)<;>simp[h]
   ·rintro (h|h|h)<;>simp[h]
  ·split
   ·rename_i h
    have e:=cmpGd_zero.1 h;subst e;simp only[jzn]
    constructor
    ·intro h;exact .inr h
    ·rintro (h|h)
     ·exact .inl h
     ·exact h
   ·simp
theorem Qk(f:Grd): ∀{l:List Grd},Ez l→Ez (Bf l f)
 |[],_=>by simp[Bf,Ez]
 |a::l,hp=>by
  unfold Ez at hp;rw[List.pairwise_cons]at hp;unfold Bf;split
  ·rename_i h
   rw[O3]at h
   refine List.pairwise_cons.2 ⟨fun x hx=> ?_,Qk f hp.2⟩
   rcases (It f l x).1 hx with rfl|hx
   ·exact h
   ·exact hp.1 x hx
  ·split
   ·exact List.pairwise_cons.2 hp
   ·rename_i h h0
    rw[O3]at h
    have hfa:=jhB a f h fun e=>h0 (cmpGd_zero.2 e)
    refine List.pairwise_cons.2 ⟨fun x hx=> ?_,List.pairwise_cons.2 hp⟩
    rcases jzn.1 hx with rfl|hx
    ·exact hfa
    ·exact jdD hfa (hp.1 x hx)
theorem KV: ∀(m l:List Grd) (x:Grd),x∈m.foldl Bf l↔x∈l∨x∈m
 |[],l,x=>by simp
 |f::m,l,x=>by
  rw[List.foldl_cons,KV m,It]
  simp only[jzn]
  constructor
  ·rintro ((h|h)|h)<;>simp[h]
  ·rintro (h|h|h)<;>simp[h]
theorem Vd: ∀(m:List Grd) {l:List Grd},Ez l→Ez (m.foldl Bf l)
 |[],l,h=>h
 |f::m,l,h=>Vd m (Qk f h)
theorem Mt: ∀(l:List Grd) (x:Grd),x∈AV l↔x∈l
 |[],x=>by simp[AV]
 |[a],x=>by simp[AV]
 |a::b::l,x=>by
  have ih:=Mt (b::l) x;rw[AV];split
  ·rename_i h
   subst h;rw[ih];simp
  ·rw[jzn,ih]
   simp
theorem Sq: ∀(l:List Grd),l.Pairwise (fun a b=>cmpG a b≤0)→Ez (AV l)
 |[],_=>by simp[AV,Ez]
 |[a],_=>by simp[AV,Ez]
 |a::b::l,h=>by
  rw[List.pairwise_cons]at h
  have ih:=Sq (b::l) h.2;rw[AV];split
  ·exact ih
  ·rename_i hab
   refine List.pairwise_cons.2 ⟨fun x hx=> ?_,ih⟩
   have hx:=(Mt (b::l) x).1 hx;have h1:=h.1 x hx;have hb:=h.1 b (by simp)
   have hlt:cmpG a b<0:=by
    have:cmpG a b≠0:=fun h=>hab (cmpG_zero.1 h)
    omega
   rcases jzn.1 hx with rfl|hx
   ·exact hlt
   ·have h2:=(List.pairwise_cons.1 h.2).1 x hx;have t:=isCmp_G'.tr a b x trivial trivial trivial (by omega) h2
    have:cmpG a x≠0:=fun h=>by have:=(t.2 h).1;omega
    omega
theorem jaR{l m:List Grd}(pl:Ez l)(pm:Ez m)(h: ∀x,x∈l↔x∈m):l=m:=by
 have nd: ∀{l:List Grd},Ez l→l.Nodup:=fun {l} pl=>by
  refine List.Pairwise.imp (fun {a b} h he=> ?_) pl
  subst he;have:cmpG a a=0:=cmpG_zero.2 rfl;omega
 refine List.Perm.eq_of_pairwise (le:=fun a b=>cmpG a b<0) (fun a b ha hb h1 h2=> ?_) pl pm ((List.perm_ext_iff_of_nodup (nd pl) (nd pm)).2 h)
 have:=isCmp_G'.anti a b trivial trivial
 omega
theorem UR(l:List Grd):BV l=l.foldl Bf []:=by
 refine jaR (Sq _ (Ka isCmp_G' fun x _=>trivial)) (Vd l .nil) fun x=> ?_
 unfold BV;rw[Mt,sortG_mem,KV];simp
theorem Re{sg:Bool}{b:Bnd}{n:Nmz}(hL:Eh sg b n): ∀(ps:List Pat) (out:List Grd),(∀p∈ps,(∀c∈p.letters,cls sg c∧Bt sg (b.get c))∧((Bi b p.letters).length=2∨(Bi b p.letters).length=3))→
  CB (ps.map (BB sg)) n out=if ps.any (fun p=>BO (Bc b p)) then ([],false) else ((ps.map (GQ b)).foldl Bf out,true)
 |[],out,_=>rfl
 |p::ps,out,h=>by
  obtain⟨h1,h2⟩:=h p (by simp)
  have ih:=fun out=>Re hL ps out fun q hq=>h q (by simp[hq])
  have ea:=(KM hL p h1).1;have es:FG (Bi b p.letters)=if BO (Bc b p) then none else some (Bc b p):=by
   unfold Bc;rcases h2 with h2|h2
   ·obtain⟨x,y,e⟩: ∃x y,Bi b p.letters=[x,y]:=by
     match Bi b p.letters,h2 with
     |[x,y],_=>exact⟨x,y,rfl⟩
    rw[e];exact jf4 x y
   ·obtain⟨x,y,z,e⟩:=Da h2
    rw[e];exact jha x y z
  rw[List.map_cons,CB,ea,es,List.any_cons]
  by_cases ht:BO (Bc b p)=true
  ·simp[ht]
  ·simp only[Bool.not_eq_true]at ht;simp only[ht,Bool.false_eq_true,if_false,Bool.false_or,ih,List.map_cons,List.foldl_cons];rfl
def C9(sg:Bool)(r:Rul):RRul:=⟨r.name,r.prem.map (BB sg),r.concl.map (BB sg),r.guards.map (BB sg)⟩
def HR(sg:Bool)(r:Rul)(P:Pat):Bool:=P.letters.all fun c=>decide (cls sg c)&&r.prem.any fun p=>p.letters.contains c
def MC(sg:Bool)(P:Pat):Nat:=if sg then 2*P.letters.length else P.letters.length
def Ft(sg:Bool)(r:Rul):Bool:=r.prem.all (EI sg)&&r.guards.all (HR sg r)&&r.concl.all (HR sg r)&&r.guards.all (fun P=>decide (MC sg P=2)||decide (MC sg P=3))&&
 r.concl.all (fun P=>decide (MC sg P=arity P.kind)&&decide (arity P.kind≠0)&&(decide (P.kind≠9)||decide (P.n=4)))
def QU(p:RPat)(q:RPat):Bool:=decide (p.kind=q.kind)&&decide (p.letters=q.letters)&&decide (p.seg=q.seg)&&decide (p.num=q.num)
def GI:List RPat→List RPat→Bool
 |[],[]=>true
 |a::l,b::m=>QU a b&&GI l m
 |_,_=>false
theorem Lh: ∀{l m:List RPat},GI l m=true→l=m
 |[],[],_=>rfl
 |[],_::_,h=>by simp[GI]at h
 |_::_,[],h=>by simp[GI]at h
 |a::l,b::m,h=>by
  rw[GI,Ax]at h
  rw[Lh h.2]
  congr 1
  have h1:=h.1;unfold QU at h1;simp only[Ax,decide_eq_true_eq]at h1;obtain⟨k,ls,s,n⟩:=a;obtain⟨k',ls',s',n'⟩:=b;simp only at h1;obtain⟨⟨⟨rfl,rfl⟩,rfl⟩,rfl⟩:=h1;rfl
def GP(n:Nat):Bool:=decide (n=1)||decide (n=2)||decide (n=3)||decide (n=15)||decide (n=16)||decide (n=17)||decide (n=19)||decide (n=20)
theorem ja2: ∀n:Fin 29,(n.val=4∨n.val=9)∨(Ft (GP n.val) (AJ n.val)=true∧decide ((refN n.val).name=(AJ n.val).name)=true∧GI (refN n.val).frm ((AJ n.val).prem.map (BB (GP n.val)))=true∧GI (refN n.val).to ((AJ n.val).concl.map (BB (GP n.val)))=true∧GI (refN n.val).guards ((AJ n.val).guards.map (BB (GP n.val)))=true):=by decide+kernel
theorem Li(n:Nat)(h4:n≠4)(h9:n≠9):Ft (GP n) (AJ n)=true∧refN n=C9 (GP n) (AJ n):=by
 by_cases h:n<29
 ·rcases ja2 ⟨n,h⟩with h'|⟨a,b,c,d,e⟩
  ·simp only at h';omega
  ·refine⟨a,?_⟩
   have b:=of_decide_eq_true b;have c:=Lh c;have d:=Lh d;have e:=Lh e;simp only at b c d e;unfold C9;rw[←b,←c,←d,←e]
 ·rw[IK n (by omega),WP n (by omega)]
  exact⟨by rfl,rfl⟩
theorem MK{f:Fct}(h1:arity f.kind≠0)(h2:f.args.length=arity f.kind)(h3: ∀a∈f.args,0≤a∧a<40)
  (h4:if f.kind=9 then BR f.neg f.abs f.den=true else f.neg=false∧f.abs=[]∧f.den=[]):AK f=true:=by
 unfold AK FW;rw[if_neg h1,if_neg (by omega),if_neg (by
  simp only[List.any_eq_true,not_exists,Bool.or_eq_true,decide_eq_true_eq,not_and,not_or];intro a ha;have:=h3 a ha;omega)]
 by_cases h9:f.kind=9
 ·rw[if_pos h9]at h4 ⊢
  simp[h4]
 ·rw[if_neg h9]at h4 ⊢
  simp[EY,h4.1,h4.2.1,h4.2.2]
theorem VY{n:Bool}{m d:Nat}(d0:d≠0)(hg:Nat.gcd m d=1)(hn:n=true→m≠0):BR n (limbs m) (limbs d)=true:=by
 unfold BR;rw[HE,HE,Am,Am];simp only[limbs_nil,hg,d0,decide_true,decide_false,Bool.not_false,Bool.and_true,Bool.true_and,Bool.not_eq_true',Bool.and_eq_false_iff,decide_eq_false_iff_not];cases n with
 |false=>simp
 |true=>simp[hn rfl]
theorem jdl{sg:Bool}{r:Rul}{b:Bnd}{n:Nmz}(hL:Eh sg b n)(hR:Ft sg r=true)(hb: ∀p∈r.prem,∀c∈p.letters,Bt sg (b.get c)):Cj r b=DG (C9 sg r) n∧ ∀x∈Cj r b,AK x.1=true:=by
 unfold Ft at hR;simp only[Ax]at hR;obtain⟨⟨⟨⟨r1,r2⟩,r3⟩,r4⟩,r5⟩:=hR;rw[jzy]at r1 r2 r3 r4 r5;have inP: ∀P:Pat,HR sg r P=true→ ∀c∈P.letters,cls sg c∧Bt sg (b.get c):=fun P hP c hc=>by
  unfold HR at hP;have:=jzy.1 hP c hc;simp only[Ax,decide_eq_true_eq,List.any_eq_true,List.contains_iff_mem]at this;obtain⟨h1,p,hp,h2⟩:=this;exact⟨h1,hb p hp c h2⟩
 have eg:=Re hL r.guards [] fun P hP=>by
  have h1:=inP P (r2 P hP);refine⟨h1,?_⟩;rw[(KM hL P h1).2.2];have:=r4 P hP;simp only[Bool.or_eq_true,decide_eq_true_eq]at this;exact this
 have ec: ∀P∈r.concl,Ey n (BB sg P)=D9 b P:=fun P hP=>by
  unfold Ey D9;rw[(KM hL P (inP P (r3 P hP))).1];rfl
 constructor
 ·unfold Cj DG C9;simp only;rw[eg];unfold Gv guardsL;cases ht:r.guards.any fun p=>BO (Bc b p)with
  |true=>simp
  |false=>
   simp only[Bool.not_false,if_true,Bool.false_eq_true,if_false,List.map_map];refine List.map_congr_left fun P hP=> ?_
   rw[Function.comp_apply,ec P hP,UR]
 ·intro x hx;unfold Cj at hx;split at hx
  ·obtain⟨P,hP,rfl⟩:=jzk.1 hx
   have h5:=r5 P hP;simp only[Ax,Bool.or_eq_true,decide_eq_true_eq]at h5;obtain⟨⟨h5,h6⟩,h7⟩:=h5;obtain⟨e1,e2,e3⟩:=KM hL P (inP P (r3 P hP));refine MK (f:=D9 b P) h6 ?_ e2 ?_
   ·show(Bi b P.letters).length=_
    rw[e3];exact h5
   ·unfold D9;simp only;split
    ·rename_i h9
     rw[h7.resolve_left (fun h=>h h9)]
     exact VY (by omega) (by decide) (by simp)
    ·exact⟨by trivial,by trivial,by trivial⟩
  ·cases hx
def BC(r:RRul)(nl:List Fct):Nat→Nat→Nmz→List AR
 |0,_,n=>DG r n
 |k+1,i,n=>match r.frm[i]?,nl[i]? with
  |some q,some f=>(C6 q f).flatMap fun v=>if (Be q.letters v n).2 then BC r nl k (i+1) (Be q.letters v n).1 else []
  |_,_=>[]
theorem Sl{sg:Bool}{r:Rul}(hr:r.Good)(hR:Ft sg r=true){nl:List Fct}(hn: ∀f∈nl,f.Rt)(hlen:nl.length=r.prem.length): ∀(k i:Nat) (b:Bnd) (n:Nmz),i+k=nl.length→Eh sg b n→
  (∀j p,j<i→r.prem[j]? =some p→ ∀c∈p.letters,Bt sg (b.get c))→(∀x,x∈DY (Cj r) (Co r nl) k i b↔x∈BC (C9 sg r) nl k i n)∧ ∀x∈DY (Cj r) (Co r nl) k i b,AK x.1=true
 |0,i,b,n,hi,hL,hb=>by
  have hb': ∀p∈r.prem,∀c∈p.letters,Bt sg (b.get c):=fun p hp=>by
   obtain⟨j,hj,e⟩:=List.mem_iff_getElem.1 hp
   exact hb j p (by omega) (by rw[Ai hj,e])
  obtain⟨e1,e2⟩:=jdl hL hR hb'
  refine⟨fun x=> ?_,e2⟩
  show x∈Cj r b↔x∈DG (C9 sg r) n
  rw[e1]
 |k+1,i,b,n,hi,hL,hb=>by
  have hin:i<nl.length:=by omega
  have hip:i<r.prem.length:=by omega
  have hf:=hn _ (Ak hin);have hfit:=(hr.fit _ (Ak hip)).1;have ht:EI sg r.prem[i]=true:=by
   unfold Ft at hR;simp only[Ax]at hR;exact jzy.1 hR.1.1.1.1 _ (Ak hip)
  obtain⟨s1,s2⟩:=ZP hfit ht hf hL
  have em:Co r nl i b=C5 r.prem[i] nl[i] b:=by
   unfold Co;rw[Ai hip,Ai hin]
  have ef:DY (Cj r) (Co r nl) (k+1) i b=(C5 r.prem[i] nl[i] b).flatMap (DY (Cj r) (Co r nl) k (i+1)):=by
   show(Co r nl i b).flatMap _=_
   rw[em]
  have er:BC (C9 sg r) nl (k+1) i n=(C6 (BB sg r.prem[i]) nl[i]).flatMap fun v=>if (Be (BB sg r.prem[i]).letters v n).2 then BC (C9 sg r) nl k (i+1) (Be (BB sg r.prem[i]).letters v n).1 else []:=by
   rw[BC]
   have e1:(C9 sg r).frm[i]? =some (BB sg r.prem[i]):=by
    unfold C9;simp only;rw[Bw,Ai hip];rfl
   rw[e1,Ai hin]
  have nx: ∀c∈C5 r.prem[i] nl[i] b,∀j p,j<i+1→r.prem[j]? =some p→ ∀x∈p.letters,Bt sg (c.get x):=fun c hc j p hj hp x hx=>by
   obtain⟨_,q2,q3⟩:=s1 c hc
   by_cases e:j=i
   ·subst e;rw[Ai hip]at hp;cases hp;exact q2 x hx
   ·have h1:=hb j p (by omega) hp x hx
    have hlt:Cu x:=by
     have hp':p∈r.prem:=Bv hp;have ht':EI sg p=true:=by
      unfold Ft at hR;simp only[Ax]at hR;exact jzy.1 hR.1.1.1.1 _ hp'
     exact NW (Kp ht' x hx)
    rw[q3 x hlt (O2 h1)]
    exact h1
  have ih:=fun c m (hc:c∈C5 r.prem[i] nl[i] b) (hLc:Eh sg c m)=>Sl hr hR hn hlen k (i+1) c m (by omega) hLc (nx c hc)
  rw[ef,er]
  simp only[List.mem_flatMap]
  constructor
  ·intro x
   constructor
   ·rintro⟨c,hc,hx⟩
    obtain⟨⟨v,hv,m,hm,hLc⟩,_,_⟩:=s1 c hc
    refine⟨v,hv,?_⟩
    rw[hm]
    exact((ih c m hc hLc).1 x).1 hx
   ·rintro⟨v,hv,hx⟩
    cases hq:(Be (BB sg r.prem[i]).letters v n).2 with
    |false=>rw[hq]at hx;cases hx
    |true=>
     rw[hq]at hx
     obtain⟨c,hc,hLc⟩:=s2 v hv _ (Prod.ext rfl hq)
     exact⟨c,hc,((ih c _ hc hLc).1 x).2 hx⟩
  ·rintro x ⟨c,hc,hx⟩
   obtain⟨⟨v,hv,m,hm,hLc⟩,_,_⟩:=s1 c hc
   exact(ih c m hc hLc).2 x hx
theorem Vp{sg:Bool}{r:Rul}(hr:r.Good)(hR:Ft sg r=true){nl:List Fct}(hn: ∀f∈nl,f.Rt)(hlen:nl.length=r.prem.length):
  (∀x,x∈saysP r nl↔x∈BC (C9 sg r) nl nl.length 0 Nmz.zero)∧ ∀x∈saysP r nl,AK x.1=true:=
 Sl hr hR hn hlen nl.length 0 Bnd.zero Nmz.zero (by omega) (jag sg) fun j p hj=>by omega
end Go.Va
