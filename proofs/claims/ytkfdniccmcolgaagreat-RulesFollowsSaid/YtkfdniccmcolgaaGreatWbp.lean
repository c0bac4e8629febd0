/- a part of the proof -/
import Derived.Test.YtkfdniccmcolgaaGreatWbo
import Derived.Test.YtkfdniccmcolgaaGreatWbm
set_option linter.all false
set_option maxHeartbeats 4000000
set_option maxRecDepth 100000
namespace Go.Va
open Go.Proofs
theorem Kn: ∀(Ls:List (List Fct)) (A:List Fct),Ls.foldl AB A=AB A Ls.flatten
 |[],A=>rfl
 |L::Ls,A=>by
  rw[List.foldl_cons,Kn Ls,List.flatten_cons]
  unfold AB;rw[List.foldl_append]
def DW(f:Fct)(A:List Ct):Prop:= ∀g∈A,okS f.args.length g=true∧(g.2=true→f.kind=9∧val f.abs≠0)
theorem JK{f:Fct}(h:f.Rt){A:List Ct}(hA:DW f A): ∀x∈A.map (BU f),x.Rt:=fun x hx=>by
 obtain⟨g,hg,rfl⟩:=jzk.1 hx
 exact jfI h (hA g hg).1 (hA g hg).2
theorem Is{f:Fct}(h:f.Rt){A:List Ct}(hA:DW f A)(x:Fct):x∈varL f A↔x∈A.map (BU f):=by
 unfold varL;rw[NJ (by simp) (JK h hA)]
 simp
theorem jhM{f:Fct}(h:f.Rt){A:List Ct}(hA:DW f A):(varL f A).Pairwise (fun a b=>Aw a b<0):=L3 (by simp) (JK h hA) List.Pairwise.nil
theorem jdJ{f:Fct}(h:f.Rt){A:List Ct}(hA:DW f A){L:List Fct}(hL: ∀x,x∈L↔x∈A.map (BU f))(sL:L.Pairwise (fun a b=>Aw a b<0)):L=varL f A:=
 jep (fun x hx=>JK h hA x ((hL x).1 hx)) (fun x hx=>JK h hA x ((Is h hA x).1 hx)) sL (jhM h hA) fun x=>by rw[hL,Is h hA]
def A2:List Ct:=[([0,1,2,3],false),([2,3,0,1],false),([1,0,2,3],false),([2,3,1,0],false),([0,1,3,2],false),([3,2,0,1],false),([1,0,3,2],false),([3,2,1,0],false)]
theorem Nh(k:Int)(n:Bool)(m d:List Nat)(a b c e:Int):Dz (CP k n m d m d a b c e) 4=varL ⟨k,[a,b,c,e],n,m,d⟩ A2:=by
 unfold Dz varL;rw[Kn];rfl
def A5:List Ct:=[([0,1,2],false),([0,2,1],false)]
theorem je0(a b c:Int):AB [] [⟨5,[a,b,c],false,[],[]⟩,⟨5,[a,c,b],false,[],[]⟩]=varL ⟨5,[a,b,c],false,[],[]⟩ A5:=rfl
def jb1:List Int:=[0,1,2,3,4,5,6,7]
def A7:List Ct:=((List.range 8).map fun t=>(List.range 16).map fun s=>(Dt jb1 t s 4,false)).flatten
theorem Z5(l:List Int):Cm l 8=varL ⟨7,l,false,[],[]⟩ A7:=by
 unfold Cm varL A7;rw[Kn,List.map_flatten,List.map_map]
 congr 2
def Ew:Nat→List Int→List Int→List (List Int)
 |0,d,_=>[d]
 |n+1,d,r=>((List.range (n+1)).map fun i=>Ew n (d++[r.getD i 0]) (r.take i++r.drop (i+1))).flatten
theorem VQ(k:Int): ∀(n:Nat) (d r:List Int),(∀p∈Ew n d r,(Fct.mk k p false [] []).Rt)→(∀x,x∈BW k n d r↔ ∃p∈Ew n d r,x=⟨k,p,false,[],[]⟩)∧(BW k n d r).Pairwise (fun a b=>Aw a b<0)
 |0,d,r,_=>by simp[BW,Ew]
 |n+1,d,r,h=>by
  have sub: ∀i,i<n+1→ ∀p∈Ew n (d++[r.getD i 0]) (r.take i++r.drop (i+1)),p∈Ew (n+1) d r:=fun i hi p hp=>by
   rw[Ew,List.mem_flatten]
   exact⟨_,jzk.2 ⟨i,List.mem_range.2 hi,rfl⟩,hp⟩
  have ih:=fun i (hi:i<n+1)=>VQ k n (d++[r.getD i 0]) (r.take i++r.drop (i+1)) (fun p hp=>h p (sub i hi p hp))
  have hrt: ∀x∈((List.range (n+1)).map fun i=>BW k n (d++[r.getD i 0]) (r.take i++r.drop (i+1))).flatten,x.Rt:=fun x hx=>by
   obtain⟨L,hL,hx⟩:=List.mem_flatten.1 hx
   obtain⟨i,hi,rfl⟩:=jzk.1 hL
   have hi:=List.mem_range.1 hi;obtain⟨p,hp,rfl⟩:=((ih i hi).1 x).1 hx;exact h p (sub i hi p hp)
  rw[K6,Kn]
  refine⟨fun x=> ?_,L3 (by simp) hrt List.Pairwise.nil⟩
  rw[NJ (by simp) hrt,Ew]
  simp only[AM,false_or,List.mem_flatten,jzk]
  constructor
  ·rintro⟨L,⟨i,hi,rfl⟩,hx⟩
   obtain⟨p,hp,e⟩:=((ih i (List.mem_range.1 hi)).1 x).1 hx
   exact⟨p,⟨_,⟨i,hi,rfl⟩,hp⟩,e⟩
  ·rintro⟨p,⟨L,⟨i,hi,rfl⟩,hp⟩,e⟩
   exact⟨_,⟨i,hi,rfl⟩,((ih i (List.mem_range.1 hi)).1 x).2 ⟨p,hp,e⟩⟩
def AP(n:Nat):List Ct:=(Ew n [] (Rl n).1).map fun p=>(p,false)
theorem MT{k:Int}{l:List Int}(h:(Fct.mk k l false [] []).Rt)(hA:DW ⟨k,l,false,[],[]⟩ (AP l.length))
  (hp:Ew l.length [] l=(Ew l.length [] (Rl l.length).1).map (List.map (CJ l))):BW k l.length [] l=varL ⟨k,l,false,[],[]⟩ (AP l.length):=by
 have hm: ∀x:Fct,(∃p∈Ew l.length [] l,x=⟨k,p,false,[],[]⟩)↔x∈(AP l.length).map (BU ⟨k,l,false,[],[]⟩):=fun x=>by
  rw[hp]
  unfold AP;rw[List.map_map];simp only[jzk,Function.comp]
  constructor
  ·rintro⟨p,⟨q,hq,rfl⟩,rfl⟩
   exact⟨q,hq,rfl⟩
  ·rintro⟨q,hq,rfl⟩
   exact⟨_,⟨q,hq,rfl⟩,rfl⟩
 have s:=VQ k l.length [] l (fun p hp=>JK h hA _ ((hm _).1 ⟨p,hp,rfl⟩))
 exact jdJ h hA (fun x=>by rw[s.1 x,hm x]) s.2
theorem DP{f:Fct}{A:List Ct}{n:Nat}(hn:f.args.length=n)(hb:(A.all fun g=>okS n g&& !g.2)=true):DW f A:=fun g hg=>by
 have:=jzy.1 hb g hg
 simp only[Ax,Bool.not_eq_true']at this;exact⟨hn ▸ this.1,fun h2=>by rw[this.2]at h2;cases h2⟩
theorem jc2{k:Int}(h:arity k≠0):k=1∨k=2∨k=3∨k=4∨k=5∨k=6∨k=7∨k=8∨k=9:=by
 unfold arity at h;by_cases q1:k=1∨k=5
 ·omega
 rw[if_neg q1]at h
 by_cases q2:k=2∨k=3∨k=4∨k=6∨k=9
 ·omega
 rw[if_neg q2]at h
 by_cases q3:k=7
 ·omega
 rw[if_neg q3]at h
 by_cases q4:k=8
 ·omega
 rw[if_neg q4]at h
 exact absurd rfl h
theorem jcB(f:Fct)(h:f.Rt)(k9:f.kind≠9): ∃A:List Ct,DW f A∧(f.kind=1∨f.kind=6∨f.kind=8→A=AP f.args.length)∧(f.kind=5→A=A5)∧(f.kind=7→A=A7)∧(f.kind=2∨f.kind=3∨f.kind=4→A=A2)∧
  CallsF Tryz.prog 220 [.agg f.ds] (.u (.c (.d (fctsD (varL f A))))):=by
 obtain⟨h1,h2,h3,h4⟩:=h.parts
 obtain⟨k,l,n,m,d⟩:=f
 simp only at h1 h2 h3 h4 k9;have hk:=jc2 h1;rw[if_neg k9]at h4;obtain⟨rfl,rfl,rfl⟩:=h4;rcases hk with rfl|rfl|rfl|rfl|rfl|rfl|rfl|rfl|rfl
 ·obtain⟨a,b,c,rfl⟩:=Da (by simpa [arity]using h2)
  have ok:DW ⟨1,[a,b,c],false,[],[]⟩ (AP 3):=DP (n:=3) rfl (by decide+kernel)
  refine⟨AP 3,ok,fun _=>rfl,by simp,by simp,by simp,?_⟩
  have e:=MT h ok rfl;have r:=Mv 1 (by omega) [a,b,c] false [] [] h.ok h.mild (by simp)
  rw[e]at r
  exact r
 ·obtain⟨a,b,c,e,rfl⟩:=By (by simpa [arity]using h2)
  refine⟨A2,DP (n:=4) rfl (by decide+kernel),by simp,by simp,by simp,fun _=>rfl,?_⟩
  rw[←Nh]
  exact MR 2 (by omega) a b c e false [] [] h.ok h.mild
 ·obtain⟨a,b,c,e,rfl⟩:=By (by simpa [arity]using h2)
  refine⟨A2,DP (n:=4) rfl (by decide+kernel),by simp,by simp,by simp,fun _=>rfl,?_⟩
  rw[←Nh]
  exact MR 3 (by omega) a b c e false [] [] h.ok h.mild
 ·obtain⟨a,b,c,e,rfl⟩:=By (by simpa [arity]using h2)
  refine⟨A2,DP (n:=4) rfl (by decide+kernel),by simp,by simp,by simp,fun _=>rfl,?_⟩
  rw[←Nh]
  exact MR 4 (by omega) a b c e false [] [] h.ok h.mild
 ·obtain⟨a,b,c,rfl⟩:=Da (by simpa [arity]using h2)
  refine⟨A5,DP (n:=3) rfl (by decide+kernel),by simp,fun _=>rfl,by simp,by simp,?_⟩
  rw[←je0]
  exact jed a b c h.ok h.mild
 ·obtain⟨a,b,c,e,rfl⟩:=By (by simpa [arity]using h2)
  have ok:DW ⟨6,[a,b,c,e],false,[],[]⟩ (AP 4):=DP (n:=4) rfl (by decide+kernel)
  refine⟨AP 4,ok,fun _=>rfl,by simp,by simp,by simp,?_⟩
  have e':=MT h ok rfl;have r:=Mv 6 (by omega) [a,b,c,e] false [] [] h.ok h.mild (by simp)
  rw[e']at r
  exact r
 ·have hl:l.length=8:=by simpa [arity]using h2
  refine⟨A7,DP hl (by decide+kernel),by simp,by simp,fun _=>rfl,by simp,?_⟩
  rw[←Z5]
  exact jc9 l hl h.ok h.mild
 ·obtain⟨a,b,rfl⟩: ∃a b,l=[a,b]:=by
   match l,(by simpa [arity]using h2:l.length=2)with
   |[a,b],_=>exact⟨a,b,rfl⟩
  have ok:DW ⟨8,[a,b],false,[],[]⟩ (AP 2):=DP (n:=2) rfl (by decide+kernel)
  refine⟨AP 2,ok,fun _=>rfl,by simp,by simp,by simp,?_⟩
  have e':=MT h ok rfl;have r:=Mv 8 (by omega) [a,b] false [] [] h.ok h.mild (by simp)
  rw[e']at r
  exact r
 ·exact absurd rfl k9
end Go.Va
namespace Go.Va
def linesR(f:Fct):List (List Int):=
 if f.kind=2 then
  let s:=atomN (f.args.getD 0 0) (f.args.getD 1 0)
  let t:=atomN (f.args.getD 2 0) (f.args.getD 3 0)
  [[s,t],[t,s]]
 else if f.kind=1 then
  let s:=atomN (f.args.getD 0 0) (f.args.getD 1 0)
  let t:=atomN (f.args.getD 0 0) (f.args.getD 2 0)
  let u:=atomN (f.args.getD 1 0) (f.args.getD 2 0)
  [[s,t],[t,s],[s,u],[u,s],[t,u],[u,t]]
 else []
def De(f:Fct)(k:Int):List (List Int):=
 if k=2 then linesR f else if f.kind≠k then [] else
  let s:=atomN (f.args.getD 0 0) (f.args.getD 1 0)
  let t:=atomN (f.args.getD 2 0) (f.args.getD 3 0)
  if k≠7 then [[s,t],[t,s]] else
  let u:=atomN (f.args.getD 4 0) (f.args.getD 5 0)
  let v:=atomN (f.args.getD 6 0) (f.args.getD 7 0)
  [[s,t,u,v],[s,u,t,v],[v,t,u,s],[v,u,t,s],[t,s,v,u],[t,v,s,u],[u,s,v,t],[u,v,s,t]]
def EL(l:List Int):List (List Int):=
 let a:=l.getD 0 0/40
 let b:=l.getD 0 0%40
 let c:=l.getD 1 0/40
 let d:=l.getD 1 0%40
 [[a,b,c,d],[b,a,c,d],[a,b,d,c],[b,a,d,c]]
def Cd(f:Fct):List Ct:=if f.kind=1∨f.kind=6∨f.kind=8 then AP f.args.length else if f.kind=5 then A5 else if f.kind=7 then A7 else A2
def ptsR(f:Fct)(k:Int):List (List Int):=
 if k=2 then (linesR f).flatMap EL else if f.kind≠k then [] else (varL f (Cd f)).map Fct.args
def C6(q:RPat)(f:Fct):List (List Int):=if q.seg then De f q.kind else ptsR f q.kind
def BB(sg:Bool)(p:Pat):RPat:=⟨p.kind,p.letters.map (D7 sg),sg,p.n⟩
def EI(sg:Bool)(p:Pat):Bool:=p.letters.all (fun c=>decide (cls sg c))&&
 (if p.kind=1 then !sg&&decide (p.letters.length=3) else if p.kind=6 then !sg&&decide (p.letters.length=4) else if p.kind=8 then !sg&&decide (p.letters.length=2)
 else if p.kind=5 then !sg&&decide (p.letters.length=3) else if p.kind=7 then decide (p.letters.length=if sg then 4 else 8)
 else (decide (p.kind=2)||decide (p.kind=3)||decide (p.kind=4))&&decide (p.letters.length=if sg then 2 else 4))
def GF(x y:List (List Int)):Bool:=x.all fun w=>y.contains w
theorem WO{x y:List (List Int)}(h:GF x y=true){w:List Int}(hw:w∈x):w∈y:=by
 unfold GF at h;have:=jzy.1 h w hw
 simpa using this
theorem Qa{f:Fct}{A:List Ct}{I:List (List (Int×Int))}(h1:GF (A.map Prod.fst) (I.flatMap BD)=true)(h2:GF (I.flatMap BD) (A.map Prod.fst)=true)(v:List Int):
  v∈(A.map (BU f)).map Fct.args↔ ∃X∈I,v∈BD (X.map fun p=>(CJ f.args p.1,CJ f.args p.2)):=by
 rw[List.map_map]
 simp only[jzk,Function.comp_apply]
 constructor
 ·rintro⟨g,hg,rfl⟩
  obtain⟨X,hX,hd⟩:=List.mem_flatMap.1 (WO h1 (jzk.2 ⟨g,hg,rfl⟩))
  refine⟨X,hX,?_⟩
  rw[MS]
  exact jzk.2 ⟨g.1,hd,rfl⟩
 ·rintro⟨X,hX,hd⟩
  rw[MS]at hd
  obtain⟨w,hw,rfl⟩:=jzk.1 hd
  obtain⟨g,hg,rfl⟩:=jzk.1 (WO h2 (List.mem_flatMap.2 ⟨X,hX,hw⟩))
  exact⟨g,hg,rfl⟩
def I2:List (List (Int×Int)):=[[(0,1),(2,3)],[(2,3),(0,1)]]
def I7:List (List (Int×Int)):=[[(0,1),(2,3),(4,5),(6,7)],[(0,1),(4,5),(2,3),(6,7)],[(6,7),(2,3),(4,5),(0,1)],[(6,7),(4,5),(2,3),(0,1)],[(2,3),(0,1),(6,7),(4,5)],[(2,3),(6,7),(0,1),(4,5)],[(4,5),(0,1),(6,7),(2,3)],[(4,5),(6,7),(0,1),(2,3)]]
theorem I2_A2:GF (A2.map Prod.fst) (I2.flatMap BD)=true∧GF (I2.flatMap BD) (A2.map Prod.fst)=true:=by decide+kernel
theorem I7_A7:GF (A7.map Prod.fst) (I7.flatMap BD)=true∧GF (I7.flatMap BD) (A7.map Prod.fst)=true:=by decide+kernel
theorem Sj{k:Int}{f:Fct}{I:List (List (Int×Int))}{ls:List UInt8}(hl: ∀c∈ls,cls false c)(hI: ∀X∈I,ls.length=2*X.length)(hr:rdg k f=I.map fun X=>X.map fun p=>Ah (CJ f.args p.1) (CJ f.args p.2))(v:List Int):
  (∃X∈I,v∈BD (X.map fun p=>(CJ f.args p.1,CJ f.args p.2)))↔ ∃a∈(rdg k f).flatMap (AS ls),vals false a=v:=by
 rw[hr]
 have e: ∀X:List (Int×Int),(X.map fun p=>Ah (CJ f.args p.1) (CJ f.args p.2))=(X.map fun p=>(CJ f.args p.1,CJ f.args p.2)).map fun p=>Ah p.1 p.2:=fun X=>by rw[List.map_map];rfl
 have key: ∀X∈I,(v∈BD (X.map fun p=>(CJ f.args p.1,CJ f.args p.2))↔ ∃a∈AS ls (X.map fun p=>Ah (CJ f.args p.1) (CJ f.args p.2)),vals false a=v):=fun X hX=>by
  rw[NO _ ls hl (by rw[List.length_map];exact hI X hX),e,jel]
 simp only[List.mem_flatMap,jzk]
 constructor
 ·rintro⟨X,hX,h⟩
  obtain⟨a,ha,hv⟩:=(key X hX).1 h
  exact⟨a,⟨_,⟨X,hX,rfl⟩,ha⟩,hv⟩
 ·rintro⟨a,⟨_,⟨X,hX,rfl⟩,ha⟩,hv⟩
  exact⟨X,hX,(key X hX).2 ⟨a,ha,hv⟩⟩
theorem jdg(s t:Int×Int)(hs:0≤s.2∧s.2<40)(ht:0≤t.2∧t.2<40)(v:List Int):v∈EL [s.1*40+s.2,t.1*40+t.2]↔v∈BD [s,t]:=by
 have e1:(s.1*40+s.2)/40=s.1:=by omega
 have e2:(s.1*40+s.2)%40=s.2:=by omega
 have e3:(t.1*40+t.2)/40=t.1:=by omega
 have e4:(t.1*40+t.2)%40=t.2:=by omega
 have ed:BD [s,t]=[[s.1,s.2,t.1,t.2],[s.1,s.2,t.2,t.1],[s.2,s.1,t.1,t.2],[s.2,s.1,t.2,t.1]]:=rfl
 rw[ed]
 unfold EL;simp only[List.getD_cons_zero,List.getD_cons_succ,e1,e2,e3,e4,jzn,AM,or_false]
 constructor
 ·intro h;rcases h with h|h|h|h<;>simp[h]
 ·intro h;rcases h with h|h|h|h<;>simp[h]
theorem Fb(a b:Int):atomN a b=(Ah a b).1*40+(Ah a b).2:=rfl
theorem Tr{f:Fct}(hf:f.Rt)(v:List Int):v∈linesR f↔v∈(rdg 2 f).map (List.map fun s=>s.1*40+s.2):=by
 obtain⟨h1,h2,h3,h4⟩:=hf.parts
 unfold linesR rdg;by_cases k2:f.kind=2
 ·obtain⟨a,b,c,d,ha⟩:=By (by rw[h2,k2];rfl:f.args.length=4)
  have hpu:AW f.args=[Ah a b,Ah c d]:=by rw[ha];rfl
  rw[if_pos k2,if_neg (by omega),if_neg (by simp[k2]),hpu,ha]
  simp[Fb]
 ·rw[if_neg k2]
  by_cases k1:f.kind=1
  ·rw[if_pos k1,if_pos ⟨rfl,k1⟩]
   simp only[Fb,List.map_cons,List.map_nil,jzn,AM,or_false]
   constructor
   ·rintro (h|h|h|h|h|h)<;>simp[h]
   ·rintro (h|h|h|h|h|h)<;>simp[h]
  ·rw[if_neg k1,if_neg (by omega),if_pos k2]
   simp
theorem Pr{f:Fct}(hf:f.Rt){k:Int}(hk:k=3∨k=4∨k=7):De f k=(rdg k f).map (List.map fun s=>s.1*40+s.2):=by
 obtain⟨h1,h2,h3,h4⟩:=hf.parts
 unfold De rdg;rw[if_neg (show ¬k=2 by omega),if_neg (show ¬(k=2∧f.kind=1) by omega)]
 by_cases hke:f.kind=k
 ·rw[if_neg (show ¬f.kind≠k by simp[hke]),if_neg (show ¬f.kind≠k by simp[hke])]
  by_cases k7:k=7
  ·obtain⟨a,b,c,d,a',b',c',d',ha⟩:=E4 (by rw[h2,hke,k7];rfl:f.args.length=8)
   have hpu:AW f.args=[Ah a b,Ah c d,Ah a' b',Ah c' d']:=by rw[ha];rfl
   rw[hpu,ha]
   simp[k7,Fb]
  ·obtain⟨a,b,c,d,ha⟩:=By (by rw[h2,hke];rcases hk with h|h|h<;>first|exact absurd h k7|(rw[h];rfl):f.args.length=4)
   have hpu:AW f.args=[Ah a b,Ah c d]:=by rw[ha];rfl
   rw[hpu,ha]
   simp[k7,Fb]
 ·rw[if_pos hke,if_pos hke]
  rfl
theorem Rr{f:Fct}(hf:f.Rt){k:Int}(hk:k=2∨k=3∨k=4): ∀L∈rdg k f,L.length=2:=fun L hL=>by
 obtain⟨u,v,rfl⟩:=Mw k f hk hf L hL
 rfl
theorem jgo{f:Fct}(hf:f.Rt): ∀L∈rdg 7 f,L.length=4:=fun L hL=>by
 obtain⟨u,v,w,z,rfl⟩:=So f hf L hL
 rfl
theorem E7{a b:Int}(ha:0≤a∧a<40)(hb:0≤b∧b<40):(0≤(Ah a b).1∧(Ah a b).1<40)∧(0≤(Ah a b).2∧(Ah a b).2<40):=by
 unfold Ah lo hi
 constructor<;>simp only<;>split<;>assumption
theorem QH: ∀(l:List Int),(∀a∈l,0≤a∧a<40)→ ∀s∈AW l,(0≤s.1∧s.1<40)∧(0≤s.2∧s.2<40)
 |[],_=>by simp[AW]
 |[a],_=>by simp[AW]
 |a::b::l,h=>by
  intro s hs;rw[AW,jzn]at hs;rcases hs with rfl|hs
  ·exact E7 (h a (by simp)) (h b (by simp))
  ·exact QH l (fun x hx=>h x (by simp[hx])) s hs
theorem KG{f:Fct}(hf:f.Rt)(i:Nat):0≤f.args.getD i 0∧f.args.getD i 0<40:=by
 rcases Nat.lt_or_ge i f.args.length with h|h
 ·rw[Ff _ h];exact hf.parts.2.2.1 _ (Ak h)
 ·rw[Lm _ h];omega
theorem QX(k:Int)(f:Fct)(hf:f.Rt): ∀l∈rdg k f,∀s∈l,(0≤s.1∧s.1<40)∧(0≤s.2∧s.2<40):=by
 have hg:=KG hf;have hp:=QH f.args hf.parts.2.2.1;intro l hl s hs;unfold rdg at hl;split at hl
 ·have t1:=E7 (hg 0) (hg 1);have t2:=E7 (hg 0) (hg 2);have t3:=E7 (hg 1) (hg 2);simp only[jzn,AM,or_false]at hl;rcases hl with rfl|rfl|rfl|rfl|rfl|rfl<;>(simp only[jzn,AM,or_false]at hs;rcases hs with rfl|rfl<;>assumption)
 ·split at hl
  ·cases hl
  ·split at hl
   ·rename_i a b e
    rw[e]at hp
    simp only[jzn,AM,or_false]at hl hp;rcases hl with rfl|rfl<;>(simp only[jzn,AM,or_false]at hs;exact hp s (by rcases hs with h|h<;>simp[h]))
   ·rename_i u v w z e
    rw[e]at hp
    simp only[jzn,AM,or_false]at hl hp;rcases hl with rfl|rfl|rfl|rfl|rfl|rfl|rfl|rfl<;>(simp only[jzn,AM,or_false]at hs;exact hp s (by rcases hs with h|h|h|h<;>simp[h]))
   ·cases hl
theorem jaW{k:Int}{l:List Int}(h:(Fct.mk k l false [] []).Rt)(hl:l.length=2∨l.length=3∨l.length=4)(v:List Int):v∈(varL ⟨k,l,false,[],[]⟩ (AP l.length)).map Fct.args↔v∈K4 l.length l:=by
 have key: ∀{A:List Ct} {P:List (List Int)},DW ⟨k,l,false,[],[]⟩ A→(A.map (BU ⟨k,l,false,[],[]⟩)).map Fct.args=P→(v∈(varL ⟨k,l,false,[],[]⟩ A).map Fct.args↔v∈P):=by
  rintro A P hA rfl
  simp only[jzk,Is h hA]
 rcases hl with hl|hl|hl
 ·obtain⟨a,b,rfl⟩: ∃a b,l=[a,b]:=by
   match l,hl with
   |[a,b],_=>exact⟨a,b,rfl⟩
  exact key (A:=AP 2) (DP (n:=2) rfl (by decide+kernel)) rfl
 ·obtain⟨a,b,c,rfl⟩:=Da hl
  exact key (A:=AP 3) (DP (n:=3) rfl (by decide+kernel)) rfl
 ·obtain⟨a,b,c,d,rfl⟩:=By hl
  exact key (A:=AP 4) (DP (n:=4) rfl (by decide+kernel)) rfl
theorem XU{k:Int}{ls:List UInt8}{pn:Int}(f:Fct)(hk:k=1∨k=6∨k=8):DN ⟨k,ls,pn⟩ f=if f.kind=k then ET ls f.args else []:=by
 unfold DN;rw[if_pos hk]
theorem Xf{ls:List UInt8}{pn:Int}(f:Fct):DN ⟨5,ls,pn⟩ f=if f.kind=5 then [[(ls.getD 0 0,(f.args.getD 0 0+1,0)),(ls.getD 1 0,(f.args.getD 1 0+1,0)),(ls.getD 2 0,(f.args.getD 2 0+1,0))],[(ls.getD 0 0,(f.args.getD 0 0+1,0)),(ls.getD 1 0,(f.args.getD 2 0+1,0)),(ls.getD 2 0,(f.args.getD 1 0+1,0))]] else []:=by
 unfold DN;rw[if_neg (show ¬((5:Int)=1∨(5:Int)=6∨(5:Int)=8) by decide),if_pos rfl]
theorem NL{k:Int}{ls:List UInt8}{pn:Int}(f:Fct)(hk: ¬(k=1∨k=6∨k=8))(h5:k≠5):DN ⟨k,ls,pn⟩ f=(rdg k f).flatMap (AS ls):=by
 unfold DN;rw[if_neg hk,if_neg h5]
theorem jgq(k:Int)(ls:List UInt8)(pn:Int)(f:Fct):C6 (BB true ⟨k,ls,pn⟩) f=De f k:=rfl
theorem K0(k:Int)(ls:List UInt8)(pn:Int)(f:Fct):C6 (BB false ⟨k,ls,pn⟩) f=ptsR f k:=rfl
theorem O9(f:Fct):ptsR f 2=(linesR f).flatMap EL:=rfl
theorem HO{f:Fct}{k:Int}(hk:k≠2)(h:f.kind≠k):ptsR f k=[]:=by
 unfold ptsR;rw[if_neg hk,if_pos h]
theorem Ib{f:Fct}{k:Int}(hk:k≠2)(h:f.kind=k):ptsR f k=(varL f (Cd f)).map Fct.args:=by
 unfold ptsR;rw[if_neg hk,if_neg (fun hn=>hn h)]
theorem Qu{f:Fct}{k:Int}(hk: ¬(k=2∧f.kind=1))(h:f.kind≠k):rdg k f=[]:=by
 unfold rdg;rw[if_neg hk,if_pos h]
theorem PG{f:Fct}{k:Int}(hk: ¬(k=2∧f.kind=1))(h:f.kind=k):rdg k f=match AW f.args with|[a,b]=>[[a,b],[b,a]]|[u,v,w,z]=>[[u,v,w,z],[u,w,v,z],[z,v,w,u],[z,w,v,u],[v,u,z,w],[v,z,u,w],[w,u,z,v],[w,z,u,v]]|_=>[]:=by
 unfold rdg;rw[if_neg hk,if_neg (fun hn=>hn h)]
 rfl
theorem MY{sg:Bool}{p:Pat}(ht:EI sg p=true){f:Fct}(hf:f.Rt)(v:List Int):v∈C6 (BB sg p) f↔ ∃a∈DN p f,vals sg a=v:=by
 unfold EI at ht;rw[Ax]at ht;obtain⟨hc0,ht⟩:=ht;obtain⟨h1,h2,h3,h4⟩:=hf.parts;obtain⟨k,ls,pn⟩:=p;have hc: ∀c∈ls,cls sg c:=fun c h=>by simpa using jzy.1 hc0 c h
 clear hc0;simp only at ht;have perm: ∀n:Nat,(k=1∨k=6∨k=8)→sg=false→ls.length=n→(n=2∨n=3∨n=4)→arity k=n→(v∈C6 (BB sg ⟨k,ls,pn⟩) f↔ ∃a∈DN ⟨k,ls,pn⟩ f,vals sg a=v):=by
  intro n hk hs hn hn2 ha;subst hs;rw[K0,XU f hk];by_cases hke:f.kind=k
  ·rw[Ib (by omega) hke,if_pos hke]
   have e:Cd f=AP f.args.length:=by unfold Cd;rw[if_pos (show f.kind=1∨f.kind=6∨f.kind=8 by omega)]
   rw[e]
   obtain⟨fk,fl,fn,fm,fd⟩:=f
   simp only at h1 h2 h3 h4 hke ⊢;rw[if_neg (show ¬fk=9 by omega)]at h4
   obtain⟨rfl,rfl,rfl⟩:=h4
   rw[jaW hf (by rw[h2,hke,ha];exact hn2),h2,hke,ha,←hn,←PR ls fl,jzk]
  ·rw[HO (by omega) hke,if_neg hke]
   simp
 by_cases k1:k=1
 ·rw[if_pos k1]at ht
  simp only[Ax,Bool.not_eq_true',decide_eq_true_eq]at ht;exact perm 3 (.inl k1) ht.1 ht.2 (by omega) (by rw[k1];rfl)
 rw[if_neg k1]at ht
 by_cases k6:k=6
 ·rw[if_pos k6]at ht
  simp only[Ax,Bool.not_eq_true',decide_eq_true_eq]at ht;exact perm 4 (.inr (.inl k6)) ht.1 ht.2 (by omega) (by rw[k6];rfl)
 rw[if_neg k6]at ht
 by_cases k8:k=8
 ·rw[if_pos k8]at ht
  simp only[Ax,Bool.not_eq_true',decide_eq_true_eq]at ht;exact perm 2 (.inr (.inr k8)) ht.1 ht.2 (by omega) (by rw[k8];rfl)
 rw[if_neg k8]at ht
 clear perm;by_cases k5:k=5
 ·rw[if_pos k5]at ht
  simp only[Ax,Bool.not_eq_true',decide_eq_true_eq]at ht;obtain⟨rfl,hl⟩:=ht;subst k5;rw[K0,Xf];by_cases hke:f.kind=5
  ·rw[Ib (by decide) hke,if_pos hke]
   obtain⟨a,b,c,ha⟩:=Da (by rw[h2,hke];rfl:f.args.length=3)
   have e:Cd f=A5:=by unfold Cd;rw[if_neg (show ¬(f.kind=1∨f.kind=6∨f.kind=8) by omega),if_pos hke]
   have hA:DW f A5:=DP (n:=3) (by rw[ha];rfl) (by decide+kernel)
   have e2: ∀v,v∈(varL f A5).map Fct.args↔v∈(A5.map (BU f)).map Fct.args:=fun v=>by
    simp only[jzk (l:=varL f A5),Is hf hA,jzk (f:=Fct.args)]
   rw[e,e2,List.map_map,show(A5.map (Fct.args∘BU f))=[[a,b,c],[a,c,b]] by simp[A5,BU,ha,CJ],ha]
   simp[vals,CO,eq_comm]
  ·rw[HO (by decide) hke,if_neg hke]
   simp
 rw[if_neg k5]at ht
 have hks: ¬(k=1∨k=6∨k=8):=by omega
 have hse: ∀n:Nat,sg=true→ls.length=n→(∀L∈rdg k f,L.length=n)→(v∈De f k↔v∈(rdg k f).map (List.map fun s=>s.1*40+s.2))→(v∈C6 (BB sg ⟨k,ls,pn⟩) f↔ ∃a∈DN ⟨k,ls,pn⟩ f,vals sg a=v):=by
  intro n hs hn hL he;subst hs;rw[jgq,NL f hks k5,he];simp only[List.mem_flatMap,jzk];have key: ∀L∈rdg k f,((L.map fun s=>s.1*40+s.2)=v↔ ∃a∈AS ls L,vals true a=v):=fun L hL'=>by
   rw[Tw L ls hc (by rw[hL L hL'];exact hn)]
   exact eq_comm
  constructor
  ·rintro⟨L,hL,h⟩
   obtain⟨a,ha,hv⟩:=(key L hL).1 h
   exact⟨a,⟨L,hL,ha⟩,hv⟩
  ·rintro⟨a,⟨L,hL,ha⟩,hv⟩
   exact⟨L,hL,(key L hL).2 ⟨a,ha,hv⟩⟩
 by_cases k7:k=7
 ·rw[if_pos k7,decide_eq_true_eq]at ht
  cases sg with
  |true=>exact hse 4 rfl ht (by rw[k7];exact jgo hf) (by rw[Pr hf (by omega)])
  |false=>
   clear hse;subst k7;simp only[Bool.false_eq_true,if_false]at ht;rw[K0,NL f hks k5];by_cases hke:f.kind=7
   ·rw[Ib (by decide) hke]
    have hl8:f.args.length=8:=by rw[h2,hke];rfl
    have e:Cd f=A7:=by unfold Cd;rw[if_neg (show ¬(f.kind=1∨f.kind=6∨f.kind=8) by omega),if_neg (show ¬f.kind=5 by omega),if_pos hke]
    have hA:DW f A7:=DP (n:=8) hl8 (by decide+kernel)
    have e2:v∈(varL f A7).map Fct.args↔v∈(A7.map (BU f)).map Fct.args:=by
     simp only[jzk (l:=varL f A7),Is hf hA,jzk (f:=Fct.args)]
    rw[e,e2,Qa I7_A7.1 I7_A7.2]
    refine Sj hc ?_ ?_ v
    ·intro X hX;have:(I7.all fun X=>decide (X.length=4))=true:=by decide
     have:=jzy.1 this X hX
     simp only[decide_eq_true_eq]at this;rw[this,ht]
    ·obtain⟨a,b,c,d,a',b',c',d',ha⟩:=E4 hl8
     have hpu:AW f.args=[Ah a b,Ah c d,Ah a' b',Ah c' d']:=by rw[ha];rfl
     rw[PG (by omega) hke,hpu,ha]
     rfl
   ·rw[HO (by decide) hke,Qu (by omega) hke]
    simp
 rw[if_neg k7]at ht
 simp only[Ax,Bool.or_eq_true,decide_eq_true_eq]at ht;obtain⟨hk,hl⟩:=ht;have hk:k=2∨k=3∨k=4:=by omega
 cases sg with
 |true=>
  refine hse 2 rfl hl (Rr hf hk) ?_;rcases hk with rfl|hk
  ·rw[show De f 2=linesR f from rfl];exact Tr hf v
  ·rw[Pr hf (by omega)]
 |false=>
  clear hse;simp only[Bool.false_eq_true,if_false]at hl;rw[K0,NL f hks k5];by_cases k2:k=2
  ·subst k2;rw[O9];have key: ∀L∈rdg 2 f,(v∈EL (L.map fun s=>s.1*40+s.2)↔ ∃a∈AS ls L,vals false a=v):=fun L hL=>by
    rw[NO L ls hc (by rw[Rr hf (.inl rfl) L hL];exact hl)]
    have q:=QX 2 f hf _ hL;obtain⟨s,t,rfl⟩:=Mw 2 f (.inl rfl) hf L hL;exact jdg s t (q s (by simp)).2 (q t (by simp)).2 v
   simp only[List.mem_flatMap,Tr hf,jzk]
   constructor
   ·rintro⟨_,⟨L,hL,rfl⟩,h⟩
    obtain⟨a,ha,hv⟩:=(key L hL).1 h
    exact⟨a,⟨L,hL,ha⟩,hv⟩
   ·rintro⟨a,⟨L,hL,ha⟩,hv⟩
    exact⟨_,⟨L,hL,rfl⟩,(key L hL).2 ⟨a,ha,hv⟩⟩
  ·by_cases hke:f.kind=k
   ·rw[Ib k2 hke]
    have hl4:f.args.length=4:=by rw[h2,hke];rcases hk with h|h|h<;>first|exact absurd h k2|(rw[h];rfl)
    have e:Cd f=A2:=by unfold Cd;rw[if_neg (show ¬(f.kind=1∨f.kind=6∨f.kind=8) by omega),if_neg (show ¬f.kind=5 by omega),if_neg (show ¬f.kind=7 by omega)]
    have hA:DW f A2:=DP (n:=4) hl4 (by decide+kernel)
    have e2:v∈(varL f A2).map Fct.args↔v∈(A2.map (BU f)).map Fct.args:=by
     simp only[jzk (l:=varL f A2),Is hf hA,jzk (f:=Fct.args)]
    rw[e,e2,Qa I2_A2.1 I2_A2.2]
    refine Sj hc ?_ ?_ v
    ·intro X hX;have:(I2.all fun X=>decide (X.length=2))=true:=by decide
     have:=jzy.1 this X hX
     simp only[decide_eq_true_eq]at this;rw[this,hl]
    ·obtain⟨a,b,c,d,ha⟩:=By hl4
     have hpu:AW f.args=[Ah a b,Ah c d]:=by rw[ha];rfl
     rw[PG (by omega) hke,hpu,ha]
     rfl
   ·rw[HO k2 hke,Qu (by omega) hke]
    simp
end Go.Va
