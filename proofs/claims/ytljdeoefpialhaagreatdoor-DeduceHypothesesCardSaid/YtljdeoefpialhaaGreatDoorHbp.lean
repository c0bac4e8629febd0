/- a part of the proof -/
import Derived.Test.YtljdeoefpialhaaGreatDoorHbo
set_option linter.all false
namespace Go.Va
def Ip(T:AH):AH:=fun t=>(T t).map fun i=>{ i with trunc:=true }
theorem jd3{P:Program}{T:AH}(h:A5 P T):A5 P (Ip T):=fun t i hi=>by
 unfold Ip at hi;rw[jze]at hi;obtain⟨j,hj,rfl⟩:=hi;exact h t j hj
structure FB where
 fn:Func
 c:Code
 pln:HA
 kl:List Nat:=[]
abbrev FBs:=FuncId→Option FB
def I1(e:Exit):Bool:=match e with| .ret=>true| .normal=>true|_=>false
def Io(mx:Nat):List (Nat×Blk)→List (Nat×Nat)
 |[]=>[]
 |(i,_)::r=>if Nat.blt i ML then (mx+1+i,i)::Io mx r else Io mx r
def UY:Nat:=90000
def jdE(mx i:Nat):Nat:=if Nat.blt i ML then mx+1+i else i
def Gd(mx k:Nat)(seen:List Nat):List U→List (Nat×Nat)
 |[]=>[]
 | .c c::r=>(match c.id? with|some i=>if seen.contains i then Gd mx (k+1) seen r else (UY+k,jdE mx i)::Gd mx (k+1) (i::seen) r|none=>Gd mx (k+1) seen r)
 |_::r=>Gd mx (k+1) seen r
def newR(mx:Nat):List Nat→List (Nat×Nat)
 |[]=>[]
 |k::r=>if Nat.blt k UY then (mx+1+k,k)::newR mx r else newR mx r
def oldR(keys:List Nat):List (Nat×Nat)→List (Nat×Nat)
 |[]=>[]
 |(k,i)::r=>if keys.contains k then (i,k)::oldR keys r else oldR keys r
def Gz(k:Nat):List (Nat×Nat)→Nat
 |[]=>k
 |(a,b)::r=>if Nat.beq b k then a else Gz k r
def FX(h:List (Nat×Blk)):List Nat→List (Nat×Blk)
 |[]=>[]
 |i::r=>match lk i h with|some b=>(i,b)::FX h r|none=>FX h r
def SP:V→List Nat
 | .u u=>KC [u]
 | .tup us=>KC us
 | .tr _ _=>[]
def HL:List (Nat×Blk)→Bool
 |[]=>true
 |(_,.gh _)::_=>false
 |_::r=>HL r
def LO(T:AH)(rs:List ResultVar)(rS rA:List (Nat×Nat))(st:St):Option (List C×List (Nat×Blk)×V):=
 match lk Cv st.h with
 |some (.gh g1)=>(st.res T rs).bind fun v1=>
  let keys:=clos st.h 2000 (g1.filterMap C.id? ++SP v1) []
  let rN:=newR (Ek st.h) keys
  let rB:=oldR keys rA
  let keys2:=keys.map fun k=>Gz (Gz k rN) rB
  let rO:=oldR keys2 rS
  let keys':=keys2.map fun k=>Gz k rO
  let s1:=rns rO (rns rB (rns rN st))
  (match lk Cv s1.h with
  |some (.gh g2)=>let s:=s1.clean keys'
   (s.res T rs).bind fun v=>if (FX s.h keys').map (·.1)=keys'∧HL (FX s.h keys')=true then Cg fC (g2.map (C.on (B1 keys'))) fun gs'=>Cg Ei (FX s.h keys') fun h'=>fV v fun v=>some (gs',h',v) else none
  |_=>none)
 |_=>none
theorem NN: ∀{h:List (Nat×Blk)},HL h=true→ ∀i cs,lk i h≠some (.gh cs)
 |[],_,_,_,e=>by cases e
 |(j,b)::r,h,i,cs,e=>by
  unfold lk at e;cases b<;>simp only[HL,Bool.false_eq_true]at h
  all_goals
   split at e
   ·cases e
   ·exact NN h i cs e
theorem MY(h:List (Nat×Blk)): ∀l,AW h (FX h l)
 |[]=>trivial
 |i::r=>by
  unfold FX;split
  ·exact⟨by assumption,MY h r⟩
  ·exact MY h r
theorem Me{e:Exit}(h:I1 e=true):e= .ret∨e= .normal:=by
 cases e<;>first|exact .inl rfl|exact .inr rfl|cases h
theorem KU: ∀(a b:List (Nat×Nat)) (s:St),rns (a++b) s=rns b (rns a s)
 |[],_,_=>rfl
 |_::a,b,s=>KU a b _
theorem jgE{T:AH}{rs:List ResultVar}{rS rA:List (Nat×Nat)}{st:St}{gs':List C}{h':List (Nat×Blk)}{v:V}{e:Exit}(he:I1 e=true)(h:LO T rs rS rA st=some (gs',h',v)):(∀i cs,lk i h'≠some (.gh cs))∧Lc T rs gs' h' v e st:=by
 unfold LO at h;split at h
 case h_2=>cases h
 rename_i g1 hg1
 simp only[jzd]at h;obtain⟨v1,_,h⟩:=h;generalize clos st.h 2000 (g1.filterMap C.id? ++SP v1) []=ks at*;generalize newR (Ek st.h) ks=rN at*;generalize oldR ks rA=rB at*;generalize ks.map (fun k=>Gz (Gz k rN) rB)=keys2 at*
 generalize oldR keys2 rS=rO at*;generalize keys2.map (fun k=>Gz k rO)=keys at*
 rw[←KU,←KU]at h
 generalize (rN++(rB++rO))=r1 at*;split at h
 case h_2=>cases h
 rename_i g2 hg2
 simp only[jzd]at h;obtain⟨v2,hv,h⟩:=h;split at h
 case isFalse=>cases h
 rename_i hk
 obtain⟨hk,hn⟩:=hk
 simp only[Cy (f:=fC) Fp,Cy (f:=Ei) Ol,ji4,Option.some.injEq,Prod.mk.injEq]at h;obtain⟨rfl,rfl,rfl⟩:=h;refine⟨NN hn,Me he,r1,g2,hg2,?_⟩;simp only[hk];exact⟨trivial,hv,MY _ _⟩
mutual
def F6(T:AH)(ext:FuncId→List A→Option R)(ex2:Cal2)(sA:Sh2)(B:FBs)(N:Nat):Nat→FuncId→List A→Option R
 |0,_,_=>none
 |n+1,f,aa=>Cg fA aa fun aa=>
  match ext f aa with
  |some r=>some r
  |none=>(B f).bind fun b=>if aa.length≤b.fn.ntmps then (evC T (F6 T ext ex2 sA B N n) sA ⟨GF T ext ex2 sA B N n,Gp T ext ex2 sA B N n⟩ b.pln b.kl N b.c (St.init aa)).bind fun p=>if I1 p.1 then (p.2.res T b.fn.results.toList).bind fun v=>(NH p.2 v).bind fun r=>if r.rows.length≤1 then fR r fun r=>some r else none else none else none
def GF(T:AH)(ext:FuncId→List A→Option R)(ex2:Cal2)(sA:Sh2)(B:FBs)(N:Nat):Nat→FuncId→Nat→Nat→List D→List A→Option (Nat×List D)
 |0,_,_,_,_,_=>none
 |n+1,f,sz,k,cs,aa=>De cs fun cs=>Cg fA aa fun aa=>
  match ex2.a f sz k cs aa with
  |some r=>some r
  |none=>(B f).bind fun b=>if aa.length+1≤b.fn.ntmps then (evC T (F6 T ext ex2 sA B N n) sA ⟨GF T ext ex2 sA B N n,Gp T ext ex2 sA B N n⟩ b.pln b.kl N b.c (St.initA k sz cs aa)).bind fun p=>if I1 p.1 then (match p.2.res T b.fn.results.toList with
   |some (.u (.c (.sl j 0 m)))=>(match lk j p.2.h with|some (.row z cs' true)=>if z=sz then De cs' fun cs'=>BO m fun m=>some (m,cs') else none|_=>none)
   |_=>none) else none else none
def Gp(T:AH)(ext:FuncId→List A→Option R)(ex2:Cal2)(sA:Sh2)(B:FBs)(N:Nat):Nat→FuncId→List U→List (Nat×Blk)→List C→Option (List C×List (Nat×Blk)×V)
 |0,_,_,_,_=>none
 |n+1,f,us,h,gs=>Cg fU us fun us=>Cg Ei h fun h=>Cg fC gs fun gs=>
  match ex2.h f us h gs with
  |some r=>some r
  |none=>(B f).bind fun b=>if us.length≤b.fn.ntmps∧b.fn.ntmps≤YS∧HL h=true∧(lk Cv h).isNone=true then
   (evC T (F6 T ext ex2 sA B N n) sA ⟨GF T ext ex2 sA B N n,Gp T ext ex2 sA B N n⟩ b.pln b.kl N b.c (rns (Gd (Ek h) 0 [] us) (rns (Io (Ek h) h) (St.initG us gs h)))).bind fun p=>if I1 p.1=true then LO T b.fn.results.toList (Io (Ek h) h) (Gd (Ek h) 0 [] us) p.2 else none
   else none
end
structure FBs.Ok (P:Program) (B:FBs):Prop where
 fn : ∀ f b, B f = some b → P.funcs[f]? = some b.fn ∧ b.fn.body = some b.c ∧ (b.fn.name == "runtime.NumGoroutine") = false ∧ B6 b.fn.ntmps [] b.c = true ∧ Cq b.pln b.c = true
theorem Q5{P:Program}{T:AH}(hT:A5 P T)(hm:P.follows .mixedOrders=true){ext:FuncId→List A→Option R}{ex2:Cal2}{sA:Sh2}{B:FBs}{N:Nat}(hext: ∀g aa r,ext g aa=some r→CallsF P g aa r)(hex2:CalOk P ex2)(hB:B.Ok P): ∀n,
  (∀g aa r,F6 T ext ex2 sA B N n g aa=some r→CallsF P g aa r)∧CalOk P ⟨GF T ext ex2 sA B N n,Gp T ext ex2 sA B N n⟩
 |0=>⟨fun g aa r h=>by simp[F6]at h,fun g sz k cs aa m cs' h=>by simp[GF]at h,fun g us h gs gs' h' v e=>by simp[Gp]at e⟩
 |n+1=>by
  obtain⟨hF,hA⟩:=Q5 hT hm hext hex2 hB n
  refine⟨fun g aa r h=> ?_,fun g sz k cs aa m cs' h=> ?_,fun g us h gs gs' h' v e=> ?_⟩
  ·simp only[F6,Cy (f:=fA) Qt]at h;split at h
   ·rename_i r' he
    cases h;exact hext _ _ _ he
   ·simp only[jzd]at h;obtain⟨b,hb,h⟩:=h;split at h
    case isFalse=>cases h
    rename_i hlen
    simp only[jzd]at h;obtain⟨p,hp,h⟩:=h;split at h
    case isFalse=>cases h
    rename_i hend
    simp only[jzd]at h;obtain⟨v,hv,r',hr,h⟩:=h;split at h
    case isFalse=>cases h
    rename_i hrl
    simp only[jf9]at h;cases h;obtain⟨b1,b2,b3,b4,b5⟩:=hB.fn g b hb;refine Am hT hm b1 b2 b3 hlen b4 ?_;refine K0 hF hA b.c b5 _ p _ hp ?_;exact⟨Me hend,v,hv,hrl,jkm hr hrl⟩
  ·simp only[GF,EX,Dg,Cy (f:=fA) Qt]at h;split at h
   ·rename_i r' he
    cases h;exact hex2.a _ _ _ _ _ _ _ he
   simp only[jzd]at h;obtain⟨b,hb,h⟩:=h;split at h
   case isFalse=>cases h
   rename_i hlen
   simp only[jzd]at h;obtain⟨p,hp,h⟩:=h;split at h
   case isFalse=>cases h
   rename_i hend
   split at h
   ·rename_i j m' hres
    split at h
    ·rename_i z cs2 hl
     split at h
     ·rename_i hz
      subst hz;cases h;obtain⟨b1,b2,b3,b4,b5⟩:=hB.fn g b hb;refine Rc hT hm b1 b2 b3 hlen b4 ?_;refine K0 hF hA b.c b5 _ p _ hp ?_;exact⟨Me hend,j,hres,hl⟩
     ·cases h
    ·cases h
   ·cases h
  ·simp only[Gp,Cy (f:=fU) Nj,Cy (f:=Ei) Ol,Cy (f:=fC) Fp]at e;split at e
   ·rename_i r' he
    cases e;exact hex2.h _ _ _ _ _ _ _ he
   simp only[jzd]at e;obtain⟨b,hb,e⟩:=e;split at e
   case isFalse=>cases e
   rename_i hlen
   simp only[jzd]at e;obtain⟨p,hp,e⟩:=e;split at e
   case isFalse=>cases e
   rename_i hend
   obtain⟨b1,b2,b3,b4,b5⟩:=hB.fn g b hb
   obtain⟨f1,f2⟩:=jgE hend e
   rw[←KU]at hp
   refine Z3 (Io (Ek h) h++Gd (Ek h) 0 [] us) hT hm b1 b2 b3 hlen.1 hlen.2.1 b4 (by simpa using hlen.2.2.2) (NN hlen.2.2.1) f1 ?_
   exact K0 hF hA b.c b5 _ p _ hp f2
mutual
def CC:D→D→Bool
 | .int k n,.int k' n'=>decide (k=k')&&decide (n=n')
 | .bool b,.bool b'=>b==b'
 | .str s,.str s'=>decide (s.data.toList=s'.data.toList)
 | .slice n cs,.slice n' cs'=>Nat.beq n n'&&C2 cs cs'
 | .ref cs,.ref cs'=>C2 cs cs'
 | .fn f cs,.fn f' cs'=>Nat.beq f f'&&C2 cs cs'
 | .nilFn,.nilFn=>true
 | .nilPtr,.nilPtr=>true
 | .iface t cs,.iface t' cs'=>Nat.beq t t'&&C2 cs cs'
 |_,_=>false
def C2:List D→List D→Bool
 |[],[]=>true
 |x::r,y::s=>CC x y&&C2 r s
 |_,_=>false
end
mutual
theorem JU: ∀{x y:D},CC x y=true→x=y
 | .int k n,y,h=>by
  cases y<;>simp[CC]at h
  rw[h.1,h.2]
 | .bool b,y,h=>by
  cases y<;>simp[CC]at h
  rw[h]
 | .str s,y,h=>by
  cases y<;>simp[CC]at h
  rename_i s'
  obtain⟨a⟩:=s
  obtain⟨b⟩:=s'
  simp only at h;rw[h]
 | .slice n cs,y,h=>by
  cases y<;>simp[CC]at h
  rw[h.1,Ed h.2]
 | .ref cs,y,h=>by
  cases y<;>simp[CC]at h
  rw[Ed h]
 | .fn f cs,y,h=>by
  cases y<;>simp[CC]at h
  rw[h.1,Ed h.2]
 | .nilFn,y,h=>by
  cases y<;>simp[CC]at h
  rfl
 | .nilPtr,y,h=>by
  cases y<;>simp[CC]at h
  rfl
 | .iface t cs,y,h=>by
  cases y<;>simp[CC]at h
  rw[h.1,Ed h.2]
 | .lit x,y,h=>by cases y<;>simp[CC]at h
 | .any,y,h=>by cases y<;>simp[CC]at h
theorem Ed: ∀{l m:List D},C2 l m=true→l=m
 |[],[],_=>rfl
 |[],_::_,h=>by simp[C2]at h
 |_::_,[],h=>by simp[C2]at h
 |x::r,y::s,h=>by
  simp only[C2,AR]at h;rw[JU h.1,Ed h.2]
end
def Kd:A→A→Bool
 | .c x,.c y=>CC x y
 | .agg xs,.agg ys=>C2 xs ys
 |_,_=>false
theorem S7{x y:A}(h:Kd x y=true):x=y:=by
 cases x<;>cases y<;>simp only[Kd,Bool.false_eq_true]at h
 ·rw[JU h]
 ·rw[Ed h]
def B8{α:Type}(e:α→α→Bool):List α→List α→Bool
 |[],[]=>true
 |x::r,y::s=>e x y&&B8 e r s
 |_,_=>false
theorem Cw{α:Type}{e:α→α→Bool}(he: ∀x y,e x y=true→x=y): ∀{l m:List α},B8 e l m=true→l=m
 |[],[],_=>rfl
 |[],_::_,h=>by simp[B8]at h
 |_::_,[],h=>by simp[B8]at h
 |x::r,y::s,h=>by
  simp only[B8,AR]at h;rw[he _ _ h.1,Cw he h.2]
def KH:RC→RC→Bool
 | .d x,.d y=>CC x y
 | .own a b cs,.own a' b' cs'=>Nat.beq a a'&&(Nat.beq b b'&&C2 cs cs')
 |_,_=>false
theorem N0{x y:RC}(h:KH x y=true):x=y:=by
 cases x<;>cases y<;>simp[KH]at h
 ·rw[JU h]
 ·rw[h.1,h.2.1,Ed h.2.2]
def Js:RU→RU→Bool
 | .c x,.c y=>KH x y
 | .agg xs,.agg ys=>B8 KH xs ys
 |_,_=>false
theorem Tx{x y:RU}(h:Js x y=true):x=y:=by
 cases x<;>cases y<;>simp only[Js,Bool.false_eq_true]at h
 ·rw[N0 h]
 ·rw[Cw (fun _ _=>N0) h]
def Mk:R→R→Bool
 | .u x,.u y=>Js x y
 | .tup xs,.tup ys=>B8 Js xs ys
 |_,_=>false
theorem YJ{x y:R}(h:Mk x y=true):x=y:=by
 cases x<;>cases y<;>simp only[Mk,Bool.false_eq_true]at h
 ·rw[Tx h]
 ·rw[Cw (fun _ _=>Tx) h]
abbrev Tbl:=List (Nat×List (List A×R))
def KA(aa:List A):List (List A×R)→Option R
 |[]=>none
 |(bb,r)::l=>if B8 Kd aa bb then some r else KA aa l
def Tbl.find(aa:List A)(f:Nat):Tbl→Option R
 |[]=>none
 |(g,l)::t=>if Nat.beq g f then (match KA aa l with|some r=>some r|none=>Tbl.find aa f t) else Tbl.find aa f t
def Tbl.ext(t:Tbl)(f:FuncId)(aa:List A):Option R:=t.find aa f
def Tbl.Ok(P:Program)(t:Tbl):Prop:= ∀g∈t,∀e∈g.2,CallsF P g.1 e.1 e.2
theorem QF{aa:List A}{r:R}: ∀{l:List (List A×R)},KA aa l=some r→(aa,r)∈l
 |(bb,x)::l,h=>by
  unfold KA at h;split at h
  ·rename_i e
   cases h;rw[Cw (fun _ _=>S7) e]
   exact List.mem_cons_self ..
  ·exact List.mem_cons_of_mem _ (QF h)
theorem Tbl.ext_ok{P:Program}: ∀{t:Tbl},t.Ok P→ ∀g aa r,t.ext g aa=some r→CallsF P g aa r
 |[],_,g,aa,r,h=>by cases h
 |(g',l)::t,ht,g,aa,r,h=>by
  have hr:Tbl.Ok P t:=fun x hx=>ht x (List.mem_cons_of_mem _ hx)
  unfold Tbl.ext Tbl.find at h;split at h
  ·rename_i e
   have e:g'=g:=by simpa using e
   subst e;split at h
   ·rename_i x hx
    cases h;exact ht _ (List.mem_cons_self ..) _ (QF hx)
   ·exact Tbl.ext_ok hr g' aa r h
  ·exact Tbl.ext_ok hr g aa r h
theorem Tbl.ok_nil{P:Program}:Tbl.Ok P []:=fun g hg=>by cases hg
def Ents(P:Program)(f:FuncId):List (List A×R)→Prop
 |[]=>True
 |e::l=>CallsF P f e.1 e.2∧Ents P f l
theorem Ents.mem{P:Program}{f:FuncId}: ∀{l:List (List A×R)},Ents P f l→ ∀e∈l,CallsF P f e.1 e.2
 |e::l,h,x,hx=>by
  rcases jzn.1 hx with rfl|hx
  ·exact h.1
  ·exact Ents.mem h.2 x hx
theorem Tbl.ok_cons{P:Program}{f:FuncId}{l:List (List A×R)}{t:Tbl}(h:Ents P f l)(ht:t.Ok P):Tbl.Ok P ((f,l)::t):=fun g hg=>by
 rcases jzn.1 hg with rfl|hg
 ·exact h.mem
 ·exact ht g hg
theorem Tbl.ok_app{P:Program}{s t:Tbl}(hs:s.Ok P)(ht:t.Ok P):Tbl.Ok P (s++t):=fun g hg=>by
 rcases List.mem_append.1 hg with h|h
 ·exact hs g h
 ·exact ht g h
def Jo(x:Option R)(r:R):Bool:=match x with|some y=>Mk y r|none=>false
theorem UP{x:Option R}{r:R}(h:Jo x r=true):x=some r:=by
 unfold Jo at h;split at h
 ·rw[YJ h]
 ·cases h
def Tbl.runs(ev:FuncId→List A→Option R)(t:Tbl):Bool:=t.all fun g=>g.2.all fun e=>Jo (ev g.1 e.1) e.2
theorem Tbl.runs_ok{P:Program}{ev:FuncId→List A→Option R}(hev: ∀g aa r,ev g aa=some r→CallsF P g aa r){t:Tbl}(h:t.runs ev=true):t.Ok P:=fun g hg e he=>by
 have:=jzy.1 (jzy.1 h g hg) e he
 exact hev _ _ _ (UP this)
structure KeyA where
 sz:Nat
 k:Nat
 cs:List D
 aa:List A
def Mi(x y:KeyA):Bool:=Nat.beq x.sz y.sz&&(Nat.beq x.k y.k&&(C2 x.cs y.cs&&B8 Kd x.aa y.aa))
theorem jaG{x y:KeyA}(h:Mi x y=true):x=y:=by
 obtain⟨a,b,c,d⟩:=x
 obtain⟨a',b',c',d'⟩:=y
 simp only[Mi,AR,Nat.beq_eq]at h;obtain⟨rfl,rfl,h3,h4⟩:=h;rw[Ed h3,Cw (fun _ _=>S7) h4]
abbrev TblA:=List (Nat×List (KeyA×Nat×List D))
def Jp(x:KeyA):List (KeyA×Nat×List D)→Option (Nat×List D)
 |[]=>none
 |(y,r)::l=>if Mi x y then some r else Jp x l
def TblA.find(x:KeyA)(f:Nat):TblA→Option (Nat×List D)
 |[]=>none
 |(g,l)::t=>if Nat.beq g f then (match Jp x l with|some r=>some r|none=>TblA.find x f t) else TblA.find x f t
def TblA.ext(t:TblA)(f:FuncId)(sz k:Nat)(cs:List D)(aa:List A):Option (Nat×List D):=t.find ⟨sz,k,cs,aa⟩ f
def TblA.Ok(P:Program)(t:TblA):Prop:= ∀g∈t,∀e∈g.2,CallsA P g.1 e.1.sz e.1.k e.1.cs e.1.aa e.2.1 e.2.2
theorem Pb{x:KeyA}{r:Nat×List D}: ∀{l:List (KeyA×Nat×List D)},Jp x l=some r→(x,r)∈l
 |(y,q)::l,h=>by
  unfold Jp at h;split at h
  ·rename_i e
   cases h;rw[jaG e]
   exact List.mem_cons_self ..
  ·exact List.mem_cons_of_mem _ (Pb h)
theorem TblA.find_ok{P:Program}: ∀{t:TblA},t.Ok P→ ∀g x m cs',t.find x g=some (m,cs')→CallsA P g x.sz x.k x.cs x.aa m cs'
 |[],_,g,x,m,cs',h=>by cases h
 |(g',l)::t,ht,g,x,m,cs',h=>by
  have hr:TblA.Ok P t:=fun y hy=>ht y (List.mem_cons_of_mem _ hy)
  unfold TblA.find at h;split at h
  ·rename_i e
   have e:g'=g:=by simpa using e
   subst e;split at h
   ·rename_i y hy
    cases h;exact ht _ (List.mem_cons_self ..) _ (Pb hy)
   ·exact TblA.find_ok hr g' x m cs' h
  ·exact TblA.find_ok hr g x m cs' h
theorem TblA.ext_ok{P:Program}{t:TblA}(ht:t.Ok P): ∀g sz k cs aa m cs',t.ext g sz k cs aa=some (m,cs')→CallsA P g sz k cs aa m cs':=fun g sz k cs aa m cs' h=>TblA.find_ok ht g ⟨sz,k,cs,aa⟩ m cs' h
theorem TblA.ok_nil{P:Program}:TblA.Ok P []:=fun g hg=>by cases hg
theorem TblA.ok_app{P:Program}{s t:TblA}(hs:s.Ok P)(ht:t.Ok P):TblA.Ok P (s++t):=fun g hg=>by
 rcases List.mem_append.1 hg with h|h
 ·exact hs g h
 ·exact ht g h
def L8(x:Option (Nat×List D))(r:Nat×List D):Bool:=match x with|some y=>Nat.beq y.1 r.1&&C2 y.2 r.2|none=>false
theorem WL{x:Option (Nat×List D)}{r:Nat×List D}(h:L8 x r=true):x=some r:=by
 unfold L8 at h;split at h
 ·rename_i y
  obtain⟨a,b⟩:=y
  obtain⟨c,d⟩:=r
  simp only[AR,Nat.beq_eq]at h;rw[h.1,Ed h.2]
 ·cases h
def E1:C→C→Bool
 | .d x,.d y=>CC x y
 | .nl,.nl=>true
 | .sl i o n,.sl j p m=>Nat.beq i j&&(Nat.beq o p&&Nat.beq n m)
 | .ptr i o,.ptr j p=>Nat.beq i j&&Nat.beq o p
 | .bad,.bad=>true
 | .mp q i,.mp r j=>(q==r)&&Nat.beq i j
 |_,_=>false
theorem Gk(x y:C)(h:E1 x y=true):x=y:=by
 cases x<;>cases y<;>simp[E1]at h
 ·rw[JU h]
 ·rfl
 ·rw[h.1,h.2.1,h.2.2]
 ·rw[h.1,h.2]
 ·rfl
 ·rw[h.1,h.2]
def HH:U→U→Bool
 | .c x,.c y=>E1 x y
 | .agg xs,.agg ys=>B8 E1 xs ys
 | .clo f xs,.clo g ys=>Nat.beq f g&&B8 E1 xs ys
 |_,_=>false
theorem LM(x y:U)(h:HH x y=true):x=y:=by
 cases x<;>cases y<;>simp only[HH,Bool.false_eq_true,AR,Nat.beq_eq]at h
 ·rw[Gk _ _ h]
 ·rw[Cw Gk h]
 ·rw[h.1,Cw Gk h.2]
def Lm(x y:ByteArray×Int):Bool:=decide (x.1.data.toList=y.1.data.toList)&&decide (x.2=y.2)
theorem jkg(x y:ByteArray×Int)(h:Lm x y=true):x=y:=by
 obtain⟨⟨⟨a⟩⟩,n⟩:=x
 obtain⟨⟨⟨b⟩⟩,m⟩:=y
 simp only[Lm,AR,decide_eq_true_eq]at h;rw[h.1,h.2]
def MP:Blk→Blk→Bool
 | .row a cs p,.row b ds q=>Nat.beq a b&&(C2 cs ds&&(p==q))
 | .box cs,.box ds=>B8 E1 cs ds
 | .fbox f cs,.fbox g ds=>Nat.beq f g&&B8 E1 cs ds
 | .mp (.mp es),.mp (.mp fs)=>B8 Lm es fs
 | .mp (.it s p),.mp (.it t q)=>decide (s.data.toList=t.data.toList)&&Nat.beq p q
 |_,_=>false
theorem ZR{x y:Blk}(h:MP x y=true):x=y:=by
 unfold MP at h;split at h
 ·simp only[AR,Nat.beq_eq,beq_iff_eq]at h;rw[h.1,Ed h.2.1,h.2.2]
 ·rw[Cw Gk h]
 ·simp only[AR,Nat.beq_eq]at h;rw[h.1,Cw Gk h.2]
 ·rw[Cw jkg h]
 ·rename_i s p t q
  obtain⟨⟨a⟩⟩:=s
  obtain⟨⟨b⟩⟩:=t
  simp only[AR,decide_eq_true_eq,Nat.beq_eq]at h;rw[h.1,h.2]
 ·cases h
def Kc(x y:Nat×Blk):Bool:=Nat.beq x.1 y.1&&MP x.2 y.2
theorem N3(x y:Nat×Blk)(h:Kc x y=true):x=y:=by
 obtain⟨i,b⟩:=x
 obtain⟨j,c⟩:=y
 simp only[Kc,AR,Nat.beq_eq]at h;rw[h.1,ZR h.2]
def Mx:V→V→Bool
 | .u x,.u y=>HH x y
 | .tup xs,.tup ys=>B8 HH xs ys
 |_,_=>false
theorem jdL{x y:V}(h:Mx x y=true):x=y:=by
 cases x<;>cases y<;>simp only[Mx,Bool.false_eq_true]at h
 ·rw[LM _ _ h]
 ·rw[Cw LM h]
structure KeyH where
 us:List U
 h:List (Nat×Blk)
 gs:List C
structure ResH where
 gs:List C
 h:List (Nat×Blk)
 v:V
def MI(x y:KeyH):Bool:=B8 HH x.us y.us&&(B8 Kc x.h y.h&&B8 E1 x.gs y.gs)
theorem jhs{x y:KeyH}(h:MI x y=true):x=y:=by
 obtain⟨a,b,c⟩:=x
 obtain⟨a',b',c'⟩:=y
 simp only[MI,AR]at h;rw[Cw LM h.1,Cw N3 h.2.1,Cw Gk h.2.2]
abbrev TblH:=List (Nat×List (KeyH×ResH))
def JK(x:KeyH):List (KeyH×ResH)→Option ResH
 |[]=>none
 |(y,r)::l=>if MI x y then some r else JK x l
def TblH.find(x:KeyH)(f:Nat):TblH→Option ResH
 |[]=>none
 |(g,l)::t=>if Nat.beq g f then (match JK x l with|some r=>some r|none=>TblH.find x f t) else TblH.find x f t
def TblH.ext(t:TblH)(f:FuncId)(us:List U)(h:List (Nat×Blk))(gs:List C):Option (List C×List (Nat×Blk)×V):=(t.find ⟨us,h,gs⟩ f).map fun r=>(r.gs,r.h,r.v)
def TblH.Ok(P:Program)(t:TblH):Prop:= ∀g∈t,∀e∈g.2,GJ P g.1 e.1.us e.1.gs e.2.gs e.1.h e.2.h e.2.v
theorem Oc{x:KeyH}{r:ResH}: ∀{l:List (KeyH×ResH)},JK x l=some r→(x,r)∈l
 |(y,q)::l,h=>by
  unfold JK at h;split at h
  ·rename_i e
   cases h;rw[jhs e]
   exact List.mem_cons_self ..
  ·exact List.mem_cons_of_mem _ (Oc h)
theorem TblH.find_ok{P:Program}: ∀{t:TblH},t.Ok P→ ∀g x r,t.find x g=some r→GJ P g x.us x.gs r.gs x.h r.h r.v
 |[],_,g,x,r,h=>by cases h
 |(g',l)::t,ht,g,x,r,h=>by
  have hr:TblH.Ok P t:=fun y hy=>ht y (List.mem_cons_of_mem _ hy)
  unfold TblH.find at h;split at h
  ·rename_i e
   have e:g'=g:=by simpa using e
   subst e;split at h
   ·rename_i y hy
    cases h;exact ht _ (List.mem_cons_self ..) _ (Oc hy)
   ·exact TblH.find_ok hr g' x r h
  ·exact TblH.find_ok hr g x r h
theorem TblH.ext_ok{P:Program}{t:TblH}(ht:t.Ok P): ∀g us h gs gs' h' v,t.ext g us h gs=some (gs',h',v)→GJ P g us gs gs' h h' v:=fun g us h gs gs' h' v e=>by
 unfold TblH.ext at e;rw[jze]at e;obtain⟨r,hr,e⟩:=e;cases e;exact TblH.find_ok ht g ⟨us,h,gs⟩ r hr
theorem TblH.ok_nil{P:Program}:TblH.Ok P []:=fun g hg=>by cases hg
theorem TblH.ok_app{P:Program}{s t:TblH}(hs:s.Ok P)(ht:t.Ok P):TblH.Ok P (s++t):=fun g hg=>by
 rcases List.mem_append.1 hg with h|h
 ·exact hs g h
 ·exact ht g h
def MZ(x:Option (List C×List (Nat×Blk)×V))(r:ResH):Bool:=match x with|some y=>B8 E1 y.1 r.gs&&(B8 Kc y.2.1 r.h&&Mx y.2.2 r.v)|none=>false
theorem jfD{x:Option (List C×List (Nat×Blk)×V)}{r:ResH}(h:MZ x r=true):x=some (r.gs,r.h,r.v):=by
 unfold MZ at h;split at h
 ·rename_i y
  obtain⟨a,b,c⟩:=y
  simp only[AR]at h;rw[Cw Gk h.1,Cw N3 h.2.1,jdL h.2.2]
 ·cases h
structure Tb2 where
 f:Tbl
 a:TblA
 h:TblH
def Tb2.Ok(P:Program)(t:Tb2):Prop:=t.f.Ok P∧t.a.Ok P∧t.h.Ok P
def Tb2.cal(t:Tb2):Cal2:=⟨t.a.ext,t.h.ext⟩
theorem Tb2.cal_ok{P:Program}{t:Tb2}(h:t.Ok P):CalOk P t.cal:=⟨fun g sz n cs aa m cs' e=>TblA.ext_ok h.2.1 g sz n cs aa m cs' e,fun g us x gs gs' h' v e=>TblH.ext_ok h.2.2 g us x gs gs' h' v e⟩
def Tb2.app(s t:Tb2):Tb2:=⟨s.f++t.f,s.a++t.a,s.h++t.h⟩
theorem Tb2.ok_app{P:Program}{s t:Tb2}(hs:s.Ok P)(ht:t.Ok P):(s.app t).Ok P:=⟨Tbl.ok_app hs.1 ht.1,TblA.ok_app hs.2.1 ht.2.1,TblH.ok_app hs.2.2 ht.2.2⟩
def Tb2.runs(ev:FuncId→List A→Option R)(c:Cal2)(t:Tb2):Bool:=
 (t.f.all fun g=>g.2.all fun e=>Jo (ev g.1 e.1) e.2)&&((t.a.all fun g=>g.2.all fun e=>L8 (c.a g.1 e.1.sz e.1.k e.1.cs e.1.aa) e.2)&&(t.h.all fun g=>g.2.all fun e=>MZ (c.h g.1 e.1.us e.1.h e.1.gs) e.2))
theorem Tb2.runs_ok{P:Program}{ev:FuncId→List A→Option R}{c:Cal2}(hev:(∀g aa r,ev g aa=some r→CallsF P g aa r)∧CalOk P c){t:Tb2}(h:t.runs ev c=true):t.Ok P:=by
 simp only[Tb2.runs,AR]at h;refine⟨fun g hg e he=> ?_,fun g hg e he=> ?_,fun g hg e he=> ?_⟩
 ·have:=jzy.1 (jzy.1 h.1 g hg) e he
  exact hev.1 _ _ _ (UP this)
 ·have:=jzy.1 (jzy.1 h.2.1 g hg) e he
  exact hev.2.a _ _ _ _ _ _ _ (WL this)
 ·have:=jzy.1 (jzy.1 h.2.2 g hg) e he
  exact hev.2.h _ _ _ _ _ _ _ (jfD this)
def LN(fn:Func)(pln:HA)(kl:List Nat):FB:=⟨fn,fn.body.getD .skip,pln,kl⟩
def FB.okB (b : FB) : Bool := (match b.fn.body with | some _ => true | none => false) && (!(b.fn.name == "runtime.NumGoroutine") && (B6 b.fn.ntmps [] b.c && Cq b.pln b.c))
def FB.Ok (P : Program) (f : Nat) (b : FB) : Prop := P.funcs[f]? = some b.fn ∧ b.fn.body = some b.c ∧ (b.fn.name == "runtime.NumGoroutine") = false ∧ B6 b.fn.ntmps [] b.c = true ∧ Cq b.pln b.c = true
theorem Xf{P:Program}{f:Nat}{fn:Func}{pln:HA}{kl:List Nat}(hf:P.funcs[f]? =some fn)(h:(LN fn pln kl).okB=true):(LN fn pln kl).Ok P f:=by
 unfold FB.okB at h;simp only[AR,Bool.not_eq_true']at h;obtain⟨h1,h2,h3,h4⟩:=h;refine⟨hf,?_,h2,h3,h4⟩
 show fn.body=some (fn.body.getD .skip)
 have h1:(match fn.body with|some _=>true|none=>false)=true:=h1
 cases hb:fn.body with
 |none=>rw[hb]at h1;cases h1
 |some c=>rfl
inductive BT where
 |leaf
 |node (l:BT) (k:Nat) (b:FB) (r:BT)
def BT.find:BT→Nat→Option FB
 | .leaf,_=>none
 | .node l k b r,f=>if Nat.beq f k then some b else if Nat.blt f k then l.find f else r.find f
def BT.Ok(P:Program):BT→Prop
 | .leaf=>True
 | .node l k b r=>l.Ok P∧b.Ok P k∧r.Ok P
theorem BT.ok{P:Program}: ∀{t:BT},t.Ok P→ ∀f b,t.find f=some b→b.Ok P f
 | .leaf,_,f,b,h=>by cases h
 | .node l k c r,⟨h1,h2,h3⟩,f,b,h=>by
  unfold BT.find at h;split at h
  ·rename_i e
   cases h;have e:f=k:=by simpa using e
   rw[e]
   exact h2
  split at h
  ·exact BT.ok h1 f b h
  ·exact BT.ok h3 f b h
theorem BT.bods{P:Program}{t:BT}(h:t.Ok P):FBs.Ok P t.find:=⟨fun f b hb=>BT.ok h f b hb⟩
inductive TT where
 |leaf
 |node (l:TT) (k:Nat) (i:TI) (r:TT)
def TT.find:TT→Nat→Option TI
 | .leaf,_=>none
 | .node l k i r,t=>if Nat.beq t k then some i else if Nat.blt t k then l.find t else r.find t
def TT.okB(P:Program):TT→Bool
 | .leaf=>true
 | .node l k i r=>l.okB P&&(HB P k i&&r.okB P)
theorem TT.ok{P:Program}: ∀{x:TT},x.okB P=true→A5 P x.find
 | .leaf,_,t,i,h=>by cases h
 | .node l k j r,hx,t,i,h=>by
  unfold TT.okB at hx;simp only[AR]at hx;obtain⟨h1,h2,h3⟩:=hx;unfold TT.find at h;split at h
  ·rename_i e
   cases h;have e:t=k:=by simpa using e
   rw[e]
   exact h2
  split at h
  ·exact TT.ok h1 t i h
  ·exact TT.ok h3 t i h
def IJ:List (Nat×Nat)→FuncId→Option Nat
 |[],_=>none
 |(g,n)::r,f=>if Nat.beq g f then some n else IJ r f
end Go.Va
