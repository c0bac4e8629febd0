/- a part of the proof -/
import Derived.Test.YtplacedebenpaaaGreatDoorEbp
import Derived.Test.YtplacedebenpaaaGreatDoorEal
import Derived.Test.YtplacedebenpaaaGreatDoorEau
set_option linter.all false
set_option maxRecDepth 1000000
set_option maxHeartbeats 1000000
namespace Go.Va
open _root_.List renaming mem_cons_of_mem → aD, mem_cons_self → aG, mem_append → aJ
open _root_.Nat renaming beq → aH, blt → aL, beq_eq → aM
open _root_.Bool renaming false_eq_true → aI
def Ip(T:AH):AH:=λt=>(T t).map λi=>{ i with trunc:=true }
theorem jd3{P:Program}{T:AH}(h:Dk P T):Dk P (Ip T):=λt i hi=>by
 unfold Ip at hi;rw[jze]at hi;obtain⟨j,a,rfl⟩:=hi;exact h t j a
structure FB where
 fn:Func
 c:Code
 pln:HA
 kl:List Nat:=[]
abbrev FBs:=FuncId->Option FB
def I1(e:Exit):Bool:=match e with| .ret=>true| .normal=>true|_=>false
def Io(a:Nat):List (Nat×Blk)->List (Nat×Nat)
 |[]=>[]
 |(i,_)::r=>if aL i ML then (a+1+i,i)::Io a r else Io a r
def UY:Nat:=90000
def jdE(a i:Nat):Nat:=if aL i ML then a+1+i else i
def Gd(a k:Nat)(seen:List Nat):List U->List (Nat×Nat)
 |[]=>[]
 | .c c::r=>(match c.id? with|some i=>if seen.contains i then Gd a (k+1) seen r else (UY+k,jdE a i)::Gd a (k+1) (i::seen) r|none=>Gd a (k+1) seen r)
 |_::r=>Gd a (k+1) seen r
def newR(a:Nat):List Nat->List (Nat×Nat)
 |[]=>[]
 |k::r=>if aL k UY then (a+1+k,k)::newR a r else newR a r
def oldR(a:List Nat):List (Nat×Nat)->List (Nat×Nat)
 |[]=>[]
 |(k,i)::r=>if a.contains k then (i,k)::oldR a r else oldR a r
def Gz(k:Nat):List (Nat×Nat)->Nat
 |[]=>k
 |(a,b)::r=>if aH b k then a else Gz k r
def FX(h:List (Nat×Blk)):List Nat->List (Nat×Blk)
 |[]=>[]
 |i::r=>match lk i h with|some b=>(i,b)::FX h r|none=>FX h r
def SP:V->List Nat
 | .u u=>KC [u]
 | .tup us=>KC us
 | .tr _ _=>[]
def HL:List (Nat×Blk)->Bool
 |[]=>true
 |(_,.gh _)::_=>false
 |_::r=>HL r
def LO(T:AH)(l:List ResultVar)(t r:List (Nat×Nat))(f:St):Option (List C×List (Nat×Blk)×V):=
 match lk Cv f.h with
 |some (.gh o)=>(f.res T l).bind λw=>
  let b:=clos f.h 2000 (o.filterMap C.id? ++SP w) [];let rN:=newR (Ek f.h) b;let i:=oldR b r;let e:=b.map λk=>Gz (Gz k rN) i;let j:=oldR e t;let a:=e.map λk=>Gz k j;let m:=rns j (rns i (rns rN f))
  (match lk Cv m.h with
  |some (.gh p)=>let s:=m.clean a
   (s.res T l).bind λv=>if (FX s.h a).map (·.1)=a/\HL (FX s.h a)=true then Cg fC (p.map (C.on (L7 a))) λg=>Cg Ei (FX s.h a) λq=>fV v λv=>some (g,q,v) else none
  |_=>none)
 |_=>none
theorem NN: ∀{h:List (Nat×Blk)},HL h=true-> ∀i cs,lk i h≠some (.gh cs)
 |[],_,_,_,e=>by cases e
 |(j,b)::r,h,i,cs,e=>by
  unfold lk at e;cases b<;>simp only[HL,aI]at h
  all_goals
   split at e
   ·cases e
   ·exact NN h i cs e
theorem MY(h:List (Nat×Blk)): ∀l,AW h (FX h l)
 |[]=>trivial
 |i::r=>by
  unfold FX;split
  ·exact⟨by assumption,MY h r⟩
  ·exact MY h r
theorem Me{e:Exit}(h:I1 e=true):e= .ret\/e= .normal:=by
 cases e<;>first|exact .inl rfl|exact .inr rfl|cases h
theorem KU: ∀(a b:List (Nat×Nat)) (s:St),rns (a++b) s=rns b (rns a s)
 |[],_,_=>rfl
 |_::a,b,s=>KU a b _
theorem jgE{T:AH}{x:List ResultVar}{w q:List (Nat×Nat)}{g:St}{b:List C}{j:List (Nat×Blk)}{v:V}{e:Exit}(E:I1 e=true)(h:LO T x w q g=some (b,j,v)):(∀i cs,lk i j≠some (.gh cs))/\Lc T x b j v e g:=by
 unfold LO at h;split at h
 case h_2=>cases h
 rename_i y F;simp only[jzd]at h;obtain⟨J,_,h⟩:=h;generalize clos g.h 2000 (y.filterMap C.id? ++SP J) []=o at*;generalize newR (Ek g.h) o=rN at*;generalize oldR o q=r at*;generalize o.map (λk=>Gz (Gz k rN) r)=a at*;generalize oldR a w=t at*;generalize a.map (λk=>Gz k t)=p at*;rw[<-KU,<-KU]at h;generalize (rN++(r++t))=I at*;split at h
 case h_2=>cases h
 rename_i z l;simp only[jzd]at h;obtain⟨K,H,h⟩:=h;split at h
 case isFalse=>cases h
 rename_i m;obtain⟨m,G⟩:=m;simp only[Cy (f:=fC) Fp,Cy (f:=Ei) Ol,ji4,Option.some.injEq,Prod.mk.injEq]at h;obtain⟨rfl,rfl,rfl⟩:=h;refine⟨NN G,Me E,I,none,z,l,?_⟩;simp only[m];exact⟨trivial,.inl H,MY _ _⟩
mutual
def F6(T:AH)(ext:FuncId->List A->Option R)(ex2:Cal2)(e:Sh2)(B:FBs)(N:Nat):Nat->FuncId->List A->Option R
 |0,_,_=>none
 |n+1,f,a=>Cg fA a λa=>
  match ext f a with
  |some r=>some r
  |none=>(B f).bind λb=>if a.length<=b.fn.ntmps then (evC T (F6 T ext ex2 e B N n) e ⟨GF T ext ex2 e B N n,Gp T ext ex2 e B N n⟩ b.pln b.kl N b.c (St.init a)).bind λp=>if I1 p.1 then (p.2.res T b.fn.results.toList).bind λv=>(NH p.2 v).bind λr=>if r.rows.length<=1 then fR r λr=>some r else none else none else none
def GF(T:AH)(ext:FuncId->List A->Option R)(ex2:Cal2)(l:Sh2)(B:FBs)(N:Nat):Nat->FuncId->Nat->Nat->List D->List A->Option (Nat×List D)
 |0,_,_,_,_,_=>none
 |n+1,f,o,k,i,g=>De i λi=>Cg fA g λg=>
  match ex2.a f o k i g with
  |some r=>some r
  |none=>(B f).bind λb=>if g.length+1<=b.fn.ntmps then (evC T (F6 T ext ex2 l B N n) l ⟨GF T ext ex2 l B N n,Gp T ext ex2 l B N n⟩ b.pln b.kl N b.c (St.initA k o i g)).bind λp=>if I1 p.1 then (match p.2.res T b.fn.results.toList with
   |some (.u (.c (.sl j 0 m)))=>(match lk j p.2.h with|some (.row z e true)=>if z=o then De e λe=>BO m λm=>some (m,e) else none|_=>none)
   |_=>none) else none else none
def Gp(T:AH)(ext:FuncId->List A->Option R)(ex2:Cal2)(g:Sh2)(B:FBs)(N:Nat):Nat->FuncId->List U->List (Nat×Blk)->List C->Option (List C×List (Nat×Blk)×V)
 |0,_,_,_,_=>none
 |n+1,f,a,h,e=>Cg fU a λa=>Cg Ei h λh=>Cg fC e λe=>
  match ex2.h f a h e with
  |some r=>some r
  |none=>(B f).bind λb=>if a.length<=b.fn.ntmps/\b.fn.ntmps<=YS/\HL h=true/\(lk Cv h).isNone=true then
   (evC T (F6 T ext ex2 g B N n) g ⟨GF T ext ex2 g B N n,Gp T ext ex2 g B N n⟩ b.pln b.kl N b.c (rns (Gd (Ek h) 0 [] a) (rns (Io (Ek h) h) (St.initG a e h)))).bind λp=>if I1 p.1=true then LO T b.fn.results.toList (Io (Ek h) h) (Gd (Ek h) 0 [] a) p.2 else none
   else none
end
structure FBs.Ok (P:Program) (B:FBs):Prop where
 fn : ∀ f b, B f = some b → P.funcs[f]? = some b.fn ∧ b.fn.body = some b.c ∧ (b.fn.name == "runtime.NumGoroutine") = false ∧ B6 b.fn.ntmps [] b.c = true ∧ Cq b.pln b.c = true
theorem Q5{P:Program}{T:AH}(M:Dk P T)(Q:P.follows .mixedOrders=true){ext:FuncId->List A->Option R}{ex2:Cal2}{sA:Sh2}{B:FBs}{N:Nat}(t: ∀g q r,ext g q=some r->CallsF P g q r)(o:CalOk P ex2)(L:B.Ok P): ∀n,
  (∀g q r,F6 T ext ex2 sA B N n g q=some r->CallsF P g q r)/\CalOk P ⟨GF T ext ex2 sA B N n,Gp T ext ex2 sA B N n⟩
 |0=>⟨λg q r h=>by simp[F6]at h,λg sz k cs q m S h=>by simp[GF]at h,λg us h gs W h' v e=>by simp[Gp]at e⟩
 |n+1=>by
  obtain⟨Y,X⟩:=Q5 M Q t o L n;refine⟨λg q r h=> ?_,λg sz k cs q m S h=> ?_,λg us h gs W h' v e=> ?_⟩
  ·simp only[F6,Cy (f:=fA) Qt]at h;split at h
   ·rename_i Z I;cases h;exact t _ _ _ I
   ·simp only[jzd]at h;obtain⟨b,H,h⟩:=h;split at h
    case isFalse=>cases h
    rename_i i;simp only[jzd]at h;obtain⟨p,w,h⟩:=h;split at h
    case isFalse=>cases h
    rename_i l;simp only[jzd]at h;obtain⟨v,hv,Z,hr,h⟩:=h;split at h
    case isFalse=>cases h
    rename_i K;simp only[jf9]at h;cases h;obtain⟨x,y,E,F,G⟩:=L.fn g b H;refine Am M Q x y E i F ?_;refine K0 Y X b.c G _ p _ w ?_;exact⟨Me l,v,hv,K,jkm hr K⟩
  ·simp only[GF,EX,BS,Cy (f:=fA) Qt]at h;split at h
   ·rename_i Z I;cases h;exact o.a _ _ _ _ _ _ _ I
   simp only[jzd]at h;obtain⟨b,H,h⟩:=h;split at h
   case isFalse=>cases h
   rename_i i;simp only[jzd]at h;obtain⟨p,w,h⟩:=h;split at h
   case isFalse=>cases h
   rename_i l;split at h
   ·rename_i j m' J;split at h
    ·rename_i z cs2 hl;split at h
     ·rename_i hz;subst hz;cases h;obtain⟨x,y,E,F,G⟩:=L.fn g b H;refine Rc M Q x y E i F ?_;refine K0 Y X b.c G _ p _ w ?_;exact⟨Me l,j,J,hl⟩
     ·cases h
    ·cases h
   ·cases h
  ·simp only[Gp,Cy (f:=fU) Nj,Cy (f:=Ei) Ol,Cy (f:=fC) Fp]at e;split at e
   ·rename_i Z I;cases e;exact o.h _ _ _ _ _ _ _ I
   simp only[jzd]at e;obtain⟨b,H,e⟩:=e;split at e
   case isFalse=>cases e
   rename_i i;simp only[jzd]at e;obtain⟨p,w,e⟩:=e;split at e
   case isFalse=>cases e
   rename_i l;obtain⟨x,y,E,F,G⟩:=L.fn g b H;obtain⟨f1,f2⟩:=jgE l e;rw[<-KU]at w;refine Z3 (Io (Ek h) h++Gd (Ek h) 0 [] us) M Q x y E i.1 i.2.1 F (by simpa using i.2.2.2) (NN i.2.2.1) f1 ?_;exact K0 Y X b.c G _ p _ w f2
def KH:RC->RC->Bool
 | .d x,.d y=>CC x y
 | .own a b h,.own f g e=>aH a f&&(aH b g&&LP h e)
 |_,_=>false
theorem N0{x y:RC}(h:KH x y=true):x=y:=by
 cases x<;>cases y<;>simp[KH]at h
 ·rw[JU h]
 grind[Ed]
def Js:RU->RU->Bool
 | .c x,.c y=>KH x y
 | .agg xs,.agg a=>B8 KH xs a
 |_,_=>false
theorem Tx{x y:RU}(h:Js x y=true):x=y:=by
 cases x<;>cases y<;>simp only[Js,aI]at h
 ·rw[N0 h]
 grind[Cw,N0]
def Mk:R->R->Bool
 | .u x,.u y=>Js x y
 | .tup xs,.tup a=>B8 Js xs a
 |_,_=>false
theorem YJ{x y:R}(h:Mk x y=true):x=y:=by
 cases x<;>cases y<;>simp only[Mk,aI]at h
 ·rw[Tx h]
 grind[Cw,Tx]
abbrev Tbl:=List (Nat×List (List A×R))
def KA(a:List A):List (List A×R)->Option R
 |[]=>none
 |(b,r)::l=>if B8 Kd a b then some r else KA a l
def Tbl.find(a:List A)(f:Nat):Tbl->Option R
 |[]=>none
 |(g,l)::t=>if aH g f then (match KA a l with|some r=>some r|none=>Tbl.find a f t) else Tbl.find a f t
def Tbl.ext(t:Tbl)(f:FuncId)(a:List A):Option R:=t.find a f
def Tbl.Ok(P:Program)(t:Tbl):Prop:= ∀g∈t,∀e∈g.2,CallsF P g.1 e.1 e.2
theorem QF{a:List A}{r:R}: ∀{l:List (List A×R)},KA a l=some r->(a,r)∈l
 |(b,x)::l,h=>by
  unfold KA at h;split at h
  ·grind[Cw,S7,aG]
  ·exact aD _ (QF h)
theorem Tbl.ext_ok{P:Program}: ∀{t:Tbl},t.Ok P-> ∀g a r,t.ext g a=some r->CallsF P g a r
 |[],_,g,a,r,h=>by cases h
 |(f,l)::t,j,g,a,r,h=>by
  have i:Tbl.Ok P t:=λx b=>j x (aD _ b);unfold Tbl.ext Tbl.find at h;split at h
  ·rename_i e;have e:f=g:=by simpa using e
   subst e;split at h
   ·rename_i x b;cases h;exact j _ (aG ..) _ (QF b)
   ·exact Tbl.ext_ok i f a r h
  ·exact Tbl.ext_ok i g a r h
theorem Tbl.ok_nil{P:Program}:Tbl.Ok P []:=λg a=>by cases a
def Ents(P:Program)(f:FuncId):List (List A×R)->Prop
 |[]=>True
 |e::l=>CallsF P f e.1 e.2/\Ents P f l
theorem Ents.mem{P:Program}{f:FuncId}: ∀{l:List (List A×R)},Ents P f l-> ∀e∈l,CallsF P f e.1 e.2
 |e::l,h,x,hx=>by
  rcases jzn.1 hx with rfl|hx
  ·exact h.1
  ·exact Ents.mem h.2 x hx
theorem Tbl.ok_cons{P:Program}{f:FuncId}{l:List (List A×R)}{t:Tbl}(h:Ents P f l)(a:t.Ok P):Tbl.Ok P ((f,l)::t):=λg hg=>by
 rcases jzn.1 hg with rfl|hg
 ·exact h.mem
 ·exact a g hg
theorem Tbl.ok_app{P:Program}{s t:Tbl}(b:s.Ok P)(e:t.Ok P):Tbl.Ok P (s++t):=λg a=>by
 rcases aJ.1 a with h|h
 ·exact b g h
 ·exact e g h
def Jo(x:Option R)(r:R):Bool:=match x with|some y=>Mk y r|none=>false
theorem UP{x:Option R}{r:R}(h:Jo x r=true):x=some r:=by
 unfold Jo at h;grind[YJ]
def Tbl.runs(a:FuncId->List A->Option R)(t:Tbl):Bool:=t.all λg=>g.2.all λe=>Jo (a g.1 e.1) e.2
theorem Tbl.runs_ok{P:Program}{b:FuncId->List A->Option R}(i: ∀g a r,b g a=some r->CallsF P g a r){t:Tbl}(h:t.runs b=true):t.Ok P:=λg j e f=>by
 have:=jzy.1 (jzy.1 h g j) e f;grind[UP]
structure KeyA where
 sz:Nat
 k:Nat
 cs:List D
 aa:List A
def Mi(x y:KeyA):Bool:=aH x.sz y.sz&&(aH x.k y.k&&(LP x.cs y.cs&&B8 Kd x.aa y.aa))
theorem jaG{x y:KeyA}(h:Mi x y=true):x=y:=by
 obtain⟨a,b,c,d⟩:=x;obtain⟨e,f,g,i⟩:=y;simp only[Mi,AR,aM]at h;obtain⟨rfl,rfl,j,k⟩:=h;grind[Ed,Cw,S7]
abbrev TblA:=List (Nat×List (KeyA×Nat×List D))
def Jp(x:KeyA):List (KeyA×Nat×List D)->Option (Nat×List D)
 |[]=>none
 |(y,r)::l=>if Mi x y then some r else Jp x l
def TblA.find(x:KeyA)(f:Nat):TblA->Option (Nat×List D)
 |[]=>none
 |(g,l)::t=>if aH g f then (match Jp x l with|some r=>some r|none=>TblA.find x f t) else TblA.find x f t
def TblA.ext(t:TblA)(f:FuncId)(sz k:Nat)(cs:List D)(a:List A):Option (Nat×List D):=t.find ⟨sz,k,cs,a⟩ f
def TblA.Ok(P:Program)(t:TblA):Prop:= ∀g∈t,∀e∈g.2,CallsA P g.1 e.1.sz e.1.k e.1.cs e.1.aa e.2.1 e.2.2
theorem Pb{x:KeyA}{r:Nat×List D}: ∀{l:List (KeyA×Nat×List D)},Jp x l=some r->(x,r)∈l
 |(y,q)::l,h=>by
  unfold Jp at h;split at h
  ·grind[jaG,aG]
  ·exact aD _ (Pb h)
theorem TblA.find_ok{P:Program}: ∀{t:TblA},t.Ok P-> ∀g x m cs',t.find x g=some (m,cs')->CallsA P g x.sz x.k x.cs x.aa m cs'
 |[],_,g,x,m,cs',h=>by cases h
 |(b,l)::t,i,g,x,m,cs',h=>by
  have f:TblA.Ok P t:=λy a=>i y (aD _ a);unfold TblA.find at h;split at h
  ·rename_i e;have e:b=g:=by simpa using e
   subst e;split at h
   ·rename_i y a;cases h;exact i _ (aG ..) _ (Pb a)
   ·exact TblA.find_ok f b x m cs' h
  ·exact TblA.find_ok f g x m cs' h
theorem TblA.ext_ok{P:Program}{t:TblA}(b:t.Ok P): ∀g sz k cs a m cs',t.ext g sz k cs a=some (m,cs')->CallsA P g sz k cs a m cs':=λg sz k cs a m cs' h=>TblA.find_ok b g ⟨sz,k,cs,a⟩ m cs' h
theorem TblA.ok_nil{P:Program}:TblA.Ok P []:=λg a=>by cases a
theorem TblA.ok_app{P:Program}{s t:TblA}(b:s.Ok P)(e:t.Ok P):TblA.Ok P (s++t):=λg a=>by
 rcases aJ.1 a with h|h
 ·exact b g h
 ·exact e g h
def L8(x:Option (Nat×List D))(r:Nat×List D):Bool:=match x with|some y=>aH y.1 r.1&&LP y.2 r.2|none=>false
theorem WL{x:Option (Nat×List D)}{r:Nat×List D}(h:L8 x r=true):x=some r:=by
 unfold L8 at h;split at h
 ·rename_i y;obtain⟨a,b⟩:=y;obtain⟨c,d⟩:=r;simp only[AR,aM]at h;rw[h.1,Ed h.2]
 ·cases h
structure KeyH where
 us:List U
 h:List (Nat×Blk)
 gs:List C
structure ResH where
 gs:List C
 h:List (Nat×Blk)
 v:V
def MI(x y:KeyH):Bool:=B8 HH x.us y.us&&(B8 Kc x.h y.h&&B8 E1 x.gs y.gs)
theorem jhs{x y:KeyH}(h:MI x y=true):x=y:=by
 obtain⟨a,b,c⟩:=x;obtain⟨e,f,g⟩:=y;simp only[MI,AR]at h;grind[Cw,LM,N3,Gk]
abbrev TblH:=List (Nat×List (KeyH×ResH))
def JK(x:KeyH):List (KeyH×ResH)->Option ResH
 |[]=>none
 |(y,r)::l=>if MI x y then some r else JK x l
def TblH.find(x:KeyH)(f:Nat):TblH->Option ResH
 |[]=>none
 |(g,l)::t=>if aH g f then (match JK x l with|some r=>some r|none=>TblH.find x f t) else TblH.find x f t
def TblH.ext(t:TblH)(f:FuncId)(b:List U)(h:List (Nat×Blk))(a:List C):Option (List C×List (Nat×Blk)×V):=(t.find ⟨b,h,a⟩ f).map λr=>(r.gs,r.h,r.v)
def TblH.Ok(P:Program)(t:TblH):Prop:= ∀g∈t,∀e∈g.2,GJ P g.1 e.1.us e.1.gs e.2.gs e.1.h e.2.h e.2.v
theorem Oc{x:KeyH}{r:ResH}: ∀{l:List (KeyH×ResH)},JK x l=some r->(x,r)∈l
 |(y,q)::l,h=>by
  unfold JK at h;split at h
  ·grind[jhs,aG]
  ·exact aD _ (Oc h)
theorem TblH.find_ok{P:Program}: ∀{t:TblH},t.Ok P-> ∀g x r,t.find x g=some r->GJ P g x.us x.gs r.gs x.h r.h r.v
 |[],_,g,x,r,h=>by cases h
 |(b,l)::t,i,g,x,r,h=>by
  have f:TblH.Ok P t:=λy a=>i y (aD _ a);unfold TblH.find at h;split at h
  ·rename_i e;have e:b=g:=by simpa using e
   subst e;split at h
   ·rename_i y a;cases h;exact i _ (aG ..) _ (Oc a)
   ·exact TblH.find_ok f b x r h
  ·exact TblH.find_ok f g x r h
theorem TblH.ext_ok{P:Program}{t:TblH}(k:t.Ok P): ∀g f h b a i v,t.ext g f h b=some (a,i,v)->GJ P g f b a h i v:=λg f h b a i v e=>by
 unfold TblH.ext at e;rw[jze]at e;obtain⟨r,j,e⟩:=e;cases e;exact TblH.find_ok k g ⟨f,h,b⟩ r j
theorem TblH.ok_nil{P:Program}:TblH.Ok P []:=λg a=>by cases a
theorem TblH.ok_app{P:Program}{s t:TblH}(b:s.Ok P)(e:t.Ok P):TblH.Ok P (s++t):=λg a=>by
 rcases aJ.1 a with h|h
 ·exact b g h
 ·exact e g h
def MZ(x:Option (List C×List (Nat×Blk)×V))(r:ResH):Bool:=match x with|some y=>B8 E1 y.1 r.gs&&(B8 Kc y.2.1 r.h&&Mx y.2.2 r.v)|none=>false
theorem jfD{x:Option (List C×List (Nat×Blk)×V)}{r:ResH}(h:MZ x r=true):x=some (r.gs,r.h,r.v):=by
 unfold MZ at h;split at h
 ·rename_i y;obtain⟨a,b,c⟩:=y;simp only[AR]at h;grind[Cw,Gk,N3,jdL]
 ·cases h
structure Tb2 where
 f:Tbl
 a:TblA
 h:TblH
def Tb2.Ok(P:Program)(t:Tb2):Prop:=t.f.Ok P/\t.a.Ok P/\t.h.Ok P
def Tb2.cal(t:Tb2):Cal2:=⟨t.a.ext,t.h.ext⟩
theorem Tb2.cal_ok{P:Program}{t:Tb2}(h:t.Ok P):CalOk P t.cal:=⟨λg l n i f m a e=>TblA.ext_ok h.2.1 g l n i f m a e,λg o x j b k v e=>TblH.ext_ok h.2.2 g o x j b k v e⟩
def Tb2.app(s t:Tb2):Tb2:=⟨s.f++t.f,s.a++t.a,s.h++t.h⟩
theorem Tb2.ok_app{P:Program}{s t:Tb2}(a:s.Ok P)(b:t.Ok P):(s.app t).Ok P:=⟨Tbl.ok_app a.1 b.1,TblA.ok_app a.2.1 b.2.1,TblH.ok_app a.2.2 b.2.2⟩
def Tb2.runs(b:FuncId->List A->Option R)(c:Cal2)(t:Tb2):Bool:=
 (t.f.all λg=>g.2.all λe=>Jo (b g.1 e.1) e.2)&&((t.a.all λg=>g.2.all λe=>L8 (c.a g.1 e.1.sz e.1.k e.1.cs e.1.aa) e.2)&&(t.h.all λg=>g.2.all λe=>MZ (c.h g.1 e.1.us e.1.h e.1.gs) e.2))
theorem Tb2.runs_ok{P:Program}{k:FuncId->List A->Option R}{c:Cal2}(b:(∀g j r,k g j=some r->CallsF P g j r)/\CalOk P c){t:Tb2}(h:t.runs k c=true):t.Ok P:=by
 simp only[Tb2.runs,AR]at h;refine⟨λg i e f=> ?_,λg i e f=> ?_,λg i e f=> ?_⟩
 ·grind[UP]
 ·have:=jzy.1 (jzy.1 h.2.1 g i) e f;exact b.2.a _ _ _ _ _ _ _ (WL this)
 ·have:=jzy.1 (jzy.1 h.2.2 g i) e f;exact b.2.h _ _ _ _ _ _ _ (jfD this)
def LN(fn:Func)(a:HA)(b:List Nat):FB:=⟨fn,fn.body.getD .skip,a,b⟩
def FB.okB (b : FB) : Bool := (match b.fn.body with | some _ => true | none => false) && (!(b.fn.name == "runtime.NumGoroutine") && (B6 b.fn.ntmps [] b.c && Cq b.pln b.c))
def FB.Ok (P : Program) (f : Nat) (b : FB) : Prop := P.funcs[f]? = some b.fn ∧ b.fn.body = some b.c ∧ (b.fn.name == "runtime.NumGoroutine") = false ∧ B6 b.fn.ntmps [] b.c = true ∧ Cq b.pln b.c = true
theorem Xf{P:Program}{f:Nat}{fn:Func}{a:HA}{e:List Nat}(k:P.funcs[f]? =some fn)(h:(LN fn a e).okB=true):(LN fn a e).Ok P f:=by
 unfold FB.okB at h;simp only[AR,Bool.not_eq_true']at h;obtain⟨b,g,i,j⟩:=h;refine⟨k,?_,g,i,j⟩;show fn.body=some (fn.body.getD .skip);have b:(match fn.body with|some _=>true|none=>false)=true:=b;grind
inductive BT where
 |leaf
 |node (l:BT) (k:Nat) (fn:Func) (ps:List (Nat×PlE)) (kl:List Nat) (r:BT)
def Ao(fn:Func)(b:List (Nat×PlE))(a:List Nat):FB:=LN fn (Ef b) a
def BT.find:BT->Nat->Option FB
 | .leaf,_=>none
 | .node l k fn b a r,f=>if aH f k then some (Ao fn b a) else if aL f k then l.find f else r.find f
def BT.fns:BT->List (Nat×Func)
 | .leaf=>[]
 | .node l k fn _ _ r=>(k,fn)::(l.fns++r.fns)
def BT.okB:BT->Bool
 | .leaf=>true
 | .node l _ fn b a r=>(Ao fn b a).okB&&(l.okB&&r.okB)
theorem BT.ok{P:Program}: ∀{t:BT},(∀x∈t.fns,P.funcs[x.1]? =some x.2)->t.okB=true-> ∀f b,t.find f=some b->b.Ok P f
 | .leaf,_,_,f,b,h=>by cases h
 | .node l k fn m j r,g,a,f,b,h=>by
  unfold BT.find at h;simp only[BT.okB,AR]at a;split at h
  ·rename_i e;have e:=Nat.eq_of_beq_eq_true e;cases h;subst e;exact Xf (g (f,fn) (by simp[BT.fns])) a.1
  split at h
  ·exact BT.ok (λx i=>g x (by simp[BT.fns,i])) a.2.1 f b h
  ·exact BT.ok (λx i=>g x (by simp[BT.fns,i])) a.2.2 f b h
theorem BT.bods{P:Program}{t:BT}(a:t.fns.map (λx=>P.funcs[x.1]?)=t.fns.map (λx=>some x.2))(e:t.okB=true):FBs.Ok P t.find:=
 ⟨λf b g=>BT.ok (λx h=>List.map_inj_left.1 a x h) e f b g⟩
inductive TT where
 |leaf
 |node (l:TT) (k:Nat) (i:TI) (r:TT)
def TT.find:TT->Nat->Option TI
 | .leaf,_=>none
 | .node l k i r,t=>if aH t k then some i else if aL t k then l.find t else r.find t
def TT.okB(P:Program):TT->Bool
 | .leaf=>true
 | .node l k i r=>l.okB P&&(HB P k i&&r.okB P)
theorem TT.ok{P:Program}: ∀{x:TT},x.okB P=true->Dk P x.find
 | .leaf,_,t,i,h=>by cases h
 | .node l k j r,a,t,i,h=>by
  unfold TT.okB at a;simp only[AR]at a;obtain⟨b,f,e⟩:=a;unfold TT.find at h;split at h
  ·simp_all
  split at h
  ·exact TT.ok b t i h
  ·exact TT.ok e t i h
def IJ:List (Nat×Nat)->FuncId->Option Nat
 |[],_=>none
 |(g,n)::r,f=>if aH g f then some n else IJ r f
end Go.Va
namespace Go.Va
open Go.Proofs Go.Proofs.Tryz
abbrev eI(n:Int):D:= .int .i64 n
abbrev eN:D:= .slice 0 []
abbrev eO:D:= .bool false
abbrev Aj:D:= .slice 1 [eI 0]
abbrev An:D:= .slice 1 [eI 1]
abbrev AF:D:= .slice 2 [eI 0,eI 1]
abbrev J6:D:= .slice 1 [.int .u16 1]
abbrev KK:D:= .slice 1 [.int .u16 2]
abbrev Aa:D:= .slice 1 [.int .u16 4]
abbrev Bh:D:= .slice 3 [eI 0,eI 2,eI 4]
abbrev Ab:D:= .slice 3 [eI 1,eI 2,eI 3]
abbrev At:D:= .slice 3 [eI 3,eI 1,eI 2]
abbrev As:D:= .slice 3 [eI 3,eI 2,eI 1]
abbrev Ag:D:= .slice 3 [eI 4,eI 0,eI 2]
abbrev F5:D:= .slice 3 [eI 4,eI 2,eI 0]
abbrev Af:D:= .slice 4 [eI 0,eI 1,eI 3,eI 4]
abbrev Gq:D:= .slice 4 [eI 0,eI 2,eI 0,eI 4]
abbrev Ai:D:= .slice 4 [eI 0,eI 2,eI 2,eI 4]
abbrev K5:D:= .slice 4 [eI 0,eI 4,eI 2,eI 4]
abbrev Ay:D:= .slice 4 [eI 1,eI 2,eI 1,eI 3]
abbrev AC:D:= .slice 4 [eI 1,eI 2,eI 2,eI 3]
abbrev Fe:D:= .slice 4 [eI 1,eI 3,eI 2,eI 3]
abbrev Av:D:= .slice 4 [eI 3,eI 4,eI 0,eI 1]
abbrev Fy:D:= .slice 2 [.str ⟨#[48]⟩,.str ⟨#[49]⟩]
abbrev Ax:D:= .slice 1 [eI 5,.str ⟨#[109,97,98]⟩,eO,eI 0]
abbrev AB:D:= .slice 5 [.str ⟨#[65]⟩,.str ⟨#[66]⟩,.str ⟨#[67]⟩,.str ⟨#[77]⟩,.str ⟨#[78]⟩]
abbrev FI:D:= .slice 3 [eI 1,.str ⟨#[109,97,98]⟩,eO,eI 0,eI 4,.str ⟨#[109,97,109,98]⟩,eO,eI 0,eI 9,.str ⟨#[97,98,109,97]⟩,eO,eI 4]
abbrev Au:D:= .slice 2 [eI 5,At,eO,eN,eN,eI 5,Ag,eO,eN,eN]
abbrev Fx:D:= .slice 4 [eI 0,At,eI 0,As,eI 1,Ag,eI 1,F5]
abbrev eC(n:Int):C:= .d (eI n)
abbrev eP:C:= .d eN
abbrev eQ:C:= .d eO
def eg(y z:List Nat)(l:List (Nat×List Nat)):List DI:=l.map λx=>⟨x.1,x.2,y,z,[]⟩
noncomputable def evT:BT:= .node (.node (.node (.node (.node (.node (.node .leaf 6 f6 [] [0,1,2,3,4,5,6,7,8,9,10] .leaf) 9 f9 [] [0,1,2,3,4,5,6,7,8,23,28,62,67,80] (.node .leaf 10 f10 [(7,.au [(9,(2,[33]))] [])] [0,1,2,3,4,19] .leaf)) 11 f11 [] [0,1,2,4,5,6,7,8,9,10,11,12,21,29,42,53,58,66] (.node (.node .leaf 13 f13 [] [0] .leaf) 14 f14 [] [0,1,4,5,6,7,8,9,10,11,12,13,14,15,16,17,18,19,21,22,23,24,34,44,51,59,82,90] .leaf)) 15 f15 [] [0] (.node (.node (.node .leaf 29 f29 [] [0,1,4,5,10,14,26] .leaf) 30 f30 [] [0,1,2,3,4] (.node .leaf 31 f31 [] [0,1,4,5,6,16] .leaf)) 32 f32 [] [0,1,2,3,4,5,6,7,8,9,13,19,36] (.node (.node .leaf 34 f34 [] [0,2,3,4,5,9,25] .leaf) 36 f36 [] [0,1,3,4,5,9,18] .leaf))) 37 f37 [(6,.au [(10,(2,[5]))] []),(10,.no)] [0,1,2,3,4,5,6,7,22,42] (.node (.node (.node (.node .leaf 38 f38 [] [0,1,2,4,5,6,7,8,9,11,16,25,29,37,38,39,40] .leaf) 45 f45 [] [0,1,4,5] (.node .leaf 46 f46 [] [0,1,4,5] .leaf)) 49 f49 [] [0,1,2,6,7,8,9,10,11,12,13,14,15,16,17,27,34,51,68,87] (.node (.node .leaf 60 f60 [] [0,1,4,5,6,7,8,21,25,33,42,43,47,52] .leaf) 62 f62 [] [0,1,2,3,4,5,10,27,40,58,68] .leaf)) 63 f63 [] [0,1,2,3,4,5,8,11] (.node (.node (.node .leaf 64 f64 [] [0,2,4] .leaf) 65 f65 [] [0,2] (.node .leaf 66 f66 [] [0,1,2,3,4,6,7,17,20,21,22,29,33,34,35,36,45] .leaf)) 67 f67 [(6,.no),(8,.no),(10,.no),(12,.no),(14,.no),(16,.no),(18,.no),(20,.no),(22,.no),(24,.no),(26,.no),(28,.no)] [0,1,2,4,5,9,10,22,73,100,112,127,151,190,211,235,258,282,309] (.node (.node .leaf 77 f77 [(20,.au [] [10])] [0,1,2,3,4,5,6,7,8,9,10,15,29,38,49,68,88] .leaf) 79 f79 [] [0,1,2,4,5,6,7,9,15,18,19,20,21,34] .leaf)))) 83 f83 [] [0,1,4,5,9] (.node (.node (.node (.node (.node .leaf 84 f84 [] [0,1,4,5,9] .leaf) 87 f87 [] [0,1,4,5,6,8,9,18] (.node .leaf 88 f88 [] [0,2,3,6,12] .leaf)) 89 f89 [] [0,1,4,5,6,8,9,10,12,13,14,15,39] (.node (.node .leaf 90 f90 [] [0,2,3,5,10] .leaf) 91 f91 [] [0,1,2,4,5,7,12,17,19,20,21,22,31,52] .leaf)) 94 f94 [] [0,2,3,6,11] (.node (.node (.node .leaf 117 f117 [] [0,2,8] .leaf) 118 f118 [(11,.no)] [0,2,3,4,5,6,7,8,9,10,22,28,41] (.node .leaf 119 f119 [] [0,2,3,4,5,6,7,12,14,27,45] .leaf)) 121 f121 [] [0,2,4] (.node (.node .leaf 122 f122 [] [0,1,4,5,15,26,35] .leaf) 123 f123 [] [0,1,4,7,10] .leaf))) 125 f125 [] [0,1,2,8,10] (.node (.node (.node (.node .leaf 127 f127 [] [0,1,2,4,5,6,9,15] .leaf) 128 f128 [] [0,1,4] (.node .leaf 130 f130 [] [0,2,3,5] .leaf)) 131 f131 [] [0,1,4,5,7,9,17,24,26,27,28,29,38,59,62,66,69,70,71,72,79] (.node (.node .leaf 132 f132 [] [0,1,2,4,6,10,17,19,20,21,22,31,41,50] .leaf) 133 f133 [(7,.no)] [0,1,2,3,7,8,9,19,29] .leaf)) 134 f134 [] [0,1,4] (.node (.node (.node .leaf 141 f141 [] [0] .leaf) 142 f142 [(10,.au [(9,(4,[]))] []),(14,.no)] [0,1,4,5,6,7,8,9,10,11,12,13,14,20,24,30,35,50,76,90,97] (.node .leaf 144 f144 [] [0,2,3,4,6,8,10,12,14,16,18] .leaf)) 148 f148 [] [0,1,4] (.node (.node .leaf 149 f149 [] [0,1,4] .leaf) 154 f154 [(14,.ex [[],[0],[],[2],[2,3],[0,1,2,3,4],[0,1,2,3,4,5],[0,1,2,3,4,5,6]] [.all [[],[0],[],[2],[2,3]],.one,.one,.one]),(23,.no),(26,.no)] [0,1,4,5,6,7,8,9,12,13,16,40,58,60,72,85,92,106] .leaf))))) 155 f155 [] [0] (.node (.node (.node (.node (.node (.node .leaf 157 f157 [] [0,2,3,4,6,9,15] .leaf) 159 f159 [] [0,1,2] (.node .leaf 171 f171 [] [0,2,3,4,17,30,43,46,57,68,79,89] .leaf)) 194 f194 [] [0,1,2,3,4,5,6,7,8,16,38,53] (.node (.node .leaf 197 f197 [] [0,1,3,4,5,6,7,8,9,10,11,15,27,32,43,52] .leaf) 198 f198 [] [0,1,2,3,4,5,6,7,12,25] .leaf)) 199 f199 [] [0,1,2,4,5,6,7,8,9,10,11,12,13,15,21,79,85] (.node (.node (.node .leaf 200 f200 [] [0,1,2,4,5,6,7,8,9,11,17,35] .leaf) 201 f201 [] [0,1,2,5,6,7,8,9,13,35] (.node .leaf 202 f202 [] [0,2,3,4,9,10,19,28,37,43,52,61,70,78,84,92,101,110,117] .leaf)) 203 f203 [(8,.au [(0,(6,[])),(1,(6,[])),(2,(4,[])),(3,(6,[])),(4,(4,[])),(8,(2,[2]))] []),(12,.au [(0,(6,[])),(1,(4,[])),(2,(6,[])),(3,(4,[])),(7,(2,[2]))] [])] [0,2,3,7,8,17,26,36,44,53,62,69,78,86,94,102,113,124] (.node (.node .leaf 207 f207 [] [0,1,2] .leaf) 208 f208 [] [0,2,3,4,16] .leaf))) 209 f209 [] [0,1,4,6,14] (.node (.node (.node (.node .leaf 210 f210 [] [0,1,4,5,6,7,8,9,10,17,25,42] .leaf) 212 f212 [] [0,2,3,4,6,11,18] (.node .leaf 213 f213 [] [0,1,2] .leaf)) 214 f214 [] [0,1,2] (.node (.node .leaf 215 f215 [] [0,2,3,5,18,20,21,22,35,36,37,38,39,44] .leaf) 216 f216 [] [0,2,3,4,7,13,15] .leaf)) 217 f217 [] [0,1,2] (.node (.node (.node .leaf 220 f220 [(17,.au [] [15])] [0,1,2,3,4,8,10,11,12,13,14,15,16,20,25,36,42,54,77,111] .leaf) 221 f221 [] [0,1,2,4,5,6,7,8,12,23,34] (.node .leaf 222 f222 [(19,.au [(9,(4,[]))] [19])] [0,1,2,3,4,5,7,11,12,13,14,15,16,17,18,19,20,21,27,42,61,83,96,110] .leaf)) 239 f239 [(7,.ex [[],[],[],[2],[2,3],[2,3,4],[],[],[],[6,7,8],[6,7,8,9],[2,3,4,5,6,7,8,9,10],[],[12],[12,13],[12,13,14],[],[16],[2,3,4,5,6,7,8,9,10,11,12,13,14,15,16,17],[0,2,3,4,5,6,7,8,9,10,11,12,13,14,15,16,17,18],[0,2,3,4,5,6,7,8,9,10,11,12,13,14,15,16,17,18,19],[0,2,3,4,5,6,7,8,9,10,11,12,13,14,15,16,17,18,19,20],[0,1,2,3,4,5,6,7,8,9,10,11,12,13,14,15,16,17,18,19,20,21],[0,1,2,3,4,5,6,7,8,9,10,11,12,13,14,15,16,17,18,19,20,21,22],[0,1,2,3,4,5,6,7,8,9,10,11,12,13,14,15,16,17,18,19,20,21,22,23]] [.rn [(100081,81),(100088,88)],.any [] [80,81,87,88] [⟨0,[0],[80,81,87,88,106,113,100081,100088],[80,81,87,88],[]⟩,⟨0,[0],[80,81,87,88,106,113,90000,100081,100088],[80,81,87,88],[]⟩,⟨0,[0],[80,87],[80,81,87,88],[]⟩,⟨0,[72],[80,87],[80,81,87,88],[]⟩,⟨0,[73],[80,87],[80,81,87,88],[]⟩,⟨0,[74],[80,87],[80,81,87,88],[]⟩,⟨0,[1],[87],[80,81,87,88],[]⟩,⟨0,[4],[87],[80,81,87,88],[]⟩,⟨0,[5],[87],[80,81,87,88],[]⟩,⟨0,[76,77,78],[87],[80,81,87,88],[]⟩,⟨1,[79],[87],[81,87,88],[]⟩,⟨3,[75,80],[87],[87,88],[100081,100088,106,113]⟩,⟨0,[0],[80,81,87,106,113,100081,100088],[80,81,87,88],[]⟩,⟨0,[82],[80,81,87,106,113,100081,100088],[80,81,87,88],[]⟩,⟨0,[83],[80,81,87,106,113,100081,100088],[80,81,87,88],[]⟩,⟨0,[84],[80,81,87,106,113,100081,100088],[80,81,87,88],[]⟩,⟨0,[4],[80,81,106,113,100081,100088],[80,81,87,88],[]⟩,⟨1,[86],[80,81,106,113,100081,100088],[80,81,88],[]⟩,⟨3,[85,87],[],[],[100081,100088,106,113]⟩,⟨0,[70],[],[],[]⟩,⟨0,[89],[],[],[]⟩,⟨2,[81,90],[],[],[90000]⟩],.one,.one,.one]),(10,.ex [[],[],[],[2],[2,3],[2,3,4],[],[],[],[8],[6,7,8,9],[6,7,8,9,10],[2,3,4,5,6,7,8,9,10,11],[],[13],[13,14],[13,14,15],[],[17],[2,3,4,5,6,7,8,9,10,11,12,13,14,15,16,17,18],[0,2,3,4,5,6,7,8,9,10,11,12,13,14,15,16,17,18,19],[0,2,3,4,5,6,7,8,9,10,11,12,13,14,15,16,17,18,19,20],[0,2,3,4,5,6,7,8,9,10,11,12,13,14,15,16,17,18,19,20,21],[0,1,2,3,4,5,6,7,8,9,10,11,12,13,14,15,16,17,18,19,20,21,22],[0,1,2,3,4,5,6,7,8,9,10,11,12,13,14,15,16,17,18,19,20,21,22,23],[0,1,2,3,4,5,6,7,8,9,10,11,12,13,14,15,16,17,18,19,20,21,22,23,24]] [.rn [(100106,106),(100113,113)],.any [] [105,106,112,113] [⟨0,[0],[81,88,105,106,112,113,100106,100113],[105,106,112,113],[]⟩,⟨0,[0],[81,88,105,106,112,113,90000,100106,100113],[105,106,112,113],[]⟩,⟨0,[0],[105,112],[105,106,112,113],[]⟩,⟨0,[96],[105,112],[105,106,112,113],[]⟩,⟨0,[97],[105,112],[105,106,112,113],[]⟩,⟨0,[98],[105,112],[105,106,112,113],[]⟩,⟨0,[1],[112],[105,106,112,113],[]⟩,⟨0,[5],[112],[105,106,112,113],[]⟩,⟨0,[5],[112],[105,106,112,113],[]⟩,⟨0,[102],[112],[105,106,112,113],[]⟩,⟨0,[100,101,103],[112],[105,106,112,113],[]⟩,⟨1,[104],[112],[106,112,113],[]⟩,⟨3,[99,105],[112],[112,113],[81,88,100106,100113]⟩,⟨0,[0],[81,88,105,106,112,100106,100113],[105,106,112,113],[]⟩,⟨0,[107],[81,88,105,106,112,100106,100113],[105,106,112,113],[]⟩,⟨0,[108],[81,88,105,106,112,100106,100113],[105,106,112,113],[]⟩,⟨0,[109],[81,88,105,106,112,100106,100113],[105,106,112,113],[]⟩,⟨0,[5],[81,88,105,106,100106,100113],[105,106,112,113],[]⟩,⟨1,[111],[81,88,105,106,100106,100113],[105,106,113],[]⟩,⟨3,[110,112],[],[],[81,88,100106,100113]⟩,⟨0,[94],[],[],[]⟩,⟨0,[114],[],[],[]⟩,⟨2,[106,115],[],[],[90000]⟩],.one,.one,.one])] [0,1,4,5,6,7,11,69,93,123] (.node (.node .leaf 240 f240 [] [0,2,3,4,5,15,23] .leaf) 241 f241 [] [0,1,4,5,17] .leaf)))) 242 f242 [] [0,2,3,16] (.node (.node (.node (.node (.node .leaf 243 f243 [] [0,2,3,4,5,6,13,17,18,19,20,26] .leaf) 266 f266 [] [0,2] (.node .leaf 267 f267 [] [0,2] .leaf)) 271 f271 [] [0,2] (.node (.node .leaf 274 f274 [] [0,1,4] .leaf) 299 f299 [] [0,1,4,5,6,11,20,33] .leaf)) 300 f300 [] [0,1,2,3,4,5,6,7,8,12,13,36] (.node (.node (.node .leaf 301 f301 [(10,.au [(10,(4,[]))] []),(11,.au [(11,(4,[]))] []),(24,.no)] [0,1,2,3,4,5,6,7,8,9,12,16,17,25,54,59,95,112] .leaf) 302 f302 [] [0,1,4] (.node .leaf 303 f303 [] [0,1,4] .leaf)) 304 f304 [] [0,2] (.node (.node .leaf 306 f306 [] [0,2,3,4,9] .leaf) 309 f309 [] [0,1,2] .leaf))) 310 f310 [] [0,2] (.node (.node (.node (.node .leaf 311 f311 [] [0,1,4,5,10,14,25] .leaf) 312 f312 [] [0,2] (.node .leaf 314 f314 [] [0] .leaf)) 317 f317 [] [0,1,4,5,9,17] (.node (.node .leaf 332 f332 [] [0,2,3,4,5,24] .leaf) 333 f333 [] [0,2,3] .leaf)) 334 f334 [(0,.au [(14,(2,[90000])),(17,(2,[90000]))] [])] [0] (.node (.node (.node .leaf 359 f359 [(6,.au [] [3])] [0,1,3,4,5,18,33] .leaf) 360 f360 [(1,.au [(8,(2,[4]))] [])] [0,1,2,4] .leaf) 370 f370 [] [0,2,3,5,6,12,18,19,21,23,25,27,29] (.node (.node .leaf 390 f390 [] [0,2,3,10,17,24] .leaf) 392 f392 [] [0,2,3,4,5,7,9,11,13,15,17,19] .leaf)))))
theorem jbq:FBs.Ok prog evT.find:=BT.bods O4 O6
def Mn:List (Nat×Nat):=[]
def M3(f:Nat):Bool:=IJ [(239,0),(240,0),(241,0),(242,0),(243,0),(332,0),(334,0)] f|>.isSome
def evTT:TT:= .node (.node (.node (.node (.node (.node .leaf 1 Re .leaf) 2 Oa (.node .leaf 3 Oa .leaf)) 4 Ri (.node (.node .leaf 5 FT .leaf) 6 FT (.node .leaf 7 Pv .leaf))) 8 Pv (.node (.node (.node .leaf 9 Pm .leaf) 10 Pm (.node .leaf 12 R8 .leaf)) 22 NY (.node (.node .leaf 23 Se .leaf) 25 Pe .leaf))) 26 La (.node (.node (.node (.node .leaf 28 jBT .leaf) 29 PI (.node .leaf 30 PI .leaf)) 32 jsj (.node (.node .leaf 34 ST .leaf) 38 Oa (.node .leaf 44 Sn .leaf))) 46 jfn (.node (.node (.node .leaf 47 KS .leaf) 48 jdI (.node .leaf 50 jhq .leaf)) 55 ZL (.node (.node .leaf 79 jpg .leaf) 81 jeX .leaf)))) 94 TA (.node (.node (.node (.node (.node .leaf 99 jnX .leaf) 106 Re (.node .leaf 123 jsF .leaf)) 126 jqU (.node (.node .leaf 143 Yy .leaf) 146 jfz (.node .leaf 162 jdA .leaf))) 163 Re (.node (.node (.node .leaf 165 jbc .leaf) 185 R8 (.node .leaf 188 jbx .leaf)) 190 jqw (.node (.node .leaf 192 jrJ .leaf) 194 jsv .leaf))) 212 js4 (.node (.node (.node (.node .leaf 215 jq7 .leaf) 234 jcQ (.node .leaf 246 jof .leaf)) 257 Zt (.node (.node .leaf 260 MN .leaf) 265 jrf .leaf)) 267 jnY (.node (.node (.node .leaf 275 jdK .leaf) 280 jsn (.node .leaf 281 jdH .leaf)) 294 jnh (.node (.node .leaf 296 jpI .leaf) 344 jfn .leaf))))
theorem jgt:Dk prog evTT.find:=TT.ok O4
noncomputable def ZH (t:Tb2):FuncId->List A->Option R:=F6 (Ip evTT.find) t.f.ext t.cal ⟨IJ Mn,M3⟩ evT.find 1000 100
noncomputable def jhg (t:Tb2):Cal2:=⟨GF (Ip evTT.find) t.f.ext t.cal ⟨IJ Mn,M3⟩ evT.find 1000 100,Gp (Ip evTT.find) t.f.ext t.cal ⟨IJ Mn,M3⟩ evT.find 1000 100⟩
theorem Bb{s t:Tb2}(h:t.Ok prog)(e:s.runs (ZH t) (jhg t)=true):s.Ok prog:=
 Tb2.runs_ok (Q5 (jd3 jgt) mixed (Tbl.ext_ok h.1) (Tb2.cal_ok h) jbq 100) e
end Go.Va
namespace Go.Va
open Go.Proofs Go.RowKit
theorem jbA(s:ByteArray)(n:Int)(a:s.size<=18)(h:Lib.atoi s.data.toList=some n)(w:World):
  Calls Tryz.prog 156 #[.string s] w λe w'=> ∃vs:List Value,e= .returned (.tuple vs.toArray)/\Below w.heap.size w w'/\vs=[.int .i64 n,.nilIface]:=by
 refine(Any.strconv_Atoi Tryz.laysAt s n a h w).mono ?_;rintro e w' ⟨rfl,t,rfl⟩;exact⟨[.int .i64 n,.nilIface],rfl,YO w _ t,rfl⟩
theorem TD(s:ByteArray)(n:Int)(i:s.size<=18)(h:Lib.atoi s.data.toList=some n):
  CallsF Tryz.prog 156 [.c (.str s)] (.tup ([D.int .i64 n,D.lit .nilIface].map λd=> .c (.d d))):=by
 refine Jv (D8 Tryz.func156 rfl O2) λw Z vals k b=> ?_;obtain⟨v,rfl,a⟩:=OK b;clear b;cases a;refine(jbA s n i h w).mono ?_;rintro e m ⟨l,rfl,g,rfl⟩;refine⟨_,rfl,g,rfl,λj x v f a=> ?_⟩
 match j,f,a with
 |0,f,a=>cases f;cases a;exact .int _ _
 |1,f,a=>cases f;cases a;exact .lit _ rfl
end Go.Va
