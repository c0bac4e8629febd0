/- a part of the proof -/
import Derived.Test.YtplacedebenpaaaGreatDoorEbr
import Derived.Test.YtplacedebenpaaaGreatDoorEbo
import Derived.Test.YtplacedebenpaaaGreatDoorEbp
set_option linter.all false
set_option maxRecDepth 1000000
set_option maxHeartbeats 1500000
namespace Go.Va
open Tb2 renaming ok_app → aD
open Go.Proofs Go.Proofs.Tryz
def EZ:List Der:=[⟨⟨5,[3,1,2],false,[],[]⟩,0,[]⟩,⟨⟨5,[4,0,2],false,[],[]⟩,0,[]⟩,⟨⟨2,[0,1,3,4],false,[],[]⟩,6,[0,1]⟩]
def lsM:List (List UInt8):=[[109,105,100,112,111,105,110,116,40,77,44,32,66,44,32,67,41,32,103,105,118,101,110],[109,105,100,112,111,105,110,116,40,78,44,32,65,44,32,67,41,32,103,105,118,101,110],[112,97,114,97,108,108,101,108,40,65,44,32,66,44,32,77,44,32,78,41,32,98,121,32,109,105,100,108,105,110,101,32,102,114,111,109,32,48,44,32,49]]
theorem Fd:CallsF prog 12 [.agg [.slice 3 [.int .i64 5,.slice 3 [.int .i64 3,.int .i64 1,.int .i64 2],.bool false,.slice 0 [],.slice 0 [],.int .i64 0,.slice 0 [],.int .i64 5,.slice 3 [.int .i64 4,.int .i64 0,.int .i64 2],.bool false,.slice 0 [],.slice 0 [],.int .i64 0,.slice 0 [],.int .i64 2,.slice 4 [.int .i64 0,.int .i64 1,.int .i64 3,.int .i64 4],.bool false,.slice 0 [],.slice 0 [],.int .i64 6,.slice 2 [.int .i64 0,.int .i64 1]],.slice 0 []],.c (.slice 5 [.str ⟨#[65]⟩,.str ⟨#[66]⟩,.str ⟨#[67]⟩,.str ⟨#[77]⟩,.str ⟨#[78]⟩])] (.tup [.c (.d (.str ⟨#[48,46,32,109,105,100,112,111,105,110,116,40,77,44,32,66,44,32,67,41,32,103,105,118,101,110,10,49,46,32,109,105,100,112,111,105,110,116,40,78,44,32,65,44,32,67,41,32,103,105,118,101,110,10,50,46,32,112,97,114,97,108,108,101,108,40,65,44,32,66,44,32,77,44,32,78,41,32,98,121,32,109,105,100,108,105,110,101,32,102,114,111,109,32,48,44,32,49,10]⟩)),.c (.d (.int .i64 0))]):=by
 have:=Et EZ (.slice 5 [.str ⟨#[65]⟩,.str ⟨#[66]⟩,.str ⟨#[67]⟩,.str ⟨#[77]⟩,.str ⟨#[78]⟩]) (λi=>lsM.getD i []) O2 (λi=>by
  match i with
  |0=>decide+kernel
  |1=>decide+kernel
  |2=>decide+kernel
  |j+3=>exact Nat.zero_le _) (λi h=>by
  match i,h with
  |0,_=>exact Tbl.ext_ok H7.1 38 _ _ O4
  |1,_=>exact Tbl.ext_ok H7.1 38 _ _ O4
  |2,_=>exact Tbl.ext_ok H7.1 38 _ _ O4
  |j+3,h=>exact absurd h (by simp[EZ]))
 rw[show wL (λi=>lsM.getD i []) EZ.length=[48,46,32,109,105,100,112,111,105,110,116,40,77,44,32,66,44,32,67,41,32,103,105,118,101,110,10,49,46,32,109,105,100,112,111,105,110,116,40,78,44,32,65,44,32,67,41,32,103,105,118,101,110,10,50,46,32,112,97,114,97,108,108,101,108,40,65,44,32,66,44,32,77,44,32,78,41,32,98,121,32,109,105,100,108,105,110,101,32,102,114,111,109,32,48,44,32,49,10] by decide+kernel]at this;exact this
def evI_t:Tb2:=⟨[(12,[([.agg [.slice 3 [.int .i64 5,.slice 3 [.int .i64 3,.int .i64 1,.int .i64 2],.bool false,.slice 0 [],.slice 0 [],.int .i64 0,.slice 0 [],.int .i64 5,.slice 3 [.int .i64 4,.int .i64 0,.int .i64 2],.bool false,.slice 0 [],.slice 0 [],.int .i64 0,.slice 0 [],.int .i64 2,.slice 4 [.int .i64 0,.int .i64 1,.int .i64 3,.int .i64 4],.bool false,.slice 0 [],.slice 0 [],.int .i64 6,.slice 2 [.int .i64 0,.int .i64 1]],.slice 0 []],.c (.slice 5 [.str ⟨#[65]⟩,.str ⟨#[66]⟩,.str ⟨#[67]⟩,.str ⟨#[77]⟩,.str ⟨#[78]⟩])],.tup [.c (.d (.str ⟨#[48,46,32,109,105,100,112,111,105,110,116,40,77,44,32,66,44,32,67,41,32,103,105,118,101,110,10,49,46,32,109,105,100,112,111,105,110,116,40,78,44,32,65,44,32,67,41,32,103,105,118,101,110,10,50,46,32,112,97,114,97,108,108,101,108,40,65,44,32,66,44,32,77,44,32,78,41,32,98,121,32,109,105,100,108,105,110,101,32,102,114,111,109,32,48,44,32,49,10]⟩)),.c (.d (.int .i64 0))])])],[],[]⟩
theorem DX:evI_t.Ok prog:=⟨Tbl.ok_cons ⟨Fd,trivial⟩ Tbl.ok_nil,TblA.ok_nil,TblH.ok_nil⟩
def evLT:Tb2:=evI_t.app evL1
theorem Cc:evLT.Ok prog:=aD DX H7
def ev10_t:Tb2:=⟨[(127,[([.agg [eO,J6],.c KK],.u (.agg [.d eO,.d J6,.d KK])),([.agg [eO,Aa],.c J6],.u (.agg [.d eO,.d Aa,.d J6]))]),(142,[([.c (eI 23),.c Au],.u (.c (.d eN)))]),(221,[([.agg [eI 5,.str ⟨#[109,97,98]⟩,eO,eI 0],.c Au],.u (.c (.own 2 4 [eI 0,At,eI 0,As,eI 1,Ag,eI 1,F5])))])],[],[]⟩
theorem jda:ev10_t.Ok prog:=Bb Cc O6
def ev11_t:Tb2:=⟨[(66,[([.agg [.slice 5 [eI 1,.str ⟨#[65]⟩,eN,eO,eN,eN,eI 1,.str ⟨#[66]⟩,eN,eO,eN,eN,eI 1,.str ⟨#[67]⟩,eN,eO,eN,eN,eI 2,.str ⟨#[77]⟩,.slice 2 [eI 1,eI 2],eO,J6,KK,eI 2,.str ⟨#[78]⟩,.slice 2 [eI 0,eI 2],eO,J6,KK],.slice 1 [eI 2,Av,eO,eN,eN]]],.u (.c (.d (eI 0))))]),(87,[([.c (.str ⟨#[112,97,114,97,108,108,101,108,40,65,44,32,66,44,32,77,44,32,78,41]⟩),.c AB],.tup [.agg [.d (eI 2),.d Af,.d eO,.d eN,.d eN],.c (.d (.bool true))])])],[],[]⟩
theorem jaY:ev11_t.Ok prog:=Bb Cc O6
def evL2:Tb2:=(ev10_t.app (ev11_t.app evLT))
theorem Mt:evL2.Ok prog:=(aD jda (aD jaY Cc))
def ev12_t:Tb2:=⟨[(142,[([.c (eI 24),.c Au],.u (.c (.d eN))),([.c (eI 25),.c Au],.u (.c (.d eN))),([.c (eI 26),.c Au],.u (.c (.d eN)))])],[],[]⟩
theorem jgZ:ev12_t.Ok prog:=Bb Mt O6
def ev13_t:Tb2:=⟨[(142,[([.c (eI 7),.c Au],.u (.c (.d eN)))])],[],[]⟩
theorem jes:ev13_t.Ok prog:=Bb Mt O6
def ev14_t:Tb2:=⟨[(63,[([.agg [eO,J6],.agg [eO,KK]],.tup [.agg [.d eO,.d J6,.d KK],.c (.d (eI 0))])]),(65,[([.c (eI 4)],.u (.agg [.d eO,.d Aa,.d J6]))]),(142,[([.c (eI 8),.c Au],.u (.c (.d eN)))])],[],[]⟩
theorem jkA:ev14_t.Ok prog:=Bb Mt O6
def evL3:Tb2:=(ev12_t.app (ev13_t.app (ev14_t.app evL2)))
theorem JV:evL3.Ok prog:=(aD jgZ (aD jes (aD jkA Mt)))
def ev15_t:Tb2:=⟨[(142,[([.c (eI 6),.c Au],.u (.c (.d (.slice 2 [eI 2,Af,eO,eN,eN,AF,eN,eI 9,Af,eO,Aa,J6,AF,eN]))))])],[],[]⟩
theorem VT:ev15_t.Ok prog:=Bb JV O6
def ev16_t:Tb2:=⟨[(31,[([.c (eI 1),.c (eI 2)],.u (.agg [.d eO,.d J6,.d KK]))]),(222,[([.c eN,.agg [.str ⟨#[109,105,100,112,111,105,110,116]⟩,Ax,FI,eN],.c (.slice 1 [Fx]),.c Au,.c Aj,.agg [.int .i16 1,.int .i16 2,.int .i16 (-1),.int .i16 (-1),.int .i16 (-1),.int .i16 (-1),.int .i16 (-1),.int .i16 (-1),.int .i16 (-1),.int .i16 (-1),.int .i16 (-1),.int .i16 (-1),.int .i16 3,.int .i16 (-1),.int .i16 (-1),.int .i16 (-1),.int .i16 (-1),.int .i16 (-1),.int .i16 (-1),.int .i16 (-1),.int .i16 (-1),.int .i16 (-1),.int .i16 (-1),.int .i16 (-1),.int .i16 (-1),.int .i16 (-1)]],.u (.c (.own 7 3 [eI 1,Ab,eO,eN,eN,Aj,eN,eI 4,Fe,eO,eN,eN,Aj,eN,eI 9,Ay,eO,Aa,J6,Aj,eN])))])],[],[]⟩
theorem jf0:ev16_t.Ok prog:=Bb JV O6
def evL4:Tb2:=(ev15_t.app (ev16_t.app evL3))
theorem Mu:evL4.Ok prog:=(aD VT (aD jf0 JV))
def ev17_t:Tb2:=⟨[(222,[([.c eN,.agg [.str ⟨#[109,105,100,112,111,105,110,116]⟩,Ax,FI,eN],.c (.slice 1 [Fx]),.c Au,.c eN,.agg [.int .i16 (-1),.int .i16 (-1),.int .i16 (-1),.int .i16 (-1),.int .i16 (-1),.int .i16 (-1),.int .i16 (-1),.int .i16 (-1),.int .i16 (-1),.int .i16 (-1),.int .i16 (-1),.int .i16 (-1),.int .i16 (-1),.int .i16 (-1),.int .i16 (-1),.int .i16 (-1),.int .i16 (-1),.int .i16 (-1),.int .i16 (-1),.int .i16 (-1),.int .i16 (-1),.int .i16 (-1),.int .i16 (-1),.int .i16 (-1),.int .i16 (-1),.int .i16 (-1)]],.u (.c (.own 7 8 [eI 1,Bh,eO,eN,eN,An,eN,eI 1,Ab,eO,eN,eN,Aj,eN,eI 4,K5,eO,eN,eN,An,eN,eI 4,Fe,eO,eN,eN,Aj,eN,eI 9,Gq,eO,Aa,J6,An,eN,eI 9,Ai,eO,Aa,J6,An,eN,eI 9,Ay,eO,Aa,J6,Aj,eN,eI 9,AC,eO,Aa,J6,Aj,eN])))])],[],[]⟩
theorem YD:ev17_t.Ok prog:=Bb Mu O6
def evL5:Tb2:=(ev17_t.app evL4)
theorem N6:evL5.Ok prog:=(aD YD Mu)
def ev18_t:Tb2:=⟨[(142,[([.c (eI 5),.c Au],.u (.c (.own 7 8 [eI 1,Bh,eO,eN,eN,An,eN,eI 1,Ab,eO,eN,eN,Aj,eN,eI 4,K5,eO,eN,eN,An,eN,eI 4,Fe,eO,eN,eN,Aj,eN,eI 9,Gq,eO,Aa,J6,An,eN,eI 9,Ai,eO,Aa,J6,An,eN,eI 9,Ay,eO,Aa,J6,Aj,eN,eI 9,AC,eO,Aa,J6,Aj,eN])))])],[],[]⟩
theorem Yx:ev18_t.Ok prog:=Bb N6 O6
def evL6:Tb2:=(ev18_t.app evL5)
theorem MV:evL6.Ok prog:=(aD Yx N6)
def ev19_t:Tb2:=⟨[(77,[([.agg [.slice 2 [eI 5,At,eO,eN,eN,eI 0,eN,eI 5,Ag,eO,eN,eN,eI 0,eN],eN]],.u (.c (.own 8 10 [eI 1,Bh,eO,eN,eN,eI 5,An,eN,eI 1,Ab,eO,eN,eN,eI 5,Aj,eN,eI 2,Af,eO,eN,eN,eI 6,AF,eN,eI 4,K5,eO,eN,eN,eI 5,An,eN,eI 4,Fe,eO,eN,eN,eI 5,Aj,eN,eI 9,Af,eO,Aa,J6,eI 6,AF,eN,eI 9,Gq,eO,Aa,J6,eI 5,An,eN,eI 9,Ai,eO,Aa,J6,eI 5,An,eN,eI 9,Ay,eO,Aa,J6,eI 5,Aj,eN,eI 9,AC,eO,Aa,J6,eI 5,Aj,eN])))])],[],[]⟩
theorem VY:ev19_t.Ok prog:=Bb MV O6
def evL7:Tb2:=(ev19_t.app evL6)
theorem QS:evL7.Ok prog:=(aD VY MV)
def ev20_t:Tb2:=⟨[(6,[([],.u (.c (.d (.bool true))))])],[],[]⟩
theorem jhU:ev20_t.Ok prog:=Bb QS O6
theorem Z9:CallsF prog 6 [] (.u (.c (.d (.bool true)))):=
 jhU.1 (6,[([],.u (.c (.d (.bool true))))]) (List.mem_singleton.2 rfl) ([],.u (.c (.d (.bool true)))) (List.mem_singleton.2 rfl)
end Go.Va
namespace Go.Va
open _root_.Nat renaming le_trans → aD
open Int renaming natCast_add → qA, natCast_mul → qB
open Go.Proofs
theorem jBW{ds:List Der}{N:List Bool}{k:Nat}{x:Der}(h:x∈H0 ds N k): ∃y∈ds,x=Pn N y:=by
 unfold H0 at h;obtain⟨p,a,h⟩:=List.mem_filterMap.1 h;have b:=(List.of_mem_zip (List.mem_of_mem_take a)).1;split at h
 ·cases h;exact⟨_,b,rfl⟩
 ·cases h
theorem jyl(ds:List Der)(N:List Bool)(k:Nat):(H0 ds N k).length<=ds.length:=by
 unfold H0;refine aD (List.length_filterMap_le _ _) ?_;rw[A8,List.length_zip];omega
theorem jxP(ds:List Der)(N:List Bool)(k:Nat):(exG Te ds N k).length<=10*ds.length:=by
 unfold exG;have a: ∀l:List (Der×Bool),(l.flatMap λp=>if p.2=true then Te p.1.rule (prem ds p.1.frm) p.1.fact else []).length<=10*l.length:=λl=>by
  induction l with
  |nil=>simp
  |cons p l b=>
   rw[List.flatMap_cons,List.length_append,List.length_cons];have:(if p.2=true then Te p.1.rule (prem ds p.1.frm) p.1.fact else []).length<=10:=by
    split
    ·exact jm8 _ _ _
    ·simp
   omega
 refine aD (a _) ?_;rw[A8,List.length_zip];omega
theorem jww(ds:List Der)(f:Fct)(j:ds.length<=1000)(a: ∀x∈ds,x.fact.Wide/\x.frm.length<=1000):
  ∃(X:List Der) (Y:List Grd) (e:Int),jbt ds f= .tup [.agg [.d (Dh X),.d (Dd Y)],.c (.d (.int .i64 e))]/\(∀x∈X,x.fact.Wide/\x.frm.length<=1000)/\(∀g∈Y,g.Short)/\X.length<=100000/\Y.length<=100000:=by
 unfold jbt;split
 ·exact⟨[],[],13,rfl,O1,O1,O1,O1⟩
 split
 ·exact⟨[],[],15,rfl,O1,O1,O1,O1⟩
 ·refine⟨_,_,0,rfl,λx i=> ?_,λg h=>jh6 jtf g (jiM h),?_,?_⟩
  ·obtain⟨y,b,rfl⟩:=jBW i;refine⟨(a y b).1,?_⟩;unfold Pn;rw[List.length_map];exact(a y b).2
  ·exact aD (jyl _ _ _) O
  ·exact aD (jmV _) (aD (jxP _ _ _) O)
theorem jtb{f:Fct}(a:InFact f)(h:smlF f=true):f.Mild/\f.Short2:=by
 unfold smlF at h;simp only[AR,decide_eq_true_eq]at h;exact⟨⟨O,O,a.oa,a.od,O⟩,h.2.1,h.2.2⟩
theorem jxV{ds:List Der}{e:List Grd}(a: ∀x∈ds,InDer x)(h:W1 ds e=true): ∀x∈ds,x.fact.Mild/\x.fact.Short2:=λx b=>by
 have q:=jAX h x b;have hi:=(a x b).f;exact⟨⟨O,O,hi.oa,hi.od,O⟩,q.1,q.2.1⟩
theorem jun(ds:List Der)(l:List Grd)(f:Fct)(b: ∀x∈ds,InDer x)(o:InFact f):CallsF Tryz.prog 3 [.agg [Dh ds,Dd l],.agg f.ds] (.u (.c (.d (.bool true)))):=by
 have a:=jyi ds l;have h:=jnz f;have k:=Z9;cases p:W1 ds l with
 |false=>
  rw[p]at a;clear o h;obtain⟨E,F,z,w,y⟩:=f;simp only[Fct.ds]at*;refine cO Tryz.func3 rfl ?_;simp -implicitDefEqProofs[jJ,-qA]
  (first|refine Ac a ?_|refine Ae a ?_);simp -implicitDefEqProofs[jJ,-qA]
  (first|refine Ac k ?_|refine Ae k ?_);simp -implicitDefEqProofs[jJ,-qA]
 |true=>
  rw[p]at a;cases i:smlF f with
  |false=>
   rw[i]at h;clear o i;obtain⟨E,F,z,w,y⟩:=f;simp only[Fct.ds]at*;refine cO Tryz.func3 rfl ?_;simp -implicitDefEqProofs[jJ,-qA]
   (first|refine Ac a ?_|refine Ae a ?_);simp -implicitDefEqProofs[jJ,-qA]
   (first|refine Ac h ?_|refine Ae h ?_);simp -implicitDefEqProofs[jJ,-qA]
   (first|refine Ac k ?_|refine Ae k ?_);simp -implicitDefEqProofs[jJ,-qA]
  |true=>
   rw[i]at h;obtain⟨M,N,r,P⟩:=jtJ b p;have q: ∀x∈ds,x.fact.Wide/\x.frm.length<=1000:=λx j=>⟨(r x j).m,by have:=(r x j).lf;omega⟩
   have g:=jxV b p;have v:=jBD ds l f O (λx j=>(q x j).2) g (jtb o i).1;have t:=jvu ds l f O (λx j=>(q x j).2) g (jtb o i).1;obtain⟨X,Y,e,G,I,J,K,L⟩:=jww ds f O q;have H:=jxy X Y I J K L;rw[G]at v t;clear G I J K L q g M N r P p i b o;obtain⟨E,F,z,w,y⟩:=f;generalize Dh X=A,Dd Y=B at*;simp only[Fct.ds]at*;refine cO Tryz.func3 rfl ?_;simp -implicitDefEqProofs[jJ,-qA]
   (first|refine Ac a ?_|refine Ae a ?_);simp -implicitDefEqProofs[jJ,-qA]
   (first|refine Ac h ?_|refine Ae h ?_);simp -implicitDefEqProofs[jJ,-qA]
   (first|refine Ac v ?_|refine Ae v ?_);simp -implicitDefEqProofs[jJ,-qA]
   (first|refine Ac t ?_|refine Ae t ?_);simp -implicitDefEqProofs[jJ,-qA]
   (first|refine Ac H ?_|refine Ae H ?_);simp -implicitDefEqProofs[jJ,-qA]
   (first|refine Ac k ?_|refine Ae k ?_);simp -implicitDefEqProofs[jJ,-qA]
end Go.Va
