/- a part of the proof -/
import Derived.Test.YtpklcnmcllbbjaaGreatDoorJbg
import Derived.Test.YtpklcnmcllbbjaaGreatDoorJbb
import Derived.Test.YtpklcnmcllbbjaaGreatDoorJbc
import Derived.Test.YtpklcnmcllbbjaaGreatDoorJaz
set_option linter.all false
set_option maxRecDepth 1000000
set_option maxHeartbeats 1500000
namespace Go.Va
open Go.Proofs
def ev45_t:Tb2:=⟨[(197,[([.c eN,.agg [.str ⟨#[109,105,100,108,105,110,101]⟩,jl3,jl6,eN],.c Dq,.c AM,.c AF,.agg [.int .i16 2,.int .i16 1,.int .i16 0,.int .i16 (-1),.int .i16 (-1),.int .i16 (-1),.int .i16 (-1),.int .i16 (-1),.int .i16 (-1),.int .i16 (-1),.int .i16 (-1),.int .i16 (-1),.int .i16 3,.int .i16 4,.int .i16 (-1),.int .i16 (-1),.int .i16 (-1),.int .i16 (-1),.int .i16 (-1),.int .i16 (-1),.int .i16 (-1),.int .i16 (-1),.int .i16 (-1),.int .i16 (-1),.int .i16 (-1),.int .i16 (-1)]],.u (.c (.own 7 2 [eI 2,K5,eO,eN,eN,AF,eN,eI 9,K5,eO,At,Bh,AF,eN]))),([.c eN,.agg [.str ⟨#[109,105,100,112,111,105,110,116]⟩,Fk,jlZ,eN],.c Fj,.c AM,.c Aj,.agg [.int .i16 1,.int .i16 2,.int .i16 (-1),.int .i16 (-1),.int .i16 (-1),.int .i16 (-1),.int .i16 (-1),.int .i16 (-1),.int .i16 (-1),.int .i16 (-1),.int .i16 (-1),.int .i16 (-1),.int .i16 3,.int .i16 (-1),.int .i16 (-1),.int .i16 (-1),.int .i16 (-1),.int .i16 (-1),.int .i16 (-1),.int .i16 (-1),.int .i16 (-1),.int .i16 (-1),.int .i16 (-1),.int .i16 (-1),.int .i16 (-1),.int .i16 (-1)]],.u (.c (.own 7 3 [eI 1,Ag,eO,eN,eN,Aj,eN,eI 4,Fx,eO,eN,eN,Aj,eN,eI 9,AB,eO,At,Bh,Aj,eN]))),([.c C1,.agg [.str ⟨#[109,105,100,108,105,110,101]⟩,jl3,jl6,eN],.c Dq,.c AM,.c KK,.agg [.int .i16 2,.int .i16 0,.int .i16 1,.int .i16 (-1),.int .i16 (-1),.int .i16 (-1),.int .i16 (-1),.int .i16 (-1),.int .i16 (-1),.int .i16 (-1),.int .i16 (-1),.int .i16 (-1),.int .i16 4,.int .i16 3,.int .i16 (-1),.int .i16 (-1),.int .i16 (-1),.int .i16 (-1),.int .i16 (-1),.int .i16 (-1),.int .i16 (-1),.int .i16 (-1),.int .i16 (-1),.int .i16 (-1),.int .i16 (-1),.int .i16 (-1)]],.u (.c (.d C1)))])],[],[]⟩
theorem Wb:ev45_t.Ok Tryz.prog:=Bb MJ (by decide+kernel)
def ev46_t:Tb2:=⟨[(197,[([.c EQ,.agg [.str ⟨#[109,105,100,112,111,105,110,116]⟩,Fk,jlZ,eN],.c Fj,.c AM,.c Aj,.agg [.int .i16 2,.int .i16 1,.int .i16 (-1),.int .i16 (-1),.int .i16 (-1),.int .i16 (-1),.int .i16 (-1),.int .i16 (-1),.int .i16 (-1),.int .i16 (-1),.int .i16 (-1),.int .i16 (-1),.int .i16 3,.int .i16 (-1),.int .i16 (-1),.int .i16 (-1),.int .i16 (-1),.int .i16 (-1),.int .i16 (-1),.int .i16 (-1),.int .i16 (-1),.int .i16 (-1),.int .i16 (-1),.int .i16 (-1),.int .i16 (-1),.int .i16 (-1)]],.u (.c (.own 7 4 [eI 1,Ag,eO,eN,eN,Aj,eN,eI 4,Fx,eO,eN,eN,Aj,eN,eI 9,AB,eO,At,Bh,Aj,eN,eI 9,FI,eO,At,Bh,Aj,eN]))),([.c NI,.agg [.str ⟨#[109,105,100,112,111,105,110,116]⟩,Fk,jlZ,eN],.c Fj,.c AM,.c An,.agg [.int .i16 0,.int .i16 2,.int .i16 (-1),.int .i16 (-1),.int .i16 (-1),.int .i16 (-1),.int .i16 (-1),.int .i16 (-1),.int .i16 (-1),.int .i16 (-1),.int .i16 (-1),.int .i16 (-1),.int .i16 4,.int .i16 (-1),.int .i16 (-1),.int .i16 (-1),.int .i16 (-1),.int .i16 (-1),.int .i16 (-1),.int .i16 (-1),.int .i16 (-1),.int .i16 (-1),.int .i16 (-1),.int .i16 (-1),.int .i16 (-1),.int .i16 (-1)]],.u (.c (.own 7 7 [eI 1,As,eO,eN,eN,An,eN,eI 1,Ag,eO,eN,eN,Aj,eN,eI 4,Fy,eO,eN,eN,An,eN,eI 4,Fx,eO,eN,eN,Aj,eN,eI 9,AC,eO,At,Bh,An,eN,eI 9,AB,eO,At,Bh,Aj,eN,eI 9,FI,eO,At,Bh,Aj,eN]))),([.c Es,.agg [.str ⟨#[109,105,100,112,111,105,110,116]⟩,Fk,jlZ,eN],.c Fj,.c AM,.c An,.agg [.int .i16 2,.int .i16 0,.int .i16 (-1),.int .i16 (-1),.int .i16 (-1),.int .i16 (-1),.int .i16 (-1),.int .i16 (-1),.int .i16 (-1),.int .i16 (-1),.int .i16 (-1),.int .i16 (-1),.int .i16 4,.int .i16 (-1),.int .i16 (-1),.int .i16 (-1),.int .i16 (-1),.int .i16 (-1),.int .i16 (-1),.int .i16 (-1),.int .i16 (-1),.int .i16 (-1),.int .i16 (-1),.int .i16 (-1),.int .i16 (-1),.int .i16 (-1)]],.u (.c (.own 7 8 [eI 1,As,eO,eN,eN,An,eN,eI 1,Ag,eO,eN,eN,Aj,eN,eI 4,Fy,eO,eN,eN,An,eN,eI 4,Fx,eO,eN,eN,Aj,eN,eI 9,AC,eO,At,Bh,An,eN,eI 9,Fe,eO,At,Bh,An,eN,eI 9,AB,eO,At,Bh,Aj,eN,eI 9,FI,eO,At,Bh,Aj,eN])))])],[],[]⟩
theorem Tq:ev46_t.Ok Tryz.prog:=Bb MJ (by decide+kernel)
def ev47_t:Tb2:=⟨[],[],[(217,[(⟨[.agg [eC 5,.d (.str ⟨#[78,65,67]⟩),eC 0],.agg [eC 5,.d Gq,eQ,eP,eP],jar,.clo 218 [.ptr 90004 0,.ptr 6 0]],[(6,.box [eC 1]),jlF,(100031,Ou),(90005,HI),(90003,Ef),(190036,Y9),(90002,Ou),ja1],jgn⟩,⟨jgn,[ja1,(6,.box [eC 1]),(90002,Ou),(90003,Ef),(90005,HI),(100031,Ou),Ve,jed,(190036,Y9)],.tup []⟩)])]⟩
theorem jbU:ev47_t.Ok Tryz.prog:=Bb MJ (by decide+kernel)
def evL10:Tb2:=(ev45_t.app (ev46_t.app (ev47_t.app evL9)))
theorem Td:evL10.Ok Tryz.prog:=(Tb2.ok_app Wb (Tb2.ok_app Tq (Tb2.ok_app jbU MJ)))
def ev48_t:Tb2:=⟨[(197,[([.c eN,.agg [.str ⟨#[109,105,100,108,105,110,101]⟩,jl3,jl6,eN],.c Dq,.c AM,.c Aj,.agg [.int .i16 2,.int .i16 1,.int .i16 (-1),.int .i16 (-1),.int .i16 (-1),.int .i16 (-1),.int .i16 (-1),.int .i16 (-1),.int .i16 (-1),.int .i16 (-1),.int .i16 (-1),.int .i16 (-1),.int .i16 3,.int .i16 (-1),.int .i16 (-1),.int .i16 (-1),.int .i16 (-1),.int .i16 (-1),.int .i16 (-1),.int .i16 (-1),.int .i16 (-1),.int .i16 (-1),.int .i16 (-1),.int .i16 (-1),.int .i16 (-1),.int .i16 (-1)]],.u (.c (.own 7 2 [eI 2,K5,eO,eN,eN,AF,eN,eI 9,K5,eO,At,Bh,AF,eN]))),([.c eN,.agg [.str ⟨#[109,105,100,112,111,105,110,116]⟩,Fk,jlZ,eN],.c Fj,.c AM,.c eN,.agg [.int .i16 (-1),.int .i16 (-1),.int .i16 (-1),.int .i16 (-1),.int .i16 (-1),.int .i16 (-1),.int .i16 (-1),.int .i16 (-1),.int .i16 (-1),.int .i16 (-1),.int .i16 (-1),.int .i16 (-1),.int .i16 (-1),.int .i16 (-1),.int .i16 (-1),.int .i16 (-1),.int .i16 (-1),.int .i16 (-1),.int .i16 (-1),.int .i16 (-1),.int .i16 (-1),.int .i16 (-1),.int .i16 (-1),.int .i16 (-1),.int .i16 (-1),.int .i16 (-1)]],.u (.c (.own 7 8 [eI 1,As,eO,eN,eN,An,eN,eI 1,Ag,eO,eN,eN,Aj,eN,eI 4,Fy,eO,eN,eN,An,eN,eI 4,Fx,eO,eN,eN,Aj,eN,eI 9,AC,eO,At,Bh,An,eN,eI 9,Fe,eO,At,Bh,An,eN,eI 9,AB,eO,At,Bh,Aj,eN,eI 9,FI,eO,At,Bh,Aj,eN]))),([.c C1,.agg [.str ⟨#[109,105,100,108,105,110,101]⟩,jl3,jl6,eN],.c Dq,.c AM,.c An,.agg [.int .i16 2,.int .i16 0,.int .i16 (-1),.int .i16 (-1),.int .i16 (-1),.int .i16 (-1),.int .i16 (-1),.int .i16 (-1),.int .i16 (-1),.int .i16 (-1),.int .i16 (-1),.int .i16 (-1),.int .i16 4,.int .i16 (-1),.int .i16 (-1),.int .i16 (-1),.int .i16 (-1),.int .i16 (-1),.int .i16 (-1),.int .i16 (-1),.int .i16 (-1),.int .i16 (-1),.int .i16 (-1),.int .i16 (-1),.int .i16 (-1),.int .i16 (-1)]],.u (.c (.d C1)))])],[],[(216,[(⟨[.c (eC 1),jar,.c (.ptr 280039 0),.c (.ptr 280040 0),.c (.ptr 90001 0),.c (.ptr 280042 0)],jlA,jc0⟩,⟨jc0,[(280039,Ou),Vu,(280042,HI),(280040,Ef),Ve,jed,(190036,Y9),(100031,Ou)],.tup []⟩)])]⟩
theorem Vh:ev48_t.Ok Tryz.prog:=Bb Td (by decide+kernel)
def evL11:Tb2:=(ev48_t.app evL10)
theorem MR:evL11.Ok Tryz.prog:=(Tb2.ok_app Vh Td)
def ev49_t:Tb2:=⟨[(121,[([.c (eI 5),.c AM],.u (.c (.own 7 8 [eI 1,As,eO,eN,eN,An,eN,eI 1,Ag,eO,eN,eN,Aj,eN,eI 4,Fy,eO,eN,eN,An,eN,eI 4,Fx,eO,eN,eN,Aj,eN,eI 9,AC,eO,At,Bh,An,eN,eI 9,Fe,eO,At,Bh,An,eN,eI 9,AB,eO,At,Bh,Aj,eN,eI 9,FI,eO,At,Bh,Aj,eN])))]),(197,[([.c eN,.agg [.str ⟨#[109,105,100,108,105,110,101]⟩,jl3,jl6,eN],.c Dq,.c AM,.c eN,.agg [.int .i16 (-1),.int .i16 (-1),.int .i16 (-1),.int .i16 (-1),.int .i16 (-1),.int .i16 (-1),.int .i16 (-1),.int .i16 (-1),.int .i16 (-1),.int .i16 (-1),.int .i16 (-1),.int .i16 (-1),.int .i16 (-1),.int .i16 (-1),.int .i16 (-1),.int .i16 (-1),.int .i16 (-1),.int .i16 (-1),.int .i16 (-1),.int .i16 (-1),.int .i16 (-1),.int .i16 (-1),.int .i16 (-1),.int .i16 (-1),.int .i16 (-1),.int .i16 (-1)]],.u (.c (.d C1)))])],[],[(218,[(⟨[jar,.c (.ptr 280041 0),.c (.ptr 190043 0)],[(190043,.box [eC 0]),jlF,(100031,Ou),(280042,HI),(280040,Ef),(190036,Y9),(280039,Ou),VV],ZW⟩,⟨ZW,[VV,(190043,.box [eC 0]),Ve,jed,(100031,Ou),(280042,HI),(280039,Ou),(280040,Ef),(190036,Y9)],.tup []⟩)])]⟩
theorem Vs:ev49_t.Ok Tryz.prog:=Bb MR (by decide+kernel)
def evL12:Tb2:=(ev49_t.app evL11)
theorem OQ:evL12.Ok Tryz.prog:=(Tb2.ok_app Vs MR)
def ev50_t:Tb2:=⟨[(121,[([.c (eI 6),.c AM],.u (.c (.d C1)))])],[],[(217,[(⟨[.agg [eC 5,.d (.str ⟨#[77,65,66]⟩),eC 0],.agg [eC 5,.d F5,eQ,eP,eP],jbi,.clo 218 [.ptr 90004 0,.ptr 6 0]],[(6,.box [eC 0]),jlF,(100031,Ou),(90005,HI),(90003,Ef),(190036,Y9),(90002,Ou),ja1],Xk⟩,⟨Xk,[ja1,(6,.box [eC 0]),(90002,Ou),(90003,Ef),(90005,HI),Ve,jed,(190036,Y9),(100031,Ou)],.tup []⟩)])]⟩
theorem Up:ev50_t.Ok Tryz.prog:=Bb OQ (by decide+kernel)
def evL13:Tb2:=(ev50_t.app evL12)
theorem QV:evL13.Ok Tryz.prog:=(Tb2.ok_app Up OQ)
def ev51_t:Tb2:=⟨[(72,[([.agg [PD,eN]],.u (.c (.own 8 10 [eI 1,As,eO,eN,eN,eI 5,An,eN,eI 1,Ag,eO,eN,eN,eI 5,Aj,eN,eI 2,K5,eO,eN,eN,eI 6,AF,eN,eI 4,Fy,eO,eN,eN,eI 5,An,eN,eI 4,Fx,eO,eN,eN,eI 5,Aj,eN,eI 9,K5,eO,At,Bh,eI 6,AF,eN,eI 9,AC,eO,At,Bh,eI 5,An,eN,eI 9,Fe,eO,At,Bh,eI 5,An,eN,eI 9,AB,eO,At,Bh,eI 5,Aj,eN,eI 9,FI,eO,At,Bh,eI 5,Aj,eN])))])],[],[]⟩
theorem YQ:ev51_t.Ok Tryz.prog:=Bb QV (by decide+kernel)
def ev52_t:Tb2:=⟨[],[],[(216,[(⟨[.c (eC 0),jbi,.c (.ptr 4 0),.c (.ptr 3 0),.c (.ptr 6 0),.c (.ptr 5 0)],[jlF,(100031,VM),(5,HI),(6,jgQ),(3,Ef),(90001,Y9),(4,VM)],jnv⟩,⟨jnv,[(3,Ef),(4,VM),(6,jgQ),(5,HI),(90001,Y9),(100031,VM),Ve,jed],.tup []⟩)])]⟩
theorem jbT:ev52_t.Ok Tryz.prog:=Bb QV (by decide+kernel)
def evL14:Tb2:=(ev51_t.app (ev52_t.app evL13))
theorem Nb:evL14.Ok Tryz.prog:=(Tb2.ok_app YQ (Tb2.ok_app jbT QV))
def ev53_t:Tb2:=⟨[(30,[([.agg [PD,eN]],.tup [.agg [.d Hd,.d eN],.c (.d (.bool true))])])],[],[(132,[(⟨[.agg [.d (JR),.d FJ,.d jmj,eP,eC 2,.d (.nilFn)],.c (.sl 25 0 2),.clo 124 [.ptr 6 0,.ptr 9 0]],[Vf,(9,.box [.nl]),(6,.box [.sl 25 0 2]),(25,Y9)],jlq⟩,⟨jlq,[(6,.box [.sl 25 0 2]),Ve,(9,.box [.sl 190070 0 2]),(25,Y9),Vf],.tup []⟩)])]⟩
theorem Zy:ev53_t.Ok Tryz.prog:=Bb Nb (by decide+kernel)
def evL15:Tb2:=(ev53_t.app evL14)
theorem Lv:evL15.Ok Tryz.prog:=(Tb2.ok_app Zy Nb)
def ev54_t:Tb2:=⟨[(11,[([.agg [C9,jl9],.c (eI 0)],.tup [.agg [.d Hd,.d eN],.c (.d (eI 0))])])],[],[(77,[(⟨[.c (eC 6),.c (.sl 90001 0 2)],[Vf,(90001,Y9)],[.sl 100024 0 0,.sl 90001 0 2]⟩,⟨[.sl 100024 0 0,.sl 90001 0 2],[Ve,(90001,Y9),Vf],.u (.c (.sl 190070 0 2))⟩)])]⟩
theorem jaz:ev54_t.Ok Tryz.prog:=Bb Lv (by decide+kernel)
def evL16:Tb2:=(ev54_t.app evL15)
theorem Oe:evL16.Ok Tryz.prog:=(Tb2.ok_app jaz Lv)
def ev55_t:Tb2:=⟨[],[],[(35,[(⟨[.c (eC 6),.c (.sl 81 0 2),.agg [eC 2,.d K5,eQ,eP,eP]],[Vf,(81,Y9)],[.sl 100024 0 0,.sl 81 0 2]⟩,⟨[.sl 100024 0 0,.sl 81 0 2],[(81,Y9),Vf],.tup [.c (eP),.c (.d (.bool true))]⟩)])]⟩
theorem Vt:ev55_t.Ok Tryz.prog:=Bb Oe (by decide+kernel)
def evL17:Tb2:=(ev55_t.app evL16)
theorem PT:evL17.Ok Tryz.prog:=(Tb2.ok_app Vt Oe)
def ev56_t:Tb2:=⟨[(12,[([.agg [Hd,eN],.agg [eI 2,FP,eO,eN,eN]],.tup [.agg [.d Fd,.d eN],.c (.d (eI 0))])])],[],[]⟩
theorem Ry:ev56_t.Ok Tryz.prog:=Bb PT (by decide+kernel)
def evL18:Tb2:=(ev56_t.app evL17)
theorem QR:evL18.Ok Tryz.prog:=(Tb2.ok_app Ry PT)
def ev57_t:Tb2:=⟨[(6,[([],.u (.c (.d (.bool true))))])],[],[]⟩
theorem ev57_ok:ev57_t.Ok Tryz.prog:=Bb QR (by decide+kernel)
theorem Z9:CallsF Tryz.prog 6 [] (.u (.c (.d (.bool true)))):=
 ev57_ok.1 (6,[([],.u (.c (.d (.bool true))))]) (List.mem_singleton.2 rfl) ([],.u (.c (.d (.bool true)))) (List.mem_singleton.2 rfl)
end Go.Va
namespace Go.Va
open Int renaming natCast_add → qA, natCast_mul → qB, natCast_emod → qC, natCast_ediv → qD, natCast_pow → qE
open List renaming reduceReplicate → qF
open Go.Proofs
theorem SK{ds:List Der}{gs:List Grd}(hin: ∀x∈ds,InDer x)(h:EM ds gs=true):ds.length≤12∧gs.length≤12∧(∀x∈ds,x.Brief)∧ ∀g∈gs,g.args.length≤20:=by
 unfold EM at h;simp only[AR,decide_eq_true_eq,jzy]at h;obtain⟨h1,h2,h3,h4⟩:=h;refine⟨h1,h2,fun x hx=> ?_,fun g hg=> ?_⟩
 ·have q:=h3 x hx;have hi:=hin x hx;unfold FM smlF at q;simp only[AR,decide_eq_true_eq]at q;exact⟨⟨by omega,by omega,hi.f.oa,hi.f.od,by omega⟩,q.2.2.1,q.2.2.2,q.2.1,q.1,hi.r⟩
 ·have q:=h4 g hg;unfold Fo at q
  simpa using q
theorem ZZ{ns:List ByteArray}(h:DW ns=true):ns.length≤60∧ ∀s∈ns,s.size≤30:=by
 unfold DW at h;simp only[AR,decide_eq_true_eq,jzy]at h;exact h
theorem jcD(ds:List Der)(gs:List Grd)(ns:List ByteArray)(hin: ∀x∈ds,InDer x):CallsF Tryz.prog 3 [.agg [Dh ds,Dd gs],.c (A6 ns)] (.u (.c (.d (.bool true)))):=by
 have km:=jaJ ds gs;have kn:=Qj ns;have ka:=Z9;cases hm:EM ds gs with
 |false=>
  rw[hm]at km
  refine cO Tryz.func3 rfl ?_;simp -implicitDefEqProofs[jJ,-qA,-qB]
  (first|refine Ac km ?_|refine Ae km ?_)
  simp -implicitDefEqProofs[jJ,-qA,-qB]
  (first|refine Ac ka ?_|refine Ae ka ?_)
  simp -implicitDefEqProofs[jJ,-qA,-qB]
 |true=>
  rw[hm]at km
  cases hn:DW ns with
  |false=>
   rw[hn]at kn
   refine cO Tryz.func3 rfl ?_;simp -implicitDefEqProofs[jJ,-qA,-qB]
   (first|refine Ac km ?_|refine Ae km ?_)
   simp -implicitDefEqProofs[jJ,-qA,-qB]
   (first|refine Ac kn ?_|refine Ae kn ?_)
   simp -implicitDefEqProofs[jJ,-qA,-qB]
   (first|refine Ac ka ?_|refine Ae ka ?_)
   simp -implicitDefEqProofs[jJ,-qA,-qB]
  |true=>
   rw[hn]at kn
   obtain⟨h1,h2,h3,h4⟩:=SK hin hm
   obtain⟨n1,n2⟩:=ZZ hn
   have k1:=NE ds gs ns h1 h2 h3 h4 n1 n2;have k2:=TE ds gs ns h1 h2 h3 h4 n1 n2;unfold Br at k1 k2;generalize (if textE ns.length ds gs=0 then Ch (C4 ns ds gs) else Ch [])=S at*;generalize textE ns.length ds gs=e at*;have hS:=Gw S;refine cO Tryz.func3 rfl ?_;simp -implicitDefEqProofs[jJ,-qA,-qB]
   (first|refine Ac km ?_|refine Ae km ?_)
   simp -implicitDefEqProofs[jJ,-qA,-qB]
   (first|refine Ac kn ?_|refine Ae kn ?_)
   simp -implicitDefEqProofs[jJ,-qA,-qB]
   (first|refine Ac k1 ?_|refine Ae k1 ?_)
   simp -implicitDefEqProofs[jJ,-qA,-qB]
   (first|refine Ac k2 ?_|refine Ae k2 ?_)
   simp -implicitDefEqProofs[jJ,-qA,-qB,hS]
   (first|refine Ac ka ?_|refine Ae ka ?_)
   simp -implicitDefEqProofs[jJ,-qA,-qB]
end Go.Va
