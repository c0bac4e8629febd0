/- a part of the proof -/
import Derived.Test.YtljdeoefpialhaaGreatDoorHbu
import Derived.Test.YtljdeoefpialhaaGreatDoorHbk
import Derived.Test.YtljdeoefpialhaaGreatDoorHbl
import Derived.Test.YtljdeoefpialhaaGreatDoorHbo
set_option linter.all false
set_option maxRecDepth 1000000
set_option maxHeartbeats 4000000
namespace Go.Va
open Go.Proofs
def ev26_t:Tb2:=⟨[],[],[(130,[(⟨[.c (.ptr 90000 0),.c (.ptr 90001 0),.c (.ptr 90002 0),.c (.ptr 90003 0),.c (.ptr 90004 0),.c (.ptr 90005 0),.c (.ptr 90006 0)],[Ou,jmS,Xi,(62,Wm),jeb,(280273,YM),(280282,jdN),VW,(280281,jdm),(280275,QN),jam,jiR,jlt,(90002,jat),(280296,VM),jaJ,(57,je8),Xu],jlo⟩,⟨Yw,[jmS,Xi,(370478,Ef),(90003,.box [.sl 370478 0 1]),(90002,jat),jaJ,(370473,Zi),(90000,.box [.sl 370473 0 1]),Ou,Ws,(280282,Vl),(370405,Vd),(280281,Vf),(280275,QN),jar,jiR,jlt,(280296,VM)],.tup []⟩),(⟨[.c (.ptr 90000 0),.c (.ptr 90001 0),.c (.ptr 90002 0),.c (.ptr 90003 0),.c (.ptr 90004 0),.c (.ptr 90005 0),.c (.ptr 90006 0)],[Ou,jmS,Xi,(62,WT),jeb,Ws,(280282,Vl),(370405,Vd),(280281,Vf),(280275,QN),jar,jiR,jlt,(90002,jat),(280296,VM),jaJ,(57,jd4),Xu],jlo⟩,⟨Yw,[jmS,Xi,(62,HI),jeb,(90002,jat),jaJ,(57,XD),Xu,Ou,Ws,(280282,Vl),(370405,Vd),(280281,Vf),(280275,QN),jar,jiR,jlt,(280296,VM)],.tup []⟩)])]⟩
theorem jfL:ev26_t.Ok Tryz.prog:=Bb Lv (by decide+kernel)
def evL16:Tb2:=(ev26_t.app evL15)
theorem Oe:evL16.Ok Tryz.prog:=(Tb2.ok_app jfL Lv)
def ev27_t:Tb2:=⟨[],[],[(130,[(⟨[.c (.ptr 7 0),.c (.ptr 6 0),.c (.ptr 5 0),.c (.ptr 8 0),.c (.ptr 4 0),.c (.ptr 3 0),.c (.ptr 9 0)],[jkL,(3,jd6),jfk,(22,jnk),jme,(280273,YM),(280282,jdN),VW,(280281,jdm),(280275,QN),jam,jiR,jlt,(5,jat),(11,VM),je5,jf7,jmN],[.ptr 280282 0,.ptr 280281 0,.ptr 280275 0,.ptr 280278 0,.ptr 280283 0,.sl 19 0 0,.sl 11 0 2,.sl 22 0 0,.ptr 9 0,.ptr 3 0,.ptr 4 0,.ptr 8 0,.ptr 5 0,.ptr 6 0,.ptr 7 0]⟩,⟨[.ptr 280282 0,.ptr 280281 0,.ptr 280275 0,.ptr 280278 0,.ptr 280283 0,.bad,.sl 11 0 2,.bad,.ptr 9 0,.ptr 3 0,.ptr 4 0,.ptr 8 0,.ptr 5 0,.ptr 6 0,.ptr 7 0],[(3,jd6),jfk,(370478,HI),(8,.box [.sl 370478 0 0]),(5,jat),je5,(370473,XD),(7,.box [.sl 370473 0 0]),jkL,(11,VM),jlt,jar,jiR,(280275,QN),(370405,Vd),(280281,Vf),Ws,(280282,Vl)],.tup []⟩)])]⟩
theorem ji2:ev27_t.Ok Tryz.prog:=Bb Oe (by decide+kernel)
def evL17:Tb2:=(ev27_t.app evL16)
theorem PT:evL17.Ok Tryz.prog:=(Tb2.ok_app ji2 Oe)
def ev28_t:Tb2:=⟨[],[],[(58,[(⟨[.c (eC 6),.c (.d FJ),.clo 59 [.ptr 9 0,.ptr 4 0,.ptr 1 0,.ptr 7 0,.ptr 8 0]],[(280273,YM),(8,jdN),VW,(7,jdm),(1,QN),jl0,WQ,(9,jd6)],Xm⟩,⟨Xm,[(9,jd6),Yd,WQ,(1,QN),(370405,Vd),(7,Vf),Ws,(8,Vl)],.tup []⟩)])]⟩
theorem jcE:ev28_t.Ok Tryz.prog:=Bb PT (by decide+kernel)
def evL18:Tb2:=(ev28_t.app evL17)
theorem QR:evL18.Ok Tryz.prog:=(Tb2.ok_app jcE PT)
def ev29_t:Tb2:=⟨[(26,[([.agg [FJ,eN]],.tup [.agg [.d jl9,.d eN],.c (.d (.bool true))])])],[],[]⟩
theorem jkD:ev29_t.Ok Tryz.prog:=Bb QR (by decide+kernel)
def evL19:Tb2:=(ev29_t.app evL18)
theorem NW:evL19.Ok Tryz.prog:=(Tb2.ok_app jkD QR)
def ev30_t:Tb2:=⟨[(11,[([.agg [jlZ,FP],.c (eI 0)],.tup [.agg [.d jl9,.d eN],.c (.d (eI 0))])])],[],[]⟩
theorem jgG:ev30_t.Ok Tryz.prog:=Bb NW (by decide+kernel)
def evL20:Tb2:=(ev30_t.app evL19)
theorem OS:evL20.Ok Tryz.prog:=(Tb2.ok_app jgG NW)
def ev31_t:Tb2:=⟨[(5,[([],.u (.c (.d (.bool true))))])],[],[]⟩
theorem Zo:ev31_t.Ok Tryz.prog:=Bb OS (by decide+kernel)
theorem jjE:CallsF Tryz.prog 5 [] (.u (.c (.d (.bool true)))):=
 Zo.1 (5,[([],.u (.c (.d (.bool true))))]) (List.mem_singleton.2 rfl) ([],.u (.c (.d (.bool true)))) (List.mem_singleton.2 rfl)
end Go.Va
namespace Go.Va
open Int renaming natCast_add → qA, natCast_mul → qB, natCast_emod → qC, natCast_ediv → qD, natCast_pow → qE
open List renaming reduceReplicate → qF
open Go.Proofs
theorem jdA{l:List Stp}{gs:List Fct}(h:fewB l gs=true):l.length≤8∧gs.length≤3∧errFig l gs=0∧(∀s∈l,s.abs.length≤2∧s.den.length≤2)∧(∀g∈gs,g.abs.length≤2∧g.den.length≤2):=by
 unfold fewB at h;simp only[AR,decide_eq_true_eq,jzy]at h;obtain⟨h1,h2,h3,_,h4,h5⟩:=h;refine⟨h1,h2,h3,fun s hs=> ?_,fun g hg=> ?_⟩
 ·have:=h4 s hs
  unfold CA Ft at this;simp at this;omega
 ·have:=h5 g hg
  unfold CA Fd at this;simp at this;omega
theorem jcO(l:List Stp)(gs:List Fct)(ho: ∀s∈l,s.Ok)(hgo: ∀g∈gs,g.Long):CallsF Tryz.prog 3 [.agg [Bx l,AQ gs]] (.u (.c (.d (.bool true)))):=by
 have kf:=jh8 l gs ho hgo;have ka:=jjE;cases hb:fewB l gs with
 |false=>
  rw[hb]at kf
  refine cO Tryz.func3 rfl ?_;simp -implicitDefEqProofs[jJ,-qA,-qB,-qF]
  (first|refine Ac kf ?_|refine Ae kf ?_)
  simp -implicitDefEqProofs[jJ,-qA,-qB,-qF]
  (first|refine Ac ka ?_|refine Ae ka ?_)
  simp -implicitDefEqProofs[jJ,-qA,-qB,-qF]
 |true=>
  rw[hb]at kf
  obtain⟨h1,h2,h3,h4,h5⟩:=jdA hb
  obtain⟨z1,z2⟩:=L7 h3
  have hs:=jcw ho h3 h4;have kr:=jjr l gs (by omega) (by omega) (fun s hs=>⟨ho s hs,by have:=h4 s hs;omega,by have:=h4 s hs;omega⟩) (fun g hg=>⟨hgo g hg,by have:=h5 g hg;omega,by have:=h5 g hg;omega⟩) h3
  have kq:=Tf l gs (by omega) (by omega) ho hgo
  rw[h3]at kq
  have k1:=jjA l gs (by omega) hs kr C9
  have k2:=jfC l gs (by omega) hs kq
  have hfin:allS (l.take l.length)=allS l:=by rw[BM]
  have hall:=Nz (by omega) hs l.length (AO _)
  rw[hfin]at hall
  have hlen:=GX l l.length (AO _);rw[hfin]at hlen;have hnl:=Iw (allS l) (allS l).length (AO _);have hnr:=Ji (allS l) hall (allS l).length (AO _);rw[BM]at hnl hnr;have k3:=jgz (normL (allS l)) (by omega) hnr
  have ec:=NE (normL (allS l));clear hall hnr hs ho hgo h3 h4 h5 z1 z2 kr kq hb;generalize normL (allS l)=L at*;refine cO Tryz.func3 rfl ?_;simp -implicitDefEqProofs[jJ,-qA,-qB,-qF]
  (first|refine Ac kf ?_|refine Ae kf ?_)
  simp -implicitDefEqProofs[jJ,-qA,-qB,-qF]
  (first|refine Ac k1 ?_|refine Ae k1 ?_)
  simp -implicitDefEqProofs[jJ,-qA,-qB,-qF]
  (first|refine Ac k2 ?_|refine Ae k2 ?_)
  simp -implicitDefEqProofs[jJ,-qA,-qB,-qF,ec]
  (first|refine Ac k3 ?_|refine Ae k3 ?_)
  simp -implicitDefEqProofs[jJ,-qA,-qB,-qF]
  (first|refine Ac ka ?_|refine Ae ka ?_)
  simp -implicitDefEqProofs[jJ,-qA,-qB,-qF]
end Go.Va
