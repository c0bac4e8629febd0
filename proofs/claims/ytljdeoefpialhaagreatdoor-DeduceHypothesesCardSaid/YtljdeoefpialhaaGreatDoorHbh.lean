/- a part of the proof -/
import Derived.Test.YtljdeoefpialhaaGreatDoorHbg
import Derived.Test.YtljdeoefpialhaaGreatDoorHax
set_option linter.all false
set_option maxHeartbeats 4000000
set_option maxRecDepth 100000
namespace Go.Va
open Int renaming natCast_add → qA, natCast_mul → qB, natCast_emod → qC, natCast_ediv → qD, natCast_pow → qE
open List renaming reduceReplicate → qF
open Go.Proofs
theorem jjq(nm:ByteArray)(a b c x:Int)(ng:Bool)(ab dn:List Nat):CallsF Tryz.prog 14 [.agg [.int .i64 3,.str nm,intsD [a,b,c],.bool ng,Ad ab,Ad dn],.c (.int .i64 x)] (.u (.c (.d (AQ [fc 2 [a,x,b,c],fc 4 [a,x,b,c],fc 2 [a,b,x,c],fc 4 [a,b,x,c]])))):=by
 have k0:=O0 a x b c;have k1:=CV a x b c;have k2:=O0 a b x c;have k3:=CV a b x c;refine cO Tryz.func14 rfl ?_;simp -implicitDefEqProofs[jJ,-qA,-qB,-qF];refine AA (Ah [0,1,3,0,8,24,0,64,192,7,575,2047]) [.any [] [] (Aq [[5],[27],[28],[5],[30],[31],[5],[33],[34],[29],[32]]),.one] (by rfl) ?_
 simp -implicitDefEqProofs[jJ,-qA,-qB,-qF]
 (first|refine Ac k0 ?_|refine Ae k0 ?_)
 simp -implicitDefEqProofs[jJ,-qA,-qB,-qF,Fct.res,fc]
 (first|refine Ac k1 ?_|refine Ae k1 ?_)
 simp -implicitDefEqProofs[jJ,-qA,-qB,-qF,Fct.res,fc]
 (first|refine Ac k2 ?_|refine Ae k2 ?_)
 simp -implicitDefEqProofs[jJ,-qA,-qB,-qF,Fct.res,fc]
 (first|refine Ac k3 ?_|refine Ae k3 ?_)
 simp -implicitDefEqProofs[jJ,-qA,-qB,-qF,Fct.res,fc];rfl
theorem ZL(nm:ByteArray)(a b c x:Int)(ng:Bool)(ab dn:List Nat):CallsF Tryz.prog 14 [.agg [.int .i64 4,.str nm,intsD [a,b,c],.bool ng,Ad ab,Ad dn],.c (.int .i64 x)] (.u (.c (.d (AQ [fc 3 [a,x,b,c],fc 4 [a,x,b,c]])))):=by
 have k0:=LG a x b c;have k1:=CV a x b c;refine cO Tryz.func14 rfl ?_;simp -implicitDefEqProofs[jJ,-qA,-qB,-qF];refine AA (Ah [0,1,3,0,0,16,48,0,128,384,1023,0,2048,6144,0,0,32768,98304,0,262144,786432,2097151,4194303,8388607]) [.any [] [] (Aq [[5],[59],[60],[1],[5],[63],[64],[5],[66],[67],[61,62,65,68],[5],[70],[71],[1],[5],[74],[75],[5],[77],[78]]),.one,.one,.one] (by rfl) ?_
 simp -implicitDefEqProofs[jJ,-qA,-qB,-qF]
 (first|refine Ac k0 ?_|refine Ae k0 ?_)
 simp -implicitDefEqProofs[jJ,-qA,-qB,-qF,Fct.res,fc]
 (first|refine Ac k1 ?_|refine Ae k1 ?_)
 simp -implicitDefEqProofs[jJ,-qA,-qB,-qF,Fct.res,fc];rfl
theorem jc5(nm:ByteArray)(a b x:Int)(ng:Bool)(ab dn:List Nat):CallsF Tryz.prog 14 [.agg [.int .i64 5,.str nm,intsD [a,b],.bool ng,Ad ab,Ad dn],.c (.int .i64 x)] (.u (.c (.d (AQ [fc 1 [x,a,b]])))):=by
 have k0:=Gw x a b;refine cO Tryz.func14 rfl ?_;simp -implicitDefEqProofs[jJ,-qA,-qB,-qF];refine AA (Ah [0,0,2,6,0,16,48,127,255,511]) [.any [] [] (Aq [[1],[5],[85],[86],[5],[88],[89]]),.one,.one,.one] (by rfl) ?_
 simp -implicitDefEqProofs[jJ,-qA,-qB,-qF]
 (first|refine Ac k0 ?_|refine Ae k0 ?_)
 simp -implicitDefEqProofs[jJ,-qA,-qB,-qF,Fct.res,fc];rfl
theorem X0(nm:ByteArray)(a b x:Int)(ng:Bool)(ab dn:List Nat):CallsF Tryz.prog 14 [.agg [.int .i64 6,.str nm,intsD [a,b],.bool ng,Ad ab,Ad dn],.c (.int .i64 x)] (.u (.c (.d (AQ [fc 4 [a,x,a,b]])))):=by
 have k0:=CV a x a b;refine cO Tryz.func14 rfl ?_;simp -implicitDefEqProofs[jJ,-qA,-qB,-qF];refine AA (Ah [0,1,3,0,0,16,48,0,128,384,1023,2047,4095]) [.any [] [] (Aq [[5],[95],[96],[1],[5],[99],[100],[5],[102],[103]]),.one,.one,.one] (by rfl) ?_
 simp -implicitDefEqProofs[jJ,-qA,-qB,-qF]
 (first|refine Ac k0 ?_|refine Ae k0 ?_)
 simp -implicitDefEqProofs[jJ,-qA,-qB,-qF,Fct.res,fc];rfl
theorem jjf(nm:ByteArray)(a b c x:Int)(ng:Bool)(ab dn:List Nat):CallsF Tryz.prog 14 [.agg [.int .i64 7,.str nm,intsD [a,b,c],.bool ng,Ad ab,Ad dn],.c (.int .i64 x)] (.u (.c (.d (AQ [fc 1 [x,b,c],fc 3 [a,x,b,c]])))):=by
 have k0:=Gw x b c;have k1:=LG a x b c;refine cO Tryz.func14 rfl ?_;simp -implicitDefEqProofs[jJ,-qA,-qB,-qF];refine AA (Ah [0,0,2,6,0,16,48,127,0,256,768,0,0,4096,12288,0,32768,98304,262143,524287,1048575]) [.any [] [] (Aq [[1],[5],[110],[111],[5],[113],[114],[109,112,115],[5],[117],[118],[1],[5],[121],[122],[5],[124],[125]]),.one,.one,.one] (by rfl) ?_
 simp -implicitDefEqProofs[jJ,-qA,-qB,-qF]
 (first|refine Ac k0 ?_|refine Ae k0 ?_)
 simp -implicitDefEqProofs[jJ,-qA,-qB,-qF,Fct.res,fc]
 (first|refine Ac k1 ?_|refine Ae k1 ?_)
 simp -implicitDefEqProofs[jJ,-qA,-qB,-qF,Fct.res,fc];rfl
theorem XP(nm:ByteArray)(a b c x:Int)(ng:Bool)(ab dn:List Nat):CallsF Tryz.prog 14 [.agg [.int .i64 8,.str nm,intsD [a,b,c],.bool ng,Ad ab,Ad dn],.c (.int .i64 x)] (.u (.c (.d (AQ [fc 3 [a,x,b,c],fc 4 [b,x,b,a],fc 4 [c,x,c,a]])))):=by
 have k0:=LG a x b c;have k1:=CV b x b a;have k2:=CV c x c a;refine cO Tryz.func14 rfl ?_;simp -implicitDefEqProofs[jJ,-qA,-qB,-qF];refine AA (Ah [0,1,3,0,0,16,48,0,128,384,1023,0,2048,6144,0,0,32768,98304,0,262144,786432,2097151,0,4194304,12582912,0,0,67108864,201326592,0,536870912,1610612736,4294967295,8589934591,17179869183]) [.any [] [] (Aq [[5],[131],[132],[1],[5],[135],[136],[5],[138],[139],[133,134,137,140],[5],[142],[143],[1],[5],[146],[147],[5],[149],[150],[144,145,148,151],[5],[153],[154],[1],[5],[157],[158],[5],[160],[161]]),.one,.one,.one] (by rfl) ?_
 simp -implicitDefEqProofs[jJ,-qA,-qB,-qF]
 (first|refine Ac k0 ?_|refine Ae k0 ?_)
 simp -implicitDefEqProofs[jJ,-qA,-qB,-qF,Fct.res,fc]
 (first|refine Ac k1 ?_|refine Ae k1 ?_)
 simp -implicitDefEqProofs[jJ,-qA,-qB,-qF,Fct.res,fc]
 (first|refine Ac k2 ?_|refine Ae k2 ?_)
 simp -implicitDefEqProofs[jJ,-qA,-qB,-qF,Fct.res,fc];rfl
theorem jeD(nm:ByteArray)(a b c d x:Int)(ng:Bool)(ab dn:List Nat):CallsF Tryz.prog 14 [.agg [.int .i64 9,.str nm,intsD [a,b,c,d],.bool ng,Ad ab,Ad dn],.c (.int .i64 x)] (.u (.c (.d (AQ [fc 1 [x,a,b],fc 1 [x,c,d]])))):=by
 have k0:=Gw x a b;have k1:=Gw x c d;refine cO Tryz.func14 rfl ?_;simp -implicitDefEqProofs[jJ,-qA,-qB,-qF];refine AA (Ah [0,0,2,6,0,16,48,127,0,0,512,1536,0,4096,12288,32767,65535,131071]) [.any [] [] (Aq [[1],[5],[168],[169],[5],[171],[172],[167,170,173],[1],[5],[176],[177],[5],[179],[180]]),.one,.one,.one] (by rfl) ?_
 simp -implicitDefEqProofs[jJ,-qA,-qB,-qF]
 (first|refine Ac k0 ?_|refine Ae k0 ?_)
 simp -implicitDefEqProofs[jJ,-qA,-qB,-qF,Fct.res,fc]
 (first|refine Ac k1 ?_|refine Ae k1 ?_)
 simp -implicitDefEqProofs[jJ,-qA,-qB,-qF,Fct.res,fc];rfl
theorem jdc(nm:ByteArray)(a b c x:Int)(ng:Bool)(ab dn:List Nat):CallsF Tryz.prog 14 [.agg [.int .i64 10,.str nm,intsD [a,b,c],.bool ng,Ad ab,Ad dn],.c (.int .i64 x)] (.u (.c (.d (AQ [fc 1 [x,a,b],fc 4 [c,x,c,a]])))):=by
 have k0:=Gw x a b;have k1:=CV c x c a;refine cO Tryz.func14 rfl ?_;simp -implicitDefEqProofs[jJ,-qA,-qB,-qF];refine AA (Ah [0,0,2,6,0,16,48,127,0,256,768,0,0,4096,12288,0,32768,98304,262143,524287,1048575]) [.any [] [] (Aq [[1],[5],[187],[188],[5],[190],[191],[186,189,192],[5],[194],[195],[1],[5],[198],[199],[5],[201],[202]]),.one,.one,.one] (by rfl) ?_
 simp -implicitDefEqProofs[jJ,-qA,-qB,-qF]
 (first|refine Ac k0 ?_|refine Ae k0 ?_)
 simp -implicitDefEqProofs[jJ,-qA,-qB,-qF,Fct.res,fc]
 (first|refine Ac k1 ?_|refine Ae k1 ?_)
 simp -implicitDefEqProofs[jJ,-qA,-qB,-qF,Fct.res,fc];rfl
theorem Wz(nm:ByteArray)(a b c x:Int)(ng:Bool)(ab dn:List Nat):CallsF Tryz.prog 14 [.agg [.int .i64 11,.str nm,intsD [a,b,c],.bool ng,Ad ab,Ad dn],.c (.int .i64 x)] (.u (.c (.d (AQ [fc 4 [x,a,x,b],fc 4 [x,a,x,c]])))):=by
 have k0:=CV x a x b;have k1:=CV x a x c;refine cO Tryz.func14 rfl ?_;simp -implicitDefEqProofs[jJ,-qA,-qB,-qF];refine AA (Ah [0,0,2,6,0,0,32,96,255,0,0,1024,3072,0,0,16384,49152,131071,262143,524287]) [.any [] [] (Aq [[1],[5],[209],[210],[1],[5],[213],[214],[208,211,212,215],[1],[5],[218],[219],[1],[5],[222],[223]]),.one,.one,.one] (by rfl) ?_
 simp -implicitDefEqProofs[jJ,-qA,-qB,-qF]
 (first|refine Ac k0 ?_|refine Ae k0 ?_)
 simp -implicitDefEqProofs[jJ,-qA,-qB,-qF,Fct.res,fc]
 (first|refine Ac k1 ?_|refine Ae k1 ?_)
 simp -implicitDefEqProofs[jJ,-qA,-qB,-qF,Fct.res,fc];rfl
theorem jd8(nm:ByteArray)(a b c d x:Int)(ng:Bool)(ab dn:List Nat):CallsF Tryz.prog 14 [.agg [.int .i64 12,.str nm,intsD [a,b,c,d],.bool ng,Ad ab,Ad dn],.c (.int .i64 x)] (.u (.c (.d (AQ [fc 1 [x,a,b],fc 4 [c,x,c,d]])))):=by
 have k0:=Gw x a b;have k1:=CV c x c d;refine cO Tryz.func14 rfl ?_;simp -implicitDefEqProofs[jJ,-qA,-qB,-qF];refine AA (Ah [0,0,2,6,0,16,48,127,0,256,768,0,0,4096,12288,0,32768,98304,262143,524287,1048575]) [.any [] [] (Aq [[1],[5],[230],[231],[5],[233],[234],[229,232,235],[5],[237],[238],[1],[5],[241],[242],[5],[244],[245]]),.one,.one,.one] (by rfl) ?_
 simp -implicitDefEqProofs[jJ,-qA,-qB,-qF]
 (first|refine Ac k0 ?_|refine Ae k0 ?_)
 simp -implicitDefEqProofs[jJ,-qA,-qB,-qF,Fct.res,fc]
 (first|refine Ac k1 ?_|refine Ae k1 ?_)
 simp -implicitDefEqProofs[jJ,-qA,-qB,-qF,Fct.res,fc];rfl
theorem jjB(nm:ByteArray)(a b c d x:Int)(ng:Bool)(ab dn:List Nat):CallsF Tryz.prog 14 [.agg [.int .i64 13,.str nm,intsD [a,b,c,d],.bool ng,Ad ab,Ad dn],.c (.int .i64 x)] (.u (.c (.d (AQ [fc 4 [a,x,a,b],fc 4 [c,x,c,d]])))):=by
 have k0:=CV a x a b;have k1:=CV c x c d;refine cO Tryz.func14 rfl ?_;simp -implicitDefEqProofs[jJ,-qA,-qB,-qF];refine AA (Ah [0,1,3,0,0,16,48,0,128,384,1023,0,2048,6144,0,0,32768,98304,0,262144,786432,2097151,4194303,8388607]) [.any [] [] (Aq [[5],[251],[252],[1],[5],[255],[256],[5],[258],[259],[253,254,257,260],[5],[262],[263],[1],[5],[266],[267],[5],[269],[270]]),.one,.one,.one] (by rfl) ?_
 simp -implicitDefEqProofs[jJ,-qA,-qB,-qF]
 (first|refine Ac k0 ?_|refine Ae k0 ?_)
 simp -implicitDefEqProofs[jJ,-qA,-qB,-qF,Fct.res,fc]
 (first|refine Ac k1 ?_|refine Ae k1 ?_)
 simp -implicitDefEqProofs[jJ,-qA,-qB,-qF,Fct.res,fc];rfl
theorem WH(nm:ByteArray)(a b x:Int)(ng:Bool)(ab dn:List Nat):CallsF Tryz.prog 14 [.agg [.int .i64 14,.str nm,intsD [a,b],.bool ng,Ad ab,Ad dn],.c (.int .i64 x)] (.u (.c (.d (AQ [fc 4 [a,x,a,b],fc 4 [b,x,a,b]])))):=by
 have k0:=CV a x a b;have k1:=CV b x a b;refine cO Tryz.func14 rfl ?_;simp -implicitDefEqProofs[jJ,-qA,-qB,-qF];refine AA (Ah [0,1,3,0,0,16,48,0,128,384,1023,0,2048,6144,0,0,32768,98304,0,262144,786432,2097151,4194303,8388607]) [.any [] [] (Aq [[5],[276],[277],[1],[5],[280],[281],[5],[283],[284],[278,279,282,285],[5],[287],[288],[1],[5],[291],[292],[5],[294],[295]]),.one,.one,.one] (by rfl) ?_
 simp -implicitDefEqProofs[jJ,-qA,-qB,-qF]
 (first|refine Ac k0 ?_|refine Ae k0 ?_)
 simp -implicitDefEqProofs[jJ,-qA,-qB,-qF,Fct.res,fc]
 (first|refine Ac k1 ?_|refine Ae k1 ?_)
 simp -implicitDefEqProofs[jJ,-qA,-qB,-qF,Fct.res,fc];rfl
theorem BE(k:Int)(l:List Int)(hl:l.length≤1000000):CallsF Tryz.prog 40 [.c (.int .i64 k),.c (intsD l)] (Fct.res ⟨k,l,false,[],[]⟩):=by
 refine cO Tryz.func40 rfl ?_;simp -implicitDefEqProofs[jJ,-qA,-qB];simp -implicitDefEqProofs[jJ,-qA,-qB,Fct.res]
 first|exact⟨⟨by omega,by omega⟩,rfl⟩|exact⟨by omega,rfl⟩|exact⟨by omega,by omega,rfl⟩|exact⟨by omega,by omega⟩|omega
theorem ZE(nm:ByteArray)(a b c x:Int)(ng:Bool)(ab dn:List Nat):CallsF Tryz.prog 17 [.agg [.int .i64 3,.str nm,intsD [a,b,c],.bool ng,Ad ab,Ad dn],.c (.int .i64 x)] (.u (.c (.d (AQ [fc 2 [a,x,b,c],fc 4 [a,x,b,c],fc 2 [a,b,x,c],fc 4 [a,b,x,c]])))):=by
 have k0:=BE 2 [a,x,b,c] (by simp)
 have k1:=BE 4 [a,x,b,c] (by simp)
 have k2:=BE 2 [a,b,x,c] (by simp)
 have k3:=BE 4 [a,b,x,c] (by simp)
 refine cO Tryz.func17 rfl ?_;simp -implicitDefEqProofs[jJ,-qA,-qB,-qF];refine AA (Ah [0,1,3,0,0,16,48,0,128,384,1023,2047,0,4096,12288,0,0,65536,196608,0,524288,1572864,4190208,8388607,0,16777216,50331648,0,134217728,402653184,0,0,2147483648,6442450944,17163091968,34359738367,0,68719476736,206158430208,0,549755813888,1649267441664,0,0,8796093022208,26388279066624,70300024700928,140737488355327,281474976710655,562949953421311]) [.any [] [34,46,58,70] (AG [34,46,58,70] [[5],[24],[25],[1],[5],[28],[29],[5],[31],[32]]++[⟨4,[26,27,30,33],[],[46,58,70],[]⟩]++[⟨0,[34],[],[46,58,70],[]⟩]++AG [34,46,58,70] [[5],[36],[37],[1],[5],[40],[41],[5],[43],[44]]++[⟨4,[38,39,42,45],[],[34,58,70],[]⟩]++[⟨0,[46],[],[58,70],[]⟩]++AG [34,46,58,70] [[5],[48],[49],[5],[51],[52],[1],[5],[55],[56]]++[⟨4,[50,53,54,57],[],[34,46,70],[]⟩]++[⟨0,[58],[],[70],[]⟩]++AG [34,46,58,70] [[5],[60],[61],[5],[63],[64],[1],[5],[67],[68]]++[⟨4,[62,65,66,69],[],[34,46,58],[]⟩]),.one,.one,.one] (by rfl) ?_
 simp -implicitDefEqProofs[jJ,-qA,-qB,-qF,Bc,Bd]
 (first|refine Ac k0 ?_|refine Ae k0 ?_)
 simp -implicitDefEqProofs[jJ,-qA,-qB,-qF,Fct.res,fc,Bc,Bd]
 (first|refine Ac k1 ?_|refine Ae k1 ?_)
 simp -implicitDefEqProofs[jJ,-qA,-qB,-qF,Fct.res,fc,Bc,Bd]
 (first|refine Ac k2 ?_|refine Ae k2 ?_)
 simp -implicitDefEqProofs[jJ,-qA,-qB,-qF,Fct.res,fc,Bc,Bd]
 (first|refine Ac k3 ?_|refine Ae k3 ?_)
 simp -implicitDefEqProofs[jJ,-qA,-qB,-qF,Fct.res,fc,Bc,Bd];rfl
theorem jfW(nm:ByteArray)(a b c x:Int)(ng:Bool)(ab dn:List Nat):CallsF Tryz.prog 17 [.agg [.int .i64 4,.str nm,intsD [a,b,c],.bool ng,Ad ab,Ad dn],.c (.int .i64 x)] (.u (.c (.d (AQ [fc 3 [a,x,b,c],fc 4 [a,x,b,c]])))):=by
 have k0:=BE 3 [a,x,b,c] (by simp)
 have k1:=BE 4 [a,x,b,c] (by simp)
 refine cO Tryz.func17 rfl ?_;simp -implicitDefEqProofs[jJ,-qA,-qB,-qF];refine AA (Ah [0,1,3,0,0,16,48,0,128,384,1023,2047,0,4096,12288,0,0,65536,196608,0,524288,1572864,4190208,8388607,16777215,33554431]) [.any [] [85,97] (AG [85,97] [[5],[75],[76],[1],[5],[79],[80],[5],[82],[83]]++[⟨4,[77,78,81,84],[],[97],[]⟩]++[⟨0,[85],[],[97],[]⟩]++AG [85,97] [[5],[87],[88],[1],[5],[91],[92],[5],[94],[95]]++[⟨4,[89,90,93,96],[],[85],[]⟩]),.one,.one,.one] (by rfl) ?_
 simp -implicitDefEqProofs[jJ,-qA,-qB,-qF,Bc,Bd]
 (first|refine Ac k0 ?_|refine Ae k0 ?_)
 simp -implicitDefEqProofs[jJ,-qA,-qB,-qF,Fct.res,fc,Bc,Bd]
 (first|refine Ac k1 ?_|refine Ae k1 ?_)
 simp -implicitDefEqProofs[jJ,-qA,-qB,-qF,Fct.res,fc,Bc,Bd];rfl
theorem jcT(nm:ByteArray)(a b x:Int)(ng:Bool)(ab dn:List Nat):CallsF Tryz.prog 17 [.agg [.int .i64 5,.str nm,intsD [a,b],.bool ng,Ad ab,Ad dn],.c (.int .i64 x)] (.u (.c (.d (AQ [fc 1 [x,a,b]])))):=by
 have k0:=BE 1 [x,a,b] (by simp)
 refine cO Tryz.func17 rfl ?_;simp -implicitDefEqProofs[jJ,-qA,-qB,-qF];refine AA (Ah [0,0,2,6,0,16,48,127,255,511,1023]) [.any [] [] (Aq [[1],[5],[103],[104],[5],[106],[107]]),.one,.one,.one,.one] (by rfl) ?_
 simp -implicitDefEqProofs[jJ,-qA,-qB,-qF,Bc,Bd]
 (first|refine Ac k0 ?_|refine Ae k0 ?_)
 simp -implicitDefEqProofs[jJ,-qA,-qB,-qF,Fct.res,fc,Bc,Bd];rfl
theorem jb3(nm:ByteArray)(a b x:Int)(ng:Bool)(ab dn:List Nat):CallsF Tryz.prog 17 [.agg [.int .i64 6,.str nm,intsD [a,b],.bool ng,Ad ab,Ad dn],.c (.int .i64 x)] (.u (.c (.d (AQ [fc 4 [a,x,a,b]])))):=by
 have k0:=BE 4 [a,x,a,b] (by simp)
 refine cO Tryz.func17 rfl ?_;simp -implicitDefEqProofs[jJ,-qA,-qB,-qF];refine AA (Ah [0,1,3,0,0,16,48,0,128,384,1023,2047,4095,8191]) [.any [] [] (Aq [[5],[114],[115],[1],[5],[118],[119],[5],[121],[122]]),.one,.one,.one,.one] (by rfl) ?_
 simp -implicitDefEqProofs[jJ,-qA,-qB,-qF,Bc,Bd]
 (first|refine Ac k0 ?_|refine Ae k0 ?_)
 simp -implicitDefEqProofs[jJ,-qA,-qB,-qF,Fct.res,fc,Bc,Bd];rfl
theorem Xa(nm:ByteArray)(a b c x:Int)(ng:Bool)(ab dn:List Nat):CallsF Tryz.prog 17 [.agg [.int .i64 7,.str nm,intsD [a,b,c],.bool ng,Ad ab,Ad dn],.c (.int .i64 x)] (.u (.c (.d (AQ [fc 1 [x,b,c],fc 3 [a,x,b,c]])))):=by
 have k0:=BE 1 [x,b,c] (by simp)
 have k1:=BE 3 [a,x,b,c] (by simp)
 refine cO Tryz.func17 rfl ?_;simp -implicitDefEqProofs[jJ,-qA,-qB,-qF];refine AA (Ah [0,0,2,6,0,16,48,127,255,0,512,1536,0,0,8192,24576,0,65536,196608,523776,1048575,2097151,4194303]) [.any [] [136,148] (AG [136,148] [[1],[5],[130],[131],[5],[133],[134]]++[⟨4,[129,132,135],[],[148],[]⟩]++[⟨0,[136],[],[148],[]⟩]++AG [136,148] [[5],[138],[139],[1],[5],[142],[143],[5],[145],[146]]++[⟨4,[140,141,144,147],[],[136],[]⟩]),.one,.one,.one] (by rfl) ?_
 simp -implicitDefEqProofs[jJ,-qA,-qB,-qF,Bc,Bd]
 (first|refine Ac k0 ?_|refine Ae k0 ?_)
 simp -implicitDefEqProofs[jJ,-qA,-qB,-qF,Fct.res,fc,Bc,Bd]
 (first|refine Ac k1 ?_|refine Ae k1 ?_)
 simp -implicitDefEqProofs[jJ,-qA,-qB,-qF,Fct.res,fc,Bc,Bd];rfl
theorem jit(nm:ByteArray)(a b c x:Int)(ng:Bool)(ab dn:List Nat):CallsF Tryz.prog 17 [.agg [.int .i64 8,.str nm,intsD [a,b,c],.bool ng,Ad ab,Ad dn],.c (.int .i64 x)] (.u (.c (.d (AQ [fc 3 [a,x,b,c],fc 4 [b,x,b,a],fc 4 [c,x,c,a]])))):=by
 have k0:=BE 3 [a,x,b,c] (by simp)
 have k1:=BE 4 [b,x,b,a] (by simp)
 have k2:=BE 4 [c,x,c,a] (by simp)
 refine cO Tryz.func17 rfl ?_;simp -implicitDefEqProofs[jJ,-qA,-qB,-qF];refine AA (Ah [0,1,3,0,0,16,48,0,128,384,1023,2047,0,4096,12288,0,0,65536,196608,0,524288,1572864,4190208,8388607,0,16777216,50331648,0,0,268435456,805306368,0,2147483648,6442450944,17163091968,34359738367,68719476735,137438953471]) [.any [] [163,175,187] (AG [163,175,187] [[5],[153],[154],[1],[5],[157],[158],[5],[160],[161]]++[⟨4,[155,156,159,162],[],[175,187],[]⟩]++[⟨0,[163],[],[175,187],[]⟩]++AG [163,175,187] [[5],[165],[166],[1],[5],[169],[170],[5],[172],[173]]++[⟨4,[167,168,171,174],[],[163,187],[]⟩]++[⟨0,[175],[],[187],[]⟩]++AG [163,175,187] [[5],[177],[178],[1],[5],[181],[182],[5],[184],[185]]++[⟨4,[179,180,183,186],[],[163,175],[]⟩]),.one,.one,.one] (by rfl) ?_
 simp -implicitDefEqProofs[jJ,-qA,-qB,-qF,Bc,Bd]
 (first|refine Ac k0 ?_|refine Ae k0 ?_)
 simp -implicitDefEqProofs[jJ,-qA,-qB,-qF,Fct.res,fc,Bc,Bd]
 (first|refine Ac k1 ?_|refine Ae k1 ?_)
 simp -implicitDefEqProofs[jJ,-qA,-qB,-qF,Fct.res,fc,Bc,Bd]
 (first|refine Ac k2 ?_|refine Ae k2 ?_)
 simp -implicitDefEqProofs[jJ,-qA,-qB,-qF,Fct.res,fc,Bc,Bd];rfl
theorem Xh(nm:ByteArray)(a b c d x:Int)(ng:Bool)(ab dn:List Nat):CallsF Tryz.prog 17 [.agg [.int .i64 9,.str nm,intsD [a,b,c,d],.bool ng,Ad ab,Ad dn],.c (.int .i64 x)] (.u (.c (.d (AQ [fc 1 [x,a,b],fc 1 [x,c,d]])))):=by
 have k0:=BE 1 [x,a,b] (by simp)
 have k1:=BE 1 [x,c,d] (by simp)
 refine cO Tryz.func17 rfl ?_;simp -implicitDefEqProofs[jJ,-qA,-qB,-qF];refine AA (Ah [0,0,2,6,0,16,48,127,255,0,0,1024,3072,0,8192,24576,65024,131071,262143,524287]) [.any [] [199,208] (AG [199,208] [[1],[5],[193],[194],[5],[196],[197]]++[⟨4,[192,195,198],[],[208],[]⟩]++[⟨0,[199],[],[208],[]⟩]++AG [199,208] [[1],[5],[202],[203],[5],[205],[206]]++[⟨4,[201,204,207],[],[199],[]⟩]),.one,.one,.one] (by rfl) ?_
 simp -implicitDefEqProofs[jJ,-qA,-qB,-qF,Bc,Bd]
 (first|refine Ac k0 ?_|refine Ae k0 ?_)
 simp -implicitDefEqProofs[jJ,-qA,-qB,-qF,Fct.res,fc,Bc,Bd]
 (first|refine Ac k1 ?_|refine Ae k1 ?_)
 simp -implicitDefEqProofs[jJ,-qA,-qB,-qF,Fct.res,fc,Bc,Bd];rfl
theorem Wg(nm:ByteArray)(a b c x:Int)(ng:Bool)(ab dn:List Nat):CallsF Tryz.prog 17 [.agg [.int .i64 10,.str nm,intsD [a,b,c],.bool ng,Ad ab,Ad dn],.c (.int .i64 x)] (.u (.c (.d (AQ [fc 1 [x,a,b],fc 4 [c,x,c,a]])))):=by
 have k0:=BE 1 [x,a,b] (by simp)
 have k1:=BE 4 [c,x,c,a] (by simp)
 refine cO Tryz.func17 rfl ?_;simp -implicitDefEqProofs[jJ,-qA,-qB,-qF];refine AA (Ah [0,0,2,6,0,16,48,127,255,0,512,1536,0,0,8192,24576,0,65536,196608,523776,1048575,2097151,4194303]) [.any [] [220,232] (AG [220,232] [[1],[5],[214],[215],[5],[217],[218]]++[⟨4,[213,216,219],[],[232],[]⟩]++[⟨0,[220],[],[232],[]⟩]++AG [220,232] [[5],[222],[223],[1],[5],[226],[227],[5],[229],[230]]++[⟨4,[224,225,228,231],[],[220],[]⟩]),.one,.one,.one] (by rfl) ?_
 simp -implicitDefEqProofs[jJ,-qA,-qB,-qF,Bc,Bd]
 (first|refine Ac k0 ?_|refine Ae k0 ?_)
 simp -implicitDefEqProofs[jJ,-qA,-qB,-qF,Fct.res,fc,Bc,Bd]
 (first|refine Ac k1 ?_|refine Ae k1 ?_)
 simp -implicitDefEqProofs[jJ,-qA,-qB,-qF,Fct.res,fc,Bc,Bd];rfl
theorem jg2(nm:ByteArray)(a b c x:Int)(ng:Bool)(ab dn:List Nat):CallsF Tryz.prog 17 [.agg [.int .i64 11,.str nm,intsD [a,b,c],.bool ng,Ad ab,Ad dn],.c (.int .i64 x)] (.u (.c (.d (AQ [fc 4 [x,a,x,b],fc 4 [x,a,x,c]])))):=by
 have k0:=BE 4 [x,a,x,b] (by simp)
 have k1:=BE 4 [x,a,x,c] (by simp)
 refine cO Tryz.func17 rfl ?_;simp -implicitDefEqProofs[jJ,-qA,-qB,-qF];refine AA (Ah [0,0,2,6,0,0,32,96,255,511,0,0,2048,6144,0,0,32768,98304,261120,524287,1048575,2097151]) [.any [] [245,255] (AG [245,255] [[1],[5],[238],[239],[1],[5],[242],[243]]++[⟨4,[237,240,241,244],[],[255],[]⟩]++[⟨0,[245],[],[255],[]⟩]++AG [245,255] [[1],[5],[248],[249],[1],[5],[252],[253]]++[⟨4,[247,250,251,254],[],[245],[]⟩]),.one,.one,.one] (by rfl) ?_
 simp -implicitDefEqProofs[jJ,-qA,-qB,-qF,Bc,Bd]
 (first|refine Ac k0 ?_|refine Ae k0 ?_)
 simp -implicitDefEqProofs[jJ,-qA,-qB,-qF,Fct.res,fc,Bc,Bd]
 (first|refine Ac k1 ?_|refine Ae k1 ?_)
 simp -implicitDefEqProofs[jJ,-qA,-qB,-qF,Fct.res,fc,Bc,Bd];rfl
theorem jeQ(nm:ByteArray)(a b c d x:Int)(ng:Bool)(ab dn:List Nat):CallsF Tryz.prog 17 [.agg [.int .i64 12,.str nm,intsD [a,b,c,d],.bool ng,Ad ab,Ad dn],.c (.int .i64 x)] (.u (.c (.d (AQ [fc 1 [x,a,b],fc 4 [c,x,c,d]])))):=by
 have k0:=BE 1 [x,a,b] (by simp)
 have k1:=BE 4 [c,x,c,d] (by simp)
 refine cO Tryz.func17 rfl ?_;simp -implicitDefEqProofs[jJ,-qA,-qB,-qF];refine AA (Ah [0,0,2,6,0,16,48,127,255,0,512,1536,0,0,8192,24576,0,65536,196608,523776,1048575,2097151,4194303]) [.any [] [267,279] (AG [267,279] [[1],[5],[261],[262],[5],[264],[265]]++[⟨4,[260,263,266],[],[279],[]⟩]++[⟨0,[267],[],[279],[]⟩]++AG [267,279] [[5],[269],[270],[1],[5],[273],[274],[5],[276],[277]]++[⟨4,[271,272,275,278],[],[267],[]⟩]),.one,.one,.one] (by rfl) ?_
 simp -implicitDefEqProofs[jJ,-qA,-qB,-qF,Bc,Bd]
 (first|refine Ac k0 ?_|refine Ae k0 ?_)
 simp -implicitDefEqProofs[jJ,-qA,-qB,-qF,Fct.res,fc,Bc,Bd]
 (first|refine Ac k1 ?_|refine Ae k1 ?_)
 simp -implicitDefEqProofs[jJ,-qA,-qB,-qF,Fct.res,fc,Bc,Bd];rfl
theorem Y3(nm:ByteArray)(a b c d x:Int)(ng:Bool)(ab dn:List Nat):CallsF Tryz.prog 17 [.agg [.int .i64 13,.str nm,intsD [a,b,c,d],.bool ng,Ad ab,Ad dn],.c (.int .i64 x)] (.u (.c (.d (AQ [fc 4 [a,x,a,b],fc 4 [c,x,c,d]])))):=by
 have k0:=BE 4 [a,x,a,b] (by simp)
 have k1:=BE 4 [c,x,c,d] (by simp)
 refine cO Tryz.func17 rfl ?_;simp -implicitDefEqProofs[jJ,-qA,-qB,-qF];refine AA (Ah [0,1,3,0,0,16,48,0,128,384,1023,2047,0,4096,12288,0,0,65536,196608,0,524288,1572864,4190208,8388607,16777215,33554431]) [.any [] [294,306] (AG [294,306] [[5],[284],[285],[1],[5],[288],[289],[5],[291],[292]]++[⟨4,[286,287,290,293],[],[306],[]⟩]++[⟨0,[294],[],[306],[]⟩]++AG [294,306] [[5],[296],[297],[1],[5],[300],[301],[5],[303],[304]]++[⟨4,[298,299,302,305],[],[294],[]⟩]),.one,.one,.one] (by rfl) ?_
 simp -implicitDefEqProofs[jJ,-qA,-qB,-qF,Bc,Bd]
 (first|refine Ac k0 ?_|refine Ae k0 ?_)
 simp -implicitDefEqProofs[jJ,-qA,-qB,-qF,Fct.res,fc,Bc,Bd]
 (first|refine Ac k1 ?_|refine Ae k1 ?_)
 simp -implicitDefEqProofs[jJ,-qA,-qB,-qF,Fct.res,fc,Bc,Bd];rfl
theorem jbp(nm:ByteArray)(a b x:Int)(ng:Bool)(ab dn:List Nat):CallsF Tryz.prog 17 [.agg [.int .i64 14,.str nm,intsD [a,b],.bool ng,Ad ab,Ad dn],.c (.int .i64 x)] (.u (.c (.d (AQ [fc 4 [a,x,a,b],fc 4 [b,x,a,b]])))):=by
 have k0:=BE 4 [a,x,a,b] (by simp)
 have k1:=BE 4 [b,x,a,b] (by simp)
 refine cO Tryz.func17 rfl ?_;simp -implicitDefEqProofs[jJ,-qA,-qB,-qF];refine AA (Ah [0,1,3,0,0,16,48,0,128,384,1023,2047,0,4096,12288,0,0,65536,196608,0,524288,1572864,4190208,8388607,16777215,33554431]) [.any [] [321,333] (AG [321,333] [[5],[311],[312],[1],[5],[315],[316],[5],[318],[319]]++[⟨4,[313,314,317,320],[],[333],[]⟩]++[⟨0,[321],[],[333],[]⟩]++AG [321,333] [[5],[323],[324],[1],[5],[327],[328],[5],[330],[331]]++[⟨4,[325,326,329,332],[],[321],[]⟩]),.one,.one,.one] (by rfl) ?_
 simp -implicitDefEqProofs[jJ,-qA,-qB,-qF,Bc,Bd]
 (first|refine Ac k0 ?_|refine Ae k0 ?_)
 simp -implicitDefEqProofs[jJ,-qA,-qB,-qF,Fct.res,fc,Bc,Bd]
 (first|refine Ac k1 ?_|refine Ae k1 ?_)
 simp -implicitDefEqProofs[jJ,-qA,-qB,-qF,Fct.res,fc,Bc,Bd];rfl
end Go.Va
namespace Go.Va
open Go.Proofs
theorem V7{neg:Bool}{m d:Nat}(hd:0<d):sg neg (m/Nat.gcd m d)=sg neg m:=by
 have hg:0<Nat.gcd m d:=Nat.gcd_pos_of_pos_right m hd;have h:0<m/Nat.gcd m d↔0<m:=by
  constructor
  ·intro h;have:=Nat.div_le_self m (Nat.gcd m d);omega
  ·intro h;exact Nat.div_pos (Nat.le_of_dvd h (Nat.gcd_dvd_left m d)) hg
 unfold sg;simp only[h]
theorem TG{p q:Rat}:p.num*q.den=q.num*p.den↔p=q:=Rat.eq_iff_mul_eq_mul.symm
theorem Lr{p q:Rat}{k:Nat}(hp:Bq p k)(hq:Bq q k)(hk:k≤400):CallsF Tryz.prog 81 [.agg (Br p),.agg (Br q)] (.u (.c (.d (.bool (decide (p=q)))))):=by
 have h:=Oh (decide (p.num<0)) (decide (q.num<0)) (limbs p.num.natAbs) (limbs p.den) (limbs q.num.natAbs) (limbs q.den) (Aw _) (by have:=hp.ln;omega) (Aw _) (by have:=hp.ld;omega) (Aw _) (by have:=hq.ln;omega) (Aw _) (by have:=hq.ld;omega) (by rw[Az];exact p.den_nz) (by rw[Az];exact q.den_nz)
 rw[Az,Az,Az,Az,Dv,Dv,decide_eq_decide.2 TG]at h
 exact h
end Go.Va
