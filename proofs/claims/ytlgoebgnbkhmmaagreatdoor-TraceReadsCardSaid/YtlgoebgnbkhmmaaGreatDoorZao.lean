/- a part of the proof -/
import Derived.Test.YtlgoebgnbkhmmaaGreatDoorZan
set_option linter.all false
set_option maxHeartbeats 4000000
set_option maxRecDepth 10000
namespace Go.Va
open Int renaming natCast_add → qA, natCast_mul → qB, natCast_emod → qC, natCast_ediv → qD, natCast_pow → qE
open List renaming reduceReplicate → qF
open Go.Proofs
theorem IK{n:Nat}(h:n<18446744073709551616):(limbs n).length≤4:=(GE n).2 h
theorem QK:65536^8=340282366920938463463374607431768211456:=by simp
theorem BP{n:Nat}(h:n<340282366920938463463374607431768211456):(limbs n).length≤8:=Ew n 8 (by rw[QK];exact h)
theorem Cp(a b:List Nat)(ha:Ok a)(hb:Ok b):(limbs (val a*val b)).length≤a.length+b.length:=by
 apply Ew
 rw[Nat.pow_add]
 exact Nat.mul_lt_mul'' (Bz a ha) (Bz b hb)
theorem jac(a b:List Nat)(ha:Ok a)(hl:a.length≤70368744177664)(hb:Ok b)(hm:b.length≤70368744177664)(h1:val a<18446744073709551616)(h2:val b<18446744073709551616)(h0:val b≠0):
  CallsF Tryz.prog 195 [.c (Ad a),.c (Ad b)] (.tup [.c (.d (Ad (limbs (val a/val b)))),.c (.d (Ad (limbs (val a%val b)))),.c (.d (.int .i64 0))]):=by
 refine cO Tryz.func195 rfl ?_;simp -implicitDefEqProofs[jJ,-qA,-qB,-qC,-qD,-qE];refine Ac (CM a ha (by omega)) ?_
 simp -implicitDefEqProofs[jJ,-qA,-qB,-qC,-qD,-qE];refine Ac (CM b hb (by omega)) ?_
 have l1:=IK h1;have l2:=IK h2;have s1:=OX (limbs (val a)) (Aw _) l1;have s2:=OX (limbs (val b)) (Aw _) l2;rw[Az]at s1 s2;have hp:limbs (val b)≠[]:=fun h=>h0 (limbs_nil.1 h)
 clear hl hm ha hb;generalize val a=m at*;generalize val b=n at*;have e1:m/n%18446744073709551616=m/n:=AX (Nat.lt_of_le_of_lt (Nat.div_le_self _ _) h1);have e2:m%n<18446744073709551616:=Nat.lt_of_le_of_lt (Nat.mod_le _ _) h1;simp -implicitDefEqProofs[jJ,-qA,-qB,-qC,-qD,-qE,hp,l1,l2];refine Ac s1 ?_;simp -implicitDefEqProofs[jJ,-qA,-qB,-qC,-qD,-qE];refine Ac s2 ?_;simp -implicitDefEqProofs[jJ,-qA,-qB,-qC,-qD,-qE,h0,e1];refine Ac (C6 (m/n) (by omega)) ?_
 simp -implicitDefEqProofs[jJ,-qA,-qB,-qC,-qD,-qE];refine Ac s1 ?_;simp -implicitDefEqProofs[jJ,-qA,-qB,-qC,-qD,-qE];refine Ac s2 ?_;simp -implicitDefEqProofs[jJ,-qA,-qB,-qC,-qD,-qE,h0];refine Ac (C6 (m%n) e2) ?_;simp -implicitDefEqProofs[jJ,-qA,-qB,-qC,-qD,-qE]
end Go.Va
