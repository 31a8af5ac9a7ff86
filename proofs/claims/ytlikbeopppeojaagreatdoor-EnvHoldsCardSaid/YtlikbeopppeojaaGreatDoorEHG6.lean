import Derived.Test.YtlikbeopppeojaaGreatDoorProg
import Derived.KernelRfl
import Derived.Test.YtlikbeopppeojaaGreatDoorEHE3
import Derived.Test.YtlikbeopppeojaaGreatDoorEHG1
import Derived.Test.YtlikbeopppeojaaGreatDoorEHG3
import Derived.Test.YtlikbeopppeojaaGreatDoorEHG4
import Derived.Test.YtlikbeopppeojaaGreatDoorEHG5
set_option linter.unusedVariables false
set_option linter.unusedSimpArgs false
set_option linter.unusedSectionVars false
set_option maxRecDepth 100000
set_option maxHeartbeats 40000000
namespace Go.Q
open Go Go.RowKit
open Go.Rx (br bd sIdx sCat sCut iQuo iRem iShl)
noncomputable section
namespace congruence_long
def f (lf : Nat) (a0 : ByteArray) : Option (Bool × Unit) :=
 bd (strings_TrimPrefix.f lf a0 (⟨#[45]⟩ : ByteArray)) fun r1 =>
 some ((decide (((r1.1.size : Nat) : Int) > 100)), ())
def E (lf : Nat) : Entry := ⟨[.str], [.bool], fun x => f lf x.1⟩
theorem ok (lf : Nat) : Ok 227 (E lf) := okT (an := (annsL [])) (lf := lf) (tC (strings_TrimPrefix.ok lf) tN) aoN fun x => by kernel_rfl
end congruence_long
namespace congruence_number
def f (lf : Nat) (a0 : ByteArray) : Option (Int × Unit) :=
 bd (bigint_Check.f lf a0) fun r1 =>
 br (r1.1 == 10) (
 some (10, ())) (
 br (r1.1 == 0) (
 bd (congruence_long.f lf a0) fun r2 =>
 br r2.1 (
 some (10, ())) (
 br (r1.1 != 0) (
 some (r1.1, ())) (
 some (0, ())))) (
 br (r1.1 != 0) (
 some (r1.1, ())) (
 some (0, ()))))
def E (lf : Nat) : Entry := ⟨[.str], [(.int .i64)], fun x => f lf x.1⟩
theorem ok (lf : Nat) : Ok 153 (E lf) := okT (an := (annsL [])) (lf := lf) (tC (bigint_Check.ok lf) (tC (congruence_long.ok lf) tN)) aoN fun x => by kernel_rfl
end congruence_number
namespace congruence_sure_int
def f (lf : Nat) (a0 : Int) (a1 : Int) : Option (Int × Unit) :=
 some (a0, ())
def E (lf : Nat) : Entry := ⟨[(.int .i64), (.int .i64)], [(.int .i64)], fun x => f lf x.1 x.2.1⟩
theorem ok (lf : Nat) : Ok 228 (E lf) := okT (an := (annsL [])) (lf := lf) tN aoN fun x => by kernel_rfl
end congruence_sure_int
namespace congruence_less
def f (lf : Nat) (a0 : ByteArray) (a1 : ByteArray) : Option (Bool × Unit) :=
 bd (bigint_Compare.f lf a0 a1) fun r1 =>
 bd (congruence_sure_int.f lf r1.1 r1.2.1) fun r2 =>
 some ((decide (r2.1 < 0)), ())
def E (lf : Nat) : Entry := ⟨[.str, .str], [.bool], fun x => f lf x.1 x.2.1⟩
theorem ok (lf : Nat) : Ok 154 (E lf) := okT (an := (annsL [])) (lf := lf) (tC (bigint_Compare.ok lf) (tC (congruence_sure_int.ok lf) tN)) aoN fun x => by kernel_rfl
end congruence_less
namespace congruence_Check
def f (lf : Nat) (a0 : TI) : Option (Int × Unit) :=
 br a0.1 (
 br (!(a0.2.1.toList == (⟨#[]⟩ : ByteArray).toList)) (
 some (3, ())) (
 br (!(a0.2.2.1.toList == (⟨#[]⟩ : ByteArray).toList)) (
 some (3, ())) (
 some (0, ())))) (
 bd (congruence_number.f lf a0.2.1) fun r1 =>
 br (r1.1 != 0) (
 some (r1.1, ())) (
 bd (congruence_number.f lf a0.2.2.1) fun r2 =>
 br (r2.1 != 0) (
 some (r2.1, ())) (
 bd (congruence_less.f lf a0.2.1 (⟨#[48]⟩ : ByteArray)) fun r3 =>
 br r3.1 (
 some (2, ())) (
 br (!(a0.2.1.toList == (⟨#[48]⟩ : ByteArray).toList)) (
 bd (congruence_less.f lf a0.2.2.1 (⟨#[48]⟩ : ByteArray)) fun r4 =>
 br r4.1 (
 some (2, ())) (
 bd (congruence_less.f lf a0.2.2.1 a0.2.1) fun r5 =>
 br (!r5.1) (
 some (2, ())) (
 some (0, ())))) (
 some (0, ()))))))
def E (lf : Nat) : Entry := ⟨[yI], [(.int .i64)], fun x => f lf x.1⟩
theorem ok (lf : Nat) : Ok 94 (E lf) := okT (an := (annsL [])) (lf := lf) (tC (congruence_number.ok lf) (tC (congruence_less.ok lf) tN)) aoN fun x => by kernel_rfl
end congruence_Check
namespace congruence_sub
def f (lf : Nat) (a0 : ByteArray) (a1 : ByteArray) : Option (ByteArray × Unit) :=
 bd (bigint_Sub.f lf a0 a1) fun r1 =>
 bd (api_Int.f lf r1.1 r1.2.1) fun r2 =>
 some (r2.1, ())
def E (lf : Nat) : Entry := ⟨[.str, .str], [.str], fun x => f lf x.1 x.2.1⟩
theorem ok (lf : Nat) : Ok 185 (E lf) := okT (an := (annsL [])) (lf := lf) (tC (api_Int.ok lf) (tC (bigint_Sub.ok lf) tN)) aoN fun x => by kernel_rfl
end congruence_sub
namespace congruence_modulo
def f (lf : Nat) (a0 : ByteArray) (a1 : ByteArray) (a2 : ByteArray) : Option (ByteArray × Int × Unit) :=
 bd (bigint_Rem.f lf a0 a2) fun r1 =>
 br (r1.2.1 != 0) (
 some ((⟨#[]⟩ : ByteArray), r1.2.1, ())) (
 bd (bigint_Rem.f lf a1 a2) fun r2 =>
 br (r2.2.1 != 0) (
 some ((⟨#[]⟩ : ByteArray), r2.2.1, ())) (
 bd (congruence_sub.f lf r1.1 r2.1) fun r3 =>
 bd (bigint_Rem.f lf r3.1 a2) fun r4 =>
 some (r4.1, r4.2.1, ())))
def E (lf : Nat) : Entry := ⟨[.str, .str, .str], [.str, (.int .i64)], fun x => f lf x.1 x.2.1 x.2.2.1⟩
theorem ok (lf : Nat) : Ok 237 (E lf) := okT (an := (annsL [])) (lf := lf) (tC (bigint_Rem.ok lf) (tC (congruence_sub.ok lf) tN)) aoN fun x => by kernel_rfl
end congruence_modulo
namespace congruence_Least
def f (lf : Nat) (a0 : TI) (a1 : ByteArray) : Option (ByteArray × Int × Unit) :=
 bd (congruence_Check.f lf a0) fun r1 =>
 br (r1.1 != 0) (
 some ((⟨#[]⟩ : ByteArray), r1.1, ())) (
 bd (bigint_Check.f lf a1) fun r2 =>
 br (r2.1 != 0) (
 some ((⟨#[]⟩ : ByteArray), r2.1, ())) (
 br a0.1 (
 some ((⟨#[]⟩ : ByteArray), 16, ())) (
 br (!(a0.2.1.toList == (⟨#[48]⟩ : ByteArray).toList)) (
 bd (congruence_modulo.f lf a0.2.2.1 a1 a0.2.1) fun r3 =>
 br (r3.2.1 != 0) (
 some ((⟨#[]⟩ : ByteArray), r3.2.1, ())) (
 bd (bigint_Add.f lf a1 r3.1) fun r4 =>
 some (r4.1, r4.2.1, ()))) (
 bd (congruence_less.f lf a0.2.2.1 a1) fun r5 =>
 br r5.1 (
 some ((⟨#[]⟩ : ByteArray), 6, ())) (
 some (a0.2.2.1, 0, ()))))))
def E (lf : Nat) : Entry := ⟨[yI, .str], [.str, (.int .i64)], fun x => f lf x.1 x.2.1⟩
theorem ok (lf : Nat) : Ok 163 (E lf) := okT (an := (annsL [])) (lf := lf) (tC (bigint_Check.ok lf) (tC (congruence_Check.ok lf) (tC (congruence_less.ok lf) (tC (bigint_Add.ok lf) (tC (congruence_modulo.ok lf) tN))))) aoN fun x => by kernel_rfl
end congruence_Least
namespace congruence_Greatest
def f (lf : Nat) (a0 : TI) (a1 : ByteArray) : Option (ByteArray × Int × Unit) :=
 bd (congruence_Check.f lf a0) fun r1 =>
 br (r1.1 != 0) (
 some ((⟨#[]⟩ : ByteArray), r1.1, ())) (
 bd (bigint_Check.f lf a1) fun r2 =>
 br (r2.1 != 0) (
 some ((⟨#[]⟩ : ByteArray), r2.1, ())) (
 br a0.1 (
 some ((⟨#[]⟩ : ByteArray), 16, ())) (
 br (!(a0.2.1.toList == (⟨#[48]⟩ : ByteArray).toList)) (
 bd (congruence_modulo.f lf a1 a0.2.2.1 a0.2.1) fun r3 =>
 br (r3.2.1 != 0) (
 some ((⟨#[]⟩ : ByteArray), r3.2.1, ())) (
 bd (bigint_Sub.f lf a1 r3.1) fun r4 =>
 some (r4.1, r4.2.1, ()))) (
 bd (congruence_less.f lf a1 a0.2.2.1) fun r5 =>
 br r5.1 (
 some ((⟨#[]⟩ : ByteArray), 6, ())) (
 some (a0.2.2.1, 0, ()))))))
def E (lf : Nat) : Entry := ⟨[yI, .str], [.str, (.int .i64)], fun x => f lf x.1 x.2.1⟩
theorem ok (lf : Nat) : Ok 164 (E lf) := okT (an := (annsL [])) (lf := lf) (tC (bigint_Check.ok lf) (tC (congruence_Check.ok lf) (tC (congruence_less.ok lf) (tC (bigint_Sub.ok lf) (tC (congruence_modulo.ok lf) tN))))) aoN fun x => by kernel_rfl
end congruence_Greatest
namespace congruence_Holds
def f (lf : Nat) (a0 : TI) (a1 : ByteArray) : Option (Bool × Int × Unit) :=
 bd (congruence_Check.f lf a0) fun r1 =>
 br (r1.1 != 0) (
 some (false, r1.1, ())) (
 bd (bigint_Check.f lf a1) fun r2 =>
 br (r2.1 != 0) (
 some (false, r2.1, ())) (
 br a0.1 (
 some (false, 0, ())) (
 br (a0.2.1.toList == (⟨#[48]⟩ : ByteArray).toList) (
 some ((a1.toList == a0.2.2.1.toList), 0, ())) (
 bd (bigint_Rem.f lf a1 a0.2.1) fun r3 =>
 bd (api_Int.f lf r3.1 r3.2.1) fun r4 =>
 some ((r4.1.toList == a0.2.2.1.toList), 0, ())))))
def E (lf : Nat) : Entry := ⟨[yI, .str], [.bool, (.int .i64)], fun x => f lf x.1 x.2.1⟩
theorem ok (lf : Nat) : Ok 59 (E lf) := okT (an := (annsL [])) (lf := lf) (tC (bigint_Check.ok lf) (tC (congruence_Check.ok lf) (tC (api_Int.ok lf) (tC (bigint_Rem.ok lf) tN)))) aoN fun x => by kernel_rfl
end congruence_Holds
namespace congruence_Top
def f (lf : Nat)  : Option (TI × Unit) :=
 some ((false, (⟨#[49]⟩ : ByteArray), (⟨#[48]⟩ : ByteArray), ()), ())
def E (lf : Nat) : Entry := ⟨[], [yI], fun x => f lf ⟩
theorem ok (lf : Nat) : Ok 258 (E lf) := okT (an := (annsL [])) (lf := lf) tN aoN fun x => by kernel_rfl
end congruence_Top
namespace congruence_class
def f (lf : Nat) (a0 : ByteArray) (a1 : ByteArray) : Option (TI × Unit) :=
 bd (bigint_Abs.f lf a0) fun r1 =>
 bd (api_Int.f lf r1.1 r1.2.1) fun r2 =>
 br (!(r2.1.toList == (⟨#[48]⟩ : ByteArray).toList)) (
 bd (bigint_Rem.f lf a1 r2.1) fun r3 =>
 bd (api_Int.f lf r3.1 r3.2.1) fun r4 =>
 bd (congruence_long.f lf r2.1) fun r5 =>
 br r5.1 (
 bd (congruence_Top.f lf) fun r6 =>
 some (r6.1, ())) (
 bd (congruence_long.f lf r4.1) fun r7 =>
 br r7.1 (
 bd (congruence_Top.f lf) fun r8 =>
 some (r8.1, ())) (
 some ((false, r2.1, r4.1, ()), ())))) (
 bd (congruence_long.f lf r2.1) fun r9 =>
 br r9.1 (
 bd (congruence_Top.f lf) fun r10 =>
 some (r10.1, ())) (
 bd (congruence_long.f lf a1) fun r11 =>
 br r11.1 (
 bd (congruence_Top.f lf) fun r12 =>
 some (r12.1, ())) (
 some ((false, r2.1, a1, ()), ()))))
def E (lf : Nat) : Entry := ⟨[.str, .str], [yI], fun x => f lf x.1 x.2.1⟩
theorem ok (lf : Nat) : Ok 180 (E lf) := okT (an := (annsL [])) (lf := lf) (tC (api_Int.ok lf) (tC (bigint_Rem.ok lf) (tC (congruence_long.ok lf) (tC (bigint_Abs.ok lf) (tC (congruence_Top.ok lf) tN))))) aoN fun x => by kernel_rfl
end congruence_class
namespace congruence_gcd
def f (lf : Nat) (a0 : ByteArray) (a1 : ByteArray) : Option (ByteArray × Unit) :=
 bd (bigint_Gcd.f lf a0 a1) fun r1 =>
 bd (api_Int.f lf r1.1 r1.2.1) fun r2 =>
 some (r2.1, ())
def E (lf : Nat) : Entry := ⟨[.str, .str], [.str], fun x => f lf x.1 x.2.1⟩
theorem ok (lf : Nat) : Ok 181 (E lf) := okT (an := (annsL [])) (lf := lf) (tC (api_Int.ok lf) (tC (bigint_Gcd.ok lf) tN)) aoN fun x => by kernel_rfl
end congruence_gcd
namespace congruence_both
def f (lf : Nat) (a0 : TI) (a1 : TI) : Option (Int × Unit) :=
 bd (congruence_Check.f lf a0) fun r1 =>
 br (r1.1 != 0) (
 some (r1.1, ())) (
 bd (congruence_Check.f lf a1) fun r2 =>
 some (r2.1, ()))
def E (lf : Nat) : Entry := ⟨[yI, yI], [(.int .i64)], fun x => f lf x.1 x.2.1⟩
theorem ok (lf : Nat) : Ok 223 (E lf) := okT (an := (annsL [])) (lf := lf) (tC (congruence_Check.ok lf) tN) aoN fun x => by kernel_rfl
end congruence_both
namespace congruence_Join
def f (lf : Nat) (a0 : TI) (a1 : TI) : Option (TI × Int × Unit) :=
 bd (congruence_both.f lf a0 a1) fun r1 =>
 br (r1.1 != 0) (
 some ((false, (⟨#[]⟩ : ByteArray), (⟨#[]⟩ : ByteArray), ()), r1.1, ())) (
 br a0.1 (
 some (a1, 0, ())) (
 br a1.1 (
 some (a0, 0, ())) (
 bd (congruence_gcd.f lf a0.2.1 a1.2.1) fun r2 =>
 bd (congruence_sub.f lf a0.2.2.1 a1.2.2.1) fun r3 =>
 bd (congruence_gcd.f lf r2.1 r3.1) fun r4 =>
 bd (congruence_class.f lf r4.1 a0.2.2.1) fun r5 =>
 some (r5.1, 0, ()))))
def E (lf : Nat) : Entry := ⟨[yI, yI], [yI, (.int .i64)], fun x => f lf x.1 x.2.1⟩
theorem ok (lf : Nat) : Ok 205 (E lf) := okT (an := (annsL [])) (lf := lf) (tC (congruence_class.ok lf) (tC (congruence_gcd.ok lf) (tC (congruence_sub.ok lf) (tC (congruence_both.ok lf) tN)))) aoN fun x => by kernel_rfl
end congruence_Join
namespace congruence_add
def f (lf : Nat) (a0 : ByteArray) (a1 : ByteArray) : Option (ByteArray × Unit) :=
 bd (bigint_Add.f lf a0 a1) fun r1 =>
 bd (api_Int.f lf r1.1 r1.2.1) fun r2 =>
 some (r2.1, ())
def E (lf : Nat) : Entry := ⟨[.str, .str], [.str], fun x => f lf x.1 x.2.1⟩
theorem ok (lf : Nat) : Ok 182 (E lf) := okT (an := (annsL [])) (lf := lf) (tC (api_Int.ok lf) (tC (bigint_Add.ok lf) tN)) aoN fun x => by kernel_rfl
end congruence_add
namespace congruence_mul
def f (lf : Nat) (a0 : ByteArray) (a1 : ByteArray) : Option (ByteArray × Unit) :=
 bd (bigint_Mul.f lf a0 a1) fun r1 =>
 bd (api_Int.f lf r1.1 r1.2.1) fun r2 =>
 some (r2.1, ())
def E (lf : Nat) : Entry := ⟨[.str, .str], [.str], fun x => f lf x.1 x.2.1⟩
theorem ok (lf : Nat) : Ok 189 (E lf) := okT (an := (annsL [])) (lf := lf) (tC (api_Int.ok lf) (tC (bigint_Mul.ok lf) tN)) aoN fun x => by kernel_rfl
end congruence_mul
namespace congruence_divides
def f (lf : Nat) (a0 : ByteArray) (a1 : ByteArray) : Option (Bool × Unit) :=
 br (a0.toList == (⟨#[48]⟩ : ByteArray).toList) (
 some ((a1.toList == (⟨#[48]⟩ : ByteArray).toList), ())) (
 bd (bigint_Rem.f lf a1 a0) fun r1 =>
 bd (api_Int.f lf r1.1 r1.2.1) fun r2 =>
 some ((r2.1.toList == (⟨#[48]⟩ : ByteArray).toList), ()))
def E (lf : Nat) : Entry := ⟨[.str, .str], [.bool], fun x => f lf x.1 x.2.1⟩
theorem ok (lf : Nat) : Ok 219 (E lf) := okT (an := (annsL [])) (lf := lf) (tC (api_Int.ok lf) (tC (bigint_Rem.ok lf) tN)) aoN fun x => by kernel_rfl
end congruence_divides
namespace congruence_inside
def f (lf : Nat) (a0 : TI) (a1 : TI) : Option (Bool × Unit) :=
 br a0.1 (
 some (a0.1, ())) (
 br a1.1 (
 some (a0.1, ())) (
 bd (congruence_divides.f lf a1.2.1 a0.2.1) fun r1 =>
 br r1.1 (
 bd (congruence_sub.f lf a0.2.2.1 a1.2.2.1) fun r2 =>
 bd (congruence_divides.f lf a1.2.1 r2.1) fun r3 =>
 some (r3.1, ())) (
 some (false, ()))))
def E (lf : Nat) : Entry := ⟨[yI, yI], [.bool], fun x => f lf x.1 x.2.1⟩
theorem ok (lf : Nat) : Ok 218 (E lf) := okT (an := (annsL [])) (lf := lf) (tC (congruence_sub.ok lf) (tC (congruence_divides.ok lf) tN)) aoN fun x => by kernel_rfl
end congruence_inside
namespace congruence_none
def f (lf : Nat)  : Option (TI × Unit) :=
 some ((true, (⟨#[]⟩ : ByteArray), (⟨#[]⟩ : ByteArray), ()), ())
def E (lf : Nat) : Entry := ⟨[], [yI], fun x => f lf ⟩
theorem ok (lf : Nat) : Ok 220 (E lf) := okT (an := (annsL [])) (lf := lf) tN aoN fun x => by kernel_rfl
end congruence_none
namespace congruence_meet
def f (lf : Nat) (a0 : TI) (a1 : TI) : Option (TI × Unit) :=
 bd (congruence_inside.f lf a0 a1) fun r1 =>
 br r1.1 (
 some (a0, ())) (
 bd (congruence_inside.f lf a1 a0) fun r2 =>
 br r2.1 (
 some (a1, ())) (
 bd (congruence_gcd.f lf a0.2.1 a1.2.1) fun r3 =>
 bd (congruence_sub.f lf a1.2.2.1 a0.2.2.1) fun r4 =>
 br (a0.2.1.toList == (⟨#[48]⟩ : ByteArray).toList) (
 bd (congruence_none.f lf) fun r5 =>
 some (r5.1, ())) (
 br (a1.2.1.toList == (⟨#[48]⟩ : ByteArray).toList) (
 bd (congruence_none.f lf) fun r6 =>
 some (r6.1, ())) (
 bd (congruence_divides.f lf r3.1 r4.1) fun r7 =>
 br (!r7.1) (
 bd (congruence_none.f lf) fun r8 =>
 some (r8.1, ())) (
 bd (bigint_Bezout.f lf a0.2.1 a1.2.1) fun r9 =>
 bd (bigint_Quo.f lf r4.1 r3.1) fun r10 =>
 bd (api_Int.f lf r10.1 r10.2.1) fun r11 =>
 bd (congruence_mul.f lf r9.2.1 r11.1) fun r12 =>
 bd (bigint_Lcm.f lf a0.2.1 a1.2.1) fun r13 =>
 bd (api_Int.f lf r13.1 r13.2.1) fun r14 =>
 bd (congruence_mul.f lf r12.1 a0.2.1) fun r15 =>
 bd (congruence_add.f lf a0.2.2.1 r15.1) fun r16 =>
 bd (congruence_class.f lf r14.1 r16.1) fun r17 =>
 some (r17.1, ()))))))
def E (lf : Nat) : Entry := ⟨[yI, yI], [yI], fun x => f lf x.1 x.2.1⟩
theorem ok (lf : Nat) : Ok 145 (E lf) := okT (an := (annsL [])) (lf := lf) (tC (api_Int.ok lf) (tC (congruence_class.ok lf) (tC (congruence_gcd.ok lf) (tC (congruence_add.ok lf) (tC (congruence_sub.ok lf) (tC (congruence_mul.ok lf) (tC (bigint_Quo.ok lf) (tC (congruence_inside.ok lf) (tC (congruence_divides.ok lf) (tC (congruence_none.ok lf) (tC (bigint_Bezout.ok lf) (tC (bigint_Lcm.ok lf) tN)))))))))))) aoN fun x => by kernel_rfl
end congruence_meet
namespace congruence_Meet
def f (lf : Nat) (a0 : TI) (a1 : TI) : Option (TI × Int × Unit) :=
 bd (congruence_both.f lf a0 a1) fun r1 =>
 br (r1.1 != 0) (
 some ((false, (⟨#[]⟩ : ByteArray), (⟨#[]⟩ : ByteArray), ()), r1.1, ())) (
 br a0.1 (
 bd (congruence_none.f lf) fun r2 =>
 some (r2.1, 0, ())) (
 br a1.1 (
 bd (congruence_none.f lf) fun r3 =>
 some (r3.1, 0, ())) (
 bd (congruence_meet.f lf a0 a1) fun r4 =>
 some (r4.1, 0, ()))))
def E (lf : Nat) : Entry := ⟨[yI, yI], [yI, (.int .i64)], fun x => f lf x.1 x.2.1⟩
theorem ok (lf : Nat) : Ok 87 (E lf) := okT (an := (annsL [])) (lf := lf) (tC (congruence_meet.ok lf) (tC (congruence_none.ok lf) (tC (congruence_both.ok lf) tN))) aoN fun x => by kernel_rfl
end congruence_Meet
end
end Go.Q
namespace Go.Q
open Go Go.RowKit
open Go.Rx (br bd sIdx sCat sCut iQuo iRem iShl)
noncomputable section
namespace surveyorref22_Few
def f (lf : Nat) (a0 : TI) : Option (Bool × Unit) :=
 bd (surveyorref01_Few.f lf a0.2.1) fun r1 =>
 br r1.1 (
 bd (surveyorref01_Few.f lf a0.2.2.1) fun r2 =>
 some (r2.1, ())) (
 some (false, ()))
def E (lf : Nat) : Entry := ⟨[yI], [.bool], fun x => f lf x.1⟩
theorem ok (lf : Nat) : Ok 43 (E lf) := okT (an := (annsL [])) (lf := lf) (tC (surveyorref01_Few.ok lf) tN) aoN fun x => by kernel_rfl
end surveyorref22_Few
namespace surveyorref22_number
def f (lf : Nat) (a0 : ByteArray) : Option (Int × Unit) :=
 bd (surveyorref01_Form.f lf a0) fun r1 =>
 br (!r1.1) (
 some (3, ())) (
 bd (surveyorref01_Digits.f lf a0) fun r2 =>
 br (decide (r2.1 > 100)) (
 some (10, ())) (
 some (0, ())))
def E (lf : Nat) : Entry := ⟨[.str], [(.int .i64)], fun x => f lf x.1⟩
theorem ok (lf : Nat) : Ok 109 (E lf) := okT (an := (annsL [])) (lf := lf) (tC (surveyorref01_Form.ok lf) (tC (surveyorref01_Digits.ok lf) tN)) aoN fun x => by kernel_rfl
end surveyorref22_number
namespace surveyorref22_Check
def f (lf : Nat) (a0 : TI) : Option (Int × Unit) :=
 br a0.1 (
 br (!(a0.2.1.toList == (⟨#[]⟩ : ByteArray).toList)) (
 some (3, ())) (
 br (!(a0.2.2.1.toList == (⟨#[]⟩ : ByteArray).toList)) (
 some (3, ())) (
 some (0, ())))) (
 bd (surveyorref22_number.f lf a0.2.1) fun r1 =>
 br (r1.1 != 0) (
 some (r1.1, ())) (
 bd (surveyorref22_number.f lf a0.2.2.1) fun r2 =>
 br (r2.1 != 0) (
 some (r2.1, ())) (
 bd (surveyorref01_Sign.f lf a0.2.1) fun r3 =>
 br (decide (r3.1 < 0)) (
 some (2, ())) (
 br (!(a0.2.1.toList == (⟨#[48]⟩ : ByteArray).toList)) (
 bd (surveyorref01_Sign.f lf a0.2.2.1) fun r4 =>
 br (decide (r4.1 < 0)) (
 some (2, ())) (
 bd (surveyorref01_Less.f lf a0.2.2.1 a0.2.1) fun r5 =>
 br (!r5.1) (
 some (2, ())) (
 some (0, ())))) (
 some (0, ()))))))
def E (lf : Nat) : Entry := ⟨[yI], [(.int .i64)], fun x => f lf x.1⟩
theorem ok (lf : Nat) : Ok 72 (E lf) := okT (an := (annsL [])) (lf := lf) (tC (surveyorref01_Less.ok lf) (tC (surveyorref22_number.ok lf) (tC (surveyorref01_Sign.ok lf) tN))) aoN fun x => by kernel_rfl
end surveyorref22_Check
namespace surveyorref22_Top
def f (lf : Nat)  : Option (TI × Unit) :=
 some ((false, (⟨#[49]⟩ : ByteArray), (⟨#[48]⟩ : ByteArray), ()), ())
def E (lf : Nat) : Entry := ⟨[], [yI], fun x => f lf ⟩
theorem ok (lf : Nat) : Ok 65 (E lf) := okT (an := (annsL [])) (lf := lf) tN aoN fun x => by kernel_rfl
end surveyorref22_Top
namespace surveyorref22_Class
def f (lf : Nat) (a0 : ByteArray) (a1 : ByteArray) : Option (TI × Unit) :=
 bd (surveyorref01_Magnitude.f lf a0) fun r1 =>
 br (!(a0.toList == (⟨#[48]⟩ : ByteArray).toList)) (
 bd (surveyorref01_Rest.f lf a1 r1.1) fun r2 =>
 bd (surveyorref01_Digits.f lf r1.1) fun r3 =>
 br (decide (r3.1 > 100)) (
 bd (surveyorref22_Top.f lf) fun r4 =>
 some (r4.1, ())) (
 bd (surveyorref01_Digits.f lf r2.1) fun r5 =>
 br (decide (r5.1 > 100)) (
 bd (surveyorref22_Top.f lf) fun r6 =>
 some (r6.1, ())) (
 some ((false, r1.1, r2.1, ()), ())))) (
 bd (surveyorref01_Digits.f lf r1.1) fun r7 =>
 br (decide (r7.1 > 100)) (
 bd (surveyorref22_Top.f lf) fun r8 =>
 some (r8.1, ())) (
 bd (surveyorref01_Digits.f lf a1) fun r9 =>
 br (decide (r9.1 > 100)) (
 bd (surveyorref22_Top.f lf) fun r10 =>
 some (r10.1, ())) (
 some ((false, r1.1, a1, ()), ()))))
def E (lf : Nat) : Entry := ⟨[.str, .str], [yI], fun x => f lf x.1 x.2.1⟩
theorem ok (lf : Nat) : Ok 103 (E lf) := okT (an := (annsL [])) (lf := lf) (tC (surveyorref01_Digits.ok lf) (tC (surveyorref22_Top.ok lf) (tC (surveyorref01_Magnitude.ok lf) (tC (surveyorref01_Rest.ok lf) tN)))) aoN fun x => by kernel_rfl
end surveyorref22_Class
namespace surveyorref22_Single
def f (lf : Nat) (a0 : ByteArray) : Option (TI × Unit) :=
 bd (surveyorref22_Class.f lf (⟨#[48]⟩ : ByteArray) a0) fun r1 =>
 some (r1.1, ())
def E (lf : Nat) : Entry := ⟨[.str], [yI], fun x => f lf x.1⟩
theorem ok (lf : Nat) : Ok 68 (E lf) := okT (an := (annsL [])) (lf := lf) (tC (surveyorref22_Class.ok lf) tN) aoN fun x => by kernel_rfl
end surveyorref22_Single
namespace surveyorref22_Empty
def f (lf : Nat)  : Option (TI × Unit) :=
 some ((true, (⟨#[]⟩ : ByteArray), (⟨#[]⟩ : ByteArray), ()), ())
def E (lf : Nat) : Entry := ⟨[], [yI], fun x => f lf ⟩
theorem ok (lf : Nat) : Ok 169 (E lf) := okT (an := (annsL [])) (lf := lf) tN aoN fun x => by kernel_rfl
end surveyorref22_Empty
namespace surveyorref22_Above
def f (lf : Nat) (a0 : TI) (a1 : ByteArray) : Option (ByteArray × Bool × Unit) :=
 br (a0.2.1.toList == (⟨#[48]⟩ : ByteArray).toList) (
 bd (surveyorref01_Less.f lf a0.2.2.1 a1) fun r1 =>
 br r1.1 (
 some ((⟨#[]⟩ : ByteArray), false, ())) (
 some (a0.2.2.1, true, ()))) (
 bd (surveyorref01_Diff.f lf a0.2.2.1 a1) fun r2 =>
 bd (surveyorref01_Rest.f lf r2.1 a0.2.1) fun r3 =>
 bd (surveyorref01_Sum.f lf a1 r3.1) fun r4 =>
 some (r4.1, true, ()))
def E (lf : Nat) : Entry := ⟨[yI, .str], [.str, .bool], fun x => f lf x.1 x.2.1⟩
theorem ok (lf : Nat) : Ok 112 (E lf) := okT (an := (annsL [])) (lf := lf) (tC (surveyorref01_Less.ok lf) (tC (surveyorref01_Diff.ok lf) (tC (surveyorref01_Rest.ok lf) (tC (surveyorref01_Sum.ok lf) tN)))) aoN fun x => by kernel_rfl
end surveyorref22_Above
namespace surveyorref22_Negative
def f (lf : Nat) (a0 : TI) : Option (TI × Unit) :=
 br a0.1 (
 some (a0, ())) (
 bd (surveyorref01_Negated.f lf a0.2.2.1) fun r1 =>
 bd (surveyorref22_Class.f lf a0.2.1 r1.1) fun r2 =>
 some (r2.1, ()))
def E (lf : Nat) : Entry := ⟨[yI], [yI], fun x => f lf x.1⟩
theorem ok (lf : Nat) : Ok 171 (E lf) := okT (an := (annsL [])) (lf := lf) (tC (surveyorref22_Class.ok lf) (tC (surveyorref01_Negated.ok lf) tN)) aoN fun x => by kernel_rfl
end surveyorref22_Negative
namespace surveyorref22_Below
def f (lf : Nat) (a0 : TI) (a1 : ByteArray) : Option (ByteArray × Bool × Unit) :=
 bd (surveyorref22_Negative.f lf a0) fun r1 =>
 bd (surveyorref01_Negated.f lf a1) fun r2 =>
 bd (surveyorref22_Above.f lf r1.1 r2.1) fun r3 =>
 br (!r3.2.1) (
 some ((⟨#[]⟩ : ByteArray), false, ())) (
 bd (surveyorref01_Negated.f lf r3.1) fun r4 =>
 some (r4.1, true, ()))
def E (lf : Nat) : Entry := ⟨[yI, .str], [.str, .bool], fun x => f lf x.1 x.2.1⟩
theorem ok (lf : Nat) : Ok 113 (E lf) := okT (an := (annsL [])) (lf := lf) (tC (surveyorref22_Above.ok lf) (tC (surveyorref22_Negative.ok lf) (tC (surveyorref01_Negated.ok lf) tN))) aoN fun x => by kernel_rfl
end surveyorref22_Below
namespace surveyorref22_Divides
def f (lf : Nat) (a0 : ByteArray) (a1 : ByteArray) : Option (Bool × Unit) :=
 br (a0.toList == (⟨#[48]⟩ : ByteArray).toList) (
 some ((a1.toList == (⟨#[48]⟩ : ByteArray).toList), ())) (
 bd (surveyorref01_Rest.f lf a1 a0) fun r1 =>
 some ((r1.1.toList == (⟨#[48]⟩ : ByteArray).toList), ()))
def E (lf : Nat) : Entry := ⟨[.str, .str], [.bool], fun x => f lf x.1 x.2.1⟩
theorem ok (lf : Nat) : Ok 156 (E lf) := okT (an := (annsL [])) (lf := lf) (tC (surveyorref01_Rest.ok lf) tN) aoN fun x => by kernel_rfl
end surveyorref22_Divides
namespace surveyorref22_In
def f (lf : Nat) (a0 : TI) (a1 : ByteArray) : Option (Bool × Unit) :=
 br (!a0.1) (
 bd (surveyorref01_Diff.f lf a1 a0.2.2.1) fun r1 =>
 bd (surveyorref22_Divides.f lf a0.2.1 r1.1) fun r2 =>
 some (r2.1, ())) (
 some (false, ()))
def E (lf : Nat) : Entry := ⟨[yI, .str], [.bool], fun x => f lf x.1 x.2.1⟩
theorem ok (lf : Nat) : Ok 99 (E lf) := okT (an := (annsL [])) (lf := lf) (tC (surveyorref22_Divides.ok lf) (tC (surveyorref01_Diff.ok lf) tN)) aoN fun x => by kernel_rfl
end surveyorref22_In
end
end Go.Q
namespace Go.Q
open Go Go.RowKit
open Go.Rx (br bd sIdx sCat sCut iQuo iRem iShl)
noncomputable section
namespace value_parts
def f (lf : Nat) (a0 : TI) (a1 : TI) : Option (Int × Unit) :=
 bd (interval_Check.f lf a0) fun r1 =>
 br (r1.1 != 0) (
 some (r1.1, ())) (
 bd (congruence_Check.f lf a1) fun r2 =>
 some (r2.1, ()))
def E (lf : Nat) : Entry := ⟨[yI, yI], [(.int .i64)], fun x => f lf x.1 x.2.1⟩
theorem ok (lf : Nat) : Ok 69 (E lf) := okT (an := (annsL [])) (lf := lf) (tC (interval_Check.ok lf) (tC (congruence_Check.ok lf) tN)) aoN fun x => by kernel_rfl
end value_parts
namespace value_one
def f (lf : Nat) (a0 : ByteArray) : Option (TV × Unit) :=
 some (((false, a0, a0, ()), (false, (⟨#[48]⟩ : ByteArray), a0, ()), ()), ())
def E (lf : Nat) : Entry := ⟨[.str], [yV], fun x => f lf x.1⟩
theorem ok (lf : Nat) : Ok 102 (E lf) := okT (an := (annsL [])) (lf := lf) tN aoN fun x => by kernel_rfl
end value_one
namespace value_empty
def f (lf : Nat)  : Option (TV × Unit) :=
 some (((true, (⟨#[]⟩ : ByteArray), (⟨#[]⟩ : ByteArray), ()), (true, (⟨#[]⟩ : ByteArray), (⟨#[]⟩ : ByteArray), ()), ()), ())
def E (lf : Nat) : Entry := ⟨[], [yV], fun x => f lf ⟩
theorem ok (lf : Nat) : Ok 132 (E lf) := okT (an := (annsL [])) (lf := lf) tN aoN fun x => by kernel_rfl
end value_empty
namespace value_clip
def f (lf : Nat) (a0 : ByteArray) : Option (ByteArray × Unit) :=
 bd (strings_TrimPrefix.f lf a0 (⟨#[45]⟩ : ByteArray)) fun r1 =>
 br (decide (((r1.1.size : Nat) : Int) > 100)) (
 some ((⟨#[]⟩ : ByteArray), ())) (
 some (a0, ()))
def E (lf : Nat) : Entry := ⟨[.str], [.str], fun x => f lf x.1⟩
theorem ok (lf : Nat) : Ok 101 (E lf) := okT (an := (annsL [])) (lf := lf) (tC (strings_TrimPrefix.ok lf) tN) aoN fun x => by kernel_rfl
end value_clip
namespace value_reduced
def f (lf : Nat) (a0 : TI) (a1 : TI) : Option (TV × Unit) :=
 br a0.1 (
 bd (value_empty.f lf) fun r1 =>
 some (r1.1, ())) (
 br a1.1 (
 bd (value_empty.f lf) fun r2 =>
 some (r2.1, ())) (
 br (a1.2.1.toList == (⟨#[48]⟩ : ByteArray).toList) (
 bd (interval_Holds.f lf a0 a1.2.2.1) fun r3 =>
 br (!r3.1) (
 bd (value_empty.f lf) fun r4 =>
 some (r4.1, ())) (
 bd (value_one.f lf a1.2.2.1) fun r5 =>
 some (r5.1, ()))) (
 br (!(a0.2.1.toList == (⟨#[]⟩ : ByteArray).toList)) (
 bd (congruence_Least.f lf a1 a0.2.1) fun r6 =>
 br (!(a0.2.2.1.toList == (⟨#[]⟩ : ByteArray).toList)) (
 bd (congruence_Greatest.f lf a1 a0.2.2.1) fun r7 =>
 br (!(r6.1.toList == (⟨#[]⟩ : ByteArray).toList)) (
 br (!(r7.1.toList == (⟨#[]⟩ : ByteArray).toList)) (
 bd (bigint_Compare.f lf r6.1 r7.1) fun r8 =>
 br (decide (r8.1 > 0)) (
 bd (value_empty.f lf) fun r9 =>
 some (r9.1, ())) (
 br (r8.1 == 0) (
 bd (value_one.f lf r6.1) fun r10 =>
 some (r10.1, ())) (
 bd (value_clip.f lf r6.1) fun r11 =>
 bd (value_clip.f lf r7.1) fun r12 =>
 some (((false, r11.1, r12.1, ()), a1, ()), ())))) (
 bd (value_clip.f lf r6.1) fun r13 =>
 bd (value_clip.f lf r7.1) fun r14 =>
 some (((false, r13.1, r14.1, ()), a1, ()), ()))) (
 bd (value_clip.f lf r6.1) fun r15 =>
 bd (value_clip.f lf r7.1) fun r16 =>
 some (((false, r15.1, r16.1, ()), a1, ()), ()))) (
 br (!(r6.1.toList == (⟨#[]⟩ : ByteArray).toList)) (
 br (!(a0.2.2.1.toList == (⟨#[]⟩ : ByteArray).toList)) (
 bd (bigint_Compare.f lf r6.1 a0.2.2.1) fun r17 =>
 br (decide (r17.1 > 0)) (
 bd (value_empty.f lf) fun r18 =>
 some (r18.1, ())) (
 br (r17.1 == 0) (
 bd (value_one.f lf r6.1) fun r19 =>
 some (r19.1, ())) (
 bd (value_clip.f lf r6.1) fun r20 =>
 bd (value_clip.f lf a0.2.2.1) fun r21 =>
 some (((false, r20.1, r21.1, ()), a1, ()), ())))) (
 bd (value_clip.f lf r6.1) fun r22 =>
 bd (value_clip.f lf a0.2.2.1) fun r23 =>
 some (((false, r22.1, r23.1, ()), a1, ()), ()))) (
 bd (value_clip.f lf r6.1) fun r24 =>
 bd (value_clip.f lf a0.2.2.1) fun r25 =>
 some (((false, r24.1, r25.1, ()), a1, ()), ())))) (
 br (!(a0.2.2.1.toList == (⟨#[]⟩ : ByteArray).toList)) (
 bd (congruence_Greatest.f lf a1 a0.2.2.1) fun r26 =>
 br (!(a0.2.1.toList == (⟨#[]⟩ : ByteArray).toList)) (
 br (!(r26.1.toList == (⟨#[]⟩ : ByteArray).toList)) (
 bd (bigint_Compare.f lf a0.2.1 r26.1) fun r27 =>
 br (decide (r27.1 > 0)) (
 bd (value_empty.f lf) fun r28 =>
 some (r28.1, ())) (
 br (r27.1 == 0) (
 bd (value_one.f lf a0.2.1) fun r29 =>
 some (r29.1, ())) (
 bd (value_clip.f lf a0.2.1) fun r30 =>
 bd (value_clip.f lf r26.1) fun r31 =>
 some (((false, r30.1, r31.1, ()), a1, ()), ())))) (
 bd (value_clip.f lf a0.2.1) fun r32 =>
 bd (value_clip.f lf r26.1) fun r33 =>
 some (((false, r32.1, r33.1, ()), a1, ()), ()))) (
 bd (value_clip.f lf a0.2.1) fun r34 =>
 bd (value_clip.f lf r26.1) fun r35 =>
 some (((false, r34.1, r35.1, ()), a1, ()), ()))) (
 br (!(a0.2.1.toList == (⟨#[]⟩ : ByteArray).toList)) (
 br (!(a0.2.2.1.toList == (⟨#[]⟩ : ByteArray).toList)) (
 bd (bigint_Compare.f lf a0.2.1 a0.2.2.1) fun r36 =>
 br (decide (r36.1 > 0)) (
 bd (value_empty.f lf) fun r37 =>
 some (r37.1, ())) (
 br (r36.1 == 0) (
 bd (value_one.f lf a0.2.1) fun r38 =>
 some (r38.1, ())) (
 bd (value_clip.f lf a0.2.1) fun r39 =>
 bd (value_clip.f lf a0.2.2.1) fun r40 =>
 some (((false, r39.1, r40.1, ()), a1, ()), ())))) (
 bd (value_clip.f lf a0.2.1) fun r41 =>
 bd (value_clip.f lf a0.2.2.1) fun r42 =>
 some (((false, r41.1, r42.1, ()), a1, ()), ()))) (
 bd (value_clip.f lf a0.2.1) fun r43 =>
 bd (value_clip.f lf a0.2.2.1) fun r44 =>
 some (((false, r43.1, r44.1, ()), a1, ()), ())))))))
def E (lf : Nat) : Entry := ⟨[yI, yI], [yV], fun x => f lf x.1 x.2.1⟩
theorem ok (lf : Nat) : Ok 70 (E lf) := okT (an := (annsL [])) (lf := lf) (tC (interval_Holds.ok lf) (tC (value_clip.ok lf) (tC (value_one.ok lf) (tC (value_empty.ok lf) (tC (congruence_Least.ok lf) (tC (congruence_Greatest.ok lf) (tC (bigint_Compare.ok lf) tN))))))) aoN fun x => by kernel_rfl
end value_reduced
namespace value_Check
def f (lf : Nat) (a0 : TV) : Option (Int × Unit) :=
 bd (value_parts.f lf a0.1 a0.2.1) fun r1 =>
 br (r1.1 != 0) (
 some (r1.1, ())) (
 bd (value_reduced.f lf a0.1 a0.2.1) fun r2 =>
 bd (some (!(((r2.1.1.1 == a0.1.1) && ((r2.1.1.2.1 == a0.1.2.1) && ((r2.1.1.2.2.1 == a0.1.2.2.1) && true))) && (((r2.1.2.1.1 == a0.2.1.1) && ((r2.1.2.1.2.1 == a0.2.1.2.1) && ((r2.1.2.1.2.2.1 == a0.2.1.2.2.1) && true))) && true)))) fun r3 =>
 br r3 (
 some (3, ())) (
 some (0, ())))
def E (lf : Nat) : Entry := ⟨[yV], [(.int .i64)], fun x => f lf x.1⟩
theorem ok (lf : Nat) : Ok 39 (E lf) := okT (an := (annsL [])) (lf := lf) (tC (value_parts.ok lf) (tC (value_reduced.ok lf) tN)) aoN fun x => by kernel_rfl
end value_Check
namespace value_Holds
def f (lf : Nat) (a0 : TV) (a1 : ByteArray) : Option (Bool × Int × Unit) :=
 bd (value_Check.f lf a0) fun r1 =>
 br (r1.1 != 0) (
 some (false, r1.1, ())) (
 bd (interval_Holds.f lf a0.1 a1) fun r2 =>
 br (r2.2.1 != 0) (
 some (false, r2.2.1, ())) (
 bd (congruence_Holds.f lf a0.2.1 a1) fun r3 =>
 br r2.1 (
 br r3.1 (
 some ((r3.2.1 == 0), r3.2.1, ())) (
 some (false, r3.2.1, ()))) (
 some (false, r3.2.1, ()))))
def E (lf : Nat) : Entry := ⟨[yV, .str], [.bool, (.int .i64)], fun x => f lf x.1 x.2.1⟩
theorem ok (lf : Nat) : Ok 30 (E lf) := okT (an := (annsL [])) (lf := lf) (tC (value_Check.ok lf) (tC (interval_Holds.ok lf) (tC (congruence_Holds.ok lf) tN))) aoN fun x => by kernel_rfl
end value_Holds
namespace value_Top
def f (lf : Nat)  : Option (TV × Unit) :=
 some (((false, (⟨#[]⟩ : ByteArray), (⟨#[]⟩ : ByteArray), ()), (false, (⟨#[49]⟩ : ByteArray), (⟨#[48]⟩ : ByteArray), ()), ()), ())
def E (lf : Nat) : Entry := ⟨[], [yV], fun x => f lf ⟩
theorem ok (lf : Nat) : Ok 34 (E lf) := okT (an := (annsL [])) (lf := lf) tN aoN fun x => by kernel_rfl
end value_Top
namespace value_Of
def f (lf : Nat) (a0 : ByteArray) : Option (TV × Int × Unit) :=
 bd (bigint_Check.f lf a0) fun r1 =>
 br (r1.1 != 0) (
 some (((false, (⟨#[]⟩ : ByteArray), (⟨#[]⟩ : ByteArray), ()), (false, (⟨#[]⟩ : ByteArray), (⟨#[]⟩ : ByteArray), ()), ()), r1.1, ())) (
 bd (value_clip.f lf a0) fun r2 =>
 br (r2.1.toList == (⟨#[]⟩ : ByteArray).toList) (
 bd (value_Top.f lf) fun r3 =>
 some (r3.1, 0, ())) (
 bd (value_one.f lf a0) fun r4 =>
 some (r4.1, 0, ())))
def E (lf : Nat) : Entry := ⟨[.str], [yV, (.int .i64)], fun x => f lf x.1⟩
theorem ok (lf : Nat) : Ok 67 (E lf) := okT (an := (annsL [])) (lf := lf) (tC (value_Top.ok lf) (tC (bigint_Check.ok lf) (tC (value_clip.ok lf) (tC (value_one.ok lf) tN)))) aoN fun x => by kernel_rfl
end value_Of
namespace value_checks
def f (lf : Nat) (a0 : TV) (a1 : TV) : Option (Int × Unit) :=
 bd (value_Check.f lf a0) fun r1 =>
 br (r1.1 != 0) (
 some (r1.1, ())) (
 bd (value_Check.f lf a1) fun r2 =>
 some (r2.1, ()))
def E (lf : Nat) : Entry := ⟨[yV, yV], [(.int .i64)], fun x => f lf x.1 x.2.1⟩
theorem ok (lf : Nat) : Ok 130 (E lf) := okT (an := (annsL [])) (lf := lf) (tC (value_Check.ok lf) tN) aoN fun x => by kernel_rfl
end value_checks
namespace value_Join
def f (lf : Nat) (a0 : TV) (a1 : TV) : Option (TV × Int × Unit) :=
 bd (value_checks.f lf a0 a1) fun r1 =>
 br (r1.1 != 0) (
 some (((false, (⟨#[]⟩ : ByteArray), (⟨#[]⟩ : ByteArray), ()), (false, (⟨#[]⟩ : ByteArray), (⟨#[]⟩ : ByteArray), ()), ()), r1.1, ())) (
 bd (interval_Join.f lf a0.1 a1.1) fun r2 =>
 br (r2.2.1 != 0) (
 some (((false, (⟨#[]⟩ : ByteArray), (⟨#[]⟩ : ByteArray), ()), (false, (⟨#[]⟩ : ByteArray), (⟨#[]⟩ : ByteArray), ()), ()), r2.2.1, ())) (
 bd (congruence_Join.f lf a0.2.1 a1.2.1) fun r3 =>
 br (r3.2.1 != 0) (
 some (((false, (⟨#[]⟩ : ByteArray), (⟨#[]⟩ : ByteArray), ()), (false, (⟨#[]⟩ : ByteArray), (⟨#[]⟩ : ByteArray), ()), ()), r3.2.1, ())) (
 bd (value_reduced.f lf r2.1 r3.1) fun r4 =>
 some (r4.1, 0, ()))))
def E (lf : Nat) : Entry := ⟨[yV, yV], [yV, (.int .i64)], fun x => f lf x.1 x.2.1⟩
theorem ok (lf : Nat) : Ok 137 (E lf) := okT (an := (annsL [])) (lf := lf) (tC (value_reduced.ok lf) (tC (value_checks.ok lf) (tC (interval_Join.ok lf) (tC (congruence_Join.ok lf) tN)))) aoN fun x => by kernel_rfl
end value_Join
namespace value_Meet
def f (lf : Nat) (a0 : TV) (a1 : TV) : Option (TV × Int × Unit) :=
 bd (value_checks.f lf a0 a1) fun r1 =>
 br (r1.1 != 0) (
 some (((false, (⟨#[]⟩ : ByteArray), (⟨#[]⟩ : ByteArray), ()), (false, (⟨#[]⟩ : ByteArray), (⟨#[]⟩ : ByteArray), ()), ()), r1.1, ())) (
 bd (interval_Meet.f lf a0.1 a1.1) fun r2 =>
 br (r2.2.1 != 0) (
 some (((false, (⟨#[]⟩ : ByteArray), (⟨#[]⟩ : ByteArray), ()), (false, (⟨#[]⟩ : ByteArray), (⟨#[]⟩ : ByteArray), ()), ()), r2.2.1, ())) (
 bd (congruence_Meet.f lf a0.2.1 a1.2.1) fun r3 =>
 br (r3.2.1 != 0) (
 some (((false, (⟨#[]⟩ : ByteArray), (⟨#[]⟩ : ByteArray), ()), (false, (⟨#[]⟩ : ByteArray), (⟨#[]⟩ : ByteArray), ()), ()), r3.2.1, ())) (
 bd (value_reduced.f lf r2.1 r3.1) fun r4 =>
 some (r4.1, 0, ()))))
def E (lf : Nat) : Entry := ⟨[yV, yV], [yV, (.int .i64)], fun x => f lf x.1 x.2.1⟩
theorem ok (lf : Nat) : Ok 57 (E lf) := okT (an := (annsL [])) (lf := lf) (tC (value_reduced.ok lf) (tC (interval_Meet.ok lf) (tC (congruence_Meet.ok lf) (tC (value_checks.ok lf) tN)))) aoN fun x => by kernel_rfl
end value_Meet
namespace value_Make
def l : List ((TI × TI × Unit) × (TV × Int × Unit)) := [(((false, ck_c.c59, ck_c.c37, ()), (false, ck_c.c5, ck_c.c8, ()), ()), (ck_c.c60, 0, ()))]
def f (lf : Nat) (a0 : TI) (a1 : TI) : Option (TV × Int × Unit) := pick [yI, yI] l (a0, a1, ())
def E (lf : Nat) : Entry := ⟨[yI, yI], [yV, (.int .i64)], fun x => f lf x.1 x.2.1⟩
def tb (lf : Nat) : List (FuncId × Entry) := [(69, value_parts.E lf), (70, value_reduced.E lf)]
abbrev an : FuncId → FA := annsL []
theorem ok (lf : Nat) : Ok 275 (E lf) := okP (an := an) (tb := tb lf) (lf := lf) (tC (value_parts.ok lf) (tC (value_reduced.ok lf) tN)) aoN (l := l) (fun _ => rfl) (fun _ => rfl) ⟨by as_aux_lemma => kernel_rfl, trivial⟩
end value_Make
namespace value_Single
def l : List ((TV × Unit) × (ByteArray × Bool × Int × Unit)) := [((ck_c.c14, ()), (ck_c.c2, true, 0, ()))]
def f (lf : Nat) (a0 : TV) : Option (ByteArray × Bool × Int × Unit) := pick [yV] l (a0, ())
def E (lf : Nat) : Entry := ⟨[yV], [.str, .bool, (.int .i64)], fun x => f lf x.1⟩
def tb (lf : Nat) : List (FuncId × Entry) := [(39, value_Check.E lf)]
abbrev an : FuncId → FA := annsL []
theorem ok (lf : Nat) : Ok 206 (E lf) := okP (an := an) (tb := tb lf) (lf := lf) (tC (value_Check.ok lf) tN) aoN (l := l) (fun _ => rfl) (fun _ => rfl) ⟨by as_aux_lemma => kernel_rfl, trivial⟩
end value_Single
end
end Go.Q
namespace Go.Q
open Go Go.RowKit
open Go.Rx (br bd sIdx sCat sCut iQuo iRem iShl)
noncomputable section
namespace value_Apply
def l : List ((Int × TV × TV × Unit) × (TV × Int × Unit)) := [((5, ck_c.c10, ck_c.c14, ()), (ck_c.c16, 0, ())), ((3, ck_c.c16, ck_c.c17, ()), (ck_c.c19, 0, ())), ((6, ck_c.c10, ck_c.c12, ()), (ck_c.c22, 0, ())), ((3, ck_c.c10, ck_c.c12, ()), (ck_c.c28, 0, ())), ((4, ck_c.c12, ck_c.c12, ()), (ck_c.c31, 0, ())), ((4, ck_c.c12, ck_c.c10, ()), (ck_c.c34, 0, ())), ((5, ck_c.c14, ck_c.c10, ()), (ck_c.c16, 0, ())), ((6, ck_c.c10, ck_c.c14, ()), (ck_c.c22, 0, ())), ((4, ck_c.c10, ck_c.c17, ()), (ck_c.c65, 0, ())), ((3, ck_c.c12, ck_c.c17, ()), (ck_c.c66, 0, ())), ((4, ck_c.c10, ck_c.c12, ()), (ck_c.c68, 0, ()))]
def f (lf : Nat) (a0 : Int) (a1 : TV) (a2 : TV) : Option (TV × Int × Unit) := pick [(.int .i64), yV, yV] l (a0, a1, a2, ())
def E (lf : Nat) : Entry := ⟨[(.int .i64), yV, yV], [yV, (.int .i64)], fun x => f lf x.1 x.2.1 x.2.2.1⟩
def tb (lf : Nat) : List (FuncId × Entry) := [(70, value_reduced.E lf), (89, interval_Check.E lf), (91, interval_of.E lf), (92, interval_finite.E lf), (93, interval_compare.E lf), (95, api_Int.E lf), (96, bigint_Rem.E lf), (130, value_checks.E lf), (144, interval_span_common.E lf), (148, interval_order.E lf), (151, interval_none.E lf), (152, interval_infinite.E lf), (176, interval_span_interval.E lf), (180, congruence_class.E lf), (181, congruence_gcd.E lf), (182, congruence_add.E lf), (185, congruence_sub.E lf), (189, congruence_mul.E lf), (198, interval_span_empty.E lf), (210, bigint_Quo.E lf), (212, bigint_Mul.E lf), (213, bigint_Sub.E lf), (214, bigint_Add.E lf), (217, interval_least.E lf), (219, congruence_divides.E lf), (220, congruence_none.E lf), (223, congruence_both.E lf), (258, congruence_Top.E lf), (262, interval_span_hull.E lf)]
abbrev an : FuncId → FA := annsL [(187, ⟨annOf [(0, ⟨kx 35 [3, 7], [], []⟩, ⟨[], [], []⟩)], none, []⟩)]
theorem ok (lf : Nat) : Ok 79 (E lf) := okP (an := an) (tb := tb lf) (lf := lf) (tC (value_reduced.ok lf) (tC (interval_Check.ok lf) (tC (interval_of.ok lf) (tC (interval_finite.ok lf) (tC (interval_compare.ok lf) (tC (api_Int.ok lf) (tC (bigint_Rem.ok lf) (tC (value_checks.ok lf) (tC (interval_span_common.ok lf) (tC (interval_order.ok lf) (tC (interval_none.ok lf) (tC (interval_infinite.ok lf) (tC (interval_span_interval.ok lf) (tC (congruence_class.ok lf) (tC (congruence_gcd.ok lf) (tC (congruence_add.ok lf) (tC (congruence_sub.ok lf) (tC (congruence_mul.ok lf) (tC (interval_span_empty.ok lf) (tC (bigint_Quo.ok lf) (tC (bigint_Mul.ok lf) (tC (bigint_Sub.ok lf) (tC (bigint_Add.ok lf) (tC (interval_least.ok lf) (tC (congruence_divides.ok lf) (tC (congruence_none.ok lf) (tC (congruence_both.ok lf) (tC (congruence_Top.ok lf) (tC (interval_span_hull.ok lf) tN))))))))))))))))))))))))))))) (aoC aoN) (l := l) (fun _ => rfl) (fun _ => rfl) ⟨by as_aux_lemma => kernel_rfl, by as_aux_lemma => kernel_rfl, by as_aux_lemma => kernel_rfl, by as_aux_lemma => kernel_rfl, by as_aux_lemma => kernel_rfl, by as_aux_lemma => kernel_rfl, by as_aux_lemma => kernel_rfl, by as_aux_lemma => kernel_rfl, by as_aux_lemma => kernel_rfl, by as_aux_lemma => kernel_rfl, by as_aux_lemma => kernel_rfl, trivial⟩
end value_Apply
namespace value_Refine
def l : List ((Int × TV × TV × Unit) × (TV × TV × Int × Unit)) := [((4, ck_c.c28, ck_c.c29, ()), (ck_c.c12, ck_c.c29, 0, ())), ((2, ck_c.c16, ck_c.c39, ()), (ck_c.c40, ck_c.c40, 0, ())), ((4, ck_c.c10, ck_c.c44, ()), (ck_c.c40, ck_c.c40, 0, ())), ((4, ck_c.c44, ck_c.c10, ()), (ck_c.c44, ck_c.c45, 0, ())), ((4, ck_c.c10, ck_c.c14, ()), (ck_c.c50, ck_c.c14, 0, ())), ((4, ck_c.c39, ck_c.c10, ()), (ck_c.c39, ck_c.c53, 0, ()))]
def f (lf : Nat) (a0 : Int) (a1 : TV) (a2 : TV) : Option (TV × TV × Int × Unit) := pick [(.int .i64), yV, yV] l (a0, a1, a2, ())
def E (lf : Nat) : Entry := ⟨[(.int .i64), yV, yV], [yV, yV, (.int .i64)], fun x => f lf x.1 x.2.1 x.2.2.1⟩
def tb (lf : Nat) : List (FuncId × Entry) := [(57, value_Meet.E lf), (70, value_reduced.E lf), (89, interval_Check.E lf), (91, interval_of.E lf), (92, interval_finite.E lf), (130, value_checks.E lf), (132, value_empty.E lf), (144, interval_span_common.E lf), (151, interval_none.E lf), (176, interval_span_interval.E lf), (198, interval_span_empty.E lf), (213, bigint_Sub.E lf), (214, bigint_Add.E lf), (216, interval_most.E lf), (217, interval_least.E lf)]
abbrev an : FuncId → FA := annsL []
theorem ok (lf : Nat) : Ok 81 (E lf) := okP (an := an) (tb := tb lf) (lf := lf) (tC (value_Meet.ok lf) (tC (value_reduced.ok lf) (tC (interval_Check.ok lf) (tC (interval_of.ok lf) (tC (interval_finite.ok lf) (tC (value_checks.ok lf) (tC (value_empty.ok lf) (tC (interval_span_common.ok lf) (tC (interval_none.ok lf) (tC (interval_span_interval.ok lf) (tC (interval_span_empty.ok lf) (tC (bigint_Sub.ok lf) (tC (bigint_Add.ok lf) (tC (interval_most.ok lf) (tC (interval_least.ok lf) tN))))))))))))))) aoN (l := l) (fun _ => rfl) (fun _ => rfl) ⟨by as_aux_lemma => kernel_rfl, by as_aux_lemma => kernel_rfl, by as_aux_lemma => kernel_rfl, by as_aux_lemma => kernel_rfl, by as_aux_lemma => kernel_rfl, by as_aux_lemma => kernel_rfl, trivial⟩
end value_Refine
end
end Go.Q
