import Derived.Test.YthfphcemoehllaaGreatDoorProg
import Derived.KernelRfl
import Derived.Test.YthfphcemoehllaaGreatDoorCtG1
import Derived.Test.YthfphcemoehllaaGreatDoorCtG3
import Derived.Test.YthfphcemoehllaaGreatDoorCtG4
import Derived.Test.YthfphcemoehllaaGreatDoorE3
set_option linter.unusedVariables false
set_option linter.unusedSimpArgs false
set_option linter.unusedSectionVars false
namespace Go.Q
open Go Go.RowKit
open Go.Rx (br bd sIdx sCat sCut iQuo iRem)
set_option linter.unusedVariables false
set_option linter.unusedSimpArgs false
set_option maxRecDepth 100000
noncomputable section
namespace interval_Refine
noncomputable def f (lf : Nat) (a0 : Int) (a1 : Bool × (ByteArray × (ByteArray × Unit))) (a2 : Bool × (ByteArray × (ByteArray × Unit))) : Option ((Bool × (ByteArray × (ByteArray × Unit))) × (Bool × (ByteArray × (ByteArray × Unit))) × Int × Unit) :=
 br (a0 == 2) (
 bd (interval_Check.f lf a1) fun r1 =>
 br (r1.1 != 0) (
 br (r1.1 != 0) (
 some ((false, (⟨#[]⟩ : ByteArray), (⟨#[]⟩ : ByteArray), ()), (false, (⟨#[]⟩ : ByteArray), (⟨#[]⟩ : ByteArray), ()), r1.1, ())) (
 bd (interval_of.f lf a1) fun r2 =>
 bd (interval_of.f lf a2) fun r3 =>
 bd (interval_span_empty.f lf r2.1) fun r4 =>
 br r4.1 (
 bd (interval_none.f lf) fun r5 =>
 bd (interval_span_interval.f lf r5.1) fun r6 =>
 bd (interval_none.f lf) fun r7 =>
 bd (interval_span_interval.f lf r7.1) fun r8 =>
 some (r6.1, r8.1, 0, ())) (
 bd (interval_span_empty.f lf r3.1) fun r9 =>
 br r9.1 (
 bd (interval_none.f lf) fun r10 =>
 bd (interval_span_interval.f lf r10.1) fun r11 =>
 bd (interval_none.f lf) fun r12 =>
 bd (interval_span_interval.f lf r12.1) fun r13 =>
 some (r11.1, r13.1, 0, ())) (
 bd (interval_comparisons_2.f lf r2.1 r3.1) fun r14 =>
 bd (interval_span_empty.f lf r14.1) fun r15 =>
 br r15.1 (
 bd (interval_none.f lf) fun r16 =>
 bd (interval_none.f lf) fun r17 =>
 bd (interval_span_interval.f lf r16.1) fun r18 =>
 bd (interval_span_interval.f lf r17.1) fun r19 =>
 some (r18.1, r19.1, 0, ())) (
 bd (interval_span_empty.f lf r14.2.1) fun r20 =>
 br r20.1 (
 bd (interval_none.f lf) fun r21 =>
 bd (interval_none.f lf) fun r22 =>
 bd (interval_span_interval.f lf r21.1) fun r23 =>
 bd (interval_span_interval.f lf r22.1) fun r24 =>
 some (r23.1, r24.1, 0, ())) (
 bd (interval_span_interval.f lf r14.1) fun r25 =>
 bd (interval_span_interval.f lf r14.2.1) fun r26 =>
 some (r25.1, r26.1, 0, ()))))))) (
 bd (interval_Check.f lf a2) fun r27 =>
 br (r27.1 != 0) (
 br (r27.1 != 0) (
 some ((false, (⟨#[]⟩ : ByteArray), (⟨#[]⟩ : ByteArray), ()), (false, (⟨#[]⟩ : ByteArray), (⟨#[]⟩ : ByteArray), ()), r27.1, ())) (
 bd (interval_of.f lf a1) fun r28 =>
 bd (interval_of.f lf a2) fun r29 =>
 bd (interval_span_empty.f lf r28.1) fun r30 =>
 br r30.1 (
 bd (interval_none.f lf) fun r31 =>
 bd (interval_span_interval.f lf r31.1) fun r32 =>
 bd (interval_none.f lf) fun r33 =>
 bd (interval_span_interval.f lf r33.1) fun r34 =>
 some (r32.1, r34.1, 0, ())) (
 bd (interval_span_empty.f lf r29.1) fun r35 =>
 br r35.1 (
 bd (interval_none.f lf) fun r36 =>
 bd (interval_span_interval.f lf r36.1) fun r37 =>
 bd (interval_none.f lf) fun r38 =>
 bd (interval_span_interval.f lf r38.1) fun r39 =>
 some (r37.1, r39.1, 0, ())) (
 bd (interval_comparisons_2.f lf r28.1 r29.1) fun r40 =>
 bd (interval_span_empty.f lf r40.1) fun r41 =>
 br r41.1 (
 bd (interval_none.f lf) fun r42 =>
 bd (interval_none.f lf) fun r43 =>
 bd (interval_span_interval.f lf r42.1) fun r44 =>
 bd (interval_span_interval.f lf r43.1) fun r45 =>
 some (r44.1, r45.1, 0, ())) (
 bd (interval_span_empty.f lf r40.2.1) fun r46 =>
 br r46.1 (
 bd (interval_none.f lf) fun r47 =>
 bd (interval_none.f lf) fun r48 =>
 bd (interval_span_interval.f lf r47.1) fun r49 =>
 bd (interval_span_interval.f lf r48.1) fun r50 =>
 some (r49.1, r50.1, 0, ())) (
 bd (interval_span_interval.f lf r40.1) fun r51 =>
 bd (interval_span_interval.f lf r40.2.1) fun r52 =>
 some (r51.1, r52.1, 0, ()))))))) (
 bd (interval_of.f lf a1) fun r53 =>
 bd (interval_of.f lf a2) fun r54 =>
 bd (interval_span_empty.f lf r53.1) fun r55 =>
 br r55.1 (
 bd (interval_none.f lf) fun r56 =>
 bd (interval_span_interval.f lf r56.1) fun r57 =>
 bd (interval_none.f lf) fun r58 =>
 bd (interval_span_interval.f lf r58.1) fun r59 =>
 some (r57.1, r59.1, 0, ())) (
 bd (interval_span_empty.f lf r54.1) fun r60 =>
 br r60.1 (
 bd (interval_none.f lf) fun r61 =>
 bd (interval_span_interval.f lf r61.1) fun r62 =>
 bd (interval_none.f lf) fun r63 =>
 bd (interval_span_interval.f lf r63.1) fun r64 =>
 some (r62.1, r64.1, 0, ())) (
 bd (interval_comparisons_2.f lf r53.1 r54.1) fun r65 =>
 bd (interval_span_empty.f lf r65.1) fun r66 =>
 br r66.1 (
 bd (interval_none.f lf) fun r67 =>
 bd (interval_none.f lf) fun r68 =>
 bd (interval_span_interval.f lf r67.1) fun r69 =>
 bd (interval_span_interval.f lf r68.1) fun r70 =>
 some (r69.1, r70.1, 0, ())) (
 bd (interval_span_empty.f lf r65.2.1) fun r71 =>
 br r71.1 (
 bd (interval_none.f lf) fun r72 =>
 bd (interval_none.f lf) fun r73 =>
 bd (interval_span_interval.f lf r72.1) fun r74 =>
 bd (interval_span_interval.f lf r73.1) fun r75 =>
 some (r74.1, r75.1, 0, ())) (
 bd (interval_span_interval.f lf r65.1) fun r76 =>
 bd (interval_span_interval.f lf r65.2.1) fun r77 =>
 some (r76.1, r77.1, 0, ())))))))) (
 br (a0 == 4) (
 bd (interval_Check.f lf a1) fun r78 =>
 br (r78.1 != 0) (
 br (r78.1 != 0) (
 some ((false, (⟨#[]⟩ : ByteArray), (⟨#[]⟩ : ByteArray), ()), (false, (⟨#[]⟩ : ByteArray), (⟨#[]⟩ : ByteArray), ()), r78.1, ())) (
 bd (interval_of.f lf a1) fun r79 =>
 bd (interval_of.f lf a2) fun r80 =>
 bd (interval_span_empty.f lf r79.1) fun r81 =>
 br r81.1 (
 bd (interval_none.f lf) fun r82 =>
 bd (interval_span_interval.f lf r82.1) fun r83 =>
 bd (interval_none.f lf) fun r84 =>
 bd (interval_span_interval.f lf r84.1) fun r85 =>
 some (r83.1, r85.1, 0, ())) (
 bd (interval_span_empty.f lf r80.1) fun r86 =>
 br r86.1 (
 bd (interval_none.f lf) fun r87 =>
 bd (interval_span_interval.f lf r87.1) fun r88 =>
 bd (interval_none.f lf) fun r89 =>
 bd (interval_span_interval.f lf r89.1) fun r90 =>
 some (r88.1, r90.1, 0, ())) (
 bd (interval_negated.f lf (⟨#[49]⟩ : ByteArray)) fun r91 =>
 bd (interval_shifted.f lf r80.1.2.1 r91.1) fun r92 =>
 bd (interval_least.f lf r79.1.2.1 r92.1) fun r93 =>
 bd (interval_shifted.f lf r79.1.1 (⟨#[49]⟩ : ByteArray)) fun r94 =>
 bd (interval_most.f lf r80.1.1 r94.1) fun r95 =>
 bd (interval_span_empty.f lf (r79.1.1, r93.1, ())) fun r96 =>
 br r96.1 (
 bd (interval_none.f lf) fun r97 =>
 bd (interval_none.f lf) fun r98 =>
 bd (interval_span_interval.f lf r97.1) fun r99 =>
 bd (interval_span_interval.f lf r98.1) fun r100 =>
 some (r99.1, r100.1, 0, ())) (
 bd (interval_span_empty.f lf (r95.1, r80.1.2.1, ())) fun r101 =>
 br r101.1 (
 bd (interval_none.f lf) fun r102 =>
 bd (interval_none.f lf) fun r103 =>
 bd (interval_span_interval.f lf r102.1) fun r104 =>
 bd (interval_span_interval.f lf r103.1) fun r105 =>
 some (r104.1, r105.1, 0, ())) (
 bd (interval_span_interval.f lf (r79.1.1, r93.1, ())) fun r106 =>
 bd (interval_span_interval.f lf (r95.1, r80.1.2.1, ())) fun r107 =>
 some (r106.1, r107.1, 0, ()))))))) (
 bd (interval_Check.f lf a2) fun r108 =>
 br (r108.1 != 0) (
 br (r108.1 != 0) (
 some ((false, (⟨#[]⟩ : ByteArray), (⟨#[]⟩ : ByteArray), ()), (false, (⟨#[]⟩ : ByteArray), (⟨#[]⟩ : ByteArray), ()), r108.1, ())) (
 bd (interval_of.f lf a1) fun r109 =>
 bd (interval_of.f lf a2) fun r110 =>
 bd (interval_span_empty.f lf r109.1) fun r111 =>
 br r111.1 (
 bd (interval_none.f lf) fun r112 =>
 bd (interval_span_interval.f lf r112.1) fun r113 =>
 bd (interval_none.f lf) fun r114 =>
 bd (interval_span_interval.f lf r114.1) fun r115 =>
 some (r113.1, r115.1, 0, ())) (
 bd (interval_span_empty.f lf r110.1) fun r116 =>
 br r116.1 (
 bd (interval_none.f lf) fun r117 =>
 bd (interval_span_interval.f lf r117.1) fun r118 =>
 bd (interval_none.f lf) fun r119 =>
 bd (interval_span_interval.f lf r119.1) fun r120 =>
 some (r118.1, r120.1, 0, ())) (
 bd (interval_negated.f lf (⟨#[49]⟩ : ByteArray)) fun r121 =>
 bd (interval_shifted.f lf r110.1.2.1 r121.1) fun r122 =>
 bd (interval_least.f lf r109.1.2.1 r122.1) fun r123 =>
 bd (interval_shifted.f lf r109.1.1 (⟨#[49]⟩ : ByteArray)) fun r124 =>
 bd (interval_most.f lf r110.1.1 r124.1) fun r125 =>
 bd (interval_span_empty.f lf (r109.1.1, r123.1, ())) fun r126 =>
 br r126.1 (
 bd (interval_none.f lf) fun r127 =>
 bd (interval_none.f lf) fun r128 =>
 bd (interval_span_interval.f lf r127.1) fun r129 =>
 bd (interval_span_interval.f lf r128.1) fun r130 =>
 some (r129.1, r130.1, 0, ())) (
 bd (interval_span_empty.f lf (r125.1, r110.1.2.1, ())) fun r131 =>
 br r131.1 (
 bd (interval_none.f lf) fun r132 =>
 bd (interval_none.f lf) fun r133 =>
 bd (interval_span_interval.f lf r132.1) fun r134 =>
 bd (interval_span_interval.f lf r133.1) fun r135 =>
 some (r134.1, r135.1, 0, ())) (
 bd (interval_span_interval.f lf (r109.1.1, r123.1, ())) fun r136 =>
 bd (interval_span_interval.f lf (r125.1, r110.1.2.1, ())) fun r137 =>
 some (r136.1, r137.1, 0, ()))))))) (
 bd (interval_of.f lf a1) fun r138 =>
 bd (interval_of.f lf a2) fun r139 =>
 bd (interval_span_empty.f lf r138.1) fun r140 =>
 br r140.1 (
 bd (interval_none.f lf) fun r141 =>
 bd (interval_span_interval.f lf r141.1) fun r142 =>
 bd (interval_none.f lf) fun r143 =>
 bd (interval_span_interval.f lf r143.1) fun r144 =>
 some (r142.1, r144.1, 0, ())) (
 bd (interval_span_empty.f lf r139.1) fun r145 =>
 br r145.1 (
 bd (interval_none.f lf) fun r146 =>
 bd (interval_span_interval.f lf r146.1) fun r147 =>
 bd (interval_none.f lf) fun r148 =>
 bd (interval_span_interval.f lf r148.1) fun r149 =>
 some (r147.1, r149.1, 0, ())) (
 bd (interval_negated.f lf (⟨#[49]⟩ : ByteArray)) fun r150 =>
 bd (interval_shifted.f lf r139.1.2.1 r150.1) fun r151 =>
 bd (interval_least.f lf r138.1.2.1 r151.1) fun r152 =>
 bd (interval_shifted.f lf r138.1.1 (⟨#[49]⟩ : ByteArray)) fun r153 =>
 bd (interval_most.f lf r139.1.1 r153.1) fun r154 =>
 bd (interval_span_empty.f lf (r138.1.1, r152.1, ())) fun r155 =>
 br r155.1 (
 bd (interval_none.f lf) fun r156 =>
 bd (interval_none.f lf) fun r157 =>
 bd (interval_span_interval.f lf r156.1) fun r158 =>
 bd (interval_span_interval.f lf r157.1) fun r159 =>
 some (r158.1, r159.1, 0, ())) (
 bd (interval_span_empty.f lf (r154.1, r139.1.2.1, ())) fun r160 =>
 br r160.1 (
 bd (interval_none.f lf) fun r161 =>
 bd (interval_none.f lf) fun r162 =>
 bd (interval_span_interval.f lf r161.1) fun r163 =>
 bd (interval_span_interval.f lf r162.1) fun r164 =>
 some (r163.1, r164.1, 0, ())) (
 bd (interval_span_interval.f lf (r138.1.1, r152.1, ())) fun r165 =>
 bd (interval_span_interval.f lf (r154.1, r139.1.2.1, ())) fun r166 =>
 some (r165.1, r166.1, 0, ())))))))) (
 br (a0 == 5) (
 bd (interval_Check.f lf a1) fun r167 =>
 br (r167.1 != 0) (
 br (r167.1 != 0) (
 some ((false, (⟨#[]⟩ : ByteArray), (⟨#[]⟩ : ByteArray), ()), (false, (⟨#[]⟩ : ByteArray), (⟨#[]⟩ : ByteArray), ()), r167.1, ())) (
 bd (interval_of.f lf a1) fun r168 =>
 bd (interval_of.f lf a2) fun r169 =>
 bd (interval_span_empty.f lf r168.1) fun r170 =>
 br r170.1 (
 bd (interval_none.f lf) fun r171 =>
 bd (interval_span_interval.f lf r171.1) fun r172 =>
 bd (interval_none.f lf) fun r173 =>
 bd (interval_span_interval.f lf r173.1) fun r174 =>
 some (r172.1, r174.1, 0, ())) (
 bd (interval_span_empty.f lf r169.1) fun r175 =>
 br r175.1 (
 bd (interval_none.f lf) fun r176 =>
 bd (interval_span_interval.f lf r176.1) fun r177 =>
 bd (interval_none.f lf) fun r178 =>
 bd (interval_span_interval.f lf r178.1) fun r179 =>
 some (r177.1, r179.1, 0, ())) (
 bd (interval_negated.f lf (⟨#[48]⟩ : ByteArray)) fun r180 =>
 bd (interval_shifted.f lf r169.1.2.1 r180.1) fun r181 =>
 bd (interval_least.f lf r168.1.2.1 r181.1) fun r182 =>
 bd (interval_shifted.f lf r168.1.1 (⟨#[48]⟩ : ByteArray)) fun r183 =>
 bd (interval_most.f lf r169.1.1 r183.1) fun r184 =>
 bd (interval_span_empty.f lf (r168.1.1, r182.1, ())) fun r185 =>
 br r185.1 (
 bd (interval_none.f lf) fun r186 =>
 bd (interval_none.f lf) fun r187 =>
 bd (interval_span_interval.f lf r186.1) fun r188 =>
 bd (interval_span_interval.f lf r187.1) fun r189 =>
 some (r188.1, r189.1, 0, ())) (
 bd (interval_span_empty.f lf (r184.1, r169.1.2.1, ())) fun r190 =>
 br r190.1 (
 bd (interval_none.f lf) fun r191 =>
 bd (interval_none.f lf) fun r192 =>
 bd (interval_span_interval.f lf r191.1) fun r193 =>
 bd (interval_span_interval.f lf r192.1) fun r194 =>
 some (r193.1, r194.1, 0, ())) (
 bd (interval_span_interval.f lf (r168.1.1, r182.1, ())) fun r195 =>
 bd (interval_span_interval.f lf (r184.1, r169.1.2.1, ())) fun r196 =>
 some (r195.1, r196.1, 0, ()))))))) (
 bd (interval_Check.f lf a2) fun r197 =>
 br (r197.1 != 0) (
 br (r197.1 != 0) (
 some ((false, (⟨#[]⟩ : ByteArray), (⟨#[]⟩ : ByteArray), ()), (false, (⟨#[]⟩ : ByteArray), (⟨#[]⟩ : ByteArray), ()), r197.1, ())) (
 bd (interval_of.f lf a1) fun r198 =>
 bd (interval_of.f lf a2) fun r199 =>
 bd (interval_span_empty.f lf r198.1) fun r200 =>
 br r200.1 (
 bd (interval_none.f lf) fun r201 =>
 bd (interval_span_interval.f lf r201.1) fun r202 =>
 bd (interval_none.f lf) fun r203 =>
 bd (interval_span_interval.f lf r203.1) fun r204 =>
 some (r202.1, r204.1, 0, ())) (
 bd (interval_span_empty.f lf r199.1) fun r205 =>
 br r205.1 (
 bd (interval_none.f lf) fun r206 =>
 bd (interval_span_interval.f lf r206.1) fun r207 =>
 bd (interval_none.f lf) fun r208 =>
 bd (interval_span_interval.f lf r208.1) fun r209 =>
 some (r207.1, r209.1, 0, ())) (
 bd (interval_negated.f lf (⟨#[48]⟩ : ByteArray)) fun r210 =>
 bd (interval_shifted.f lf r199.1.2.1 r210.1) fun r211 =>
 bd (interval_least.f lf r198.1.2.1 r211.1) fun r212 =>
 bd (interval_shifted.f lf r198.1.1 (⟨#[48]⟩ : ByteArray)) fun r213 =>
 bd (interval_most.f lf r199.1.1 r213.1) fun r214 =>
 bd (interval_span_empty.f lf (r198.1.1, r212.1, ())) fun r215 =>
 br r215.1 (
 bd (interval_none.f lf) fun r216 =>
 bd (interval_none.f lf) fun r217 =>
 bd (interval_span_interval.f lf r216.1) fun r218 =>
 bd (interval_span_interval.f lf r217.1) fun r219 =>
 some (r218.1, r219.1, 0, ())) (
 bd (interval_span_empty.f lf (r214.1, r199.1.2.1, ())) fun r220 =>
 br r220.1 (
 bd (interval_none.f lf) fun r221 =>
 bd (interval_none.f lf) fun r222 =>
 bd (interval_span_interval.f lf r221.1) fun r223 =>
 bd (interval_span_interval.f lf r222.1) fun r224 =>
 some (r223.1, r224.1, 0, ())) (
 bd (interval_span_interval.f lf (r198.1.1, r212.1, ())) fun r225 =>
 bd (interval_span_interval.f lf (r214.1, r199.1.2.1, ())) fun r226 =>
 some (r225.1, r226.1, 0, ()))))))) (
 bd (interval_of.f lf a1) fun r227 =>
 bd (interval_of.f lf a2) fun r228 =>
 bd (interval_span_empty.f lf r227.1) fun r229 =>
 br r229.1 (
 bd (interval_none.f lf) fun r230 =>
 bd (interval_span_interval.f lf r230.1) fun r231 =>
 bd (interval_none.f lf) fun r232 =>
 bd (interval_span_interval.f lf r232.1) fun r233 =>
 some (r231.1, r233.1, 0, ())) (
 bd (interval_span_empty.f lf r228.1) fun r234 =>
 br r234.1 (
 bd (interval_none.f lf) fun r235 =>
 bd (interval_span_interval.f lf r235.1) fun r236 =>
 bd (interval_none.f lf) fun r237 =>
 bd (interval_span_interval.f lf r237.1) fun r238 =>
 some (r236.1, r238.1, 0, ())) (
 bd (interval_negated.f lf (⟨#[48]⟩ : ByteArray)) fun r239 =>
 bd (interval_shifted.f lf r228.1.2.1 r239.1) fun r240 =>
 bd (interval_least.f lf r227.1.2.1 r240.1) fun r241 =>
 bd (interval_shifted.f lf r227.1.1 (⟨#[48]⟩ : ByteArray)) fun r242 =>
 bd (interval_most.f lf r228.1.1 r242.1) fun r243 =>
 bd (interval_span_empty.f lf (r227.1.1, r241.1, ())) fun r244 =>
 br r244.1 (
 bd (interval_none.f lf) fun r245 =>
 bd (interval_none.f lf) fun r246 =>
 bd (interval_span_interval.f lf r245.1) fun r247 =>
 bd (interval_span_interval.f lf r246.1) fun r248 =>
 some (r247.1, r248.1, 0, ())) (
 bd (interval_span_empty.f lf (r243.1, r228.1.2.1, ())) fun r249 =>
 br r249.1 (
 bd (interval_none.f lf) fun r250 =>
 bd (interval_none.f lf) fun r251 =>
 bd (interval_span_interval.f lf r250.1) fun r252 =>
 bd (interval_span_interval.f lf r251.1) fun r253 =>
 some (r252.1, r253.1, 0, ())) (
 bd (interval_span_interval.f lf (r227.1.1, r241.1, ())) fun r254 =>
 bd (interval_span_interval.f lf (r243.1, r228.1.2.1, ())) fun r255 =>
 some (r254.1, r255.1, 0, ())))))))) (
 br (a0 == 3) (
 bd (interval_Check.f lf a1) fun r256 =>
 br (r256.1 != 0) (
 br (r256.1 != 0) (
 some ((false, (⟨#[]⟩ : ByteArray), (⟨#[]⟩ : ByteArray), ()), (false, (⟨#[]⟩ : ByteArray), (⟨#[]⟩ : ByteArray), ()), r256.1, ())) (
 bd (interval_of.f lf a1) fun r257 =>
 bd (interval_of.f lf a2) fun r258 =>
 bd (interval_span_empty.f lf r257.1) fun r259 =>
 br r259.1 (
 bd (interval_none.f lf) fun r260 =>
 bd (interval_span_interval.f lf r260.1) fun r261 =>
 bd (interval_none.f lf) fun r262 =>
 bd (interval_span_interval.f lf r262.1) fun r263 =>
 some (r261.1, r263.1, 0, ())) (
 bd (interval_span_empty.f lf r258.1) fun r264 =>
 br r264.1 (
 bd (interval_none.f lf) fun r265 =>
 bd (interval_span_interval.f lf r265.1) fun r266 =>
 bd (interval_none.f lf) fun r267 =>
 bd (interval_span_interval.f lf r267.1) fun r268 =>
 some (r266.1, r268.1, 0, ())) (
 bd (interval_comparisons_3.f lf r257.1 r258.1) fun r269 =>
 bd (interval_span_empty.f lf r269.1) fun r270 =>
 br r270.1 (
 bd (interval_none.f lf) fun r271 =>
 bd (interval_none.f lf) fun r272 =>
 bd (interval_span_interval.f lf r271.1) fun r273 =>
 bd (interval_span_interval.f lf r272.1) fun r274 =>
 some (r273.1, r274.1, 0, ())) (
 bd (interval_span_empty.f lf r269.2.1) fun r275 =>
 br r275.1 (
 bd (interval_none.f lf) fun r276 =>
 bd (interval_none.f lf) fun r277 =>
 bd (interval_span_interval.f lf r276.1) fun r278 =>
 bd (interval_span_interval.f lf r277.1) fun r279 =>
 some (r278.1, r279.1, 0, ())) (
 bd (interval_span_interval.f lf r269.1) fun r280 =>
 bd (interval_span_interval.f lf r269.2.1) fun r281 =>
 some (r280.1, r281.1, 0, ()))))))) (
 bd (interval_Check.f lf a2) fun r282 =>
 br (r282.1 != 0) (
 br (r282.1 != 0) (
 some ((false, (⟨#[]⟩ : ByteArray), (⟨#[]⟩ : ByteArray), ()), (false, (⟨#[]⟩ : ByteArray), (⟨#[]⟩ : ByteArray), ()), r282.1, ())) (
 bd (interval_of.f lf a1) fun r283 =>
 bd (interval_of.f lf a2) fun r284 =>
 bd (interval_span_empty.f lf r283.1) fun r285 =>
 br r285.1 (
 bd (interval_none.f lf) fun r286 =>
 bd (interval_span_interval.f lf r286.1) fun r287 =>
 bd (interval_none.f lf) fun r288 =>
 bd (interval_span_interval.f lf r288.1) fun r289 =>
 some (r287.1, r289.1, 0, ())) (
 bd (interval_span_empty.f lf r284.1) fun r290 =>
 br r290.1 (
 bd (interval_none.f lf) fun r291 =>
 bd (interval_span_interval.f lf r291.1) fun r292 =>
 bd (interval_none.f lf) fun r293 =>
 bd (interval_span_interval.f lf r293.1) fun r294 =>
 some (r292.1, r294.1, 0, ())) (
 bd (interval_comparisons_3.f lf r283.1 r284.1) fun r295 =>
 bd (interval_span_empty.f lf r295.1) fun r296 =>
 br r296.1 (
 bd (interval_none.f lf) fun r297 =>
 bd (interval_none.f lf) fun r298 =>
 bd (interval_span_interval.f lf r297.1) fun r299 =>
 bd (interval_span_interval.f lf r298.1) fun r300 =>
 some (r299.1, r300.1, 0, ())) (
 bd (interval_span_empty.f lf r295.2.1) fun r301 =>
 br r301.1 (
 bd (interval_none.f lf) fun r302 =>
 bd (interval_none.f lf) fun r303 =>
 bd (interval_span_interval.f lf r302.1) fun r304 =>
 bd (interval_span_interval.f lf r303.1) fun r305 =>
 some (r304.1, r305.1, 0, ())) (
 bd (interval_span_interval.f lf r295.1) fun r306 =>
 bd (interval_span_interval.f lf r295.2.1) fun r307 =>
 some (r306.1, r307.1, 0, ()))))))) (
 bd (interval_of.f lf a1) fun r308 =>
 bd (interval_of.f lf a2) fun r309 =>
 bd (interval_span_empty.f lf r308.1) fun r310 =>
 br r310.1 (
 bd (interval_none.f lf) fun r311 =>
 bd (interval_span_interval.f lf r311.1) fun r312 =>
 bd (interval_none.f lf) fun r313 =>
 bd (interval_span_interval.f lf r313.1) fun r314 =>
 some (r312.1, r314.1, 0, ())) (
 bd (interval_span_empty.f lf r309.1) fun r315 =>
 br r315.1 (
 bd (interval_none.f lf) fun r316 =>
 bd (interval_span_interval.f lf r316.1) fun r317 =>
 bd (interval_none.f lf) fun r318 =>
 bd (interval_span_interval.f lf r318.1) fun r319 =>
 some (r317.1, r319.1, 0, ())) (
 bd (interval_comparisons_3.f lf r308.1 r309.1) fun r320 =>
 bd (interval_span_empty.f lf r320.1) fun r321 =>
 br r321.1 (
 bd (interval_none.f lf) fun r322 =>
 bd (interval_none.f lf) fun r323 =>
 bd (interval_span_interval.f lf r322.1) fun r324 =>
 bd (interval_span_interval.f lf r323.1) fun r325 =>
 some (r324.1, r325.1, 0, ())) (
 bd (interval_span_empty.f lf r320.2.1) fun r326 =>
 br r326.1 (
 bd (interval_none.f lf) fun r327 =>
 bd (interval_none.f lf) fun r328 =>
 bd (interval_span_interval.f lf r327.1) fun r329 =>
 bd (interval_span_interval.f lf r328.1) fun r330 =>
 some (r329.1, r330.1, 0, ())) (
 bd (interval_span_interval.f lf r320.1) fun r331 =>
 bd (interval_span_interval.f lf r320.2.1) fun r332 =>
 some (r331.1, r332.1, 0, ())))))))) (
 some ((false, (⟨#[]⟩ : ByteArray), (⟨#[]⟩ : ByteArray), ()), (false, (⟨#[]⟩ : ByteArray), (⟨#[]⟩ : ByteArray), ()), 1, ())))))
noncomputable def E (lf : Nat) : Entry := ⟨[(.int .i64), (.pair .bool (.pair .str (.pair .str .unit))), (.pair .bool (.pair .str (.pair .str .unit)))], [(.pair .bool (.pair .str (.pair .str .unit))), (.pair .bool (.pair .str (.pair .str .unit))), (.int .i64)], fun x => f lf x.1 x.2.1 x.2.2.1⟩
theorem ok (lf : Nat) : Ok 30 (E lf) := okT (an := (annsL [])) (lf := lf) (tC (interval_Check.ok lf) (tC (interval_of.ok lf) (tC (interval_span_empty.ok lf) (tC (interval_span_interval.ok lf) (tC (interval_none.ok lf) (tC (interval_least.ok lf) (tC (interval_most.ok lf) (tC (interval_shifted.ok lf) (tC (interval_negated.ok lf) (tC (interval_comparisons_2.ok lf) (tC (interval_comparisons_3.ok lf) tN))))))))))) aoN fun x => by kernel_rfl
end interval_Refine
end
end Go.Q
namespace Go.Q
open Go.IntKind (i64)
open Go Go.RowKit
open Go.Rx (br bd sIdx sCat sCut iQuo iRem)
set_option linter.unusedVariables false
set_option linter.unusedSimpArgs false
set_option maxRecDepth 100000
noncomputable section
namespace interval_sign
noncomputable def f (lf : Nat) (a0 : Int × (ByteArray × Unit)) : Option (Int × Unit) :=
 br (a0.1 != 0) (
 some (a0.1, ())) (
 bd (interval_order.f lf a0.2.1 (⟨#[48]⟩ : ByteArray)) fun r1 =>
 some (r1.1, ()))
noncomputable def E (lf : Nat) : Entry := ⟨[(.pair (.int .i64) (.pair .str .unit))], [(.int .i64)], fun x => f lf x.1⟩
theorem ok (lf : Nat) : Ok 139 (E lf) := okT (an := (annsL [])) (lf := lf) (tC (interval_order.ok lf) tN) aoN fun x => by kernel_rfl
end interval_sign
namespace interval_times
noncomputable def f (lf : Nat) (a0 : Int × (ByteArray × Unit)) (a1 : Int × (ByteArray × Unit)) : Option ((Int × (ByteArray × Unit)) × Unit) :=
 bd (interval_sign.f lf a0) fun r1 =>
 bd (interval_sign.f lf a1) fun r2 =>
 br ((i64.wrap (r1.1 * r2.1)) == 0) (
 bd (interval_finite.f lf (⟨#[48]⟩ : ByteArray)) fun r3 =>
 some (r3.1, ())) (
 br (a0.1 != 0) (
 bd (interval_infinite.f lf (i64.wrap (r1.1 * r2.1))) fun r4 =>
 some (r4.1, ())) (
 br (a1.1 != 0) (
 bd (interval_infinite.f lf (i64.wrap (r1.1 * r2.1))) fun r5 =>
 some (r5.1, ())) (
 bd (bigint_Mul.f lf a0.2.1 a1.2.1) fun r6 =>
 bd (interval_finite.f lf r6.1) fun r7 =>
 some (r7.1, ()))))
noncomputable def E (lf : Nat) : Entry := ⟨[(.pair (.int .i64) (.pair .str .unit)), (.pair (.int .i64) (.pair .str .unit))], [(.pair (.int .i64) (.pair .str .unit))], fun x => f lf x.1 x.2.1⟩
theorem ok (lf : Nat) : Ok 95 (E lf) := okT (an := (annsL [])) (lf := lf) (tC (interval_infinite.ok lf) (tC (interval_finite.ok lf) (tC (bigint_Mul.ok lf) (tC (interval_sign.ok lf) tN)))) aoN fun x => by kernel_rfl
end interval_times
namespace interval_Mul
noncomputable def anns : FuncId → FA := annsL [(96, ⟨annOf [(0, ⟨kx 35 [3, 7], [], []⟩, ⟨[], [], []⟩)], none, []⟩)]
noncomputable def f (lf : Nat) (a0 : Bool × (ByteArray × (ByteArray × Unit))) (a1 : Bool × (ByteArray × (ByteArray × Unit))) : Option ((Bool × (ByteArray × (ByteArray × Unit))) × Int × Unit) :=
 bd (interval_Check.f lf a0) fun r1 =>
 br (r1.1 != 0) (
 br (r1.1 != 0) (
 some ((false, (⟨#[]⟩ : ByteArray), (⟨#[]⟩ : ByteArray), ()), r1.1, ())) (
 bd (interval_of.f lf a0) fun r2 =>
 bd (interval_of.f lf a1) fun r3 =>
 bd (interval_span_empty.f lf r2.1) fun r4 =>
 br r4.1 (
 bd (interval_none.f lf) fun r5 =>
 bd (interval_span_interval.f lf r5.1) fun r6 =>
 some (r6.1, 0, ())) (
 bd (interval_span_empty.f lf r3.1) fun r7 =>
 br r7.1 (
 bd (interval_none.f lf) fun r8 =>
 bd (interval_span_interval.f lf r8.1) fun r9 =>
 some (r9.1, 0, ())) (
 bd (interval_none.f lf) fun r10 =>
 bd (interval_times.f lf r2.1.1 r3.1.1) fun r11 =>
 bd (interval_span_hull.f lf r10.1 (r11.1, r11.1, ())) fun r12 =>
 bd (interval_times.f lf r2.1.1 r3.1.2.1) fun r13 =>
 bd (interval_span_hull.f lf r12.1 (r13.1, r13.1, ())) fun r14 =>
 bd (interval_times.f lf r2.1.2.1 r3.1.1) fun r15 =>
 bd (interval_span_hull.f lf r14.1 (r15.1, r15.1, ())) fun r16 =>
 bd (interval_times.f lf r2.1.2.1 r3.1.2.1) fun r17 =>
 bd (interval_span_hull.f lf r16.1 (r17.1, r17.1, ())) fun r18 =>
 bd (interval_span_interval.f lf r18.1) fun r19 =>
 some (r19.1, 0, ()))))) (
 bd (interval_Check.f lf a1) fun r20 =>
 br (r20.1 != 0) (
 br (r20.1 != 0) (
 some ((false, (⟨#[]⟩ : ByteArray), (⟨#[]⟩ : ByteArray), ()), r20.1, ())) (
 bd (interval_of.f lf a0) fun r21 =>
 bd (interval_of.f lf a1) fun r22 =>
 bd (interval_span_empty.f lf r21.1) fun r23 =>
 br r23.1 (
 bd (interval_none.f lf) fun r24 =>
 bd (interval_span_interval.f lf r24.1) fun r25 =>
 some (r25.1, 0, ())) (
 bd (interval_span_empty.f lf r22.1) fun r26 =>
 br r26.1 (
 bd (interval_none.f lf) fun r27 =>
 bd (interval_span_interval.f lf r27.1) fun r28 =>
 some (r28.1, 0, ())) (
 bd (interval_none.f lf) fun r29 =>
 bd (interval_times.f lf r21.1.1 r22.1.1) fun r30 =>
 bd (interval_span_hull.f lf r29.1 (r30.1, r30.1, ())) fun r31 =>
 bd (interval_times.f lf r21.1.1 r22.1.2.1) fun r32 =>
 bd (interval_span_hull.f lf r31.1 (r32.1, r32.1, ())) fun r33 =>
 bd (interval_times.f lf r21.1.2.1 r22.1.1) fun r34 =>
 bd (interval_span_hull.f lf r33.1 (r34.1, r34.1, ())) fun r35 =>
 bd (interval_times.f lf r21.1.2.1 r22.1.2.1) fun r36 =>
 bd (interval_span_hull.f lf r35.1 (r36.1, r36.1, ())) fun r37 =>
 bd (interval_span_interval.f lf r37.1) fun r38 =>
 some (r38.1, 0, ()))))) (
 bd (interval_of.f lf a0) fun r39 =>
 bd (interval_of.f lf a1) fun r40 =>
 bd (interval_span_empty.f lf r39.1) fun r41 =>
 br r41.1 (
 bd (interval_none.f lf) fun r42 =>
 bd (interval_span_interval.f lf r42.1) fun r43 =>
 some (r43.1, 0, ())) (
 bd (interval_span_empty.f lf r40.1) fun r44 =>
 br r44.1 (
 bd (interval_none.f lf) fun r45 =>
 bd (interval_span_interval.f lf r45.1) fun r46 =>
 some (r46.1, 0, ())) (
 bd (interval_none.f lf) fun r47 =>
 bd (interval_times.f lf r39.1.1 r40.1.1) fun r48 =>
 bd (interval_span_hull.f lf r47.1 (r48.1, r48.1, ())) fun r49 =>
 bd (interval_times.f lf r39.1.1 r40.1.2.1) fun r50 =>
 bd (interval_span_hull.f lf r49.1 (r50.1, r50.1, ())) fun r51 =>
 bd (interval_times.f lf r39.1.2.1 r40.1.1) fun r52 =>
 bd (interval_span_hull.f lf r51.1 (r52.1, r52.1, ())) fun r53 =>
 bd (interval_times.f lf r39.1.2.1 r40.1.2.1) fun r54 =>
 bd (interval_span_hull.f lf r53.1 (r54.1, r54.1, ())) fun r55 =>
 bd (interval_span_interval.f lf r55.1) fun r56 =>
 some (r56.1, 0, ())))))
noncomputable def E (lf : Nat) : Entry := ⟨[(.pair .bool (.pair .str (.pair .str .unit))), (.pair .bool (.pair .str (.pair .str .unit)))], [(.pair .bool (.pair .str (.pair .str .unit))), (.int .i64)], fun x => f lf x.1 x.2.1⟩
theorem ok (lf : Nat) : Ok 48 (E lf) := okT (an := anns) (lf := lf) (tC (interval_Check.ok lf) (tC (interval_of.ok lf) (tC (interval_span_empty.ok lf) (tC (interval_span_hull.ok lf) (tC (interval_span_interval.ok lf) (tC (interval_none.ok lf) (tC (interval_times.ok lf) tN))))))) (aoC aoN) fun x => by kernel_rfl
end interval_Mul
namespace interval_opposite
noncomputable def f (lf : Nat) (a0 : Int × (ByteArray × Unit)) : Option ((Int × (ByteArray × Unit)) × Unit) :=
 br (a0.1 != 0) (
 bd (interval_infinite.f lf (i64.wrap (0 - a0.1))) fun r1 =>
 some (r1.1, ())) (
 bd (interval_negated.f lf a0.2.1) fun r2 =>
 bd (interval_finite.f lf r2.1) fun r3 =>
 some (r3.1, ()))
noncomputable def E (lf : Nat) : Entry := ⟨[(.pair (.int .i64) (.pair .str .unit))], [(.pair (.int .i64) (.pair .str .unit))], fun x => f lf x.1⟩
theorem ok (lf : Nat) : Ok 125 (E lf) := okT (an := (annsL [])) (lf := lf) (tC (interval_infinite.ok lf) (tC (interval_finite.ok lf) (tC (interval_negated.ok lf) tN))) aoN fun x => by kernel_rfl
end interval_opposite
namespace interval_span_turned
noncomputable def f (lf : Nat) (a0 : (Int × (ByteArray × Unit)) × ((Int × (ByteArray × Unit)) × Unit)) : Option (((Int × (ByteArray × Unit)) × ((Int × (ByteArray × Unit)) × Unit)) × Unit) :=
 bd (interval_span_empty.f lf a0) fun r1 =>
 br r1.1 (
 bd (interval_none.f lf) fun r2 =>
 some (r2.1, ())) (
 bd (interval_opposite.f lf a0.2.1) fun r3 =>
 bd (interval_opposite.f lf a0.1) fun r4 =>
 some ((r3.1, r4.1, ()), ()))
noncomputable def E (lf : Nat) : Entry := ⟨[(.pair (.pair (.int .i64) (.pair .str .unit)) (.pair (.pair (.int .i64) (.pair .str .unit)) .unit))], [(.pair (.pair (.int .i64) (.pair .str .unit)) (.pair (.pair (.int .i64) (.pair .str .unit)) .unit))], fun x => f lf x.1⟩
theorem ok (lf : Nat) : Ok 81 (E lf) := okT (an := (annsL [])) (lf := lf) (tC (interval_span_empty.ok lf) (tC (interval_none.ok lf) (tC (interval_opposite.ok lf) tN))) aoN fun x => by kernel_rfl
end interval_span_turned
namespace interval_span_positive
noncomputable def f (lf : Nat) (a0 : (Int × (ByteArray × Unit)) × ((Int × (ByteArray × Unit)) × Unit)) : Option (((Int × (ByteArray × Unit)) × ((Int × (ByteArray × Unit)) × Unit)) × Unit) :=
 bd (interval_finite.f lf (⟨#[49]⟩ : ByteArray)) fun r1 =>
 bd (interval_infinite.f lf 1) fun r2 =>
 bd (interval_span_common.f lf a0 (r1.1, r2.1, ())) fun r3 =>
 some (r3.1, ())
noncomputable def E (lf : Nat) : Entry := ⟨[(.pair (.pair (.int .i64) (.pair .str .unit)) (.pair (.pair (.int .i64) (.pair .str .unit)) .unit))], [(.pair (.pair (.int .i64) (.pair .str .unit)) (.pair (.pair (.int .i64) (.pair .str .unit)) .unit))], fun x => f lf x.1⟩
theorem ok (lf : Nat) : Ok 142 (E lf) := okT (an := (annsL [])) (lf := lf) (tC (interval_infinite.ok lf) (tC (interval_finite.ok lf) (tC (interval_span_common.ok lf) tN))) aoN fun x => by kernel_rfl
end interval_span_positive
namespace interval_over
noncomputable def f (lf : Nat) (a0 : Int × (ByteArray × Unit)) (a1 : Int × (ByteArray × Unit)) : Option ((Int × (ByteArray × Unit)) × Unit) :=
 br (a0.1 != 0) (
 some (a0, ())) (
 br (a1.1 == 0) (
 bd (bigint_Quo.f lf a0.2.1 a1.2.1) fun r1 =>
 bd (interval_finite.f lf r1.1) fun r2 =>
 some (r2.1, ())) (
 bd (interval_sign.f lf a0) fun r3 =>
 br (decide (r3.1 < 0)) (
 bd (interval_finite.f lf (⟨#[45, 49]⟩ : ByteArray)) fun r4 =>
 some (r4.1, ())) (
 bd (interval_finite.f lf (⟨#[48]⟩ : ByteArray)) fun r5 =>
 some (r5.1, ()))))
noncomputable def E (lf : Nat) : Entry := ⟨[(.pair (.int .i64) (.pair .str .unit)), (.pair (.int .i64) (.pair .str .unit))], [(.pair (.int .i64) (.pair .str .unit))], fun x => f lf x.1 x.2.1⟩
theorem ok (lf : Nat) : Ok 98 (E lf) := okT (an := (annsL [])) (lf := lf) (tC (interval_finite.ok lf) (tC (bigint_Quo.ok lf) (tC (interval_sign.ok lf) tN))) aoN fun x => by kernel_rfl
end interval_over
namespace interval_Quo_1
noncomputable def f (lf : Nat) (a0 : (Int × (ByteArray × Unit)) × ((Int × (ByteArray × Unit)) × Unit)) : Option (((Int × (ByteArray × Unit)) × ((Int × (ByteArray × Unit)) × Unit)) × Unit) :=
 some (a0, ())
noncomputable def E (lf : Nat) : Entry := ⟨[(.pair (.pair (.int .i64) (.pair .str .unit)) (.pair (.pair (.int .i64) (.pair .str .unit)) .unit))], [(.pair (.pair (.int .i64) (.pair .str .unit)) (.pair (.pair (.int .i64) (.pair .str .unit)) .unit))], fun x => f lf x.1⟩
theorem ok (lf : Nat) : Ok 99 (E lf) := okT (an := (annsL [])) (lf := lf) tN aoN fun x => by kernel_rfl
end interval_Quo_1
end
end Go.Q
