import Derived.Test.YtfogkflaijhfoaaGreatDoorProg
import Derived.KernelRfl
import Derived.Test.YtfogkflaijhfoaaGreatDoorVKE3
import Derived.Test.YtfogkflaijhfoaaGreatDoorVKG4
set_option linter.unusedVariables false
set_option linter.unusedSimpArgs false
set_option linter.unusedSectionVars false
set_option maxRecDepth 100000
namespace Go.Q
open Go Go.RowKit
open Go.Rx (br bd sIdx sCat sCut iQuo iRem)
noncomputable section
namespace interval_Refine
def f (lf : Nat) (a0 : Int) (a1 : TI) (a2 : TI) : Option (TI × TI × Int × Unit) :=
 br (a0 == 2) (
 bd (interval_Check.f lf a1) fun r1 =>
 br (r1.1 != 0) (
 br (r1.1 != 0) (
 some ((false, (⟨#[]⟩ : ByteArray), (⟨#[]⟩ : ByteArray), ()), (false, (⟨#[]⟩ : ByteArray), (⟨#[]⟩ : ByteArray), ()), r1.1, ())) (
 bd (interval_of.f lf a1) fun r2 =>
 bd (interval_of.f lf a2) fun r3 =>
 bd (interval_span_empty.f lf r2.1) fun r4 =>
 br r4.1 (
 bd (interval_none.f lf) fun r5 =>
 bd (interval_span_interval.f lf r5.1) fun r6 =>
 bd (interval_none.f lf) fun r7 =>
 bd (interval_span_interval.f lf r7.1) fun r8 =>
 some (r6.1, r8.1, 0, ())) (
 bd (interval_span_empty.f lf r3.1) fun r9 =>
 br r9.1 (
 bd (interval_none.f lf) fun r10 =>
 bd (interval_span_interval.f lf r10.1) fun r11 =>
 bd (interval_none.f lf) fun r12 =>
 bd (interval_span_interval.f lf r12.1) fun r13 =>
 some (r11.1, r13.1, 0, ())) (
 bd (interval_comparisons_2.f lf r2.1 r3.1) fun r14 =>
 bd (interval_span_empty.f lf r14.1) fun r15 =>
 br r15.1 (
 bd (interval_none.f lf) fun r16 =>
 bd (interval_none.f lf) fun r17 =>
 bd (interval_span_interval.f lf r16.1) fun r18 =>
 bd (interval_span_interval.f lf r17.1) fun r19 =>
 some (r18.1, r19.1, 0, ())) (
 bd (interval_span_empty.f lf r14.2.1) fun r20 =>
 br r20.1 (
 bd (interval_none.f lf) fun r21 =>
 bd (interval_none.f lf) fun r22 =>
 bd (interval_span_interval.f lf r21.1) fun r23 =>
 bd (interval_span_interval.f lf r22.1) fun r24 =>
 some (r23.1, r24.1, 0, ())) (
 bd (interval_span_interval.f lf r14.1) fun r25 =>
 bd (interval_span_interval.f lf r14.2.1) fun r26 =>
 some (r25.1, r26.1, 0, ()))))))) (
 bd (interval_Check.f lf a2) fun r27 =>
 br (r27.1 != 0) (
 br (r27.1 != 0) (
 some ((false, (⟨#[]⟩ : ByteArray), (⟨#[]⟩ : ByteArray), ()), (false, (⟨#[]⟩ : ByteArray), (⟨#[]⟩ : ByteArray), ()), r27.1, ())) (
 bd (interval_of.f lf a1) fun r28 =>
 bd (interval_of.f lf a2) fun r29 =>
 bd (interval_span_empty.f lf r28.1) fun r30 =>
 br r30.1 (
 bd (interval_none.f lf) fun r31 =>
 bd (interval_span_interval.f lf r31.1) fun r32 =>
 bd (interval_none.f lf) fun r33 =>
 bd (interval_span_interval.f lf r33.1) fun r34 =>
 some (r32.1, r34.1, 0, ())) (
 bd (interval_span_empty.f lf r29.1) fun r35 =>
 br r35.1 (
 bd (interval_none.f lf) fun r36 =>
 bd (interval_span_interval.f lf r36.1) fun r37 =>
 bd (interval_none.f lf) fun r38 =>
 bd (interval_span_interval.f lf r38.1) fun r39 =>
 some (r37.1, r39.1, 0, ())) (
 bd (interval_comparisons_2.f lf r28.1 r29.1) fun r40 =>
 bd (interval_span_empty.f lf r40.1) fun r41 =>
 br r41.1 (
 bd (interval_none.f lf) fun r42 =>
 bd (interval_none.f lf) fun r43 =>
 bd (interval_span_interval.f lf r42.1) fun r44 =>
 bd (interval_span_interval.f lf r43.1) fun r45 =>
 some (r44.1, r45.1, 0, ())) (
 bd (interval_span_empty.f lf r40.2.1) fun r46 =>
 br r46.1 (
 bd (interval_none.f lf) fun r47 =>
 bd (interval_none.f lf) fun r48 =>
 bd (interval_span_interval.f lf r47.1) fun r49 =>
 bd (interval_span_interval.f lf r48.1) fun r50 =>
 some (r49.1, r50.1, 0, ())) (
 bd (interval_span_interval.f lf r40.1) fun r51 =>
 bd (interval_span_interval.f lf r40.2.1) fun r52 =>
 some (r51.1, r52.1, 0, ()))))))) (
 bd (interval_of.f lf a1) fun r53 =>
 bd (interval_of.f lf a2) fun r54 =>
 bd (interval_span_empty.f lf r53.1) fun r55 =>
 br r55.1 (
 bd (interval_none.f lf) fun r56 =>
 bd (interval_span_interval.f lf r56.1) fun r57 =>
 bd (interval_none.f lf) fun r58 =>
 bd (interval_span_interval.f lf r58.1) fun r59 =>
 some (r57.1, r59.1, 0, ())) (
 bd (interval_span_empty.f lf r54.1) fun r60 =>
 br r60.1 (
 bd (interval_none.f lf) fun r61 =>
 bd (interval_span_interval.f lf r61.1) fun r62 =>
 bd (interval_none.f lf) fun r63 =>
 bd (interval_span_interval.f lf r63.1) fun r64 =>
 some (r62.1, r64.1, 0, ())) (
 bd (interval_comparisons_2.f lf r53.1 r54.1) fun r65 =>
 bd (interval_span_empty.f lf r65.1) fun r66 =>
 br r66.1 (
 bd (interval_none.f lf) fun r67 =>
 bd (interval_none.f lf) fun r68 =>
 bd (interval_span_interval.f lf r67.1) fun r69 =>
 bd (interval_span_interval.f lf r68.1) fun r70 =>
 some (r69.1, r70.1, 0, ())) (
 bd (interval_span_empty.f lf r65.2.1) fun r71 =>
 br r71.1 (
 bd (interval_none.f lf) fun r72 =>
 bd (interval_none.f lf) fun r73 =>
 bd (interval_span_interval.f lf r72.1) fun r74 =>
 bd (interval_span_interval.f lf r73.1) fun r75 =>
 some (r74.1, r75.1, 0, ())) (
 bd (interval_span_interval.f lf r65.1) fun r76 =>
 bd (interval_span_interval.f lf r65.2.1) fun r77 =>
 some (r76.1, r77.1, 0, ())))))))) (
 br (a0 == 4) (
 bd (interval_Check.f lf a1) fun r78 =>
 br (r78.1 != 0) (
 br (r78.1 != 0) (
 some ((false, (⟨#[]⟩ : ByteArray), (⟨#[]⟩ : ByteArray), ()), (false, (⟨#[]⟩ : ByteArray), (⟨#[]⟩ : ByteArray), ()), r78.1, ())) (
 bd (interval_of.f lf a1) fun r79 =>
 bd (interval_of.f lf a2) fun r80 =>
 bd (interval_span_empty.f lf r79.1) fun r81 =>
 br r81.1 (
 bd (interval_none.f lf) fun r82 =>
 bd (interval_span_interval.f lf r82.1) fun r83 =>
 bd (interval_none.f lf) fun r84 =>
 bd (interval_span_interval.f lf r84.1) fun r85 =>
 some (r83.1, r85.1, 0, ())) (
 bd (interval_span_empty.f lf r80.1) fun r86 =>
 br r86.1 (
 bd (interval_none.f lf) fun r87 =>
 bd (interval_span_interval.f lf r87.1) fun r88 =>
 bd (interval_none.f lf) fun r89 =>
 bd (interval_span_interval.f lf r89.1) fun r90 =>
 some (r88.1, r90.1, 0, ())) (
 bd (interval_negated.f lf (⟨#[49]⟩ : ByteArray)) fun r91 =>
 bd (interval_shifted.f lf r80.1.2.1 r91.1) fun r92 =>
 bd (interval_least.f lf r79.1.2.1 r92.1) fun r93 =>
 bd (interval_shifted.f lf r79.1.1 (⟨#[49]⟩ : ByteArray)) fun r94 =>
 bd (interval_most.f lf r80.1.1 r94.1) fun r95 =>
 bd (interval_span_empty.f lf (r79.1.1, r93.1, ())) fun r96 =>
 br r96.1 (
 bd (interval_none.f lf) fun r97 =>
 bd (interval_none.f lf) fun r98 =>
 bd (interval_span_interval.f lf r97.1) fun r99 =>
 bd (interval_span_interval.f lf r98.1) fun r100 =>
 some (r99.1, r100.1, 0, ())) (
 bd (interval_span_empty.f lf (r95.1, r80.1.2.1, ())) fun r101 =>
 br r101.1 (
 bd (interval_none.f lf) fun r102 =>
 bd (interval_none.f lf) fun r103 =>
 bd (interval_span_interval.f lf r102.1) fun r104 =>
 bd (interval_span_interval.f lf r103.1) fun r105 =>
 some (r104.1, r105.1, 0, ())) (
 bd (interval_span_interval.f lf (r79.1.1, r93.1, ())) fun r106 =>
 bd (interval_span_interval.f lf (r95.1, r80.1.2.1, ())) fun r107 =>
 some (r106.1, r107.1, 0, ()))))))) (
 bd (interval_Check.f lf a2) fun r108 =>
 br (r108.1 != 0) (
 br (r108.1 != 0) (
 some ((false, (⟨#[]⟩ : ByteArray), (⟨#[]⟩ : ByteArray), ()), (false, (⟨#[]⟩ : ByteArray), (⟨#[]⟩ : ByteArray), ()), r108.1, ())) (
 bd (interval_of.f lf a1) fun r109 =>
 bd (interval_of.f lf a2) fun r110 =>
 bd (interval_span_empty.f lf r109.1) fun r111 =>
 br r111.1 (
 bd (interval_none.f lf) fun r112 =>
 bd (interval_span_interval.f lf r112.1) fun r113 =>
 bd (interval_none.f lf) fun r114 =>
 bd (interval_span_interval.f lf r114.1) fun r115 =>
 some (r113.1, r115.1, 0, ())) (
 bd (interval_span_empty.f lf r110.1) fun r116 =>
 br r116.1 (
 bd (interval_none.f lf) fun r117 =>
 bd (interval_span_interval.f lf r117.1) fun r118 =>
 bd (interval_none.f lf) fun r119 =>
 bd (interval_span_interval.f lf r119.1) fun r120 =>
 some (r118.1, r120.1, 0, ())) (
 bd (interval_negated.f lf (⟨#[49]⟩ : ByteArray)) fun r121 =>
 bd (interval_shifted.f lf r110.1.2.1 r121.1) fun r122 =>
 bd (interval_least.f lf r109.1.2.1 r122.1) fun r123 =>
 bd (interval_shifted.f lf r109.1.1 (⟨#[49]⟩ : ByteArray)) fun r124 =>
 bd (interval_most.f lf r110.1.1 r124.1) fun r125 =>
 bd (interval_span_empty.f lf (r109.1.1, r123.1, ())) fun r126 =>
 br r126.1 (
 bd (interval_none.f lf) fun r127 =>
 bd (interval_none.f lf) fun r128 =>
 bd (interval_span_interval.f lf r127.1) fun r129 =>
 bd (interval_span_interval.f lf r128.1) fun r130 =>
 some (r129.1, r130.1, 0, ())) (
 bd (interval_span_empty.f lf (r125.1, r110.1.2.1, ())) fun r131 =>
 br r131.1 (
 bd (interval_none.f lf) fun r132 =>
 bd (interval_none.f lf) fun r133 =>
 bd (interval_span_interval.f lf r132.1) fun r134 =>
 bd (interval_span_interval.f lf r133.1) fun r135 =>
 some (r134.1, r135.1, 0, ())) (
 bd (interval_span_interval.f lf (r109.1.1, r123.1, ())) fun r136 =>
 bd (interval_span_interval.f lf (r125.1, r110.1.2.1, ())) fun r137 =>
 some (r136.1, r137.1, 0, ()))))))) (
 bd (interval_of.f lf a1) fun r138 =>
 bd (interval_of.f lf a2) fun r139 =>
 bd (interval_span_empty.f lf r138.1) fun r140 =>
 br r140.1 (
 bd (interval_none.f lf) fun r141 =>
 bd (interval_span_interval.f lf r141.1) fun r142 =>
 bd (interval_none.f lf) fun r143 =>
 bd (interval_span_interval.f lf r143.1) fun r144 =>
 some (r142.1, r144.1, 0, ())) (
 bd (interval_span_empty.f lf r139.1) fun r145 =>
 br r145.1 (
 bd (interval_none.f lf) fun r146 =>
 bd (interval_span_interval.f lf r146.1) fun r147 =>
 bd (interval_none.f lf) fun r148 =>
 bd (interval_span_interval.f lf r148.1) fun r149 =>
 some (r147.1, r149.1, 0, ())) (
 bd (interval_negated.f lf (⟨#[49]⟩ : ByteArray)) fun r150 =>
 bd (interval_shifted.f lf r139.1.2.1 r150.1) fun r151 =>
 bd (interval_least.f lf r138.1.2.1 r151.1) fun r152 =>
 bd (interval_shifted.f lf r138.1.1 (⟨#[49]⟩ : ByteArray)) fun r153 =>
 bd (interval_most.f lf r139.1.1 r153.1) fun r154 =>
 bd (interval_span_empty.f lf (r138.1.1, r152.1, ())) fun r155 =>
 br r155.1 (
 bd (interval_none.f lf) fun r156 =>
 bd (interval_none.f lf) fun r157 =>
 bd (interval_span_interval.f lf r156.1) fun r158 =>
 bd (interval_span_interval.f lf r157.1) fun r159 =>
 some (r158.1, r159.1, 0, ())) (
 bd (interval_span_empty.f lf (r154.1, r139.1.2.1, ())) fun r160 =>
 br r160.1 (
 bd (interval_none.f lf) fun r161 =>
 bd (interval_none.f lf) fun r162 =>
 bd (interval_span_interval.f lf r161.1) fun r163 =>
 bd (interval_span_interval.f lf r162.1) fun r164 =>
 some (r163.1, r164.1, 0, ())) (
 bd (interval_span_interval.f lf (r138.1.1, r152.1, ())) fun r165 =>
 bd (interval_span_interval.f lf (r154.1, r139.1.2.1, ())) fun r166 =>
 some (r165.1, r166.1, 0, ())))))))) (
 br (a0 == 5) (
 bd (interval_Check.f lf a1) fun r167 =>
 br (r167.1 != 0) (
 br (r167.1 != 0) (
 some ((false, (⟨#[]⟩ : ByteArray), (⟨#[]⟩ : ByteArray), ()), (false, (⟨#[]⟩ : ByteArray), (⟨#[]⟩ : ByteArray), ()), r167.1, ())) (
 bd (interval_of.f lf a1) fun r168 =>
 bd (interval_of.f lf a2) fun r169 =>
 bd (interval_span_empty.f lf r168.1) fun r170 =>
 br r170.1 (
 bd (interval_none.f lf) fun r171 =>
 bd (interval_span_interval.f lf r171.1) fun r172 =>
 bd (interval_none.f lf) fun r173 =>
 bd (interval_span_interval.f lf r173.1) fun r174 =>
 some (r172.1, r174.1, 0, ())) (
 bd (interval_span_empty.f lf r169.1) fun r175 =>
 br r175.1 (
 bd (interval_none.f lf) fun r176 =>
 bd (interval_span_interval.f lf r176.1) fun r177 =>
 bd (interval_none.f lf) fun r178 =>
 bd (interval_span_interval.f lf r178.1) fun r179 =>
 some (r177.1, r179.1, 0, ())) (
 bd (interval_negated.f lf (⟨#[48]⟩ : ByteArray)) fun r180 =>
 bd (interval_shifted.f lf r169.1.2.1 r180.1) fun r181 =>
 bd (interval_least.f lf r168.1.2.1 r181.1) fun r182 =>
 bd (interval_shifted.f lf r168.1.1 (⟨#[48]⟩ : ByteArray)) fun r183 =>
 bd (interval_most.f lf r169.1.1 r183.1) fun r184 =>
 bd (interval_span_empty.f lf (r168.1.1, r182.1, ())) fun r185 =>
 br r185.1 (
 bd (interval_none.f lf) fun r186 =>
 bd (interval_none.f lf) fun r187 =>
 bd (interval_span_interval.f lf r186.1) fun r188 =>
 bd (interval_span_interval.f lf r187.1) fun r189 =>
 some (r188.1, r189.1, 0, ())) (
 bd (interval_span_empty.f lf (r184.1, r169.1.2.1, ())) fun r190 =>
 br r190.1 (
 bd (interval_none.f lf) fun r191 =>
 bd (interval_none.f lf) fun r192 =>
 bd (interval_span_interval.f lf r191.1) fun r193 =>
 bd (interval_span_interval.f lf r192.1) fun r194 =>
 some (r193.1, r194.1, 0, ())) (
 bd (interval_span_interval.f lf (r168.1.1, r182.1, ())) fun r195 =>
 bd (interval_span_interval.f lf (r184.1, r169.1.2.1, ())) fun r196 =>
 some (r195.1, r196.1, 0, ()))))))) (
 bd (interval_Check.f lf a2) fun r197 =>
 br (r197.1 != 0) (
 br (r197.1 != 0) (
 some ((false, (⟨#[]⟩ : ByteArray), (⟨#[]⟩ : ByteArray), ()), (false, (⟨#[]⟩ : ByteArray), (⟨#[]⟩ : ByteArray), ()), r197.1, ())) (
 bd (interval_of.f lf a1) fun r198 =>
 bd (interval_of.f lf a2) fun r199 =>
 bd (interval_span_empty.f lf r198.1) fun r200 =>
 br r200.1 (
 bd (interval_none.f lf) fun r201 =>
 bd (interval_span_interval.f lf r201.1) fun r202 =>
 bd (interval_none.f lf) fun r203 =>
 bd (interval_span_interval.f lf r203.1) fun r204 =>
 some (r202.1, r204.1, 0, ())) (
 bd (interval_span_empty.f lf r199.1) fun r205 =>
 br r205.1 (
 bd (interval_none.f lf) fun r206 =>
 bd (interval_span_interval.f lf r206.1) fun r207 =>
 bd (interval_none.f lf) fun r208 =>
 bd (interval_span_interval.f lf r208.1) fun r209 =>
 some (r207.1, r209.1, 0, ())) (
 bd (interval_negated.f lf (⟨#[48]⟩ : ByteArray)) fun r210 =>
 bd (interval_shifted.f lf r199.1.2.1 r210.1) fun r211 =>
 bd (interval_least.f lf r198.1.2.1 r211.1) fun r212 =>
 bd (interval_shifted.f lf r198.1.1 (⟨#[48]⟩ : ByteArray)) fun r213 =>
 bd (interval_most.f lf r199.1.1 r213.1) fun r214 =>
 bd (interval_span_empty.f lf (r198.1.1, r212.1, ())) fun r215 =>
 br r215.1 (
 bd (interval_none.f lf) fun r216 =>
 bd (interval_none.f lf) fun r217 =>
 bd (interval_span_interval.f lf r216.1) fun r218 =>
 bd (interval_span_interval.f lf r217.1) fun r219 =>
 some (r218.1, r219.1, 0, ())) (
 bd (interval_span_empty.f lf (r214.1, r199.1.2.1, ())) fun r220 =>
 br r220.1 (
 bd (interval_none.f lf) fun r221 =>
 bd (interval_none.f lf) fun r222 =>
 bd (interval_span_interval.f lf r221.1) fun r223 =>
 bd (interval_span_interval.f lf r222.1) fun r224 =>
 some (r223.1, r224.1, 0, ())) (
 bd (interval_span_interval.f lf (r198.1.1, r212.1, ())) fun r225 =>
 bd (interval_span_interval.f lf (r214.1, r199.1.2.1, ())) fun r226 =>
 some (r225.1, r226.1, 0, ()))))))) (
 bd (interval_of.f lf a1) fun r227 =>
 bd (interval_of.f lf a2) fun r228 =>
 bd (interval_span_empty.f lf r227.1) fun r229 =>
 br r229.1 (
 bd (interval_none.f lf) fun r230 =>
 bd (interval_span_interval.f lf r230.1) fun r231 =>
 bd (interval_none.f lf) fun r232 =>
 bd (interval_span_interval.f lf r232.1) fun r233 =>
 some (r231.1, r233.1, 0, ())) (
 bd (interval_span_empty.f lf r228.1) fun r234 =>
 br r234.1 (
 bd (interval_none.f lf) fun r235 =>
 bd (interval_span_interval.f lf r235.1) fun r236 =>
 bd (interval_none.f lf) fun r237 =>
 bd (interval_span_interval.f lf r237.1) fun r238 =>
 some (r236.1, r238.1, 0, ())) (
 bd (interval_negated.f lf (⟨#[48]⟩ : ByteArray)) fun r239 =>
 bd (interval_shifted.f lf r228.1.2.1 r239.1) fun r240 =>
 bd (interval_least.f lf r227.1.2.1 r240.1) fun r241 =>
 bd (interval_shifted.f lf r227.1.1 (⟨#[48]⟩ : ByteArray)) fun r242 =>
 bd (interval_most.f lf r228.1.1 r242.1) fun r243 =>
 bd (interval_span_empty.f lf (r227.1.1, r241.1, ())) fun r244 =>
 br r244.1 (
 bd (interval_none.f lf) fun r245 =>
 bd (interval_none.f lf) fun r246 =>
 bd (interval_span_interval.f lf r245.1) fun r247 =>
 bd (interval_span_interval.f lf r246.1) fun r248 =>
 some (r247.1, r248.1, 0, ())) (
 bd (interval_span_empty.f lf (r243.1, r228.1.2.1, ())) fun r249 =>
 br r249.1 (
 bd (interval_none.f lf) fun r250 =>
 bd (interval_none.f lf) fun r251 =>
 bd (interval_span_interval.f lf r250.1) fun r252 =>
 bd (interval_span_interval.f lf r251.1) fun r253 =>
 some (r252.1, r253.1, 0, ())) (
 bd (interval_span_interval.f lf (r227.1.1, r241.1, ())) fun r254 =>
 bd (interval_span_interval.f lf (r243.1, r228.1.2.1, ())) fun r255 =>
 some (r254.1, r255.1, 0, ())))))))) (
 br (a0 == 3) (
 bd (interval_Check.f lf a1) fun r256 =>
 br (r256.1 != 0) (
 br (r256.1 != 0) (
 some ((false, (⟨#[]⟩ : ByteArray), (⟨#[]⟩ : ByteArray), ()), (false, (⟨#[]⟩ : ByteArray), (⟨#[]⟩ : ByteArray), ()), r256.1, ())) (
 bd (interval_of.f lf a1) fun r257 =>
 bd (interval_of.f lf a2) fun r258 =>
 bd (interval_span_empty.f lf r257.1) fun r259 =>
 br r259.1 (
 bd (interval_none.f lf) fun r260 =>
 bd (interval_span_interval.f lf r260.1) fun r261 =>
 bd (interval_none.f lf) fun r262 =>
 bd (interval_span_interval.f lf r262.1) fun r263 =>
 some (r261.1, r263.1, 0, ())) (
 bd (interval_span_empty.f lf r258.1) fun r264 =>
 br r264.1 (
 bd (interval_none.f lf) fun r265 =>
 bd (interval_span_interval.f lf r265.1) fun r266 =>
 bd (interval_none.f lf) fun r267 =>
 bd (interval_span_interval.f lf r267.1) fun r268 =>
 some (r266.1, r268.1, 0, ())) (
 bd (interval_comparisons_3.f lf r257.1 r258.1) fun r269 =>
 bd (interval_span_empty.f lf r269.1) fun r270 =>
 br r270.1 (
 bd (interval_none.f lf) fun r271 =>
 bd (interval_none.f lf) fun r272 =>
 bd (interval_span_interval.f lf r271.1) fun r273 =>
 bd (interval_span_interval.f lf r272.1) fun r274 =>
 some (r273.1, r274.1, 0, ())) (
 bd (interval_span_empty.f lf r269.2.1) fun r275 =>
 br r275.1 (
 bd (interval_none.f lf) fun r276 =>
 bd (interval_none.f lf) fun r277 =>
 bd (interval_span_interval.f lf r276.1) fun r278 =>
 bd (interval_span_interval.f lf r277.1) fun r279 =>
 some (r278.1, r279.1, 0, ())) (
 bd (interval_span_interval.f lf r269.1) fun r280 =>
 bd (interval_span_interval.f lf r269.2.1) fun r281 =>
 some (r280.1, r281.1, 0, ()))))))) (
 bd (interval_Check.f lf a2) fun r282 =>
 br (r282.1 != 0) (
 br (r282.1 != 0) (
 some ((false, (⟨#[]⟩ : ByteArray), (⟨#[]⟩ : ByteArray), ()), (false, (⟨#[]⟩ : ByteArray), (⟨#[]⟩ : ByteArray), ()), r282.1, ())) (
 bd (interval_of.f lf a1) fun r283 =>
 bd (interval_of.f lf a2) fun r284 =>
 bd (interval_span_empty.f lf r283.1) fun r285 =>
 br r285.1 (
 bd (interval_none.f lf) fun r286 =>
 bd (interval_span_interval.f lf r286.1) fun r287 =>
 bd (interval_none.f lf) fun r288 =>
 bd (interval_span_interval.f lf r288.1) fun r289 =>
 some (r287.1, r289.1, 0, ())) (
 bd (interval_span_empty.f lf r284.1) fun r290 =>
 br r290.1 (
 bd (interval_none.f lf) fun r291 =>
 bd (interval_span_interval.f lf r291.1) fun r292 =>
 bd (interval_none.f lf) fun r293 =>
 bd (interval_span_interval.f lf r293.1) fun r294 =>
 some (r292.1, r294.1, 0, ())) (
 bd (interval_comparisons_3.f lf r283.1 r284.1) fun r295 =>
 bd (interval_span_empty.f lf r295.1) fun r296 =>
 br r296.1 (
 bd (interval_none.f lf) fun r297 =>
 bd (interval_none.f lf) fun r298 =>
 bd (interval_span_interval.f lf r297.1) fun r299 =>
 bd (interval_span_interval.f lf r298.1) fun r300 =>
 some (r299.1, r300.1, 0, ())) (
 bd (interval_span_empty.f lf r295.2.1) fun r301 =>
 br r301.1 (
 bd (interval_none.f lf) fun r302 =>
 bd (interval_none.f lf) fun r303 =>
 bd (interval_span_interval.f lf r302.1) fun r304 =>
 bd (interval_span_interval.f lf r303.1) fun r305 =>
 some (r304.1, r305.1, 0, ())) (
 bd (interval_span_interval.f lf r295.1) fun r306 =>
 bd (interval_span_interval.f lf r295.2.1) fun r307 =>
 some (r306.1, r307.1, 0, ()))))))) (
 bd (interval_of.f lf a1) fun r308 =>
 bd (interval_of.f lf a2) fun r309 =>
 bd (interval_span_empty.f lf r308.1) fun r310 =>
 br r310.1 (
 bd (interval_none.f lf) fun r311 =>
 bd (interval_span_interval.f lf r311.1) fun r312 =>
 bd (interval_none.f lf) fun r313 =>
 bd (interval_span_interval.f lf r313.1) fun r314 =>
 some (r312.1, r314.1, 0, ())) (
 bd (interval_span_empty.f lf r309.1) fun r315 =>
 br r315.1 (
 bd (interval_none.f lf) fun r316 =>
 bd (interval_span_interval.f lf r316.1) fun r317 =>
 bd (interval_none.f lf) fun r318 =>
 bd (interval_span_interval.f lf r318.1) fun r319 =>
 some (r317.1, r319.1, 0, ())) (
 bd (interval_comparisons_3.f lf r308.1 r309.1) fun r320 =>
 bd (interval_span_empty.f lf r320.1) fun r321 =>
 br r321.1 (
 bd (interval_none.f lf) fun r322 =>
 bd (interval_none.f lf) fun r323 =>
 bd (interval_span_interval.f lf r322.1) fun r324 =>
 bd (interval_span_interval.f lf r323.1) fun r325 =>
 some (r324.1, r325.1, 0, ())) (
 bd (interval_span_empty.f lf r320.2.1) fun r326 =>
 br r326.1 (
 bd (interval_none.f lf) fun r327 =>
 bd (interval_none.f lf) fun r328 =>
 bd (interval_span_interval.f lf r327.1) fun r329 =>
 bd (interval_span_interval.f lf r328.1) fun r330 =>
 some (r329.1, r330.1, 0, ())) (
 bd (interval_span_interval.f lf r320.1) fun r331 =>
 bd (interval_span_interval.f lf r320.2.1) fun r332 =>
 some (r331.1, r332.1, 0, ())))))))) (
 some ((false, (⟨#[]⟩ : ByteArray), (⟨#[]⟩ : ByteArray), ()), (false, (⟨#[]⟩ : ByteArray), (⟨#[]⟩ : ByteArray), ()), 1, ())))))
def E (lf : Nat) : Entry := ⟨[(.int .i64), yI, yI], [yI, yI, (.int .i64)], fun x => f lf x.1 x.2.1 x.2.2.1⟩
theorem ok (lf : Nat) : Ok 115 (E lf) := okT (an := (annsL [])) (lf := lf) (tC (interval_Check.ok lf) (tC (interval_of.ok lf) (tC (interval_span_interval.ok lf) (tC (interval_span_empty.ok lf) (tC (interval_none.ok lf) (tC (interval_least.ok lf) (tC (interval_most.ok lf) (tC (interval_shifted.ok lf) (tC (interval_negated.ok lf) (tC (interval_comparisons_2.ok lf) (tC (interval_comparisons_3.ok lf) tN))))))))))) aoN fun x => by kernel_rfl
end interval_Refine
end
end Go.Q
namespace Go.Q
open Go Go.RowKit
open Go.Rx (br bd sIdx sCat sCut iQuo iRem)
noncomputable section
namespace surveyorref21_Few
def f (lf : Nat) (a0 : TI) (a1 : TI) : Option (Bool × Unit) :=
 br (decide (((a0.2.1.size : Nat) : Int) ≤ 450)) (
 br (decide (((a0.2.2.1.size : Nat) : Int) ≤ 450)) (
 br (decide (((a1.2.1.size : Nat) : Int) ≤ 450)) (
 some ((decide (((a1.2.2.1.size : Nat) : Int) ≤ 450)), ())) (
 some (false, ()))) (
 some (false, ()))) (
 some (false, ()))
def E (lf : Nat) : Entry := ⟨[yI, yI], [.bool], fun x => f lf x.1 x.2.1⟩
theorem ok (lf : Nat) : Ok 105 (E lf) := okT (an := (annsL [])) (lf := lf) tN aoN fun x => by kernel_rfl
end surveyorref21_Few
namespace surveyorref21_None
def f (lf : Nat)  : Option (TI × Unit) :=
 some ((true, (⟨#[]⟩ : ByteArray), (⟨#[]⟩ : ByteArray), ()), ())
def E (lf : Nat) : Entry := ⟨[], [yI], fun x => f lf ⟩
theorem ok (lf : Nat) : Ok 212 (E lf) := okT (an := (annsL [])) (lf := lf) tN aoN fun x => by kernel_rfl
end surveyorref21_None
namespace surveyorref21_bound
def f (lf : Nat) (a0 : ByteArray) : Option (Int × Unit) :=
 br (a0.toList == (⟨#[]⟩ : ByteArray).toList) (
 some (0, ())) (
 bd (surveyorref06_Number.f lf a0) fun r1 =>
 some (r1.1, ()))
def E (lf : Nat) : Entry := ⟨[.str], [(.int .i64)], fun x => f lf x.1⟩
theorem ok (lf : Nat) : Ok 232 (E lf) := okT (an := (annsL [])) (lf := lf) (tC (surveyorref06_Number.ok lf) tN) aoN fun x => by kernel_rfl
end surveyorref21_bound
namespace surveyorref21_Check
def f (lf : Nat) (a0 : TI) : Option (Int × Unit) :=
 br a0.1 (
 br (!(a0.2.1.toList == (⟨#[]⟩ : ByteArray).toList)) (
 some (3, ())) (
 br (!(a0.2.2.1.toList == (⟨#[]⟩ : ByteArray).toList)) (
 some (3, ())) (
 bd (surveyorref21_bound.f lf a0.2.1) fun r1 =>
 br (r1.1 != 0) (
 some (r1.1, ())) (
 bd (surveyorref21_bound.f lf a0.2.2.1) fun r2 =>
 br (r2.1 != 0) (
 some (r2.1, ())) (
 br (!(a0.2.1.toList == (⟨#[]⟩ : ByteArray).toList)) (
 br (!(a0.2.2.1.toList == (⟨#[]⟩ : ByteArray).toList)) (
 bd (surveyorref01_Less.f lf a0.2.2.1 a0.2.1) fun r3 =>
 br r3.1 (
 some (14, ())) (
 some (0, ()))) (
 some (0, ()))) (
 some (0, ()))))))) (
 bd (surveyorref21_bound.f lf a0.2.1) fun r4 =>
 br (r4.1 != 0) (
 some (r4.1, ())) (
 bd (surveyorref21_bound.f lf a0.2.2.1) fun r5 =>
 br (r5.1 != 0) (
 some (r5.1, ())) (
 br (!(a0.2.1.toList == (⟨#[]⟩ : ByteArray).toList)) (
 br (!(a0.2.2.1.toList == (⟨#[]⟩ : ByteArray).toList)) (
 bd (surveyorref01_Less.f lf a0.2.2.1 a0.2.1) fun r6 =>
 br r6.1 (
 some (14, ())) (
 some (0, ()))) (
 some (0, ()))) (
 some (0, ())))))
def E (lf : Nat) : Entry := ⟨[yI], [(.int .i64)], fun x => f lf x.1⟩
theorem ok (lf : Nat) : Ok 120 (E lf) := okT (an := (annsL [])) (lf := lf) (tC (surveyorref01_Less.ok lf) (tC (surveyorref21_bound.ok lf) tN)) aoN fun x => by kernel_rfl
end surveyorref21_Check
namespace surveyorref21_In
def f (lf : Nat) (a0 : TI) (a1 : ByteArray) : Option (Bool × Unit) :=
 br (!a0.1) (
 br (a0.2.1.toList == (⟨#[]⟩ : ByteArray).toList) (
 br (a0.2.2.1.toList == (⟨#[]⟩ : ByteArray).toList) (
 some (true, ())) (
 bd (surveyorref01_Less.f lf a0.2.2.1 a1) fun r1 =>
 some ((!r1.1), ()))) (
 bd (surveyorref01_Less.f lf a1 a0.2.1) fun r2 =>
 br (!r2.1) (
 br (a0.2.2.1.toList == (⟨#[]⟩ : ByteArray).toList) (
 some (true, ())) (
 bd (surveyorref01_Less.f lf a0.2.2.1 a1) fun r3 =>
 some ((!r3.1), ()))) (
 some (false, ())))) (
 some (false, ()))
def E (lf : Nat) : Entry := ⟨[yI, .str], [.bool], fun x => f lf x.1 x.2.1⟩
theorem ok (lf : Nat) : Ok 180 (E lf) := okT (an := (annsL [])) (lf := lf) (tC (surveyorref01_Less.ok lf) tN) aoN fun x => by kernel_rfl
end surveyorref21_In
namespace surveyorref21_clip
def f (lf : Nat) (a0 : ByteArray) : Option (ByteArray × Unit) :=
 br (!(a0.toList == (⟨#[]⟩ : ByteArray).toList)) (
 bd (surveyorref01_Digits.f lf a0) fun r1 =>
 br (decide (r1.1 > 100)) (
 some ((⟨#[]⟩ : ByteArray), ())) (
 some (a0, ()))) (
 some (a0, ()))
def E (lf : Nat) : Entry := ⟨[.str], [.str], fun x => f lf x.1⟩
theorem ok (lf : Nat) : Ok 317 (E lf) := okT (an := (annsL [])) (lf := lf) (tC (surveyorref01_Digits.ok lf) tN) aoN fun x => by kernel_rfl
end surveyorref21_clip
namespace surveyorref21_Range
def f (lf : Nat) (a0 : ByteArray) (a1 : ByteArray) : Option (TI × Unit) :=
 br (!(a0.toList == (⟨#[]⟩ : ByteArray).toList)) (
 br (!(a1.toList == (⟨#[]⟩ : ByteArray).toList)) (
 bd (surveyorref01_Less.f lf a1 a0) fun r1 =>
 br r1.1 (
 bd (surveyorref21_None.f lf) fun r2 =>
 some (r2.1, ())) (
 bd (surveyorref21_clip.f lf a0) fun r3 =>
 bd (surveyorref21_clip.f lf a1) fun r4 =>
 some ((false, r3.1, r4.1, ()), ()))) (
 bd (surveyorref21_clip.f lf a0) fun r5 =>
 bd (surveyorref21_clip.f lf a1) fun r6 =>
 some ((false, r5.1, r6.1, ()), ()))) (
 bd (surveyorref21_clip.f lf a0) fun r7 =>
 bd (surveyorref21_clip.f lf a1) fun r8 =>
 some ((false, r7.1, r8.1, ()), ()))
def E (lf : Nat) : Entry := ⟨[.str, .str], [yI], fun x => f lf x.1 x.2.1⟩
theorem ok (lf : Nat) : Ok 235 (E lf) := okT (an := (annsL [])) (lf := lf) (tC (surveyorref01_Less.ok lf) (tC (surveyorref21_None.ok lf) (tC (surveyorref21_clip.ok lf) tN))) aoN fun x => by kernel_rfl
end surveyorref21_Range
end
end Go.Q
namespace Go.Q
open Go.IntKind (i64)
open Go Go.RowKit
open Go.Rx (br bd sIdx sCat sCut iQuo iRem)
noncomputable section
namespace surveyorref01_number
def anns : FuncId → FA := annsL [(155, ⟨annOf [(0, ⟨kx 28 [0, 3, 4], [], []⟩, ⟨kx 28 [0, 2, 3], [], []⟩)], none, []⟩)]
def r0 {ρ : Type} (lf : Nat) (v0 : ByteArray) (v1 v2 : Int) (K : Int → Int → Option ρ) (E0 : Int → Option ρ) : Option ρ :=
 br (decide (v2 < ((v0.size : Nat) : Int))) (
 bd (sIdx v0 v2) fun r1 =>
 br (((r1.toNat : Nat) : Int) != 45) (
 bd (sIdx v0 v2) fun r2 =>
 K (i64.wrap ((i64.wrap (v1 * 10)) + (i64.wrap (IntKind.u8.wrap (((r2.toNat : Nat) : Int) - 48))))) (i64.wrap (v2 + 1))) (
 K v1 (i64.wrap (v2 + 1)))) (
 E0 v1)
def l0 (lf : Nat) (v0 : ByteArray) : Nat → Int → Int → Option ((Int × Unit) × Unit)
 | 0, _, _ => none
 | n + 1, v1, v2 => r0 lf v0 v1 v2 (l0 lf v0 n) (fun w0 => some ((w0, ()), ()))
def sh0 : ShS := ⟨[.s .str, .a 2, .s (.int .i64), .s (.int .i64), .a 23], []⟩
def S0 (p : ByteArray × Int × Int × Unit) : St := sh0.b p
def xh0 : ShS := ⟨[.s .str, .a 2, .s (.int .i64), .a 24], []⟩
def o0 (v0 : ByteArray) (y : (Int × Unit) × Unit) : Alt := .one (.exit 0) (xh0.b (v0, y.1.1, ()))
def tb (lf : Nat) : List (FuncId × Entry) := [(156, surveyorref01_Negative.E lf)]
def s13_155 (lf : Nat) : List (Nat × (St → Option LTE)) := [(0, sumE sh0 fun (p : ByteArray × Int × Int × Unit) => ⟨(Int × Unit) × Unit, l0 lf p.1 (lf + 40) p.2.1 p.2.2.1, o0 p.1⟩)]
def ls (lf : Nat) : List (Nat × FuncId × Sums) := [(13, 155, sumsL (s13_155 lf))]
def it0 {ρ : Type} (lf n : Nat) (st : St) (k : KE ρ) : Option ρ := itG anns (ls lf) (tb lf) lf 13 155 0 0 (sumsL (s13_155 lf)) n st k
theorem t0 {ρ : Type} (lf n : Nat) (v0 : ByteArray) (v1 v2 : Int) (k : KE ρ) : it0 lf (n + 1) (S0 (v0, v1, v2, ())) k = r0 lf v0 v1 v2 (fun x0 x1 => it0 lf n (S0 (v0, x0, x1, ())) k) (fun w0 => k (.exit 0) (xh0.b (v0, w0, ()))) := by kernel_rfl
theorem u0 {ρ : Type} (lf : Nat) (v0 : ByteArray) (k : KE ρ) : ∀ (n : Nat) (v1 v2 : Int), it0 lf n (S0 (v0, v1, v2, ())) k = bd (l0 lf v0 n v1 v2) fun y => altK k (o0 v0 y)
 | 0, _, _ => by rw [l0, bd_none]; rfl
 | n + 1, v1, v2 => by
  rw [t0]; simp only [l0, r0, u0 lf v0 k n, bd_br, bd_bd, bd_some', bd_none, br_t, br_f, o0, altK]
theorem sl (lf : Nat) : SL anns (ls lf) (tb lf) lf (ls lf) := slC (laC (fun _ => by kernel_rfl) (fun _ (x : ByteArray × Int × Int × Unit) k => leq_of (u0 lf x.1 k (lf + 40) x.2.1 x.2.2.1)) laN) slN
def f (lf : Nat) (a0 : ByteArray) : Option (Int × Unit) :=
 bd (l0 lf a0 (lf + 40) 0 0) fun z3 =>
 bd (surveyorref01_Negative.f lf a0) fun r4 =>
 br r4.1 (
 some ((i64.wrap (0 - z3.1.1)), ())) (
 some (z3.1.1, ()))
def E (lf : Nat) : Entry := ⟨[.str], [(.int .i64)], fun x => f lf x.1⟩
theorem ok (lf : Nat) : Ok 155 (E lf) := okL (tC (surveyorref01_Negative.ok lf) tN) (aoC aoN) (sl lf) fun x => by kernel_rfl
end surveyorref01_number
namespace surveyorref01_made
def anns : FuncId → FA := annsL [(157, ⟨annOf [(0, ⟨kx 34 [0, 5, 6], [⟨.tmp 5, (.int .u8), 5⟩], []⟩, ⟨kx 34 [4, 5], [⟨.tmp 5, (.int .u8), 5⟩], []⟩)], none, []⟩)]
def r0 {ρ : Type} (lf : Nat) (v0 v2 : List Int) (v1 : Int) (v3 : List Int) (K : Int → (List Int) → Option ρ) (E0 : (List Int) → Option ρ) : Option ρ :=
 br (decide (v1 ≥ 0)) (
 bd (idxL v0 v1) fun y3 =>
 bd (apL true 1 v3 [(IntKind.u8.wrap (i64.wrap (48 + y3)))]) fun q4 =>
 K (i64.wrap (v1 - 1)) q4) (
 E0 v3)
def l0 (lf : Nat) (v0 v2 : List Int) : Nat → Int → (List Int) → Option (((List Int) × Unit) × Unit)
 | 0, _, _ => none
 | n + 1, v1, v3 => r0 lf v0 v2 v1 v3 (l0 lf v0 v2 n) (fun w0 => some ((w0, ()), ()))
def sh0 : ShS := ⟨[.s (.sl (.int .i64)), .a 4, .s (.row 2), .s (.int .i64), .a 27], [.row (.int .u8) 5 false, .gone, .row (.int .u8) 5 false]⟩
def S0 (p : (List Int) × Int × (List Int) × (List Int) × Unit) : St := sh0.b p
def xh0 : ShS := ⟨[.a 5, .s (.row 2), .a 28], [.row (.int .u8) 5 false, .gone, .row (.int .u8) 5 false]⟩
def o0 (v0 v2 : List Int) (y : ((List Int) × Unit) × Unit) : Alt := .one (.exit 0) (xh0.b (v2, y.1.1, ()))
def r1 {ρ : Type} (lf : Nat) (v0 : List Int) (v1 : Int) (v2 : List Int) (K : Int → (List Int) → Option ρ) (E0 : (List Int) → Option ρ) : Option ρ :=
 br (decide (v1 ≥ 0)) (
 bd (idxL v0 v1) fun y7 =>
 bd (apL true 1 v2 [(IntKind.u8.wrap (i64.wrap (48 + y7)))]) fun q8 =>
 K (i64.wrap (v1 - 1)) q8) (
 E0 v2)
def l1 (lf : Nat) (v0 : List Int) : Nat → Int → (List Int) → Option (((List Int) × Unit) × Unit)
 | 0, _, _ => none
 | n + 1, v1, v2 => r1 lf v0 v1 v2 (l1 lf v0 n) (fun w0 => some ((w0, ()), ()))
def sh1 : ShS := ⟨[.s (.sl (.int .i64)), .a 4, .s (.row 0), .s (.int .i64), .a 27], [.row (.int .u8) 5 false]⟩
def S1 (p : (List Int) × Int × (List Int) × Unit) : St := sh1.b p
def xh1 : ShS := ⟨[.a 5, .s (.row 0), .a 28], [.row (.int .u8) 5 false]⟩
def o1 (v0 : List Int) (y : ((List Int) × Unit) × Unit) : Alt := .one (.exit 0) (xh1.b (y.1.1, ()))
def tb (lf : Nat) : List (FuncId × Entry) := [(139, surveyorref01_cut.E lf)]
def s13_157 (lf : Nat) : List (Nat × (St → Option LTE)) := [(0, sumE sh0 fun (p : (List Int) × Int × (List Int) × (List Int) × Unit) => ⟨((List Int) × Unit) × Unit, l0 lf p.1 p.2.2.1 (lf + 40) p.2.1 p.2.2.2.1, o0 p.1 p.2.2.1⟩),
 (0, sumE sh1 fun (p : (List Int) × Int × (List Int) × Unit) => ⟨((List Int) × Unit) × Unit, l1 lf p.1 (lf + 40) p.2.1 p.2.2.1, o1 p.1⟩)]
def ls (lf : Nat) : List (Nat × FuncId × Sums) := [(13, 157, sumsL (s13_157 lf))]
def it0 {ρ : Type} (lf n : Nat) (st : St) (k : KE ρ) : Option ρ := itG anns (ls lf) (tb lf) lf 13 157 0 2 (sumsL (s13_157 lf)) n st k
theorem t0 {ρ : Type} (lf n : Nat) (v0 : List Int) (v1 : Int) (v2 v3 : List Int) (k : KE ρ) : it0 lf (n + 1) (S0 (v0, v1, v2, v3, ())) k = r0 lf v0 v2 v1 v3 (fun x0 x1 => it0 lf n (S0 (v0, x0, v2, x1, ())) k) (fun w0 => k (.exit 0) (xh0.b (v2, w0, ()))) := by kernel_rfl
theorem u0 {ρ : Type} (lf : Nat) (v0 v2 : List Int) (k : KE ρ) : ∀ (n : Nat) (v1 : Int) (v3 : List Int), it0 lf n (S0 (v0, v1, v2, v3, ())) k = bd (l0 lf v0 v2 n v1 v3) fun y => altK k (o0 v0 v2 y)
 | 0, _, _ => by rw [l0, bd_none]; rfl
 | n + 1, v1, v3 => by
  rw [t0]; simp only [l0, r0, u0 lf v0 v2 k n, bd_br, bd_bd, bd_some', bd_none, br_t, br_f, o0, altK]
def it1 {ρ : Type} (lf n : Nat) (st : St) (k : KE ρ) : Option ρ := itG anns (ls lf) (tb lf) lf 13 157 0 0 (sumsL (s13_157 lf)) n st k
theorem t1 {ρ : Type} (lf n : Nat) (v0 : List Int) (v1 : Int) (v2 : List Int) (k : KE ρ) : it1 lf (n + 1) (S1 (v0, v1, v2, ())) k = r1 lf v0 v1 v2 (fun x0 x1 => it1 lf n (S1 (v0, x0, x1, ())) k) (fun w0 => k (.exit 0) (xh1.b (w0, ()))) := by kernel_rfl
theorem u1 {ρ : Type} (lf : Nat) (v0 : List Int) (k : KE ρ) : ∀ (n : Nat) (v1 : Int) (v2 : List Int), it1 lf n (S1 (v0, v1, v2, ())) k = bd (l1 lf v0 n v1 v2) fun y => altK k (o1 v0 y)
 | 0, _, _ => by rw [l1, bd_none]; rfl
 | n + 1, v1, v2 => by
  rw [t1]; simp only [l1, r1, u1 lf v0 k n, bd_br, bd_bd, bd_some', bd_none, br_t, br_f, o1, altK]
theorem sl (lf : Nat) : SL anns (ls lf) (tb lf) lf (ls lf) := slC (laC (fun _ => by kernel_rfl) (fun _ (x : (List Int) × Int × (List Int) × (List Int) × Unit) k => leq_of (u0 lf x.1 x.2.2.1 k (lf + 40) x.2.1 x.2.2.2.1)) (laC (fun _ => by kernel_rfl) (fun _ (x : (List Int) × Int × (List Int) × Unit) k => leq_of (u1 lf x.1 k (lf + 40) x.2.1 x.2.2.1)) laN)) slN
def f (lf : Nat) (a0 : List Int) (a1 : Bool) : Option (ByteArray × Unit) :=
 bd (surveyorref01_cut.f lf a0) fun r1 =>
 br (((r1.1.length : Nat) : Int) == 0) (
 some ((⟨#[48]⟩ : ByteArray), ())) (
 br a1 (
 bd (apL true 1 [] [45]) fun q2 =>
 bd (l0 lf r1.1 [45] (lf + 40) (i64.wrap (((r1.1.length : Nat) : Int) - 1)) q2) fun z5 =>
 bd (if true = true then some (bytesS z5.1.1) else none) fun s6 =>
 some (s6, ())) (
 bd (l1 lf r1.1 (lf + 40) (i64.wrap (((r1.1.length : Nat) : Int) - 1)) []) fun z9 =>
 bd (if true = true then some (bytesS z9.1.1) else none) fun s10 =>
 some (s10, ())))
def E (lf : Nat) : Entry := ⟨[(.sl (.int .i64)), .bool], [.str], fun x => f lf x.1 x.2.1⟩
theorem ok (lf : Nat) : Ok 157 (E lf) := okL (tC (surveyorref01_cut.ok lf) tN) (aoC aoN) (sl lf) fun x => by kernel_rfl
end surveyorref01_made
namespace surveyorref01_at
def f (lf : Nat) (a0 : List Int) (a1 : Int) : Option (Int × Unit) :=
 br (decide (a1 < ((a0.length : Nat) : Int))) (
 bd (idxL a0 a1) fun y1 =>
 some (y1, ())) (
 some (0, ()))
def E (lf : Nat) : Entry := ⟨[(.sl (.int .i64)), (.int .i64)], [(.int .i64)], fun x => f lf x.1 x.2.1⟩
theorem ok (lf : Nat) : Ok 259 (E lf) := okT (an := (annsL [])) (lf := lf) tN aoN fun x => by kernel_rfl
end surveyorref01_at
namespace surveyorref01_plus
def anns : FuncId → FA := annsL [(158, ⟨annOf [(0, ⟨kx 36 [0, 1, 5, 6, 7], [⟨.tmp 5, (.int .i64), 3⟩], []⟩, ⟨kx 36 [4, 5], [⟨.tmp 5, (.int .i64), 3⟩], []⟩)], none, []⟩)]
def r0 {ρ : Type} (lf : Nat) (v0 v1 : List Int) (v2 v3 : Int) (v4 : List Int) (K : Int → Int → (List Int) → Option ρ) (E0 : (List Int) → Option ρ) : Option ρ :=
 br (decide (v3 < (i64.wrap ((if ((v1.length : Nat) : Int) > ((v0.length : Nat) : Int) then ((v1.length : Nat) : Int) else ((v0.length : Nat) : Int)) + 1)))) (
 bd (surveyorref01_at.f lf v0 v3) fun r1 =>
 bd (surveyorref01_at.f lf v1 v3) fun r2 =>
 bd (iRem (i64.wrap (v2 + (i64.wrap (r1.1 + r2.1)))) 10) fun r3 =>
 bd (apL true 8 v4 [r3]) fun q4 =>
 bd (iQuo .i64 (i64.wrap (v2 + (i64.wrap (r1.1 + r2.1)))) 10) fun r5 =>
 K r5 (i64.wrap (v3 + 1)) q4) (
 E0 v4)
def l0 (lf : Nat) (v0 v1 : List Int) : Nat → Int → Int → (List Int) → Option (((List Int) × Unit) × Unit)
 | 0, _, _, _ => none
 | n + 1, v2, v3, v4 => r0 lf v0 v1 v2 v3 v4 (l0 lf v0 v1 n) (fun w0 => some ((w0, ()), ()))
def sh0 : ShS := ⟨[.s (.sl (.int .i64)), .s (.sl (.int .i64)), .a 3, .s (.row 0), .s (.int .i64), .s (.int .i64), .a 28], [.row (.int .i64) 3 false]⟩
def S0 (p : (List Int) × (List Int) × Int × Int × (List Int) × Unit) : St := sh0.b p
def xh0 : ShS := ⟨[.a 5, .s (.row 0), .a 30], [.row (.int .i64) 3 false]⟩
def o0 (v0 v1 : List Int) (y : ((List Int) × Unit) × Unit) : Alt := .one (.exit 0) (xh0.b (y.1.1, ()))
def tb (lf : Nat) : List (FuncId × Entry) := [(139, surveyorref01_cut.E lf), (259, surveyorref01_at.E lf)]
def s13_158 (lf : Nat) : List (Nat × (St → Option LTE)) := [(0, sumE sh0 fun (p : (List Int) × (List Int) × Int × Int × (List Int) × Unit) => ⟨((List Int) × Unit) × Unit, l0 lf p.1 p.2.1 (lf + 40) p.2.2.1 p.2.2.2.1 p.2.2.2.2.1, o0 p.1 p.2.1⟩)]
def ls (lf : Nat) : List (Nat × FuncId × Sums) := [(13, 158, sumsL (s13_158 lf))]
def it0 {ρ : Type} (lf n : Nat) (st : St) (k : KE ρ) : Option ρ := itG anns (ls lf) (tb lf) lf 13 158 0 0 (sumsL (s13_158 lf)) n st k
theorem t0 {ρ : Type} (lf n : Nat) (v0 v1 : List Int) (v2 v3 : Int) (v4 : List Int) (k : KE ρ) : it0 lf (n + 1) (S0 (v0, v1, v2, v3, v4, ())) k = r0 lf v0 v1 v2 v3 v4 (fun x0 x1 x2 => it0 lf n (S0 (v0, v1, x0, x1, x2, ())) k) (fun w0 => k (.exit 0) (xh0.b (w0, ()))) := by kernel_rfl
theorem u0 {ρ : Type} (lf : Nat) (v0 v1 : List Int) (k : KE ρ) : ∀ (n : Nat) (v2 v3 : Int) (v4 : List Int), it0 lf n (S0 (v0, v1, v2, v3, v4, ())) k = bd (l0 lf v0 v1 n v2 v3 v4) fun y => altK k (o0 v0 v1 y)
 | 0, _, _, _ => by rw [l0, bd_none]; rfl
 | n + 1, v2, v3, v4 => by
  rw [t0]; simp only [l0, r0, u0 lf v0 v1 k n, bd_br, bd_bd, bd_some', bd_none, br_t, br_f, o0, altK]
theorem sl (lf : Nat) : SL anns (ls lf) (tb lf) lf (ls lf) := slC (laC (fun _ => by kernel_rfl) (fun _ (x : (List Int) × (List Int) × Int × Int × (List Int) × Unit) k => leq_of (u0 lf x.1 x.2.1 k (lf + 40) x.2.2.1 x.2.2.2.1 x.2.2.2.2.1)) laN) slN
def f (lf : Nat) (a0 : List Int) (a1 : List Int) : Option ((List Int) × Unit) :=
 bd (l0 lf a0 a1 (lf + 40) 0 0 []) fun z6 =>
 bd (surveyorref01_cut.f lf z6.1.1) fun r7 =>
 some (r7.1, ())
def E (lf : Nat) : Entry := ⟨[(.sl (.int .i64)), (.sl (.int .i64))], [(.sl (.int .i64))], fun x => f lf x.1 x.2.1⟩
theorem ok (lf : Nat) : Ok 158 (E lf) := okL (tC (surveyorref01_cut.ok lf) (tC (surveyorref01_at.ok lf) tN)) (aoC aoN) (sl lf) fun x => by kernel_rfl
end surveyorref01_plus
namespace surveyorref01_minus
def anns : FuncId → FA := annsL [(159, ⟨annOf [(0, ⟨kx 35 [0, 1, 5, 6, 7], [⟨.tmp 5, (.int .i64), 3⟩], []⟩, ⟨kx 35 [4, 5], [⟨.tmp 5, (.int .i64), 3⟩], []⟩)], none, []⟩)]
def r0 {ρ : Type} (lf : Nat) (v0 v1 : List Int) (v2 v3 : Int) (v4 : List Int) (K : Int → Int → (List Int) → Option ρ) (E0 : (List Int) → Option ρ) : Option ρ :=
 br (decide (v3 < ((v0.length : Nat) : Int))) (
 bd (idxL v0 v3) fun y1 =>
 bd (surveyorref01_at.f lf v1 v3) fun r2 =>
 br (decide ((i64.wrap ((i64.wrap (y1 - r2.1)) - v2)) < 0)) (
 bd (apL true 8 v4 [(i64.wrap ((i64.wrap ((i64.wrap (y1 - r2.1)) - v2)) + 10))]) fun q3 =>
 K 1 (i64.wrap (v3 + 1)) q3) (
 bd (apL true 8 v4 [(i64.wrap ((i64.wrap (y1 - r2.1)) - v2))]) fun q4 =>
 K 0 (i64.wrap (v3 + 1)) q4)) (
 E0 v4)
def l0 (lf : Nat) (v0 v1 : List Int) : Nat → Int → Int → (List Int) → Option (((List Int) × Unit) × Unit)
 | 0, _, _, _ => none
 | n + 1, v2, v3, v4 => r0 lf v0 v1 v2 v3 v4 (l0 lf v0 v1 n) (fun w0 => some ((w0, ()), ()))
def sh0 : ShS := ⟨[.s (.sl (.int .i64)), .s (.sl (.int .i64)), .a 3, .s (.row 0), .s (.int .i64), .s (.int .i64), .a 27], [.row (.int .i64) 3 false]⟩
def S0 (p : (List Int) × (List Int) × Int × Int × (List Int) × Unit) : St := sh0.b p
def xh0 : ShS := ⟨[.a 5, .s (.row 0), .a 29], [.row (.int .i64) 3 false]⟩
def o0 (v0 v1 : List Int) (y : ((List Int) × Unit) × Unit) : Alt := .one (.exit 0) (xh0.b (y.1.1, ()))
def tb (lf : Nat) : List (FuncId × Entry) := [(139, surveyorref01_cut.E lf), (259, surveyorref01_at.E lf)]
def s13_159 (lf : Nat) : List (Nat × (St → Option LTE)) := [(0, sumE sh0 fun (p : (List Int) × (List Int) × Int × Int × (List Int) × Unit) => ⟨((List Int) × Unit) × Unit, l0 lf p.1 p.2.1 (lf + 40) p.2.2.1 p.2.2.2.1 p.2.2.2.2.1, o0 p.1 p.2.1⟩)]
def ls (lf : Nat) : List (Nat × FuncId × Sums) := [(13, 159, sumsL (s13_159 lf))]
def it0 {ρ : Type} (lf n : Nat) (st : St) (k : KE ρ) : Option ρ := itG anns (ls lf) (tb lf) lf 13 159 0 0 (sumsL (s13_159 lf)) n st k
theorem t0 {ρ : Type} (lf n : Nat) (v0 v1 : List Int) (v2 v3 : Int) (v4 : List Int) (k : KE ρ) : it0 lf (n + 1) (S0 (v0, v1, v2, v3, v4, ())) k = r0 lf v0 v1 v2 v3 v4 (fun x0 x1 x2 => it0 lf n (S0 (v0, v1, x0, x1, x2, ())) k) (fun w0 => k (.exit 0) (xh0.b (w0, ()))) := by kernel_rfl
theorem u0 {ρ : Type} (lf : Nat) (v0 v1 : List Int) (k : KE ρ) : ∀ (n : Nat) (v2 v3 : Int) (v4 : List Int), it0 lf n (S0 (v0, v1, v2, v3, v4, ())) k = bd (l0 lf v0 v1 n v2 v3 v4) fun y => altK k (o0 v0 v1 y)
 | 0, _, _, _ => by rw [l0, bd_none]; rfl
 | n + 1, v2, v3, v4 => by
  rw [t0]; simp only [l0, r0, u0 lf v0 v1 k n, bd_br, bd_bd, bd_some', bd_none, br_t, br_f, o0, altK]
theorem sl (lf : Nat) : SL anns (ls lf) (tb lf) lf (ls lf) := slC (laC (fun _ => by kernel_rfl) (fun _ (x : (List Int) × (List Int) × Int × Int × (List Int) × Unit) k => leq_of (u0 lf x.1 x.2.1 k (lf + 40) x.2.2.1 x.2.2.2.1 x.2.2.2.2.1)) laN) slN
def f (lf : Nat) (a0 : List Int) (a1 : List Int) : Option ((List Int) × Unit) :=
 bd (l0 lf a0 a1 (lf + 40) 0 0 []) fun z5 =>
 bd (surveyorref01_cut.f lf z5.1.1) fun r6 =>
 some (r6.1, ())
def E (lf : Nat) : Entry := ⟨[(.sl (.int .i64)), (.sl (.int .i64))], [(.sl (.int .i64))], fun x => f lf x.1 x.2.1⟩
theorem ok (lf : Nat) : Ok 159 (E lf) := okL (tC (surveyorref01_cut.ok lf) (tC (surveyorref01_at.ok lf) tN)) (aoC aoN) (sl lf) fun x => by kernel_rfl
end surveyorref01_minus
namespace surveyorref01_Sum
def f (lf : Nat) (a0 : ByteArray) (a1 : ByteArray) : Option (ByteArray × Unit) :=
 bd (surveyorref01_short.f lf a0 17) fun r1 =>
 br r1.1 (
 bd (surveyorref01_short.f lf a1 17) fun r2 =>
 br r2.1 (
 bd (surveyorref01_number.f lf a0) fun r3 =>
 bd (surveyorref01_number.f lf a1) fun r4 =>
 bd (surveyorref01_Whole.f lf (i64.wrap (r3.1 + r4.1))) fun r5 =>
 some (r5.1, ())) (
 bd (surveyorref01_digits.f lf a0) fun r6 =>
 bd (surveyorref01_digits.f lf a1) fun r7 =>
 bd (surveyorref01_Negative.f lf a0) fun r8 =>
 bd (surveyorref01_Negative.f lf a1) fun r9 =>
 br (r8.1 == r9.1) (
 bd (surveyorref01_plus.f lf r6.1 r7.1) fun r10 =>
 bd (surveyorref01_Negative.f lf a0) fun r11 =>
 bd (surveyorref01_made.f lf r10.1 r11.1) fun r12 =>
 some (r12.1, ())) (
 bd (surveyorref01_cut.f lf r6.1) fun r13 =>
 bd (surveyorref01_cut.f lf r7.1) fun r14 =>
 bd (surveyorref01_order.f lf r13.1 r14.1) fun r15 =>
 br (decide (r15.1 ≥ 0)) (
 bd (surveyorref01_minus.f lf r6.1 r7.1) fun r16 =>
 bd (surveyorref01_Negative.f lf a0) fun r17 =>
 bd (surveyorref01_made.f lf r16.1 r17.1) fun r18 =>
 some (r18.1, ())) (
 bd (surveyorref01_minus.f lf r7.1 r6.1) fun r19 =>
 bd (surveyorref01_Negative.f lf a1) fun r20 =>
 bd (surveyorref01_made.f lf r19.1 r20.1) fun r21 =>
 some (r21.1, ()))))) (
 bd (surveyorref01_digits.f lf a0) fun r22 =>
 bd (surveyorref01_digits.f lf a1) fun r23 =>
 bd (surveyorref01_Negative.f lf a0) fun r24 =>
 bd (surveyorref01_Negative.f lf a1) fun r25 =>
 br (r24.1 == r25.1) (
 bd (surveyorref01_plus.f lf r22.1 r23.1) fun r26 =>
 bd (surveyorref01_Negative.f lf a0) fun r27 =>
 bd (surveyorref01_made.f lf r26.1 r27.1) fun r28 =>
 some (r28.1, ())) (
 bd (surveyorref01_cut.f lf r22.1) fun r29 =>
 bd (surveyorref01_cut.f lf r23.1) fun r30 =>
 bd (surveyorref01_order.f lf r29.1 r30.1) fun r31 =>
 br (decide (r31.1 ≥ 0)) (
 bd (surveyorref01_minus.f lf r22.1 r23.1) fun r32 =>
 bd (surveyorref01_Negative.f lf a0) fun r33 =>
 bd (surveyorref01_made.f lf r32.1 r33.1) fun r34 =>
 some (r34.1, ())) (
 bd (surveyorref01_minus.f lf r23.1 r22.1) fun r35 =>
 bd (surveyorref01_Negative.f lf a1) fun r36 =>
 bd (surveyorref01_made.f lf r35.1 r36.1) fun r37 =>
 some (r37.1, ()))))
def E (lf : Nat) : Entry := ⟨[.str, .str], [.str], fun x => f lf x.1 x.2.1⟩
theorem ok (lf : Nat) : Ok 65 (E lf) := okT (an := (annsL [])) (lf := lf) (tC (surveyorref01_Whole.ok lf) (tC (surveyorref01_order.ok lf) (tC (surveyorref01_cut.ok lf) (tC (surveyorref01_digits.ok lf) (tC (surveyorref01_short.ok lf) (tC (surveyorref01_number.ok lf) (tC (surveyorref01_Negative.ok lf) (tC (surveyorref01_made.ok lf) (tC (surveyorref01_plus.ok lf) (tC (surveyorref01_minus.ok lf) tN)))))))))) aoN fun x => by kernel_rfl
end surveyorref01_Sum
namespace surveyorref01_Negated
def f (lf : Nat) (a0 : ByteArray) : Option (ByteArray × Unit) :=
 br (a0.toList == (⟨#[48]⟩ : ByteArray).toList) (
 some (a0, ())) (
 bd (surveyorref01_Negative.f lf a0) fun r1 =>
 br r1.1 (
 bd (sCut a0 (some 1) none) fun r2 =>
 some (r2, ())) (
 bd (sCat (⟨#[45]⟩ : ByteArray) a0) fun r3 =>
 some (r3, ())))
def E (lf : Nat) : Entry := ⟨[.str], [.str], fun x => f lf x.1⟩
theorem ok (lf : Nat) : Ok 70 (E lf) := okT (an := (annsL [])) (lf := lf) (tC (surveyorref01_Negative.ok lf) tN) aoN fun x => by kernel_rfl
end surveyorref01_Negated
namespace surveyorref01_Diff
def f (lf : Nat) (a0 : ByteArray) (a1 : ByteArray) : Option (ByteArray × Unit) :=
 bd (surveyorref01_Negated.f lf a1) fun r1 =>
 bd (surveyorref01_Sum.f lf a0 r1.1) fun r2 =>
 some (r2.1, ())
def E (lf : Nat) : Entry := ⟨[.str, .str], [.str], fun x => f lf x.1 x.2.1⟩
theorem ok (lf : Nat) : Ok 66 (E lf) := okT (an := (annsL [])) (lf := lf) (tC (surveyorref01_Sum.ok lf) (tC (surveyorref01_Negated.ok lf) tN)) aoN fun x => by kernel_rfl
end surveyorref01_Diff
end
end Go.Q
