import Derived.Test.YtkfehhngjioplaaGreatDoorProg
import Derived.KernelRfl
import Derived.Test.YtkfehhngjioplaaGreatDoorTIE3
import Derived.Test.YtkfehhngjioplaaGreatDoorTIG1
import Derived.Test.YtkfehhngjioplaaGreatDoorTIG2
import Derived.Test.YtkfehhngjioplaaGreatDoorTIG3
set_option linter.unusedVariables false
set_option linter.unusedSimpArgs false
set_option linter.unusedSectionVars false
set_option maxRecDepth 100000
namespace Go.Q
open Go Go.RowKit
open Go.Rx (br bd sIdx sCat sCut iQuo iRem)
noncomputable section
namespace interval_Quo
def anns:FuncId→FA:=annsL [(76,⟨annOf [(0,⟨kx 35 [3,7],[],[]⟩,⟨[],[],[]⟩)],none,[]⟩)]
def f(lf:Nat)(a0:TI)(a1:TI):Option (TI×Int×Unit) :=
 bd (interval_Check.f lf a0) fun r1 =>
 br (r1.1 != 0) (
 br (r1.1 != 0) (
 some ((false,(⟨#[]⟩:ByteArray),(⟨#[]⟩:ByteArray),()),r1.1,())) (
 bd (interval_of.f lf a0) fun r2 =>
 bd (interval_of.f lf a1) fun r3 =>
 bd (interval_none.f lf) fun r4 =>
 bd (interval_span_positive.f lf r3.1) fun r5 =>
 bd (interval_span_empty.f lf r5.1) fun r6 =>
 br (!r6.1) (
 bd (interval_span_empty.f lf r2.1) fun r7 =>
 br (!r7.1) (
 bd (interval_span_empty.f lf r2.1) fun r8 =>
 br r8.1 (
 bd (interval_none.f lf) fun r9 =>
 bd (interval_span_turned.f lf r3.1) fun r10 =>
 bd (interval_span_positive.f lf r10.1) fun r11 =>
 bd (interval_span_empty.f lf r11.1) fun r12 =>
 br (!r12.1) (
 bd (interval_span_empty.f lf r2.1) fun r13 =>
 br (!r13.1) (
 bd (interval_span_turned.f lf r2.1) fun r14 =>
 bd (interval_span_empty.f lf r14.1) fun r15 =>
 br r15.1 (
 bd (interval_none.f lf) fun r16 =>
 bd (interval_Quo_1.f lf r16.1) fun r17 =>
 bd (interval_span_hull.f lf r9.1 r17.1) fun r18 =>
 bd (interval_span_interval.f lf r18.1) fun r19 =>
 some (r19.1,0,())) (
 bd (interval_span_empty.f lf r11.1) fun r20 =>
 br r20.1 (
 bd (interval_none.f lf) fun r21 =>
 bd (interval_Quo_1.f lf r21.1) fun r22 =>
 bd (interval_span_hull.f lf r9.1 r22.1) fun r23 =>
 bd (interval_span_interval.f lf r23.1) fun r24 =>
 some (r24.1,0,())) (
 bd (interval_none.f lf) fun r25 =>
 bd (interval_over.f lf r14.1.1 r11.1.1) fun r26 =>
 bd (interval_span_hull.f lf r25.1 (r26.1,r26.1,())) fun r27 =>
 bd (interval_over.f lf r14.1.1 r11.1.2.1) fun r28 =>
 bd (interval_span_hull.f lf r27.1 (r28.1,r28.1,())) fun r29 =>
 bd (interval_over.f lf r14.1.2.1 r11.1.1) fun r30 =>
 bd (interval_span_hull.f lf r29.1 (r30.1,r30.1,())) fun r31 =>
 bd (interval_over.f lf r14.1.2.1 r11.1.2.1) fun r32 =>
 bd (interval_span_hull.f lf r31.1 (r32.1,r32.1,())) fun r33 =>
 bd (interval_Quo_1.f lf r33.1) fun r34 =>
 bd (interval_span_hull.f lf r9.1 r34.1) fun r35 =>
 bd (interval_span_interval.f lf r35.1) fun r36 =>
 some (r36.1,0,())))) (
 bd (interval_span_interval.f lf r9.1) fun r37 =>
 some (r37.1,0,()))) (
 bd (interval_span_interval.f lf r9.1) fun r38 =>
 some (r38.1,0,()))) (
 bd (interval_span_empty.f lf r5.1) fun r39 =>
 br r39.1 (
 bd (interval_none.f lf) fun r40 =>
 bd (interval_span_turned.f lf r3.1) fun r41 =>
 bd (interval_span_positive.f lf r41.1) fun r42 =>
 bd (interval_span_empty.f lf r42.1) fun r43 =>
 br (!r43.1) (
 bd (interval_span_empty.f lf r2.1) fun r44 =>
 br (!r44.1) (
 bd (interval_span_turned.f lf r2.1) fun r45 =>
 bd (interval_span_empty.f lf r45.1) fun r46 =>
 br r46.1 (
 bd (interval_none.f lf) fun r47 =>
 bd (interval_Quo_1.f lf r47.1) fun r48 =>
 bd (interval_span_hull.f lf r40.1 r48.1) fun r49 =>
 bd (interval_span_interval.f lf r49.1) fun r50 =>
 some (r50.1,0,())) (
 bd (interval_span_empty.f lf r42.1) fun r51 =>
 br r51.1 (
 bd (interval_none.f lf) fun r52 =>
 bd (interval_Quo_1.f lf r52.1) fun r53 =>
 bd (interval_span_hull.f lf r40.1 r53.1) fun r54 =>
 bd (interval_span_interval.f lf r54.1) fun r55 =>
 some (r55.1,0,())) (
 bd (interval_none.f lf) fun r56 =>
 bd (interval_over.f lf r45.1.1 r42.1.1) fun r57 =>
 bd (interval_span_hull.f lf r56.1 (r57.1,r57.1,())) fun r58 =>
 bd (interval_over.f lf r45.1.1 r42.1.2.1) fun r59 =>
 bd (interval_span_hull.f lf r58.1 (r59.1,r59.1,())) fun r60 =>
 bd (interval_over.f lf r45.1.2.1 r42.1.1) fun r61 =>
 bd (interval_span_hull.f lf r60.1 (r61.1,r61.1,())) fun r62 =>
 bd (interval_over.f lf r45.1.2.1 r42.1.2.1) fun r63 =>
 bd (interval_span_hull.f lf r62.1 (r63.1,r63.1,())) fun r64 =>
 bd (interval_Quo_1.f lf r64.1) fun r65 =>
 bd (interval_span_hull.f lf r40.1 r65.1) fun r66 =>
 bd (interval_span_interval.f lf r66.1) fun r67 =>
 some (r67.1,0,())))) (
 bd (interval_span_interval.f lf r40.1) fun r68 =>
 some (r68.1,0,()))) (
 bd (interval_span_interval.f lf r40.1) fun r69 =>
 some (r69.1,0,()))) (
 bd (interval_none.f lf) fun r70 =>
 bd (interval_over.f lf r2.1.1 r5.1.1) fun r71 =>
 bd (interval_span_hull.f lf r70.1 (r71.1,r71.1,())) fun r72 =>
 bd (interval_over.f lf r2.1.1 r5.1.2.1) fun r73 =>
 bd (interval_span_hull.f lf r72.1 (r73.1,r73.1,())) fun r74 =>
 bd (interval_over.f lf r2.1.2.1 r5.1.1) fun r75 =>
 bd (interval_span_hull.f lf r74.1 (r75.1,r75.1,())) fun r76 =>
 bd (interval_over.f lf r2.1.2.1 r5.1.2.1) fun r77 =>
 bd (interval_span_hull.f lf r76.1 (r77.1,r77.1,())) fun r78 =>
 bd (interval_span_turned.f lf r3.1) fun r79 =>
 bd (interval_span_positive.f lf r79.1) fun r80 =>
 bd (interval_span_empty.f lf r80.1) fun r81 =>
 br (!r81.1) (
 bd (interval_span_empty.f lf r2.1) fun r82 =>
 br (!r82.1) (
 bd (interval_span_turned.f lf r2.1) fun r83 =>
 bd (interval_span_empty.f lf r83.1) fun r84 =>
 br r84.1 (
 bd (interval_none.f lf) fun r85 =>
 bd (interval_Quo_1.f lf r85.1) fun r86 =>
 bd (interval_span_hull.f lf r78.1 r86.1) fun r87 =>
 bd (interval_span_interval.f lf r87.1) fun r88 =>
 some (r88.1,0,())) (
 bd (interval_span_empty.f lf r80.1) fun r89 =>
 br r89.1 (
 bd (interval_none.f lf) fun r90 =>
 bd (interval_Quo_1.f lf r90.1) fun r91 =>
 bd (interval_span_hull.f lf r78.1 r91.1) fun r92 =>
 bd (interval_span_interval.f lf r92.1) fun r93 =>
 some (r93.1,0,())) (
 bd (interval_none.f lf) fun r94 =>
 bd (interval_over.f lf r83.1.1 r80.1.1) fun r95 =>
 bd (interval_span_hull.f lf r94.1 (r95.1,r95.1,())) fun r96 =>
 bd (interval_over.f lf r83.1.1 r80.1.2.1) fun r97 =>
 bd (interval_span_hull.f lf r96.1 (r97.1,r97.1,())) fun r98 =>
 bd (interval_over.f lf r83.1.2.1 r80.1.1) fun r99 =>
 bd (interval_span_hull.f lf r98.1 (r99.1,r99.1,())) fun r100 =>
 bd (interval_over.f lf r83.1.2.1 r80.1.2.1) fun r101 =>
 bd (interval_span_hull.f lf r100.1 (r101.1,r101.1,())) fun r102 =>
 bd (interval_Quo_1.f lf r102.1) fun r103 =>
 bd (interval_span_hull.f lf r78.1 r103.1) fun r104 =>
 bd (interval_span_interval.f lf r104.1) fun r105 =>
 some (r105.1,0,())))) (
 bd (interval_span_interval.f lf r78.1) fun r106 =>
 some (r106.1,0,()))) (
 bd (interval_span_interval.f lf r78.1) fun r107 =>
 some (r107.1,0,()))))) (
 bd (interval_span_turned.f lf r3.1) fun r108 =>
 bd (interval_span_positive.f lf r108.1) fun r109 =>
 bd (interval_span_empty.f lf r109.1) fun r110 =>
 br (!r110.1) (
 bd (interval_span_empty.f lf r2.1) fun r111 =>
 br (!r111.1) (
 bd (interval_span_turned.f lf r2.1) fun r112 =>
 bd (interval_span_empty.f lf r112.1) fun r113 =>
 br r113.1 (
 bd (interval_none.f lf) fun r114 =>
 bd (interval_Quo_1.f lf r114.1) fun r115 =>
 bd (interval_span_hull.f lf r4.1 r115.1) fun r116 =>
 bd (interval_span_interval.f lf r116.1) fun r117 =>
 some (r117.1,0,())) (
 bd (interval_span_empty.f lf r109.1) fun r118 =>
 br r118.1 (
 bd (interval_none.f lf) fun r119 =>
 bd (interval_Quo_1.f lf r119.1) fun r120 =>
 bd (interval_span_hull.f lf r4.1 r120.1) fun r121 =>
 bd (interval_span_interval.f lf r121.1) fun r122 =>
 some (r122.1,0,())) (
 bd (interval_none.f lf) fun r123 =>
 bd (interval_over.f lf r112.1.1 r109.1.1) fun r124 =>
 bd (interval_span_hull.f lf r123.1 (r124.1,r124.1,())) fun r125 =>
 bd (interval_over.f lf r112.1.1 r109.1.2.1) fun r126 =>
 bd (interval_span_hull.f lf r125.1 (r126.1,r126.1,())) fun r127 =>
 bd (interval_over.f lf r112.1.2.1 r109.1.1) fun r128 =>
 bd (interval_span_hull.f lf r127.1 (r128.1,r128.1,())) fun r129 =>
 bd (interval_over.f lf r112.1.2.1 r109.1.2.1) fun r130 =>
 bd (interval_span_hull.f lf r129.1 (r130.1,r130.1,())) fun r131 =>
 bd (interval_Quo_1.f lf r131.1) fun r132 =>
 bd (interval_span_hull.f lf r4.1 r132.1) fun r133 =>
 bd (interval_span_interval.f lf r133.1) fun r134 =>
 some (r134.1,0,())))) (
 bd (interval_span_interval.f lf r4.1) fun r135 =>
 some (r135.1,0,()))) (
 bd (interval_span_interval.f lf r4.1) fun r136 =>
 some (r136.1,0,())))) (
 bd (interval_span_turned.f lf r3.1) fun r137 =>
 bd (interval_span_positive.f lf r137.1) fun r138 =>
 bd (interval_span_empty.f lf r138.1) fun r139 =>
 br (!r139.1) (
 bd (interval_span_empty.f lf r2.1) fun r140 =>
 br (!r140.1) (
 bd (interval_span_turned.f lf r2.1) fun r141 =>
 bd (interval_span_empty.f lf r141.1) fun r142 =>
 br r142.1 (
 bd (interval_none.f lf) fun r143 =>
 bd (interval_Quo_1.f lf r143.1) fun r144 =>
 bd (interval_span_hull.f lf r4.1 r144.1) fun r145 =>
 bd (interval_span_interval.f lf r145.1) fun r146 =>
 some (r146.1,0,())) (
 bd (interval_span_empty.f lf r138.1) fun r147 =>
 br r147.1 (
 bd (interval_none.f lf) fun r148 =>
 bd (interval_Quo_1.f lf r148.1) fun r149 =>
 bd (interval_span_hull.f lf r4.1 r149.1) fun r150 =>
 bd (interval_span_interval.f lf r150.1) fun r151 =>
 some (r151.1,0,())) (
 bd (interval_none.f lf) fun r152 =>
 bd (interval_over.f lf r141.1.1 r138.1.1) fun r153 =>
 bd (interval_span_hull.f lf r152.1 (r153.1,r153.1,())) fun r154 =>
 bd (interval_over.f lf r141.1.1 r138.1.2.1) fun r155 =>
 bd (interval_span_hull.f lf r154.1 (r155.1,r155.1,())) fun r156 =>
 bd (interval_over.f lf r141.1.2.1 r138.1.1) fun r157 =>
 bd (interval_span_hull.f lf r156.1 (r157.1,r157.1,())) fun r158 =>
 bd (interval_over.f lf r141.1.2.1 r138.1.2.1) fun r159 =>
 bd (interval_span_hull.f lf r158.1 (r159.1,r159.1,())) fun r160 =>
 bd (interval_Quo_1.f lf r160.1) fun r161 =>
 bd (interval_span_hull.f lf r4.1 r161.1) fun r162 =>
 bd (interval_span_interval.f lf r162.1) fun r163 =>
 some (r163.1,0,())))) (
 bd (interval_span_interval.f lf r4.1) fun r164 =>
 some (r164.1,0,()))) (
 bd (interval_span_interval.f lf r4.1) fun r165 =>
 some (r165.1,0,()))))) (
 bd (interval_Check.f lf a1) fun r166 =>
 br (r166.1 != 0) (
 br (r166.1 != 0) (
 some ((false,(⟨#[]⟩:ByteArray),(⟨#[]⟩:ByteArray),()),r166.1,())) (
 bd (interval_of.f lf a0) fun r167 =>
 bd (interval_of.f lf a1) fun r168 =>
 bd (interval_none.f lf) fun r169 =>
 bd (interval_span_positive.f lf r168.1) fun r170 =>
 bd (interval_span_empty.f lf r170.1) fun r171 =>
 br (!r171.1) (
 bd (interval_span_empty.f lf r167.1) fun r172 =>
 br (!r172.1) (
 bd (interval_span_empty.f lf r167.1) fun r173 =>
 br r173.1 (
 bd (interval_none.f lf) fun r174 =>
 bd (interval_span_turned.f lf r168.1) fun r175 =>
 bd (interval_span_positive.f lf r175.1) fun r176 =>
 bd (interval_span_empty.f lf r176.1) fun r177 =>
 br (!r177.1) (
 bd (interval_span_empty.f lf r167.1) fun r178 =>
 br (!r178.1) (
 bd (interval_span_turned.f lf r167.1) fun r179 =>
 bd (interval_span_empty.f lf r179.1) fun r180 =>
 br r180.1 (
 bd (interval_none.f lf) fun r181 =>
 bd (interval_Quo_1.f lf r181.1) fun r182 =>
 bd (interval_span_hull.f lf r174.1 r182.1) fun r183 =>
 bd (interval_span_interval.f lf r183.1) fun r184 =>
 some (r184.1,0,())) (
 bd (interval_span_empty.f lf r176.1) fun r185 =>
 br r185.1 (
 bd (interval_none.f lf) fun r186 =>
 bd (interval_Quo_1.f lf r186.1) fun r187 =>
 bd (interval_span_hull.f lf r174.1 r187.1) fun r188 =>
 bd (interval_span_interval.f lf r188.1) fun r189 =>
 some (r189.1,0,())) (
 bd (interval_none.f lf) fun r190 =>
 bd (interval_over.f lf r179.1.1 r176.1.1) fun r191 =>
 bd (interval_span_hull.f lf r190.1 (r191.1,r191.1,())) fun r192 =>
 bd (interval_over.f lf r179.1.1 r176.1.2.1) fun r193 =>
 bd (interval_span_hull.f lf r192.1 (r193.1,r193.1,())) fun r194 =>
 bd (interval_over.f lf r179.1.2.1 r176.1.1) fun r195 =>
 bd (interval_span_hull.f lf r194.1 (r195.1,r195.1,())) fun r196 =>
 bd (interval_over.f lf r179.1.2.1 r176.1.2.1) fun r197 =>
 bd (interval_span_hull.f lf r196.1 (r197.1,r197.1,())) fun r198 =>
 bd (interval_Quo_1.f lf r198.1) fun r199 =>
 bd (interval_span_hull.f lf r174.1 r199.1) fun r200 =>
 bd (interval_span_interval.f lf r200.1) fun r201 =>
 some (r201.1,0,())))) (
 bd (interval_span_interval.f lf r174.1) fun r202 =>
 some (r202.1,0,()))) (
 bd (interval_span_interval.f lf r174.1) fun r203 =>
 some (r203.1,0,()))) (
 bd (interval_span_empty.f lf r170.1) fun r204 =>
 br r204.1 (
 bd (interval_none.f lf) fun r205 =>
 bd (interval_span_turned.f lf r168.1) fun r206 =>
 bd (interval_span_positive.f lf r206.1) fun r207 =>
 bd (interval_span_empty.f lf r207.1) fun r208 =>
 br (!r208.1) (
 bd (interval_span_empty.f lf r167.1) fun r209 =>
 br (!r209.1) (
 bd (interval_span_turned.f lf r167.1) fun r210 =>
 bd (interval_span_empty.f lf r210.1) fun r211 =>
 br r211.1 (
 bd (interval_none.f lf) fun r212 =>
 bd (interval_Quo_1.f lf r212.1) fun r213 =>
 bd (interval_span_hull.f lf r205.1 r213.1) fun r214 =>
 bd (interval_span_interval.f lf r214.1) fun r215 =>
 some (r215.1,0,())) (
 bd (interval_span_empty.f lf r207.1) fun r216 =>
 br r216.1 (
 bd (interval_none.f lf) fun r217 =>
 bd (interval_Quo_1.f lf r217.1) fun r218 =>
 bd (interval_span_hull.f lf r205.1 r218.1) fun r219 =>
 bd (interval_span_interval.f lf r219.1) fun r220 =>
 some (r220.1,0,())) (
 bd (interval_none.f lf) fun r221 =>
 bd (interval_over.f lf r210.1.1 r207.1.1) fun r222 =>
 bd (interval_span_hull.f lf r221.1 (r222.1,r222.1,())) fun r223 =>
 bd (interval_over.f lf r210.1.1 r207.1.2.1) fun r224 =>
 bd (interval_span_hull.f lf r223.1 (r224.1,r224.1,())) fun r225 =>
 bd (interval_over.f lf r210.1.2.1 r207.1.1) fun r226 =>
 bd (interval_span_hull.f lf r225.1 (r226.1,r226.1,())) fun r227 =>
 bd (interval_over.f lf r210.1.2.1 r207.1.2.1) fun r228 =>
 bd (interval_span_hull.f lf r227.1 (r228.1,r228.1,())) fun r229 =>
 bd (interval_Quo_1.f lf r229.1) fun r230 =>
 bd (interval_span_hull.f lf r205.1 r230.1) fun r231 =>
 bd (interval_span_interval.f lf r231.1) fun r232 =>
 some (r232.1,0,())))) (
 bd (interval_span_interval.f lf r205.1) fun r233 =>
 some (r233.1,0,()))) (
 bd (interval_span_interval.f lf r205.1) fun r234 =>
 some (r234.1,0,()))) (
 bd (interval_none.f lf) fun r235 =>
 bd (interval_over.f lf r167.1.1 r170.1.1) fun r236 =>
 bd (interval_span_hull.f lf r235.1 (r236.1,r236.1,())) fun r237 =>
 bd (interval_over.f lf r167.1.1 r170.1.2.1) fun r238 =>
 bd (interval_span_hull.f lf r237.1 (r238.1,r238.1,())) fun r239 =>
 bd (interval_over.f lf r167.1.2.1 r170.1.1) fun r240 =>
 bd (interval_span_hull.f lf r239.1 (r240.1,r240.1,())) fun r241 =>
 bd (interval_over.f lf r167.1.2.1 r170.1.2.1) fun r242 =>
 bd (interval_span_hull.f lf r241.1 (r242.1,r242.1,())) fun r243 =>
 bd (interval_span_turned.f lf r168.1) fun r244 =>
 bd (interval_span_positive.f lf r244.1) fun r245 =>
 bd (interval_span_empty.f lf r245.1) fun r246 =>
 br (!r246.1) (
 bd (interval_span_empty.f lf r167.1) fun r247 =>
 br (!r247.1) (
 bd (interval_span_turned.f lf r167.1) fun r248 =>
 bd (interval_span_empty.f lf r248.1) fun r249 =>
 br r249.1 (
 bd (interval_none.f lf) fun r250 =>
 bd (interval_Quo_1.f lf r250.1) fun r251 =>
 bd (interval_span_hull.f lf r243.1 r251.1) fun r252 =>
 bd (interval_span_interval.f lf r252.1) fun r253 =>
 some (r253.1,0,())) (
 bd (interval_span_empty.f lf r245.1) fun r254 =>
 br r254.1 (
 bd (interval_none.f lf) fun r255 =>
 bd (interval_Quo_1.f lf r255.1) fun r256 =>
 bd (interval_span_hull.f lf r243.1 r256.1) fun r257 =>
 bd (interval_span_interval.f lf r257.1) fun r258 =>
 some (r258.1,0,())) (
 bd (interval_none.f lf) fun r259 =>
 bd (interval_over.f lf r248.1.1 r245.1.1) fun r260 =>
 bd (interval_span_hull.f lf r259.1 (r260.1,r260.1,())) fun r261 =>
 bd (interval_over.f lf r248.1.1 r245.1.2.1) fun r262 =>
 bd (interval_span_hull.f lf r261.1 (r262.1,r262.1,())) fun r263 =>
 bd (interval_over.f lf r248.1.2.1 r245.1.1) fun r264 =>
 bd (interval_span_hull.f lf r263.1 (r264.1,r264.1,())) fun r265 =>
 bd (interval_over.f lf r248.1.2.1 r245.1.2.1) fun r266 =>
 bd (interval_span_hull.f lf r265.1 (r266.1,r266.1,())) fun r267 =>
 bd (interval_Quo_1.f lf r267.1) fun r268 =>
 bd (interval_span_hull.f lf r243.1 r268.1) fun r269 =>
 bd (interval_span_interval.f lf r269.1) fun r270 =>
 some (r270.1,0,())))) (
 bd (interval_span_interval.f lf r243.1) fun r271 =>
 some (r271.1,0,()))) (
 bd (interval_span_interval.f lf r243.1) fun r272 =>
 some (r272.1,0,()))))) (
 bd (interval_span_turned.f lf r168.1) fun r273 =>
 bd (interval_span_positive.f lf r273.1) fun r274 =>
 bd (interval_span_empty.f lf r274.1) fun r275 =>
 br (!r275.1) (
 bd (interval_span_empty.f lf r167.1) fun r276 =>
 br (!r276.1) (
 bd (interval_span_turned.f lf r167.1) fun r277 =>
 bd (interval_span_empty.f lf r277.1) fun r278 =>
 br r278.1 (
 bd (interval_none.f lf) fun r279 =>
 bd (interval_Quo_1.f lf r279.1) fun r280 =>
 bd (interval_span_hull.f lf r169.1 r280.1) fun r281 =>
 bd (interval_span_interval.f lf r281.1) fun r282 =>
 some (r282.1,0,())) (
 bd (interval_span_empty.f lf r274.1) fun r283 =>
 br r283.1 (
 bd (interval_none.f lf) fun r284 =>
 bd (interval_Quo_1.f lf r284.1) fun r285 =>
 bd (interval_span_hull.f lf r169.1 r285.1) fun r286 =>
 bd (interval_span_interval.f lf r286.1) fun r287 =>
 some (r287.1,0,())) (
 bd (interval_none.f lf) fun r288 =>
 bd (interval_over.f lf r277.1.1 r274.1.1) fun r289 =>
 bd (interval_span_hull.f lf r288.1 (r289.1,r289.1,())) fun r290 =>
 bd (interval_over.f lf r277.1.1 r274.1.2.1) fun r291 =>
 bd (interval_span_hull.f lf r290.1 (r291.1,r291.1,())) fun r292 =>
 bd (interval_over.f lf r277.1.2.1 r274.1.1) fun r293 =>
 bd (interval_span_hull.f lf r292.1 (r293.1,r293.1,())) fun r294 =>
 bd (interval_over.f lf r277.1.2.1 r274.1.2.1) fun r295 =>
 bd (interval_span_hull.f lf r294.1 (r295.1,r295.1,())) fun r296 =>
 bd (interval_Quo_1.f lf r296.1) fun r297 =>
 bd (interval_span_hull.f lf r169.1 r297.1) fun r298 =>
 bd (interval_span_interval.f lf r298.1) fun r299 =>
 some (r299.1,0,())))) (
 bd (interval_span_interval.f lf r169.1) fun r300 =>
 some (r300.1,0,()))) (
 bd (interval_span_interval.f lf r169.1) fun r301 =>
 some (r301.1,0,())))) (
 bd (interval_span_turned.f lf r168.1) fun r302 =>
 bd (interval_span_positive.f lf r302.1) fun r303 =>
 bd (interval_span_empty.f lf r303.1) fun r304 =>
 br (!r304.1) (
 bd (interval_span_empty.f lf r167.1) fun r305 =>
 br (!r305.1) (
 bd (interval_span_turned.f lf r167.1) fun r306 =>
 bd (interval_span_empty.f lf r306.1) fun r307 =>
 br r307.1 (
 bd (interval_none.f lf) fun r308 =>
 bd (interval_Quo_1.f lf r308.1) fun r309 =>
 bd (interval_span_hull.f lf r169.1 r309.1) fun r310 =>
 bd (interval_span_interval.f lf r310.1) fun r311 =>
 some (r311.1,0,())) (
 bd (interval_span_empty.f lf r303.1) fun r312 =>
 br r312.1 (
 bd (interval_none.f lf) fun r313 =>
 bd (interval_Quo_1.f lf r313.1) fun r314 =>
 bd (interval_span_hull.f lf r169.1 r314.1) fun r315 =>
 bd (interval_span_interval.f lf r315.1) fun r316 =>
 some (r316.1,0,())) (
 bd (interval_none.f lf) fun r317 =>
 bd (interval_over.f lf r306.1.1 r303.1.1) fun r318 =>
 bd (interval_span_hull.f lf r317.1 (r318.1,r318.1,())) fun r319 =>
 bd (interval_over.f lf r306.1.1 r303.1.2.1) fun r320 =>
 bd (interval_span_hull.f lf r319.1 (r320.1,r320.1,())) fun r321 =>
 bd (interval_over.f lf r306.1.2.1 r303.1.1) fun r322 =>
 bd (interval_span_hull.f lf r321.1 (r322.1,r322.1,())) fun r323 =>
 bd (interval_over.f lf r306.1.2.1 r303.1.2.1) fun r324 =>
 bd (interval_span_hull.f lf r323.1 (r324.1,r324.1,())) fun r325 =>
 bd (interval_Quo_1.f lf r325.1) fun r326 =>
 bd (interval_span_hull.f lf r169.1 r326.1) fun r327 =>
 bd (interval_span_interval.f lf r327.1) fun r328 =>
 some (r328.1,0,())))) (
 bd (interval_span_interval.f lf r169.1) fun r329 =>
 some (r329.1,0,()))) (
 bd (interval_span_interval.f lf r169.1) fun r330 =>
 some (r330.1,0,()))))) (
 bd (interval_of.f lf a0) fun r331 =>
 bd (interval_of.f lf a1) fun r332 =>
 bd (interval_none.f lf) fun r333 =>
 bd (interval_span_positive.f lf r332.1) fun r334 =>
 bd (interval_span_empty.f lf r334.1) fun r335 =>
 br (!r335.1) (
 bd (interval_span_empty.f lf r331.1) fun r336 =>
 br (!r336.1) (
 bd (interval_span_empty.f lf r331.1) fun r337 =>
 br r337.1 (
 bd (interval_none.f lf) fun r338 =>
 bd (interval_span_turned.f lf r332.1) fun r339 =>
 bd (interval_span_positive.f lf r339.1) fun r340 =>
 bd (interval_span_empty.f lf r340.1) fun r341 =>
 br (!r341.1) (
 bd (interval_span_empty.f lf r331.1) fun r342 =>
 br (!r342.1) (
 bd (interval_span_turned.f lf r331.1) fun r343 =>
 bd (interval_span_empty.f lf r343.1) fun r344 =>
 br r344.1 (
 bd (interval_none.f lf) fun r345 =>
 bd (interval_Quo_1.f lf r345.1) fun r346 =>
 bd (interval_span_hull.f lf r338.1 r346.1) fun r347 =>
 bd (interval_span_interval.f lf r347.1) fun r348 =>
 some (r348.1,0,())) (
 bd (interval_span_empty.f lf r340.1) fun r349 =>
 br r349.1 (
 bd (interval_none.f lf) fun r350 =>
 bd (interval_Quo_1.f lf r350.1) fun r351 =>
 bd (interval_span_hull.f lf r338.1 r351.1) fun r352 =>
 bd (interval_span_interval.f lf r352.1) fun r353 =>
 some (r353.1,0,())) (
 bd (interval_none.f lf) fun r354 =>
 bd (interval_over.f lf r343.1.1 r340.1.1) fun r355 =>
 bd (interval_span_hull.f lf r354.1 (r355.1,r355.1,())) fun r356 =>
 bd (interval_over.f lf r343.1.1 r340.1.2.1) fun r357 =>
 bd (interval_span_hull.f lf r356.1 (r357.1,r357.1,())) fun r358 =>
 bd (interval_over.f lf r343.1.2.1 r340.1.1) fun r359 =>
 bd (interval_span_hull.f lf r358.1 (r359.1,r359.1,())) fun r360 =>
 bd (interval_over.f lf r343.1.2.1 r340.1.2.1) fun r361 =>
 bd (interval_span_hull.f lf r360.1 (r361.1,r361.1,())) fun r362 =>
 bd (interval_Quo_1.f lf r362.1) fun r363 =>
 bd (interval_span_hull.f lf r338.1 r363.1) fun r364 =>
 bd (interval_span_interval.f lf r364.1) fun r365 =>
 some (r365.1,0,())))) (
 bd (interval_span_interval.f lf r338.1) fun r366 =>
 some (r366.1,0,()))) (
 bd (interval_span_interval.f lf r338.1) fun r367 =>
 some (r367.1,0,()))) (
 bd (interval_span_empty.f lf r334.1) fun r368 =>
 br r368.1 (
 bd (interval_none.f lf) fun r369 =>
 bd (interval_span_turned.f lf r332.1) fun r370 =>
 bd (interval_span_positive.f lf r370.1) fun r371 =>
 bd (interval_span_empty.f lf r371.1) fun r372 =>
 br (!r372.1) (
 bd (interval_span_empty.f lf r331.1) fun r373 =>
 br (!r373.1) (
 bd (interval_span_turned.f lf r331.1) fun r374 =>
 bd (interval_span_empty.f lf r374.1) fun r375 =>
 br r375.1 (
 bd (interval_none.f lf) fun r376 =>
 bd (interval_Quo_1.f lf r376.1) fun r377 =>
 bd (interval_span_hull.f lf r369.1 r377.1) fun r378 =>
 bd (interval_span_interval.f lf r378.1) fun r379 =>
 some (r379.1,0,())) (
 bd (interval_span_empty.f lf r371.1) fun r380 =>
 br r380.1 (
 bd (interval_none.f lf) fun r381 =>
 bd (interval_Quo_1.f lf r381.1) fun r382 =>
 bd (interval_span_hull.f lf r369.1 r382.1) fun r383 =>
 bd (interval_span_interval.f lf r383.1) fun r384 =>
 some (r384.1,0,())) (
 bd (interval_none.f lf) fun r385 =>
 bd (interval_over.f lf r374.1.1 r371.1.1) fun r386 =>
 bd (interval_span_hull.f lf r385.1 (r386.1,r386.1,())) fun r387 =>
 bd (interval_over.f lf r374.1.1 r371.1.2.1) fun r388 =>
 bd (interval_span_hull.f lf r387.1 (r388.1,r388.1,())) fun r389 =>
 bd (interval_over.f lf r374.1.2.1 r371.1.1) fun r390 =>
 bd (interval_span_hull.f lf r389.1 (r390.1,r390.1,())) fun r391 =>
 bd (interval_over.f lf r374.1.2.1 r371.1.2.1) fun r392 =>
 bd (interval_span_hull.f lf r391.1 (r392.1,r392.1,())) fun r393 =>
 bd (interval_Quo_1.f lf r393.1) fun r394 =>
 bd (interval_span_hull.f lf r369.1 r394.1) fun r395 =>
 bd (interval_span_interval.f lf r395.1) fun r396 =>
 some (r396.1,0,())))) (
 bd (interval_span_interval.f lf r369.1) fun r397 =>
 some (r397.1,0,()))) (
 bd (interval_span_interval.f lf r369.1) fun r398 =>
 some (r398.1,0,()))) (
 bd (interval_none.f lf) fun r399 =>
 bd (interval_over.f lf r331.1.1 r334.1.1) fun r400 =>
 bd (interval_span_hull.f lf r399.1 (r400.1,r400.1,())) fun r401 =>
 bd (interval_over.f lf r331.1.1 r334.1.2.1) fun r402 =>
 bd (interval_span_hull.f lf r401.1 (r402.1,r402.1,())) fun r403 =>
 bd (interval_over.f lf r331.1.2.1 r334.1.1) fun r404 =>
 bd (interval_span_hull.f lf r403.1 (r404.1,r404.1,())) fun r405 =>
 bd (interval_over.f lf r331.1.2.1 r334.1.2.1) fun r406 =>
 bd (interval_span_hull.f lf r405.1 (r406.1,r406.1,())) fun r407 =>
 bd (interval_span_turned.f lf r332.1) fun r408 =>
 bd (interval_span_positive.f lf r408.1) fun r409 =>
 bd (interval_span_empty.f lf r409.1) fun r410 =>
 br (!r410.1) (
 bd (interval_span_empty.f lf r331.1) fun r411 =>
 br (!r411.1) (
 bd (interval_span_turned.f lf r331.1) fun r412 =>
 bd (interval_span_empty.f lf r412.1) fun r413 =>
 br r413.1 (
 bd (interval_none.f lf) fun r414 =>
 bd (interval_Quo_1.f lf r414.1) fun r415 =>
 bd (interval_span_hull.f lf r407.1 r415.1) fun r416 =>
 bd (interval_span_interval.f lf r416.1) fun r417 =>
 some (r417.1,0,())) (
 bd (interval_span_empty.f lf r409.1) fun r418 =>
 br r418.1 (
 bd (interval_none.f lf) fun r419 =>
 bd (interval_Quo_1.f lf r419.1) fun r420 =>
 bd (interval_span_hull.f lf r407.1 r420.1) fun r421 =>
 bd (interval_span_interval.f lf r421.1) fun r422 =>
 some (r422.1,0,())) (
 bd (interval_none.f lf) fun r423 =>
 bd (interval_over.f lf r412.1.1 r409.1.1) fun r424 =>
 bd (interval_span_hull.f lf r423.1 (r424.1,r424.1,())) fun r425 =>
 bd (interval_over.f lf r412.1.1 r409.1.2.1) fun r426 =>
 bd (interval_span_hull.f lf r425.1 (r426.1,r426.1,())) fun r427 =>
 bd (interval_over.f lf r412.1.2.1 r409.1.1) fun r428 =>
 bd (interval_span_hull.f lf r427.1 (r428.1,r428.1,())) fun r429 =>
 bd (interval_over.f lf r412.1.2.1 r409.1.2.1) fun r430 =>
 bd (interval_span_hull.f lf r429.1 (r430.1,r430.1,())) fun r431 =>
 bd (interval_Quo_1.f lf r431.1) fun r432 =>
 bd (interval_span_hull.f lf r407.1 r432.1) fun r433 =>
 bd (interval_span_interval.f lf r433.1) fun r434 =>
 some (r434.1,0,())))) (
 bd (interval_span_interval.f lf r407.1) fun r435 =>
 some (r435.1,0,()))) (
 bd (interval_span_interval.f lf r407.1) fun r436 =>
 some (r436.1,0,()))))) (
 bd (interval_span_turned.f lf r332.1) fun r437 =>
 bd (interval_span_positive.f lf r437.1) fun r438 =>
 bd (interval_span_empty.f lf r438.1) fun r439 =>
 br (!r439.1) (
 bd (interval_span_empty.f lf r331.1) fun r440 =>
 br (!r440.1) (
 bd (interval_span_turned.f lf r331.1) fun r441 =>
 bd (interval_span_empty.f lf r441.1) fun r442 =>
 br r442.1 (
 bd (interval_none.f lf) fun r443 =>
 bd (interval_Quo_1.f lf r443.1) fun r444 =>
 bd (interval_span_hull.f lf r333.1 r444.1) fun r445 =>
 bd (interval_span_interval.f lf r445.1) fun r446 =>
 some (r446.1,0,())) (
 bd (interval_span_empty.f lf r438.1) fun r447 =>
 br r447.1 (
 bd (interval_none.f lf) fun r448 =>
 bd (interval_Quo_1.f lf r448.1) fun r449 =>
 bd (interval_span_hull.f lf r333.1 r449.1) fun r450 =>
 bd (interval_span_interval.f lf r450.1) fun r451 =>
 some (r451.1,0,())) (
 bd (interval_none.f lf) fun r452 =>
 bd (interval_over.f lf r441.1.1 r438.1.1) fun r453 =>
 bd (interval_span_hull.f lf r452.1 (r453.1,r453.1,())) fun r454 =>
 bd (interval_over.f lf r441.1.1 r438.1.2.1) fun r455 =>
 bd (interval_span_hull.f lf r454.1 (r455.1,r455.1,())) fun r456 =>
 bd (interval_over.f lf r441.1.2.1 r438.1.1) fun r457 =>
 bd (interval_span_hull.f lf r456.1 (r457.1,r457.1,())) fun r458 =>
 bd (interval_over.f lf r441.1.2.1 r438.1.2.1) fun r459 =>
 bd (interval_span_hull.f lf r458.1 (r459.1,r459.1,())) fun r460 =>
 bd (interval_Quo_1.f lf r460.1) fun r461 =>
 bd (interval_span_hull.f lf r333.1 r461.1) fun r462 =>
 bd (interval_span_interval.f lf r462.1) fun r463 =>
 some (r463.1,0,())))) (
 bd (interval_span_interval.f lf r333.1) fun r464 =>
 some (r464.1,0,()))) (
 bd (interval_span_interval.f lf r333.1) fun r465 =>
 some (r465.1,0,())))) (
 bd (interval_span_turned.f lf r332.1) fun r466 =>
 bd (interval_span_positive.f lf r466.1) fun r467 =>
 bd (interval_span_empty.f lf r467.1) fun r468 =>
 br (!r468.1) (
 bd (interval_span_empty.f lf r331.1) fun r469 =>
 br (!r469.1) (
 bd (interval_span_turned.f lf r331.1) fun r470 =>
 bd (interval_span_empty.f lf r470.1) fun r471 =>
 br r471.1 (
 bd (interval_none.f lf) fun r472 =>
 bd (interval_Quo_1.f lf r472.1) fun r473 =>
 bd (interval_span_hull.f lf r333.1 r473.1) fun r474 =>
 bd (interval_span_interval.f lf r474.1) fun r475 =>
 some (r475.1,0,())) (
 bd (interval_span_empty.f lf r467.1) fun r476 =>
 br r476.1 (
 bd (interval_none.f lf) fun r477 =>
 bd (interval_Quo_1.f lf r477.1) fun r478 =>
 bd (interval_span_hull.f lf r333.1 r478.1) fun r479 =>
 bd (interval_span_interval.f lf r479.1) fun r480 =>
 some (r480.1,0,())) (
 bd (interval_none.f lf) fun r481 =>
 bd (interval_over.f lf r470.1.1 r467.1.1) fun r482 =>
 bd (interval_span_hull.f lf r481.1 (r482.1,r482.1,())) fun r483 =>
 bd (interval_over.f lf r470.1.1 r467.1.2.1) fun r484 =>
 bd (interval_span_hull.f lf r483.1 (r484.1,r484.1,())) fun r485 =>
 bd (interval_over.f lf r470.1.2.1 r467.1.1) fun r486 =>
 bd (interval_span_hull.f lf r485.1 (r486.1,r486.1,())) fun r487 =>
 bd (interval_over.f lf r470.1.2.1 r467.1.2.1) fun r488 =>
 bd (interval_span_hull.f lf r487.1 (r488.1,r488.1,())) fun r489 =>
 bd (interval_Quo_1.f lf r489.1) fun r490 =>
 bd (interval_span_hull.f lf r333.1 r490.1) fun r491 =>
 bd (interval_span_interval.f lf r491.1) fun r492 =>
 some (r492.1,0,())))) (
 bd (interval_span_interval.f lf r333.1) fun r493 =>
 some (r493.1,0,()))) (
 bd (interval_span_interval.f lf r333.1) fun r494 =>
 some (r494.1,0,())))))
def E(lf:Nat):Entry:=⟨[yI,yI],[yI,(.int .i64)],fun x=>f lf x.1 x.2.1⟩
theorem ok(lf:Nat):Ok 25 (E lf):=okT (an:=anns) (lf:=lf) (tC (interval_span_turned.ok lf) (tC (interval_over.ok lf) (tC (interval_Quo_1.ok lf) (tC (interval_Check.ok lf) (tC (interval_of.ok lf) (tC (interval_span_interval.ok lf) (tC (interval_span_hull.ok lf) (tC (interval_span_empty.ok lf) (tC (interval_none.ok lf) (tC (interval_span_positive.ok lf) tN)))))))))) (aoC aoN) fun x=>by kernel_rfl
end interval_Quo
end
end Go.Q
namespace Go.Q
open Go Go.RowKit
open Go.Rx (br bd sIdx sCat sCut iQuo iRem)
noncomputable section
namespace interval_Neg
def f(lf:Nat)(a0:TI):Option (TI×Int×Unit) :=
 bd (interval_Check.f lf a0) fun r1 =>
 br (r1.1 != 0) (
 some ((false,(⟨#[]⟩:ByteArray),(⟨#[]⟩:ByteArray),()),r1.1,())) (
 bd (interval_of.f lf a0) fun r2 =>
 bd (interval_span_turned.f lf r2.1) fun r3 =>
 bd (interval_span_interval.f lf r3.1) fun r4 =>
 some (r4.1,0,()))
def E(lf:Nat):Entry:=⟨[yI],[yI,(.int .i64)],fun x=>f lf x.1⟩
theorem ok(lf:Nat):Ok 26 (E lf):=okT (an:=(annsL [])) (lf:=lf) (tC (interval_span_turned.ok lf) (tC (interval_Check.ok lf) (tC (interval_of.ok lf) (tC (interval_span_interval.ok lf) tN)))) aoN fun x=>by kernel_rfl
end interval_Neg
namespace interval_Join
def f(lf:Nat)(a0:TI)(a1:TI):Option (TI×Int×Unit) :=
 bd (interval_Check.f lf a0) fun r1 =>
 br (r1.1 != 0) (
 br (r1.1 != 0) (
 some ((false,(⟨#[]⟩:ByteArray),(⟨#[]⟩:ByteArray),()),r1.1,())) (
 bd (interval_of.f lf a0) fun r2 =>
 bd (interval_of.f lf a1) fun r3 =>
 bd (interval_span_hull.f lf r2.1 r3.1) fun r4 =>
 bd (interval_span_interval.f lf r4.1) fun r5 =>
 some (r5.1,0,()))) (
 bd (interval_Check.f lf a1) fun r6 =>
 br (r6.1 != 0) (
 br (r6.1 != 0) (
 some ((false,(⟨#[]⟩:ByteArray),(⟨#[]⟩:ByteArray),()),r6.1,())) (
 bd (interval_of.f lf a0) fun r7 =>
 bd (interval_of.f lf a1) fun r8 =>
 bd (interval_span_hull.f lf r7.1 r8.1) fun r9 =>
 bd (interval_span_interval.f lf r9.1) fun r10 =>
 some (r10.1,0,()))) (
 bd (interval_of.f lf a0) fun r11 =>
 bd (interval_of.f lf a1) fun r12 =>
 bd (interval_span_hull.f lf r11.1 r12.1) fun r13 =>
 bd (interval_span_interval.f lf r13.1) fun r14 =>
 some (r14.1,0,())))
def E(lf:Nat):Entry:=⟨[yI,yI],[yI,(.int .i64)],fun x=>f lf x.1 x.2.1⟩
theorem ok(lf:Nat):Ok 27 (E lf):=okT (an:=(annsL [])) (lf:=lf) (tC (interval_Check.ok lf) (tC (interval_of.ok lf) (tC (interval_span_interval.ok lf) (tC (interval_span_hull.ok lf) tN)))) aoN fun x=>by kernel_rfl
end interval_Join
end
end Go.Q
namespace Go.Q
open Go.IntKind (i64)
open Go Go.RowKit
open Go.Rx (br bd sIdx sCat sCut iQuo iRem)
noncomputable section
namespace surveyorref01_Whole
def anns:FuncId→FA:=annsL [(41,⟨annOf [(0,⟨kx 30 [0,3,4],[],[]⟩,⟨kx 30 [0,2,3],[],[]⟩)],none,[]⟩)]
def r0{ρ:Type}(lf:Nat)(v0:Int)(v1:ByteArray)(v2:Int)(K:ByteArray→Int→Option ρ)(E0:ByteArray→Option ρ):Option ρ :=
 br (v2 != 0) (
 bd (iRem v2 10) fun r1 =>
 bd (iRem v2 10) fun r2 =>
 bd (sCut (⟨#[48,49,50,51,52,53,54,55,56,57]⟩:ByteArray) (some (if(i64.wrap (0-r2)) > r1 then(i64.wrap (0-r2))else r1)) (some (i64.wrap ((if(i64.wrap (0-r2)) > r1 then(i64.wrap (0-r2))else r1)+1)))) fun r3 =>
 bd (sCat r3 v1) fun r4 =>
 bd (iQuo .i64 v2 10) fun r5 =>
 K r4 r5) (
 E0 v1)
def l0(lf:Nat)(v0:Int):Nat→ByteArray→Int→Option ((ByteArray×Unit)×Unit)
 | 0,_,_=>none
 | n+1,v1,v2=>r0 lf v0 v1 v2 (l0 lf v0 n) (fun w0=>some ((w0,()),()))
def sh0:ShS:=⟨[.s (.int .i64),.a 2,.s .str,.s (.int .i64),.a 25],[]⟩
def S0(p:Int×ByteArray×Int×Unit):St:=sh0.b p
def xh0:ShS:=⟨[.s (.int .i64),.a 2,.s .str,.a 26],[]⟩
def o0(v0:Int)(y:(ByteArray×Unit)×Unit):Alt:=.one (.exit 0) (xh0.b (v0,y.1.1,()))
def tb(lf:Nat):List (FuncId×Entry):=[]
def s13_41(lf:Nat):List (Nat×(St→Option LTE)):=[(0,sumE sh0 fun(p:Int×ByteArray×Int×Unit)=>⟨(ByteArray×Unit)×Unit,l0 lf p.1 (lf+40) p.2.1 p.2.2.1,o0 p.1⟩)]
def ls(lf:Nat):List (Nat×FuncId×Sums):=[(13,41,sumsL (s13_41 lf))]
def it0{ρ:Type}(lf n:Nat)(st:St)(k:KE ρ):Option ρ:=itG anns (ls lf) (tb lf) lf 13 41 0 0 (sumsL (s13_41 lf)) n st k
theorem t0{ρ:Type}(lf n:Nat)(v0:Int)(v1:ByteArray)(v2:Int)(k:KE ρ):it0 lf (n+1) (S0 (v0,v1,v2,())) k=r0 lf v0 v1 v2 (fun x0 x1=>it0 lf n (S0 (v0,x0,x1,())) k) (fun w0=>k (.exit 0) (xh0.b (v0,w0,()))):=by kernel_rfl
theorem u0{ρ:Type}(lf:Nat)(v0:Int)(k:KE ρ):∀ (n:Nat) (v1:ByteArray) (v2:Int),it0 lf n (S0 (v0,v1,v2,())) k=bd (l0 lf v0 n v1 v2) fun y=>altK k (o0 v0 y)
 | 0,_,_=>by rw[l0,bd_none];rfl
 | n+1,v1,v2=>by
  rw[t0];simp only[l0,r0,u0 lf v0 k n,bd_br,bd_bd,bd_some',bd_none,br_t,br_f,o0,altK]
theorem sl(lf:Nat):SL anns (ls lf) (tb lf) lf (ls lf):=slC (laC (fun _=>by kernel_rfl) (fun _ (x:Int×ByteArray×Int×Unit) k=>leq_of (u0 lf x.1 k (lf+40) x.2.1 x.2.2.1)) laN) slN
def f(lf:Nat)(a0:Int):Option (ByteArray×Unit) :=
 br (a0==0) (
 some ((⟨#[48]⟩:ByteArray),())) (
 bd (l0 lf a0 (lf+40) (⟨#[]⟩:ByteArray) a0) fun z6 =>
 br (decide (a0 < 0)) (
 bd (sCat (⟨#[45]⟩:ByteArray) z6.1.1) fun r7 =>
 some (r7,())) (
 some (z6.1.1,())))
def E(lf:Nat):Entry:=⟨[(.int .i64)],[.str],fun x=>f lf x.1⟩
theorem ok(lf:Nat):Ok 41 (E lf):=okL tN (aoC aoN) (sl lf) fun x=>by kernel_rfl
end surveyorref01_Whole
end
end Go.Q
namespace Go.Q
open Go Go.RowKit
open Go.Rx (br bd sIdx sCat sCut iQuo iRem)
noncomputable section
namespace value_Apply
def l:List ((Int×TV×TV×Unit)×(TV×Int×Unit)):=[((5,((false,(⟨#[50]⟩:ByteArray),(⟨#[54]⟩:ByteArray),()),(false,(⟨#[50]⟩:ByteArray),(⟨#[48]⟩:ByteArray),()),()),((false,(⟨#[51]⟩:ByteArray),(⟨#[51]⟩:ByteArray),()),(false,(⟨#[48]⟩:ByteArray),(⟨#[51]⟩:ByteArray),()),()),()),(((false,(⟨#[54]⟩:ByteArray),(⟨#[49,56]⟩:ByteArray),()),(false,(⟨#[54]⟩:ByteArray),(⟨#[48]⟩:ByteArray),()),()),0,()))]
def f(lf:Nat)(a0:Int)(a1:TV)(a2:TV):Option (TV×Int×Unit):=pick [(.int .i64),yV,yV] l (a0,a1,a2,())
def E(lf:Nat):Entry:=⟨[(.int .i64),yV,yV],[yV,(.int .i64)],fun x=>f lf x.1 x.2.1 x.2.2.1⟩
def tb(lf:Nat):List (FuncId×Entry):=[(21,interval_Add.E lf),(23,interval_Sub.E lf),(24,interval_Mul.E lf),(25,interval_Quo.E lf),(74,interval_span_turned.E lf),(80,interval_Check.E lf),(81,interval_of.E lf),(82,interval_span_interval.E lf),(83,interval_span_hull.E lf),(96,bigint_Check.E lf),(117,interval_finite.E lf),(118,interval_compare.E lf),(129,interval_span_empty.E lf),(132,interval_none.E lf),(134,interval_sum.E lf),(136,interval_sign.E lf),(137,bigint_Mul.E lf),(140,interval_span_positive.E lf),(141,bigint_Quo.E lf),(143,interval_order.E lf),(145,interval_least.E lf),(160,strings_TrimPrefix.E lf),(168,bigint_Add.E lf),(170,bigint_Sub.E lf),(177,bigint_divided.E lf),(180,bigint_Compare.E lf),(181,interval_negated.E lf),(182,bigint_pair.E lf),(209,bigint_number_text.E lf),(244,bigint_divide.E lf)]
abbrev an:FuncId→FA:=annsL []
theorem t0(lf:Nat):runQ Proofs.Tryz.prog an noLs (lookT (tb lf)) (lf+40) 14 6 12 [(.int .i64),yV,yV] [yV,(.int .i64)] (5,((false,(⟨#[50]⟩:ByteArray),(⟨#[54]⟩:ByteArray),()),(false,(⟨#[50]⟩:ByteArray),(⟨#[48]⟩:ByteArray),()),()),((false,(⟨#[51]⟩:ByteArray),(⟨#[51]⟩:ByteArray),()),(false,(⟨#[48]⟩:ByteArray),(⟨#[51]⟩:ByteArray),()),()),())=some (((false,(⟨#[54]⟩:ByteArray),(⟨#[49,56]⟩:ByteArray),()),(false,(⟨#[54]⟩:ByteArray),(⟨#[48]⟩:ByteArray),()),()),0,()):=by kernel_rfl
theorem ok(lf:Nat):Ok 12 (E lf):=okP (an:=an) (tb:=tb lf) (lf:=lf) (tC (interval_Add.ok lf) (tC (interval_Sub.ok lf) (tC (interval_Mul.ok lf) (tC (interval_Quo.ok lf) (tC (interval_span_turned.ok lf) (tC (interval_Check.ok lf) (tC (interval_of.ok lf) (tC (interval_span_interval.ok lf) (tC (interval_span_hull.ok lf) (tC (bigint_Check.ok lf) (tC (interval_finite.ok lf) (tC (interval_compare.ok lf) (tC (interval_span_empty.ok lf) (tC (interval_none.ok lf) (tC (interval_sum.ok lf) (tC (interval_sign.ok lf) (tC (bigint_Mul.ok lf) (tC (interval_span_positive.ok lf) (tC (bigint_Quo.ok lf) (tC (interval_order.ok lf) (tC (interval_least.ok lf) (tC (strings_TrimPrefix.ok lf) (tC (bigint_Add.ok lf) (tC (bigint_Sub.ok lf) (tC (bigint_divided.ok lf) (tC (bigint_Compare.ok lf) (tC (interval_negated.ok lf) (tC (bigint_pair.ok lf) (tC (bigint_number_text.ok lf) (tC (bigint_divide.ok lf) tN)))))))))))))))))))))))))))))) aoN (l:=l) (fun _=>rfl) (fun _=>rfl) ⟨t0 lf,trivial⟩
end value_Apply
namespace value_Make
def l:List ((TI×TI×Unit)×(TV×Int×Unit)):=[(((false,(⟨#[50]⟩:ByteArray),(⟨#[54]⟩:ByteArray),()),(false,(⟨#[50]⟩:ByteArray),(⟨#[48]⟩:ByteArray),()),()),(((false,(⟨#[50]⟩:ByteArray),(⟨#[54]⟩:ByteArray),()),(false,(⟨#[50]⟩:ByteArray),(⟨#[48]⟩:ByteArray),()),()),0,()))]
def f(lf:Nat)(a0:TI)(a1:TI):Option (TV×Int×Unit):=pick [yI,yI] l (a0,a1,())
def E(lf:Nat):Entry:=⟨[yI,yI],[yV,(.int .i64)],fun x=>f lf x.1 x.2.1⟩
def tb(lf:Nat):List (FuncId×Entry):=[(80,interval_Check.E lf),(81,interval_of.E lf),(96,bigint_Check.E lf),(117,interval_finite.E lf),(118,interval_compare.E lf),(160,strings_TrimPrefix.E lf),(168,bigint_Add.E lf),(170,bigint_Sub.E lf),(177,bigint_divided.E lf),(180,bigint_Compare.E lf)]
abbrev an:FuncId→FA:=annsL []
theorem t0(lf:Nat):runQ Proofs.Tryz.prog an noLs (lookT (tb lf)) (lf+40) 14 6 34 [yI,yI] [yV,(.int .i64)] ((false,(⟨#[50]⟩:ByteArray),(⟨#[54]⟩:ByteArray),()),(false,(⟨#[50]⟩:ByteArray),(⟨#[48]⟩:ByteArray),()),())=some (((false,(⟨#[50]⟩:ByteArray),(⟨#[54]⟩:ByteArray),()),(false,(⟨#[50]⟩:ByteArray),(⟨#[48]⟩:ByteArray),()),()),0,()):=by kernel_rfl
theorem ok(lf:Nat):Ok 34 (E lf):=okP (an:=an) (tb:=tb lf) (lf:=lf) (tC (interval_Check.ok lf) (tC (interval_of.ok lf) (tC (bigint_Check.ok lf) (tC (interval_finite.ok lf) (tC (interval_compare.ok lf) (tC (strings_TrimPrefix.ok lf) (tC (bigint_Add.ok lf) (tC (bigint_Sub.ok lf) (tC (bigint_divided.ok lf) (tC (bigint_Compare.ok lf) tN)))))))))) aoN (l:=l) (fun _=>rfl) (fun _=>rfl) ⟨t0 lf,trivial⟩
end value_Make
namespace value_Of
def l:List ((ByteArray×Unit)×(TV×Int×Unit)):=[(((⟨#[51]⟩:ByteArray),()),(((false,(⟨#[51]⟩:ByteArray),(⟨#[51]⟩:ByteArray),()),(false,(⟨#[48]⟩:ByteArray),(⟨#[51]⟩:ByteArray),()),()),0,()))]
def f(lf:Nat)(a0:ByteArray):Option (TV×Int×Unit):=pick [.str] l (a0,())
def E(lf:Nat):Entry:=⟨[.str],[yV,(.int .i64)],fun x=>f lf x.1⟩
def tb(lf:Nat):List (FuncId×Entry):=[(96,bigint_Check.E lf),(160,strings_TrimPrefix.E lf)]
abbrev an:FuncId→FA:=annsL []
theorem t0(lf:Nat):runQ Proofs.Tryz.prog an noLs (lookT (tb lf)) (lf+40) 14 6 37 [.str] [yV,(.int .i64)] ((⟨#[51]⟩:ByteArray),())=some (((false,(⟨#[51]⟩:ByteArray),(⟨#[51]⟩:ByteArray),()),(false,(⟨#[48]⟩:ByteArray),(⟨#[51]⟩:ByteArray),()),()),0,()):=by kernel_rfl
theorem ok(lf:Nat):Ok 37 (E lf):=okP (an:=an) (tb:=tb lf) (lf:=lf) (tC (bigint_Check.ok lf) (tC (strings_TrimPrefix.ok lf) tN)) aoN (l:=l) (fun _=>rfl) (fun _=>rfl) ⟨t0 lf,trivial⟩
end value_Of
end
end Go.Q
namespace Go.Q
open Go Go.RowKit
open Go.Rx (br bd sIdx sCat sCut iQuo iRem)
noncomputable section
namespace constant_long
def f(lf:Nat)(a0:ByteArray):Option (Bool×Unit) :=
 bd (strings_TrimPrefix.f lf a0 (⟨#[45]⟩:ByteArray)) fun r1 =>
 some ((decide (((r1.1.size:Nat):Int) > 100)),())
def E(lf:Nat):Entry:=⟨[.str],[.bool],fun x=>f lf x.1⟩
theorem ok(lf:Nat):Ok 190 (E lf):=okT (an:=(annsL [])) (lf:=lf) (tC (strings_TrimPrefix.ok lf) tN) aoN fun x=>by kernel_rfl
end constant_long
namespace constant_number
def f(lf:Nat)(a0:ByteArray):Option (Int×Unit) :=
 bd (bigint_Check.f lf a0) fun r1 =>
 br (r1.1 != 0) (
 some (r1.1,())) (
 bd (constant_long.f lf a0) fun r2 =>
 br r2.1 (
 some (10,())) (
 some (0,())))
def E(lf:Nat):Entry:=⟨[.str],[(.int .i64)],fun x=>f lf x.1⟩
theorem ok(lf:Nat):Ok 150 (E lf):=okT (an:=(annsL [])) (lf:=lf) (tC (bigint_Check.ok lf) (tC (constant_long.ok lf) tN)) aoN fun x=>by kernel_rfl
end constant_number
namespace constant_of
def f(lf:Nat)(a0:ByteArray):Option (TX×Unit) :=
 bd (constant_long.f lf a0) fun r1 =>
 br r1.1 (
 some ((2,(⟨#[]⟩:ByteArray),()),())) (
 some ((1,a0,()),()))
def E(lf:Nat):Entry:=⟨[.str],[yX],fun x=>f lf x.1⟩
theorem ok(lf:Nat):Ok 151 (E lf):=okT (an:=(annsL [])) (lf:=lf) (tC (constant_long.ok lf) tN) aoN fun x=>by kernel_rfl
end constant_of
namespace constant_Of
def f(lf:Nat)(a0:ByteArray):Option (TX×Int×Unit) :=
 bd (constant_number.f lf a0) fun r1 =>
 br (r1.1 != 0) (
 some ((0,(⟨#[]⟩:ByteArray),()),r1.1,())) (
 bd (constant_of.f lf a0) fun r2 =>
 some (r2.1,0,()))
def E(lf:Nat):Entry:=⟨[.str],[yX,(.int .i64)],fun x=>f lf x.1⟩
theorem ok(lf:Nat):Ok 85 (E lf):=okT (an:=(annsL [])) (lf:=lf) (tC (constant_number.ok lf) (tC (constant_of.ok lf) tN)) aoN fun x=>by kernel_rfl
end constant_Of
namespace constant_Check
def f(lf:Nat)(a0:TX):Option (Int×Unit) :=
 br (decide (a0.1 < 0)) (
 some (1,())) (
 br (decide (a0.1 > 2)) (
 some (1,())) (
 br (a0.1==1) (
 bd (constant_number.f lf a0.2.1) fun r1 =>
 some (r1.1,())) (
 br (!(a0.2.1.toList==(⟨#[]⟩:ByteArray).toList)) (
 some (3,())) (
 some (0,())))))
def E(lf:Nat):Entry:=⟨[yX],[(.int .i64)],fun x=>f lf x.1⟩
theorem ok(lf:Nat):Ok 152 (E lf):=okT (an:=(annsL [])) (lf:=lf) (tC (constant_number.ok lf) tN) aoN fun x=>by kernel_rfl
end constant_Check
namespace constant_Holds
def f(lf:Nat)(a0:TX)(a1:ByteArray):Option (Bool×Int×Unit) :=
 bd (constant_Check.f lf a0) fun r1 =>
 br (r1.1 != 0) (
 some (false,r1.1,())) (
 bd (bigint_Check.f lf a1) fun r2 =>
 br (r2.1 != 0) (
 some (false,r2.1,())) (
 br (a0.1==2) (
 some (true,0,())) (
 bd (some ((a0.1==1)&&((a0.2.1==a1)&&true))) fun r3 =>
 some (r3,0,()))))
def E(lf:Nat):Entry:=⟨[yX,.str],[.bool,(.int .i64)],fun x=>f lf x.1 x.2.1⟩
theorem ok(lf:Nat):Ok 86 (E lf):=okT (an:=(annsL [])) (lf:=lf) (tC (bigint_Check.ok lf) (tC (constant_Check.ok lf) tN)) aoN fun x=>by kernel_rfl
end constant_Holds
end
end Go.Q
namespace Go.Q
open Go Go.RowKit
open Go.Rx (br bd sIdx sCat sCut iQuo iRem)
noncomputable section
namespace sign_Mul
def l:List ((Int×Int×Unit)×(Int×Int×Unit)):=[((4,1,()),(1,0,()))]
def f(lf:Nat)(a0:Int)(a1:Int):Option (Int×Int×Unit):=pick [(.int .i64),(.int .i64)] l (a0,a1,())
def E(lf:Nat):Entry:=⟨[(.int .i64),(.int .i64)],[(.int .i64),(.int .i64)],fun x=>f lf x.1 x.2.1⟩
def tb(lf:Nat):List (FuncId×Entry):=[]
abbrev an:FuncId→FA:=annsL [(149,⟨annOf [(0,⟨kx 24 [3,5,6,7],[],[]⟩,⟨[],[],[]⟩),(1,⟨kx 24 [3,7,8],[],[]⟩,⟨[],[],[]⟩)],none,[]⟩)]
theorem t0(lf:Nat):runQ Proofs.Tryz.prog an noLs (lookT (tb lf)) (lf+40) 14 6 84 [(.int .i64),(.int .i64)] [(.int .i64),(.int .i64)] (4,1,())=some (1,0,()):=by kernel_rfl
theorem ok(lf:Nat):Ok 84 (E lf):=okP (an:=an) (tb:=tb lf) (lf:=lf) tN (aoC aoN) (l:=l) (fun _=>rfl) (fun _=>rfl) ⟨t0 lf,trivial⟩
end sign_Mul
end
end Go.Q
namespace Go.Q
open Go.IntKind (i64)
open Go Go.RowKit
open Go.Rx (br bd sIdx sCat sCut iQuo iRem)
noncomputable section
namespace slices_Min_int_int
def anns:FuncId→FA:=annsL [(71,⟨annOf [(0,⟨kx 25 [0,3,4],[],[]⟩,⟨kx 25 [2,3],[],[]⟩)],none,[]⟩)]
def r0{ρ:Type}(lf:Nat)(v0:List Int)(v1 v2:Int)(K:Int→Int→Option ρ)(E0:Int→Option ρ):Option ρ :=
 br (decide (v2 < ((v0.length:Nat):Int))) (
 bd (idxL v0 v2) fun y2 =>
 K (if y2 < v1 then y2 else v1) (i64.wrap (v2+1))) (
 E0 v1)
def l0(lf:Nat)(v0:List Int):Nat→Int→Int→Option ((Int×Unit)×Unit)
 | 0,_,_=>none
 | n+1,v1,v2=>r0 lf v0 v1 v2 (l0 lf v0 n) (fun w0=>some ((w0,()),()))
def sh0:ShS:=⟨[.s (.sl (.int .i64)),.a 2,.s (.int .i64),.s (.int .i64),.a 20],[]⟩
def S0(p:(List Int)×Int×Int×Unit):St:=sh0.b p
def xh0:ShS:=⟨[.a 3,.s (.int .i64),.a 21],[]⟩
def o0(v0:List Int)(y:(Int×Unit)×Unit):Alt:=.one (.exit 0) (xh0.b (y.1.1,()))
def tb(lf:Nat):List (FuncId×Entry):=[]
def s13_71(lf:Nat):List (Nat×(St→Option LTE)):=[(0,sumE sh0 fun(p:(List Int)×Int×Int×Unit)=>⟨(Int×Unit)×Unit,l0 lf p.1 (lf+40) p.2.1 p.2.2.1,o0 p.1⟩)]
def ls(lf:Nat):List (Nat×FuncId×Sums):=[(13,71,sumsL (s13_71 lf))]
def it0{ρ:Type}(lf n:Nat)(st:St)(k:KE ρ):Option ρ:=itG anns (ls lf) (tb lf) lf 13 71 0 0 (sumsL (s13_71 lf)) n st k
theorem t0{ρ:Type}(lf n:Nat)(v0:List Int)(v1 v2:Int)(k:KE ρ):it0 lf (n+1) (S0 (v0,v1,v2,())) k=r0 lf v0 v1 v2 (fun x0 x1=>it0 lf n (S0 (v0,x0,x1,())) k) (fun w0=>k (.exit 0) (xh0.b (w0,()))):=by kernel_rfl
theorem u0{ρ:Type}(lf:Nat)(v0:List Int)(k:KE ρ):∀ (n:Nat) (v1 v2:Int),it0 lf n (S0 (v0,v1,v2,())) k=bd (l0 lf v0 n v1 v2) fun y=>altK k (o0 v0 y)
 | 0,_,_=>by rw[l0,bd_none];rfl
 | n+1,v1,v2=>by
  rw[t0];simp only[l0,r0,u0 lf v0 k n,bd_br,bd_bd,bd_some',bd_none,br_t,br_f,o0,altK]
theorem sl(lf:Nat):SL anns (ls lf) (tb lf) lf (ls lf):=slC (laC (fun _=>by kernel_rfl) (fun _ (x:(List Int)×Int×Int×Unit) k=>leq_of (u0 lf x.1 k (lf+40) x.2.1 x.2.2.1)) laN) slN
def f(lf:Nat)(a0:List Int):Option (Int×Unit) :=
 br (decide (((a0.length:Nat):Int) < 1)) (
 none) (
 bd (idxL a0 0) fun y1 =>
 bd (l0 lf a0 (lf+40) y1 1) fun z3 =>
 some (z3.1.1,()))
def E(lf:Nat):Entry:=⟨[(.sl (.int .i64))],[(.int .i64)],fun x=>f lf x.1⟩
theorem ok(lf:Nat):Ok 71 (E lf):=okL tN (aoC aoN) (sl lf) fun x=>by kernel_rfl
end slices_Min_int_int
namespace slices_Max_int_int
def anns:FuncId→FA:=annsL [(72,⟨annOf [(0,⟨kx 25 [0,3,4],[],[]⟩,⟨kx 25 [2,3],[],[]⟩)],none,[]⟩)]
def r0{ρ:Type}(lf:Nat)(v0:List Int)(v1 v2:Int)(K:Int→Int→Option ρ)(E0:Int→Option ρ):Option ρ :=
 br (decide (v2 < ((v0.length:Nat):Int))) (
 bd (idxL v0 v2) fun y2 =>
 K (if y2 > v1 then y2 else v1) (i64.wrap (v2+1))) (
 E0 v1)
def l0(lf:Nat)(v0:List Int):Nat→Int→Int→Option ((Int×Unit)×Unit)
 | 0,_,_=>none
 | n+1,v1,v2=>r0 lf v0 v1 v2 (l0 lf v0 n) (fun w0=>some ((w0,()),()))
def sh0:ShS:=⟨[.s (.sl (.int .i64)),.a 2,.s (.int .i64),.s (.int .i64),.a 20],[]⟩
def S0(p:(List Int)×Int×Int×Unit):St:=sh0.b p
def xh0:ShS:=⟨[.a 3,.s (.int .i64),.a 21],[]⟩
def o0(v0:List Int)(y:(Int×Unit)×Unit):Alt:=.one (.exit 0) (xh0.b (y.1.1,()))
def tb(lf:Nat):List (FuncId×Entry):=[]
def s13_72(lf:Nat):List (Nat×(St→Option LTE)):=[(0,sumE sh0 fun(p:(List Int)×Int×Int×Unit)=>⟨(Int×Unit)×Unit,l0 lf p.1 (lf+40) p.2.1 p.2.2.1,o0 p.1⟩)]
def ls(lf:Nat):List (Nat×FuncId×Sums):=[(13,72,sumsL (s13_72 lf))]
def it0{ρ:Type}(lf n:Nat)(st:St)(k:KE ρ):Option ρ:=itG anns (ls lf) (tb lf) lf 13 72 0 0 (sumsL (s13_72 lf)) n st k
theorem t0{ρ:Type}(lf n:Nat)(v0:List Int)(v1 v2:Int)(k:KE ρ):it0 lf (n+1) (S0 (v0,v1,v2,())) k=r0 lf v0 v1 v2 (fun x0 x1=>it0 lf n (S0 (v0,x0,x1,())) k) (fun w0=>k (.exit 0) (xh0.b (w0,()))):=by kernel_rfl
theorem u0{ρ:Type}(lf:Nat)(v0:List Int)(k:KE ρ):∀ (n:Nat) (v1 v2:Int),it0 lf n (S0 (v0,v1,v2,())) k=bd (l0 lf v0 n v1 v2) fun y=>altK k (o0 v0 y)
 | 0,_,_=>by rw[l0,bd_none];rfl
 | n+1,v1,v2=>by
  rw[t0];simp only[l0,r0,u0 lf v0 k n,bd_br,bd_bd,bd_some',bd_none,br_t,br_f,o0,altK]
theorem sl(lf:Nat):SL anns (ls lf) (tb lf) lf (ls lf):=slC (laC (fun _=>by kernel_rfl) (fun _ (x:(List Int)×Int×Int×Unit) k=>leq_of (u0 lf x.1 k (lf+40) x.2.1 x.2.2.1)) laN) slN
def f(lf:Nat)(a0:List Int):Option (Int×Unit) :=
 br (decide (((a0.length:Nat):Int) < 1)) (
 none) (
 bd (idxL a0 0) fun y1 =>
 bd (l0 lf a0 (lf+40) y1 1) fun z3 =>
 some (z3.1.1,()))
def E(lf:Nat):Entry:=⟨[(.sl (.int .i64))],[(.int .i64)],fun x=>f lf x.1⟩
theorem ok(lf:Nat):Ok 72 (E lf):=okL tN (aoC aoN) (sl lf) fun x=>by kernel_rfl
end slices_Max_int_int
end
end Go.Q
