import Derived.Test.YtioemjeplgnccaaGreatDoorProg
import Derived.KernelRfl
import Derived.Test.YtioemjeplgnccaaGreatDoorTDE3
import Derived.Test.YtioemjeplgnccaaGreatDoorTDG1
import Derived.Test.YtioemjeplgnccaaGreatDoorTDG2
import Derived.Test.YtioemjeplgnccaaGreatDoorTDG5
set_option linter.unusedVariables false
set_option linter.unusedSimpArgs false
set_option linter.unusedSectionVars false
set_option maxRecDepth 100000
namespace Go.Q
open Go Go.RowKit
open Go.Rx (br bd sIdx sCat sCut iQuo iRem iShl)
noncomputable section
namespace jI
def anns:FuncId→FA:=annsL [(114,⟨annOf [(0,⟨kx 35 [3,7],[],[]⟩,⟨[],[],[]⟩)],none,[]⟩)]
def f(lf:Nat)(a0:TI)(a1:TI):Option (TI×Int×Unit) :=
 bd (bV.f lf a0) fun r1 =>
 br (r1.1 != 0) (
 br (r1.1 != 0) (
 some ((false,(⟨#[]⟩:ByteArray),(⟨#[]⟩:ByteArray),()),r1.1,())) (
 bd (bF.f lf a0) fun r2 =>
 bd (bF.f lf a1) fun r3 =>
 bd (aB.f lf) fun r4 =>
 bd (aG.f lf r3.1) fun r5 =>
 bd (ak.f lf r5.1) fun r6 =>
 br (!r6.1) (
 bd (ak.f lf r2.1) fun r7 =>
 br (!r7.1) (
 bd (ak.f lf r2.1) fun r8 =>
 br r8.1 (
 bd (aB.f lf) fun r9 =>
 bd (ax.f lf r3.1) fun r10 =>
 bd (aG.f lf r10.1) fun r11 =>
 bd (ak.f lf r11.1) fun r12 =>
 br (!r12.1) (
 bd (ak.f lf r2.1) fun r13 =>
 br (!r13.1) (
 bd (ax.f lf r2.1) fun r14 =>
 bd (ak.f lf r14.1) fun r15 =>
 br r15.1 (
 bd (aB.f lf) fun r16 =>
 bd (aK.f lf r16.1) fun r17 =>
 bd (ah.f lf r9.1 r17.1) fun r18 =>
 bd (af.f lf r18.1) fun r19 =>
 some (r19.1,0,())) (
 bd (ak.f lf r11.1) fun r20 =>
 br r20.1 (
 bd (aB.f lf) fun r21 =>
 bd (aK.f lf r21.1) fun r22 =>
 bd (ah.f lf r9.1 r22.1) fun r23 =>
 bd (af.f lf r23.1) fun r24 =>
 some (r24.1,0,())) (
 bd (aB.f lf) fun r25 =>
 bd (aC.f lf r14.1.1 r11.1.1) fun r26 =>
 bd (ah.f lf r25.1 (r26.1,r26.1,())) fun r27 =>
 bd (aC.f lf r14.1.1 r11.1.2.1) fun r28 =>
 bd (ah.f lf r27.1 (r28.1,r28.1,())) fun r29 =>
 bd (aC.f lf r14.1.2.1 r11.1.1) fun r30 =>
 bd (ah.f lf r29.1 (r30.1,r30.1,())) fun r31 =>
 bd (aC.f lf r14.1.2.1 r11.1.2.1) fun r32 =>
 bd (ah.f lf r31.1 (r32.1,r32.1,())) fun r33 =>
 bd (aK.f lf r33.1) fun r34 =>
 bd (ah.f lf r9.1 r34.1) fun r35 =>
 bd (af.f lf r35.1) fun r36 =>
 some (r36.1,0,())))) (
 bd (af.f lf r9.1) fun r37 =>
 some (r37.1,0,()))) (
 bd (af.f lf r9.1) fun r38 =>
 some (r38.1,0,()))) (
 bd (ak.f lf r5.1) fun r39 =>
 br r39.1 (
 bd (aB.f lf) fun r40 =>
 bd (ax.f lf r3.1) fun r41 =>
 bd (aG.f lf r41.1) fun r42 =>
 bd (ak.f lf r42.1) fun r43 =>
 br (!r43.1) (
 bd (ak.f lf r2.1) fun r44 =>
 br (!r44.1) (
 bd (ax.f lf r2.1) fun r45 =>
 bd (ak.f lf r45.1) fun r46 =>
 br r46.1 (
 bd (aB.f lf) fun r47 =>
 bd (aK.f lf r47.1) fun r48 =>
 bd (ah.f lf r40.1 r48.1) fun r49 =>
 bd (af.f lf r49.1) fun r50 =>
 some (r50.1,0,())) (
 bd (ak.f lf r42.1) fun r51 =>
 br r51.1 (
 bd (aB.f lf) fun r52 =>
 bd (aK.f lf r52.1) fun r53 =>
 bd (ah.f lf r40.1 r53.1) fun r54 =>
 bd (af.f lf r54.1) fun r55 =>
 some (r55.1,0,())) (
 bd (aB.f lf) fun r56 =>
 bd (aC.f lf r45.1.1 r42.1.1) fun r57 =>
 bd (ah.f lf r56.1 (r57.1,r57.1,())) fun r58 =>
 bd (aC.f lf r45.1.1 r42.1.2.1) fun r59 =>
 bd (ah.f lf r58.1 (r59.1,r59.1,())) fun r60 =>
 bd (aC.f lf r45.1.2.1 r42.1.1) fun r61 =>
 bd (ah.f lf r60.1 (r61.1,r61.1,())) fun r62 =>
 bd (aC.f lf r45.1.2.1 r42.1.2.1) fun r63 =>
 bd (ah.f lf r62.1 (r63.1,r63.1,())) fun r64 =>
 bd (aK.f lf r64.1) fun r65 =>
 bd (ah.f lf r40.1 r65.1) fun r66 =>
 bd (af.f lf r66.1) fun r67 =>
 some (r67.1,0,())))) (
 bd (af.f lf r40.1) fun r68 =>
 some (r68.1,0,()))) (
 bd (af.f lf r40.1) fun r69 =>
 some (r69.1,0,()))) (
 bd (aB.f lf) fun r70 =>
 bd (aC.f lf r2.1.1 r5.1.1) fun r71 =>
 bd (ah.f lf r70.1 (r71.1,r71.1,())) fun r72 =>
 bd (aC.f lf r2.1.1 r5.1.2.1) fun r73 =>
 bd (ah.f lf r72.1 (r73.1,r73.1,())) fun r74 =>
 bd (aC.f lf r2.1.2.1 r5.1.1) fun r75 =>
 bd (ah.f lf r74.1 (r75.1,r75.1,())) fun r76 =>
 bd (aC.f lf r2.1.2.1 r5.1.2.1) fun r77 =>
 bd (ah.f lf r76.1 (r77.1,r77.1,())) fun r78 =>
 bd (ax.f lf r3.1) fun r79 =>
 bd (aG.f lf r79.1) fun r80 =>
 bd (ak.f lf r80.1) fun r81 =>
 br (!r81.1) (
 bd (ak.f lf r2.1) fun r82 =>
 br (!r82.1) (
 bd (ax.f lf r2.1) fun r83 =>
 bd (ak.f lf r83.1) fun r84 =>
 br r84.1 (
 bd (aB.f lf) fun r85 =>
 bd (aK.f lf r85.1) fun r86 =>
 bd (ah.f lf r78.1 r86.1) fun r87 =>
 bd (af.f lf r87.1) fun r88 =>
 some (r88.1,0,())) (
 bd (ak.f lf r80.1) fun r89 =>
 br r89.1 (
 bd (aB.f lf) fun r90 =>
 bd (aK.f lf r90.1) fun r91 =>
 bd (ah.f lf r78.1 r91.1) fun r92 =>
 bd (af.f lf r92.1) fun r93 =>
 some (r93.1,0,())) (
 bd (aB.f lf) fun r94 =>
 bd (aC.f lf r83.1.1 r80.1.1) fun r95 =>
 bd (ah.f lf r94.1 (r95.1,r95.1,())) fun r96 =>
 bd (aC.f lf r83.1.1 r80.1.2.1) fun r97 =>
 bd (ah.f lf r96.1 (r97.1,r97.1,())) fun r98 =>
 bd (aC.f lf r83.1.2.1 r80.1.1) fun r99 =>
 bd (ah.f lf r98.1 (r99.1,r99.1,())) fun r100 =>
 bd (aC.f lf r83.1.2.1 r80.1.2.1) fun r101 =>
 bd (ah.f lf r100.1 (r101.1,r101.1,())) fun r102 =>
 bd (aK.f lf r102.1) fun r103 =>
 bd (ah.f lf r78.1 r103.1) fun r104 =>
 bd (af.f lf r104.1) fun r105 =>
 some (r105.1,0,())))) (
 bd (af.f lf r78.1) fun r106 =>
 some (r106.1,0,()))) (
 bd (af.f lf r78.1) fun r107 =>
 some (r107.1,0,()))))) (
 bd (ax.f lf r3.1) fun r108 =>
 bd (aG.f lf r108.1) fun r109 =>
 bd (ak.f lf r109.1) fun r110 =>
 br (!r110.1) (
 bd (ak.f lf r2.1) fun r111 =>
 br (!r111.1) (
 bd (ax.f lf r2.1) fun r112 =>
 bd (ak.f lf r112.1) fun r113 =>
 br r113.1 (
 bd (aB.f lf) fun r114 =>
 bd (aK.f lf r114.1) fun r115 =>
 bd (ah.f lf r4.1 r115.1) fun r116 =>
 bd (af.f lf r116.1) fun r117 =>
 some (r117.1,0,())) (
 bd (ak.f lf r109.1) fun r118 =>
 br r118.1 (
 bd (aB.f lf) fun r119 =>
 bd (aK.f lf r119.1) fun r120 =>
 bd (ah.f lf r4.1 r120.1) fun r121 =>
 bd (af.f lf r121.1) fun r122 =>
 some (r122.1,0,())) (
 bd (aB.f lf) fun r123 =>
 bd (aC.f lf r112.1.1 r109.1.1) fun r124 =>
 bd (ah.f lf r123.1 (r124.1,r124.1,())) fun r125 =>
 bd (aC.f lf r112.1.1 r109.1.2.1) fun r126 =>
 bd (ah.f lf r125.1 (r126.1,r126.1,())) fun r127 =>
 bd (aC.f lf r112.1.2.1 r109.1.1) fun r128 =>
 bd (ah.f lf r127.1 (r128.1,r128.1,())) fun r129 =>
 bd (aC.f lf r112.1.2.1 r109.1.2.1) fun r130 =>
 bd (ah.f lf r129.1 (r130.1,r130.1,())) fun r131 =>
 bd (aK.f lf r131.1) fun r132 =>
 bd (ah.f lf r4.1 r132.1) fun r133 =>
 bd (af.f lf r133.1) fun r134 =>
 some (r134.1,0,())))) (
 bd (af.f lf r4.1) fun r135 =>
 some (r135.1,0,()))) (
 bd (af.f lf r4.1) fun r136 =>
 some (r136.1,0,())))) (
 bd (ax.f lf r3.1) fun r137 =>
 bd (aG.f lf r137.1) fun r138 =>
 bd (ak.f lf r138.1) fun r139 =>
 br (!r139.1) (
 bd (ak.f lf r2.1) fun r140 =>
 br (!r140.1) (
 bd (ax.f lf r2.1) fun r141 =>
 bd (ak.f lf r141.1) fun r142 =>
 br r142.1 (
 bd (aB.f lf) fun r143 =>
 bd (aK.f lf r143.1) fun r144 =>
 bd (ah.f lf r4.1 r144.1) fun r145 =>
 bd (af.f lf r145.1) fun r146 =>
 some (r146.1,0,())) (
 bd (ak.f lf r138.1) fun r147 =>
 br r147.1 (
 bd (aB.f lf) fun r148 =>
 bd (aK.f lf r148.1) fun r149 =>
 bd (ah.f lf r4.1 r149.1) fun r150 =>
 bd (af.f lf r150.1) fun r151 =>
 some (r151.1,0,())) (
 bd (aB.f lf) fun r152 =>
 bd (aC.f lf r141.1.1 r138.1.1) fun r153 =>
 bd (ah.f lf r152.1 (r153.1,r153.1,())) fun r154 =>
 bd (aC.f lf r141.1.1 r138.1.2.1) fun r155 =>
 bd (ah.f lf r154.1 (r155.1,r155.1,())) fun r156 =>
 bd (aC.f lf r141.1.2.1 r138.1.1) fun r157 =>
 bd (ah.f lf r156.1 (r157.1,r157.1,())) fun r158 =>
 bd (aC.f lf r141.1.2.1 r138.1.2.1) fun r159 =>
 bd (ah.f lf r158.1 (r159.1,r159.1,())) fun r160 =>
 bd (aK.f lf r160.1) fun r161 =>
 bd (ah.f lf r4.1 r161.1) fun r162 =>
 bd (af.f lf r162.1) fun r163 =>
 some (r163.1,0,())))) (
 bd (af.f lf r4.1) fun r164 =>
 some (r164.1,0,()))) (
 bd (af.f lf r4.1) fun r165 =>
 some (r165.1,0,()))))) (
 bd (bV.f lf a1) fun r166 =>
 br (r166.1 != 0) (
 br (r166.1 != 0) (
 some ((false,(⟨#[]⟩:ByteArray),(⟨#[]⟩:ByteArray),()),r166.1,())) (
 bd (bF.f lf a0) fun r167 =>
 bd (bF.f lf a1) fun r168 =>
 bd (aB.f lf) fun r169 =>
 bd (aG.f lf r168.1) fun r170 =>
 bd (ak.f lf r170.1) fun r171 =>
 br (!r171.1) (
 bd (ak.f lf r167.1) fun r172 =>
 br (!r172.1) (
 bd (ak.f lf r167.1) fun r173 =>
 br r173.1 (
 bd (aB.f lf) fun r174 =>
 bd (ax.f lf r168.1) fun r175 =>
 bd (aG.f lf r175.1) fun r176 =>
 bd (ak.f lf r176.1) fun r177 =>
 br (!r177.1) (
 bd (ak.f lf r167.1) fun r178 =>
 br (!r178.1) (
 bd (ax.f lf r167.1) fun r179 =>
 bd (ak.f lf r179.1) fun r180 =>
 br r180.1 (
 bd (aB.f lf) fun r181 =>
 bd (aK.f lf r181.1) fun r182 =>
 bd (ah.f lf r174.1 r182.1) fun r183 =>
 bd (af.f lf r183.1) fun r184 =>
 some (r184.1,0,())) (
 bd (ak.f lf r176.1) fun r185 =>
 br r185.1 (
 bd (aB.f lf) fun r186 =>
 bd (aK.f lf r186.1) fun r187 =>
 bd (ah.f lf r174.1 r187.1) fun r188 =>
 bd (af.f lf r188.1) fun r189 =>
 some (r189.1,0,())) (
 bd (aB.f lf) fun r190 =>
 bd (aC.f lf r179.1.1 r176.1.1) fun r191 =>
 bd (ah.f lf r190.1 (r191.1,r191.1,())) fun r192 =>
 bd (aC.f lf r179.1.1 r176.1.2.1) fun r193 =>
 bd (ah.f lf r192.1 (r193.1,r193.1,())) fun r194 =>
 bd (aC.f lf r179.1.2.1 r176.1.1) fun r195 =>
 bd (ah.f lf r194.1 (r195.1,r195.1,())) fun r196 =>
 bd (aC.f lf r179.1.2.1 r176.1.2.1) fun r197 =>
 bd (ah.f lf r196.1 (r197.1,r197.1,())) fun r198 =>
 bd (aK.f lf r198.1) fun r199 =>
 bd (ah.f lf r174.1 r199.1) fun r200 =>
 bd (af.f lf r200.1) fun r201 =>
 some (r201.1,0,())))) (
 bd (af.f lf r174.1) fun r202 =>
 some (r202.1,0,()))) (
 bd (af.f lf r174.1) fun r203 =>
 some (r203.1,0,()))) (
 bd (ak.f lf r170.1) fun r204 =>
 br r204.1 (
 bd (aB.f lf) fun r205 =>
 bd (ax.f lf r168.1) fun r206 =>
 bd (aG.f lf r206.1) fun r207 =>
 bd (ak.f lf r207.1) fun r208 =>
 br (!r208.1) (
 bd (ak.f lf r167.1) fun r209 =>
 br (!r209.1) (
 bd (ax.f lf r167.1) fun r210 =>
 bd (ak.f lf r210.1) fun r211 =>
 br r211.1 (
 bd (aB.f lf) fun r212 =>
 bd (aK.f lf r212.1) fun r213 =>
 bd (ah.f lf r205.1 r213.1) fun r214 =>
 bd (af.f lf r214.1) fun r215 =>
 some (r215.1,0,())) (
 bd (ak.f lf r207.1) fun r216 =>
 br r216.1 (
 bd (aB.f lf) fun r217 =>
 bd (aK.f lf r217.1) fun r218 =>
 bd (ah.f lf r205.1 r218.1) fun r219 =>
 bd (af.f lf r219.1) fun r220 =>
 some (r220.1,0,())) (
 bd (aB.f lf) fun r221 =>
 bd (aC.f lf r210.1.1 r207.1.1) fun r222 =>
 bd (ah.f lf r221.1 (r222.1,r222.1,())) fun r223 =>
 bd (aC.f lf r210.1.1 r207.1.2.1) fun r224 =>
 bd (ah.f lf r223.1 (r224.1,r224.1,())) fun r225 =>
 bd (aC.f lf r210.1.2.1 r207.1.1) fun r226 =>
 bd (ah.f lf r225.1 (r226.1,r226.1,())) fun r227 =>
 bd (aC.f lf r210.1.2.1 r207.1.2.1) fun r228 =>
 bd (ah.f lf r227.1 (r228.1,r228.1,())) fun r229 =>
 bd (aK.f lf r229.1) fun r230 =>
 bd (ah.f lf r205.1 r230.1) fun r231 =>
 bd (af.f lf r231.1) fun r232 =>
 some (r232.1,0,())))) (
 bd (af.f lf r205.1) fun r233 =>
 some (r233.1,0,()))) (
 bd (af.f lf r205.1) fun r234 =>
 some (r234.1,0,()))) (
 bd (aB.f lf) fun r235 =>
 bd (aC.f lf r167.1.1 r170.1.1) fun r236 =>
 bd (ah.f lf r235.1 (r236.1,r236.1,())) fun r237 =>
 bd (aC.f lf r167.1.1 r170.1.2.1) fun r238 =>
 bd (ah.f lf r237.1 (r238.1,r238.1,())) fun r239 =>
 bd (aC.f lf r167.1.2.1 r170.1.1) fun r240 =>
 bd (ah.f lf r239.1 (r240.1,r240.1,())) fun r241 =>
 bd (aC.f lf r167.1.2.1 r170.1.2.1) fun r242 =>
 bd (ah.f lf r241.1 (r242.1,r242.1,())) fun r243 =>
 bd (ax.f lf r168.1) fun r244 =>
 bd (aG.f lf r244.1) fun r245 =>
 bd (ak.f lf r245.1) fun r246 =>
 br (!r246.1) (
 bd (ak.f lf r167.1) fun r247 =>
 br (!r247.1) (
 bd (ax.f lf r167.1) fun r248 =>
 bd (ak.f lf r248.1) fun r249 =>
 br r249.1 (
 bd (aB.f lf) fun r250 =>
 bd (aK.f lf r250.1) fun r251 =>
 bd (ah.f lf r243.1 r251.1) fun r252 =>
 bd (af.f lf r252.1) fun r253 =>
 some (r253.1,0,())) (
 bd (ak.f lf r245.1) fun r254 =>
 br r254.1 (
 bd (aB.f lf) fun r255 =>
 bd (aK.f lf r255.1) fun r256 =>
 bd (ah.f lf r243.1 r256.1) fun r257 =>
 bd (af.f lf r257.1) fun r258 =>
 some (r258.1,0,())) (
 bd (aB.f lf) fun r259 =>
 bd (aC.f lf r248.1.1 r245.1.1) fun r260 =>
 bd (ah.f lf r259.1 (r260.1,r260.1,())) fun r261 =>
 bd (aC.f lf r248.1.1 r245.1.2.1) fun r262 =>
 bd (ah.f lf r261.1 (r262.1,r262.1,())) fun r263 =>
 bd (aC.f lf r248.1.2.1 r245.1.1) fun r264 =>
 bd (ah.f lf r263.1 (r264.1,r264.1,())) fun r265 =>
 bd (aC.f lf r248.1.2.1 r245.1.2.1) fun r266 =>
 bd (ah.f lf r265.1 (r266.1,r266.1,())) fun r267 =>
 bd (aK.f lf r267.1) fun r268 =>
 bd (ah.f lf r243.1 r268.1) fun r269 =>
 bd (af.f lf r269.1) fun r270 =>
 some (r270.1,0,())))) (
 bd (af.f lf r243.1) fun r271 =>
 some (r271.1,0,()))) (
 bd (af.f lf r243.1) fun r272 =>
 some (r272.1,0,()))))) (
 bd (ax.f lf r168.1) fun r273 =>
 bd (aG.f lf r273.1) fun r274 =>
 bd (ak.f lf r274.1) fun r275 =>
 br (!r275.1) (
 bd (ak.f lf r167.1) fun r276 =>
 br (!r276.1) (
 bd (ax.f lf r167.1) fun r277 =>
 bd (ak.f lf r277.1) fun r278 =>
 br r278.1 (
 bd (aB.f lf) fun r279 =>
 bd (aK.f lf r279.1) fun r280 =>
 bd (ah.f lf r169.1 r280.1) fun r281 =>
 bd (af.f lf r281.1) fun r282 =>
 some (r282.1,0,())) (
 bd (ak.f lf r274.1) fun r283 =>
 br r283.1 (
 bd (aB.f lf) fun r284 =>
 bd (aK.f lf r284.1) fun r285 =>
 bd (ah.f lf r169.1 r285.1) fun r286 =>
 bd (af.f lf r286.1) fun r287 =>
 some (r287.1,0,())) (
 bd (aB.f lf) fun r288 =>
 bd (aC.f lf r277.1.1 r274.1.1) fun r289 =>
 bd (ah.f lf r288.1 (r289.1,r289.1,())) fun r290 =>
 bd (aC.f lf r277.1.1 r274.1.2.1) fun r291 =>
 bd (ah.f lf r290.1 (r291.1,r291.1,())) fun r292 =>
 bd (aC.f lf r277.1.2.1 r274.1.1) fun r293 =>
 bd (ah.f lf r292.1 (r293.1,r293.1,())) fun r294 =>
 bd (aC.f lf r277.1.2.1 r274.1.2.1) fun r295 =>
 bd (ah.f lf r294.1 (r295.1,r295.1,())) fun r296 =>
 bd (aK.f lf r296.1) fun r297 =>
 bd (ah.f lf r169.1 r297.1) fun r298 =>
 bd (af.f lf r298.1) fun r299 =>
 some (r299.1,0,())))) (
 bd (af.f lf r169.1) fun r300 =>
 some (r300.1,0,()))) (
 bd (af.f lf r169.1) fun r301 =>
 some (r301.1,0,())))) (
 bd (ax.f lf r168.1) fun r302 =>
 bd (aG.f lf r302.1) fun r303 =>
 bd (ak.f lf r303.1) fun r304 =>
 br (!r304.1) (
 bd (ak.f lf r167.1) fun r305 =>
 br (!r305.1) (
 bd (ax.f lf r167.1) fun r306 =>
 bd (ak.f lf r306.1) fun r307 =>
 br r307.1 (
 bd (aB.f lf) fun r308 =>
 bd (aK.f lf r308.1) fun r309 =>
 bd (ah.f lf r169.1 r309.1) fun r310 =>
 bd (af.f lf r310.1) fun r311 =>
 some (r311.1,0,())) (
 bd (ak.f lf r303.1) fun r312 =>
 br r312.1 (
 bd (aB.f lf) fun r313 =>
 bd (aK.f lf r313.1) fun r314 =>
 bd (ah.f lf r169.1 r314.1) fun r315 =>
 bd (af.f lf r315.1) fun r316 =>
 some (r316.1,0,())) (
 bd (aB.f lf) fun r317 =>
 bd (aC.f lf r306.1.1 r303.1.1) fun r318 =>
 bd (ah.f lf r317.1 (r318.1,r318.1,())) fun r319 =>
 bd (aC.f lf r306.1.1 r303.1.2.1) fun r320 =>
 bd (ah.f lf r319.1 (r320.1,r320.1,())) fun r321 =>
 bd (aC.f lf r306.1.2.1 r303.1.1) fun r322 =>
 bd (ah.f lf r321.1 (r322.1,r322.1,())) fun r323 =>
 bd (aC.f lf r306.1.2.1 r303.1.2.1) fun r324 =>
 bd (ah.f lf r323.1 (r324.1,r324.1,())) fun r325 =>
 bd (aK.f lf r325.1) fun r326 =>
 bd (ah.f lf r169.1 r326.1) fun r327 =>
 bd (af.f lf r327.1) fun r328 =>
 some (r328.1,0,())))) (
 bd (af.f lf r169.1) fun r329 =>
 some (r329.1,0,()))) (
 bd (af.f lf r169.1) fun r330 =>
 some (r330.1,0,()))))) (
 bd (bF.f lf a0) fun r331 =>
 bd (bF.f lf a1) fun r332 =>
 bd (aB.f lf) fun r333 =>
 bd (aG.f lf r332.1) fun r334 =>
 bd (ak.f lf r334.1) fun r335 =>
 br (!r335.1) (
 bd (ak.f lf r331.1) fun r336 =>
 br (!r336.1) (
 bd (ak.f lf r331.1) fun r337 =>
 br r337.1 (
 bd (aB.f lf) fun r338 =>
 bd (ax.f lf r332.1) fun r339 =>
 bd (aG.f lf r339.1) fun r340 =>
 bd (ak.f lf r340.1) fun r341 =>
 br (!r341.1) (
 bd (ak.f lf r331.1) fun r342 =>
 br (!r342.1) (
 bd (ax.f lf r331.1) fun r343 =>
 bd (ak.f lf r343.1) fun r344 =>
 br r344.1 (
 bd (aB.f lf) fun r345 =>
 bd (aK.f lf r345.1) fun r346 =>
 bd (ah.f lf r338.1 r346.1) fun r347 =>
 bd (af.f lf r347.1) fun r348 =>
 some (r348.1,0,())) (
 bd (ak.f lf r340.1) fun r349 =>
 br r349.1 (
 bd (aB.f lf) fun r350 =>
 bd (aK.f lf r350.1) fun r351 =>
 bd (ah.f lf r338.1 r351.1) fun r352 =>
 bd (af.f lf r352.1) fun r353 =>
 some (r353.1,0,())) (
 bd (aB.f lf) fun r354 =>
 bd (aC.f lf r343.1.1 r340.1.1) fun r355 =>
 bd (ah.f lf r354.1 (r355.1,r355.1,())) fun r356 =>
 bd (aC.f lf r343.1.1 r340.1.2.1) fun r357 =>
 bd (ah.f lf r356.1 (r357.1,r357.1,())) fun r358 =>
 bd (aC.f lf r343.1.2.1 r340.1.1) fun r359 =>
 bd (ah.f lf r358.1 (r359.1,r359.1,())) fun r360 =>
 bd (aC.f lf r343.1.2.1 r340.1.2.1) fun r361 =>
 bd (ah.f lf r360.1 (r361.1,r361.1,())) fun r362 =>
 bd (aK.f lf r362.1) fun r363 =>
 bd (ah.f lf r338.1 r363.1) fun r364 =>
 bd (af.f lf r364.1) fun r365 =>
 some (r365.1,0,())))) (
 bd (af.f lf r338.1) fun r366 =>
 some (r366.1,0,()))) (
 bd (af.f lf r338.1) fun r367 =>
 some (r367.1,0,()))) (
 bd (ak.f lf r334.1) fun r368 =>
 br r368.1 (
 bd (aB.f lf) fun r369 =>
 bd (ax.f lf r332.1) fun r370 =>
 bd (aG.f lf r370.1) fun r371 =>
 bd (ak.f lf r371.1) fun r372 =>
 br (!r372.1) (
 bd (ak.f lf r331.1) fun r373 =>
 br (!r373.1) (
 bd (ax.f lf r331.1) fun r374 =>
 bd (ak.f lf r374.1) fun r375 =>
 br r375.1 (
 bd (aB.f lf) fun r376 =>
 bd (aK.f lf r376.1) fun r377 =>
 bd (ah.f lf r369.1 r377.1) fun r378 =>
 bd (af.f lf r378.1) fun r379 =>
 some (r379.1,0,())) (
 bd (ak.f lf r371.1) fun r380 =>
 br r380.1 (
 bd (aB.f lf) fun r381 =>
 bd (aK.f lf r381.1) fun r382 =>
 bd (ah.f lf r369.1 r382.1) fun r383 =>
 bd (af.f lf r383.1) fun r384 =>
 some (r384.1,0,())) (
 bd (aB.f lf) fun r385 =>
 bd (aC.f lf r374.1.1 r371.1.1) fun r386 =>
 bd (ah.f lf r385.1 (r386.1,r386.1,())) fun r387 =>
 bd (aC.f lf r374.1.1 r371.1.2.1) fun r388 =>
 bd (ah.f lf r387.1 (r388.1,r388.1,())) fun r389 =>
 bd (aC.f lf r374.1.2.1 r371.1.1) fun r390 =>
 bd (ah.f lf r389.1 (r390.1,r390.1,())) fun r391 =>
 bd (aC.f lf r374.1.2.1 r371.1.2.1) fun r392 =>
 bd (ah.f lf r391.1 (r392.1,r392.1,())) fun r393 =>
 bd (aK.f lf r393.1) fun r394 =>
 bd (ah.f lf r369.1 r394.1) fun r395 =>
 bd (af.f lf r395.1) fun r396 =>
 some (r396.1,0,())))) (
 bd (af.f lf r369.1) fun r397 =>
 some (r397.1,0,()))) (
 bd (af.f lf r369.1) fun r398 =>
 some (r398.1,0,()))) (
 bd (aB.f lf) fun r399 =>
 bd (aC.f lf r331.1.1 r334.1.1) fun r400 =>
 bd (ah.f lf r399.1 (r400.1,r400.1,())) fun r401 =>
 bd (aC.f lf r331.1.1 r334.1.2.1) fun r402 =>
 bd (ah.f lf r401.1 (r402.1,r402.1,())) fun r403 =>
 bd (aC.f lf r331.1.2.1 r334.1.1) fun r404 =>
 bd (ah.f lf r403.1 (r404.1,r404.1,())) fun r405 =>
 bd (aC.f lf r331.1.2.1 r334.1.2.1) fun r406 =>
 bd (ah.f lf r405.1 (r406.1,r406.1,())) fun r407 =>
 bd (ax.f lf r332.1) fun r408 =>
 bd (aG.f lf r408.1) fun r409 =>
 bd (ak.f lf r409.1) fun r410 =>
 br (!r410.1) (
 bd (ak.f lf r331.1) fun r411 =>
 br (!r411.1) (
 bd (ax.f lf r331.1) fun r412 =>
 bd (ak.f lf r412.1) fun r413 =>
 br r413.1 (
 bd (aB.f lf) fun r414 =>
 bd (aK.f lf r414.1) fun r415 =>
 bd (ah.f lf r407.1 r415.1) fun r416 =>
 bd (af.f lf r416.1) fun r417 =>
 some (r417.1,0,())) (
 bd (ak.f lf r409.1) fun r418 =>
 br r418.1 (
 bd (aB.f lf) fun r419 =>
 bd (aK.f lf r419.1) fun r420 =>
 bd (ah.f lf r407.1 r420.1) fun r421 =>
 bd (af.f lf r421.1) fun r422 =>
 some (r422.1,0,())) (
 bd (aB.f lf) fun r423 =>
 bd (aC.f lf r412.1.1 r409.1.1) fun r424 =>
 bd (ah.f lf r423.1 (r424.1,r424.1,())) fun r425 =>
 bd (aC.f lf r412.1.1 r409.1.2.1) fun r426 =>
 bd (ah.f lf r425.1 (r426.1,r426.1,())) fun r427 =>
 bd (aC.f lf r412.1.2.1 r409.1.1) fun r428 =>
 bd (ah.f lf r427.1 (r428.1,r428.1,())) fun r429 =>
 bd (aC.f lf r412.1.2.1 r409.1.2.1) fun r430 =>
 bd (ah.f lf r429.1 (r430.1,r430.1,())) fun r431 =>
 bd (aK.f lf r431.1) fun r432 =>
 bd (ah.f lf r407.1 r432.1) fun r433 =>
 bd (af.f lf r433.1) fun r434 =>
 some (r434.1,0,())))) (
 bd (af.f lf r407.1) fun r435 =>
 some (r435.1,0,()))) (
 bd (af.f lf r407.1) fun r436 =>
 some (r436.1,0,()))))) (
 bd (ax.f lf r332.1) fun r437 =>
 bd (aG.f lf r437.1) fun r438 =>
 bd (ak.f lf r438.1) fun r439 =>
 br (!r439.1) (
 bd (ak.f lf r331.1) fun r440 =>
 br (!r440.1) (
 bd (ax.f lf r331.1) fun r441 =>
 bd (ak.f lf r441.1) fun r442 =>
 br r442.1 (
 bd (aB.f lf) fun r443 =>
 bd (aK.f lf r443.1) fun r444 =>
 bd (ah.f lf r333.1 r444.1) fun r445 =>
 bd (af.f lf r445.1) fun r446 =>
 some (r446.1,0,())) (
 bd (ak.f lf r438.1) fun r447 =>
 br r447.1 (
 bd (aB.f lf) fun r448 =>
 bd (aK.f lf r448.1) fun r449 =>
 bd (ah.f lf r333.1 r449.1) fun r450 =>
 bd (af.f lf r450.1) fun r451 =>
 some (r451.1,0,())) (
 bd (aB.f lf) fun r452 =>
 bd (aC.f lf r441.1.1 r438.1.1) fun r453 =>
 bd (ah.f lf r452.1 (r453.1,r453.1,())) fun r454 =>
 bd (aC.f lf r441.1.1 r438.1.2.1) fun r455 =>
 bd (ah.f lf r454.1 (r455.1,r455.1,())) fun r456 =>
 bd (aC.f lf r441.1.2.1 r438.1.1) fun r457 =>
 bd (ah.f lf r456.1 (r457.1,r457.1,())) fun r458 =>
 bd (aC.f lf r441.1.2.1 r438.1.2.1) fun r459 =>
 bd (ah.f lf r458.1 (r459.1,r459.1,())) fun r460 =>
 bd (aK.f lf r460.1) fun r461 =>
 bd (ah.f lf r333.1 r461.1) fun r462 =>
 bd (af.f lf r462.1) fun r463 =>
 some (r463.1,0,())))) (
 bd (af.f lf r333.1) fun r464 =>
 some (r464.1,0,()))) (
 bd (af.f lf r333.1) fun r465 =>
 some (r465.1,0,())))) (
 bd (ax.f lf r332.1) fun r466 =>
 bd (aG.f lf r466.1) fun r467 =>
 bd (ak.f lf r467.1) fun r468 =>
 br (!r468.1) (
 bd (ak.f lf r331.1) fun r469 =>
 br (!r469.1) (
 bd (ax.f lf r331.1) fun r470 =>
 bd (ak.f lf r470.1) fun r471 =>
 br r471.1 (
 bd (aB.f lf) fun r472 =>
 bd (aK.f lf r472.1) fun r473 =>
 bd (ah.f lf r333.1 r473.1) fun r474 =>
 bd (af.f lf r474.1) fun r475 =>
 some (r475.1,0,())) (
 bd (ak.f lf r467.1) fun r476 =>
 br r476.1 (
 bd (aB.f lf) fun r477 =>
 bd (aK.f lf r477.1) fun r478 =>
 bd (ah.f lf r333.1 r478.1) fun r479 =>
 bd (af.f lf r479.1) fun r480 =>
 some (r480.1,0,())) (
 bd (aB.f lf) fun r481 =>
 bd (aC.f lf r470.1.1 r467.1.1) fun r482 =>
 bd (ah.f lf r481.1 (r482.1,r482.1,())) fun r483 =>
 bd (aC.f lf r470.1.1 r467.1.2.1) fun r484 =>
 bd (ah.f lf r483.1 (r484.1,r484.1,())) fun r485 =>
 bd (aC.f lf r470.1.2.1 r467.1.1) fun r486 =>
 bd (ah.f lf r485.1 (r486.1,r486.1,())) fun r487 =>
 bd (aC.f lf r470.1.2.1 r467.1.2.1) fun r488 =>
 bd (ah.f lf r487.1 (r488.1,r488.1,())) fun r489 =>
 bd (aK.f lf r489.1) fun r490 =>
 bd (ah.f lf r333.1 r490.1) fun r491 =>
 bd (af.f lf r491.1) fun r492 =>
 some (r492.1,0,())))) (
 bd (af.f lf r333.1) fun r493 =>
 some (r493.1,0,()))) (
 bd (af.f lf r333.1) fun r494 =>
 some (r494.1,0,())))))
def E(lf:Nat):Entry:=⟨[yI,yI],[yI,(.int .i64)],fun x=>f lf x.1 x.2.1⟩
theorem ok(lf:Nat):Ok 54 (E lf):=okT (an:=anns) (lf:=lf) (tC (bV.ok lf) (tC (bF.ok lf) (tC (ax.ok lf) (tC (aC.ok lf) (tC (aK.ok lf) (tC (aB.ok lf) (tC (af.ok lf) (tC (ak.ok lf) (tC (ah.ok lf) (tC (aG.ok lf) tN)))))))))) (aoC aoN) fun x=>by kernel_rfl
end jI
end
end Go.Q
namespace Go.Q
open Go Go.RowKit
open Go.Rx (br bd sIdx sCat sCut iQuo iRem iShl)
noncomputable section
namespace jm
def f(lf:Nat)(a0:TS):Option (Bool×Unit) :=
 br (a0.1.1==0) (
 br (a0.2.1.1==0) (
 some ((a0.1.2.1.toList==a0.2.1.2.1.toList),())) (
 some (false,()))) (
 some (false,()))
def E(lf:Nat):Entry:=⟨[yS],[.bool],fun x=>f lf x.1⟩
theorem ok(lf:Nat):Ok 175 (E lf):=okT (an:=(annsL [])) (lf:=lf) tN aoN fun x=>by kernel_rfl
end jm
namespace jZ
def f(lf:Nat)(a0:TS)(a1:ByteArray):Option (TS×Unit) :=
 bd (aT.f lf (⟨#[48]⟩:ByteArray)) fun r1 =>
 bd (iM.f lf a1 (⟨#[45,49]⟩:ByteArray)) fun r2 =>
 bd (aT.f lf r2.1) fun r3 =>
 br (a0.1.1 != 0) (
 some ((r1.1,r3.1,()),())) (
 br (a0.2.1.1 != 0) (
 some ((r1.1,r3.1,()),())) (
 bd (jc.f lf a0.1.2.1) fun r4 =>
 bd (iM.f lf a0.2.1.2.1 r4.1) fun r5 =>
 bd (bZ.f lf r5.1 r3.1.2.1) fun r6 =>
 br (decide (r6.1≥0)) (
 some ((r1.1,r3.1,()),())) (
 bd (dA.f lf a0.1.2.1 a1) fun r7 =>
 bd (dA.f lf a0.2.1.2.1 a1) fun r8 =>
 bd (bZ.f lf r7.1 r8.1) fun r9 =>
 br (decide (r9.1 > 0)) (
 some ((r1.1,r3.1,()),())) (
 bd (aT.f lf r7.1) fun r10 =>
 bd (aT.f lf r8.1) fun r11 =>
 some ((r10.1,r11.1,()),())))))
def E(lf:Nat):Entry:=⟨[yS,.str],[yS],fun x=>f lf x.1 x.2.1⟩
theorem ok(lf:Nat):Ok 176 (E lf):=okT (an:=(annsL [])) (lf:=lf) (tC (dA.ok lf) (tC (aT.ok lf) (tC (bZ.ok lf) (tC (iM.ok lf) (tC (jc.ok lf) tN))))) aoN fun x=>by kernel_rfl
end jZ
namespace jR
def f(lf:Nat)(a0:TX)(a1:ByteArray):Option (TX×Unit) :=
 br (a0.1 != 0) (
 some (a0,())) (
 bd (iM.f lf a0.2.1 a1) fun r1 =>
 bd (aT.f lf r1.1) fun r2 =>
 some (r2.1,()))
def E(lf:Nat):Entry:=⟨[yX,.str],[yX],fun x=>f lf x.1 x.2.1⟩
theorem ok(lf:Nat):Ok 177 (E lf):=okT (an:=(annsL [])) (lf:=lf) (tC (aT.ok lf) (tC (iM.ok lf) tN)) aoN fun x=>by kernel_rfl
end jR
namespace bT
def f(lf:Nat)(a0:TS)(a1:TS):Option (TS×Unit) :=
 bd (jm.f lf a1) fun r1 =>
 br r1.1 (
 bd (jZ.f lf a0 a1.1.2.1) fun r2 =>
 some (r2.1,())) (
 bd (fU.f lf a0.1) fun r3 =>
 br (decide (r3.1≥0)) (
 bd (dG.f lf a0.2.1 a1.1) fun r4 =>
 br (decide (r4.1 < 0)) (
 some (a0,())) (
 bd (jR.f lf a1.2.1 (⟨#[45,49]⟩:ByteArray)) fun r5 =>
 bd (fU.f lf a0.1) fun r6 =>
 br (decide (r6.1≥0)) (
 bd (gQ.f lf r5.1 a0.2.1) fun r7 =>
 bd (aT.f lf (⟨#[48]⟩:ByteArray)) fun r8 =>
 some ((r8.1,r7.1,()),())) (
 bd (aT.f lf (⟨#[48]⟩:ByteArray)) fun r9 =>
 some ((r9.1,r5.1,()),())))) (
 bd (jR.f lf a1.2.1 (⟨#[45,49]⟩:ByteArray)) fun r10 =>
 bd (fU.f lf a0.1) fun r11 =>
 br (decide (r11.1≥0)) (
 bd (gQ.f lf r10.1 a0.2.1) fun r12 =>
 bd (aT.f lf (⟨#[48]⟩:ByteArray)) fun r13 =>
 some ((r13.1,r12.1,()),())) (
 bd (aT.f lf (⟨#[48]⟩:ByteArray)) fun r14 =>
 some ((r14.1,r10.1,()),()))))
def E(lf:Nat):Entry:=⟨[yS,yS],[yS],fun x=>f lf x.1 x.2.1⟩
theorem ok(lf:Nat):Ok 118 (E lf):=okT (an:=(annsL [])) (lf:=lf) (tC (aT.ok lf) (tC (dG.ok lf) (tC (fU.ok lf) (tC (jm.ok lf) (tC (jZ.ok lf) (tC (jR.ok lf) (tC (gQ.ok lf) tN))))))) aoN fun x=>by kernel_rfl
end bT
namespace jJ
def f(lf:Nat)(a0:TI)(a1:TI):Option (TI×Int×Unit) :=
 bd (bV.f lf a0) fun r1 =>
 br (r1.1 != 0) (
 br (r1.1 != 0) (
 some ((false,(⟨#[]⟩:ByteArray),(⟨#[]⟩:ByteArray),()),r1.1,())) (
 bd (bF.f lf a0) fun r2 =>
 bd (bF.f lf a1) fun r3 =>
 bd (aB.f lf) fun r4 =>
 bd (aG.f lf r3.1) fun r5 =>
 bd (ak.f lf r5.1) fun r6 =>
 br (!r6.1) (
 bd (ak.f lf r2.1) fun r7 =>
 br (!r7.1) (
 bd (bT.f lf r2.1 r5.1) fun r8 =>
 bd (ax.f lf r3.1) fun r9 =>
 bd (aG.f lf r9.1) fun r10 =>
 bd (ak.f lf r10.1) fun r11 =>
 br (!r11.1) (
 bd (ak.f lf r2.1) fun r12 =>
 br (!r12.1) (
 bd (ax.f lf r2.1) fun r13 =>
 bd (bT.f lf r13.1 r10.1) fun r14 =>
 bd (ax.f lf r14.1) fun r15 =>
 bd (ah.f lf r8.1 r15.1) fun r16 =>
 bd (af.f lf r16.1) fun r17 =>
 some (r17.1,0,())) (
 bd (af.f lf r8.1) fun r18 =>
 some (r18.1,0,()))) (
 bd (af.f lf r8.1) fun r19 =>
 some (r19.1,0,()))) (
 bd (ax.f lf r3.1) fun r20 =>
 bd (aG.f lf r20.1) fun r21 =>
 bd (ak.f lf r21.1) fun r22 =>
 br (!r22.1) (
 bd (ak.f lf r2.1) fun r23 =>
 br (!r23.1) (
 bd (ax.f lf r2.1) fun r24 =>
 bd (bT.f lf r24.1 r21.1) fun r25 =>
 bd (ax.f lf r25.1) fun r26 =>
 bd (ah.f lf r4.1 r26.1) fun r27 =>
 bd (af.f lf r27.1) fun r28 =>
 some (r28.1,0,())) (
 bd (af.f lf r4.1) fun r29 =>
 some (r29.1,0,()))) (
 bd (af.f lf r4.1) fun r30 =>
 some (r30.1,0,())))) (
 bd (ax.f lf r3.1) fun r31 =>
 bd (aG.f lf r31.1) fun r32 =>
 bd (ak.f lf r32.1) fun r33 =>
 br (!r33.1) (
 bd (ak.f lf r2.1) fun r34 =>
 br (!r34.1) (
 bd (ax.f lf r2.1) fun r35 =>
 bd (bT.f lf r35.1 r32.1) fun r36 =>
 bd (ax.f lf r36.1) fun r37 =>
 bd (ah.f lf r4.1 r37.1) fun r38 =>
 bd (af.f lf r38.1) fun r39 =>
 some (r39.1,0,())) (
 bd (af.f lf r4.1) fun r40 =>
 some (r40.1,0,()))) (
 bd (af.f lf r4.1) fun r41 =>
 some (r41.1,0,()))))) (
 bd (bV.f lf a1) fun r42 =>
 br (r42.1 != 0) (
 br (r42.1 != 0) (
 some ((false,(⟨#[]⟩:ByteArray),(⟨#[]⟩:ByteArray),()),r42.1,())) (
 bd (bF.f lf a0) fun r43 =>
 bd (bF.f lf a1) fun r44 =>
 bd (aB.f lf) fun r45 =>
 bd (aG.f lf r44.1) fun r46 =>
 bd (ak.f lf r46.1) fun r47 =>
 br (!r47.1) (
 bd (ak.f lf r43.1) fun r48 =>
 br (!r48.1) (
 bd (bT.f lf r43.1 r46.1) fun r49 =>
 bd (ax.f lf r44.1) fun r50 =>
 bd (aG.f lf r50.1) fun r51 =>
 bd (ak.f lf r51.1) fun r52 =>
 br (!r52.1) (
 bd (ak.f lf r43.1) fun r53 =>
 br (!r53.1) (
 bd (ax.f lf r43.1) fun r54 =>
 bd (bT.f lf r54.1 r51.1) fun r55 =>
 bd (ax.f lf r55.1) fun r56 =>
 bd (ah.f lf r49.1 r56.1) fun r57 =>
 bd (af.f lf r57.1) fun r58 =>
 some (r58.1,0,())) (
 bd (af.f lf r49.1) fun r59 =>
 some (r59.1,0,()))) (
 bd (af.f lf r49.1) fun r60 =>
 some (r60.1,0,()))) (
 bd (ax.f lf r44.1) fun r61 =>
 bd (aG.f lf r61.1) fun r62 =>
 bd (ak.f lf r62.1) fun r63 =>
 br (!r63.1) (
 bd (ak.f lf r43.1) fun r64 =>
 br (!r64.1) (
 bd (ax.f lf r43.1) fun r65 =>
 bd (bT.f lf r65.1 r62.1) fun r66 =>
 bd (ax.f lf r66.1) fun r67 =>
 bd (ah.f lf r45.1 r67.1) fun r68 =>
 bd (af.f lf r68.1) fun r69 =>
 some (r69.1,0,())) (
 bd (af.f lf r45.1) fun r70 =>
 some (r70.1,0,()))) (
 bd (af.f lf r45.1) fun r71 =>
 some (r71.1,0,())))) (
 bd (ax.f lf r44.1) fun r72 =>
 bd (aG.f lf r72.1) fun r73 =>
 bd (ak.f lf r73.1) fun r74 =>
 br (!r74.1) (
 bd (ak.f lf r43.1) fun r75 =>
 br (!r75.1) (
 bd (ax.f lf r43.1) fun r76 =>
 bd (bT.f lf r76.1 r73.1) fun r77 =>
 bd (ax.f lf r77.1) fun r78 =>
 bd (ah.f lf r45.1 r78.1) fun r79 =>
 bd (af.f lf r79.1) fun r80 =>
 some (r80.1,0,())) (
 bd (af.f lf r45.1) fun r81 =>
 some (r81.1,0,()))) (
 bd (af.f lf r45.1) fun r82 =>
 some (r82.1,0,()))))) (
 bd (bF.f lf a0) fun r83 =>
 bd (bF.f lf a1) fun r84 =>
 bd (aB.f lf) fun r85 =>
 bd (aG.f lf r84.1) fun r86 =>
 bd (ak.f lf r86.1) fun r87 =>
 br (!r87.1) (
 bd (ak.f lf r83.1) fun r88 =>
 br (!r88.1) (
 bd (bT.f lf r83.1 r86.1) fun r89 =>
 bd (ax.f lf r84.1) fun r90 =>
 bd (aG.f lf r90.1) fun r91 =>
 bd (ak.f lf r91.1) fun r92 =>
 br (!r92.1) (
 bd (ak.f lf r83.1) fun r93 =>
 br (!r93.1) (
 bd (ax.f lf r83.1) fun r94 =>
 bd (bT.f lf r94.1 r91.1) fun r95 =>
 bd (ax.f lf r95.1) fun r96 =>
 bd (ah.f lf r89.1 r96.1) fun r97 =>
 bd (af.f lf r97.1) fun r98 =>
 some (r98.1,0,())) (
 bd (af.f lf r89.1) fun r99 =>
 some (r99.1,0,()))) (
 bd (af.f lf r89.1) fun r100 =>
 some (r100.1,0,()))) (
 bd (ax.f lf r84.1) fun r101 =>
 bd (aG.f lf r101.1) fun r102 =>
 bd (ak.f lf r102.1) fun r103 =>
 br (!r103.1) (
 bd (ak.f lf r83.1) fun r104 =>
 br (!r104.1) (
 bd (ax.f lf r83.1) fun r105 =>
 bd (bT.f lf r105.1 r102.1) fun r106 =>
 bd (ax.f lf r106.1) fun r107 =>
 bd (ah.f lf r85.1 r107.1) fun r108 =>
 bd (af.f lf r108.1) fun r109 =>
 some (r109.1,0,())) (
 bd (af.f lf r85.1) fun r110 =>
 some (r110.1,0,()))) (
 bd (af.f lf r85.1) fun r111 =>
 some (r111.1,0,())))) (
 bd (ax.f lf r84.1) fun r112 =>
 bd (aG.f lf r112.1) fun r113 =>
 bd (ak.f lf r113.1) fun r114 =>
 br (!r114.1) (
 bd (ak.f lf r83.1) fun r115 =>
 br (!r115.1) (
 bd (ax.f lf r83.1) fun r116 =>
 bd (bT.f lf r116.1 r113.1) fun r117 =>
 bd (ax.f lf r117.1) fun r118 =>
 bd (ah.f lf r85.1 r118.1) fun r119 =>
 bd (af.f lf r119.1) fun r120 =>
 some (r120.1,0,())) (
 bd (af.f lf r85.1) fun r121 =>
 some (r121.1,0,()))) (
 bd (af.f lf r85.1) fun r122 =>
 some (r122.1,0,())))))
def E(lf:Nat):Entry:=⟨[yI,yI],[yI,(.int .i64)],fun x=>f lf x.1 x.2.1⟩
theorem ok(lf:Nat):Ok 55 (E lf):=okT (an:=(annsL [])) (lf:=lf) (tC (bV.ok lf) (tC (bF.ok lf) (tC (ax.ok lf) (tC (bT.ok lf) (tC (aB.ok lf) (tC (af.ok lf) (tC (ak.ok lf) (tC (ah.ok lf) (tC (aG.ok lf) tN))))))))) aoN fun x=>by kernel_rfl
end jJ
namespace bJ
def f(lf:Nat)(a0:TI)(a1:ByteArray):Option (Bool×Int×Unit) :=
 bd (bV.f lf a0) fun r1 =>
 br (r1.1 != 0) (
 some (false,r1.1,())) (
 bd (bY.f lf a1) fun r2 =>
 br (r2.1 != 0) (
 some (false,r2.1,())) (
 bd (bF.f lf a0) fun r3 =>
 bd (aT.f lf a1) fun r4 =>
 bd (dG.f lf r3.1.1 r4.1) fun r5 =>
 br (decide (r5.1≤0)) (
 bd (dG.f lf r4.1 r3.1.2.1) fun r6 =>
 some ((decide (r6.1≤0)),0,())) (
 some (false,0,()))))
def E(lf:Nat):Entry:=⟨[yI,.str],[.bool,(.int .i64)],fun x=>f lf x.1 x.2.1⟩
theorem ok(lf:Nat):Ok 20 (E lf):=okT (an:=(annsL [])) (lf:=lf) (tC (bY.ok lf) (tC (bV.ok lf) (tC (bF.ok lf) (tC (aT.ok lf) (tC (dG.ok lf) tN))))) aoN fun x=>by kernel_rfl
end bJ
end
end Go.Q
namespace Go.Q
open Go Go.RowKit
open Go.Rx (br bd sIdx sCat sCut iQuo iRem iShl)
noncomputable section
namespace kD
def f(lf:Nat)(a0:TI)(a1:TI):Option (Bool×Unit) :=
 br (decide (((a0.2.1.size:Nat):Int)≤450)) (
 br (decide (((a0.2.2.1.size:Nat):Int)≤450)) (
 br (decide (((a1.2.1.size:Nat):Int)≤450)) (
 some ((decide (((a1.2.2.1.size:Nat):Int)≤450)),())) (
 some (false,()))) (
 some (false,()))) (
 some (false,()))
def E(lf:Nat):Entry:=⟨[yI,yI],[.bool],fun x=>f lf x.1 x.2.1⟩
theorem ok(lf:Nat):Ok 23 (E lf):=okT (an:=(annsL [])) (lf:=lf) tN aoN fun x=>by kernel_rfl
end kD
namespace fF
def f(lf:Nat)(a0:ByteArray):Option (Int×Unit) :=
 br (a0.toList==(⟨#[]⟩:ByteArray).toList) (
 some (0,())) (
 bd (eu.f lf a0) fun r1 =>
 some (r1.1,()))
def E(lf:Nat):Entry:=⟨[.str],[(.int .i64)],fun x=>f lf x.1⟩
theorem ok(lf:Nat):Ok 73 (E lf):=okT (an:=(annsL [])) (lf:=lf) (tC (eu.ok lf) tN) aoN fun x=>by kernel_rfl
end fF
namespace iT
def f(lf:Nat)(a0:TI):Option (Int×Unit) :=
 br a0.1 (
 br (!(a0.2.1.toList==(⟨#[]⟩:ByteArray).toList)) (
 some (3,())) (
 br (!(a0.2.2.1.toList==(⟨#[]⟩:ByteArray).toList)) (
 some (3,())) (
 bd (fF.f lf a0.2.1) fun r1 =>
 br (r1.1 != 0) (
 some (r1.1,())) (
 bd (fF.f lf a0.2.2.1) fun r2 =>
 br (r2.1 != 0) (
 some (r2.1,())) (
 br (!(a0.2.1.toList==(⟨#[]⟩:ByteArray).toList)) (
 br (!(a0.2.2.1.toList==(⟨#[]⟩:ByteArray).toList)) (
 bd (aW.f lf a0.2.2.1 a0.2.1) fun r3 =>
 br r3.1 (
 some (14,())) (
 some (0,()))) (
 some (0,()))) (
 some (0,()))))))) (
 bd (fF.f lf a0.2.1) fun r4 =>
 br (r4.1 != 0) (
 some (r4.1,())) (
 bd (fF.f lf a0.2.2.1) fun r5 =>
 br (r5.1 != 0) (
 some (r5.1,())) (
 br (!(a0.2.1.toList==(⟨#[]⟩:ByteArray).toList)) (
 br (!(a0.2.2.1.toList==(⟨#[]⟩:ByteArray).toList)) (
 bd (aW.f lf a0.2.2.1 a0.2.1) fun r6 =>
 br r6.1 (
 some (14,())) (
 some (0,()))) (
 some (0,()))) (
 some (0,())))))
def E(lf:Nat):Entry:=⟨[yI],[(.int .i64)],fun x=>f lf x.1⟩
theorem ok(lf:Nat):Ok 25 (E lf):=okT (an:=(annsL [])) (lf:=lf) (tC (fF.ok lf) (tC (aW.ok lf) tN)) aoN fun x=>by kernel_rfl
end iT
namespace jf
def f(lf:Nat)(a0:TI)(a1:ByteArray):Option (Bool×Unit) :=
 br (!a0.1) (
 br (a0.2.1.toList==(⟨#[]⟩:ByteArray).toList) (
 br (a0.2.2.1.toList==(⟨#[]⟩:ByteArray).toList) (
 some (true,())) (
 bd (aW.f lf a0.2.2.1 a1) fun r1 =>
 some ((!r1.1),()))) (
 bd (aW.f lf a1 a0.2.1) fun r2 =>
 br (!r2.1) (
 br (a0.2.2.1.toList==(⟨#[]⟩:ByteArray).toList) (
 some (true,())) (
 bd (aW.f lf a0.2.2.1 a1) fun r3 =>
 some ((!r3.1),()))) (
 some (false,())))) (
 some (false,()))
def E(lf:Nat):Entry:=⟨[yI,.str],[.bool],fun x=>f lf x.1 x.2.1⟩
theorem ok(lf:Nat):Ok 30 (E lf):=okT (an:=(annsL [])) (lf:=lf) (tC (aW.ok lf) tN) aoN fun x=>by kernel_rfl
end jf
namespace gX
def f(lf:Nat)  : Option (TI×Unit) :=
 some ((true,(⟨#[]⟩:ByteArray),(⟨#[]⟩:ByteArray),()),())
def E(lf:Nat):Entry:=⟨[],[yI],fun x=>f lf⟩
theorem ok(lf:Nat):Ok 141 (E lf):=okT (an:=(annsL [])) (lf:=lf) tN aoN fun x=>by kernel_rfl
end gX
namespace dU
def f(lf:Nat)(a0:ByteArray):Option (ByteArray×Unit) :=
 br (!(a0.toList==(⟨#[]⟩:ByteArray).toList)) (
 bd (aF.f lf a0) fun r1 =>
 br (decide (r1.1 > 100)) (
 some ((⟨#[]⟩:ByteArray),())) (
 some (a0,()))) (
 some (a0,()))
def E(lf:Nat):Entry:=⟨[.str],[.str],fun x=>f lf x.1⟩
theorem ok(lf:Nat):Ok 149 (E lf):=okT (an:=(annsL [])) (lf:=lf) (tC (aF.ok lf) tN) aoN fun x=>by kernel_rfl
end dU
namespace bQ
def f(lf:Nat)(a0:ByteArray)(a1:ByteArray):Option (TI×Unit) :=
 br (!(a0.toList==(⟨#[]⟩:ByteArray).toList)) (
 br (!(a1.toList==(⟨#[]⟩:ByteArray).toList)) (
 bd (aW.f lf a1 a0) fun r1 =>
 br r1.1 (
 bd (gX.f lf) fun r2 =>
 some (r2.1,())) (
 bd (dU.f lf a0) fun r3 =>
 bd (dU.f lf a1) fun r4 =>
 some ((false,r3.1,r4.1,()),()))) (
 bd (dU.f lf a0) fun r5 =>
 bd (dU.f lf a1) fun r6 =>
 some ((false,r5.1,r6.1,()),()))) (
 bd (dU.f lf a0) fun r7 =>
 bd (dU.f lf a1) fun r8 =>
 some ((false,r7.1,r8.1,()),()))
def E(lf:Nat):Entry:=⟨[.str,.str],[yI],fun x=>f lf x.1 x.2.1⟩
theorem ok(lf:Nat):Ok 81 (E lf):=okT (an:=(annsL [])) (lf:=lf) (tC (aW.ok lf) (tC (gX.ok lf) (tC (dU.ok lf) tN))) aoN fun x=>by kernel_rfl
end bQ
end
end Go.Q
namespace Go.Q
open Go Go.RowKit
open Go.Rx (br bd sIdx sCat sCut iQuo iRem iShl)
noncomputable section
namespace fB
def f(lf:Nat)(a0:ByteArray)(a1:Int):Option (ByteArray×Unit) :=
 some (a0,())
def E(lf:Nat):Entry:=⟨[.str,(.int .i64)],[.str],fun x=>f lf x.1 x.2.1⟩
theorem ok(lf:Nat):Ok 70 (E lf):=okT (an:=(annsL [])) (lf:=lf) tN aoN fun x=>by kernel_rfl
end fB
end
end Go.Q
