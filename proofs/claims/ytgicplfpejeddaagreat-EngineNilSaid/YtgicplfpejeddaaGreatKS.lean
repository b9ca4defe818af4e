import Derived.Test.YtgicplfpejeddaaGreatK0
import Derived.Test.YtgicplfpejeddaaGreatK1
import Derived.Test.YtgicplfpejeddaaGreatK2
import Derived.Test.YtgicplfpejeddaaGreatK3
import Derived.Test.YtgicplfpejeddaaGreatK4
import Derived.Test.YtgicplfpejeddaaGreatK5
import Derived.Test.YtgicplfpejeddaaGreatK6
import Derived.Test.YtgicplfpejeddaaGreatK7
import Derived.Test.YtgicplfpejeddaaGreatK8
import Derived.Test.YtgicplfpejeddaaGreatK9
import Derived.Test.YtgicplfpejeddaaGreatK10
import Derived.Test.YtgicplfpejeddaaGreatK11
import Derived.Test.YtgicplfpejeddaaGreatK12
import Derived.Test.YtgicplfpejeddaaGreatK13
import Derived.Test.YtgicplfpejeddaaGreatK14
import Derived.Test.YtgicplfpejeddaaGreatK15
import Derived.Test.YtgicplfpejeddaaGreatK16
import Derived.Test.YtgicplfpejeddaaGreatK17
import Derived.Test.YtgicplfpejeddaaGreatK18
import Derived.Test.YtgicplfpejeddaaGreatK19
import Derived.Test.YtgicplfpejeddaaGreatK20
import Derived.Test.YtgicplfpejeddaaGreatK21
import Derived.Test.YtgicplfpejeddaaGreatK22
import Derived.Test.YtgicplfpejeddaaGreatK23
import Derived.Test.YtgicplfpejeddaaGreatK24
import Derived.Test.YtgicplfpejeddaaGreatK25
import Derived.Test.YtgicplfpejeddaaGreatK26
import Derived.Test.YtgicplfpejeddaaGreatK27
import Derived.Test.YtgicplfpejeddaaGreatK28
import Derived.Test.YtgicplfpejeddaaGreatK29
namespace Go.Proofs.YtgicplfpejeddaaGreat
open Go Go.Ev Go.Ev.W
noncomputable section
variable [Tok]
theorem s1 : Stage Tryz.prog base t1 := s0.add r0
theorem s2 : Stage Tryz.prog base t2 := s1.add r1
theorem s3 : Stage Tryz.prog base t3 := s2.add r2
theorem s4 : Stage Tryz.prog base t4 := s3.add r3
theorem s5 : Stage Tryz.prog base t5 := s4.add r4
theorem s6 : Stage Tryz.prog base t6 := s5.add r5
theorem s7 : Stage Tryz.prog base t7 := s6.add r6
theorem s8 : Stage Tryz.prog base t8 := s7.add r7
theorem s9 : Stage Tryz.prog base t9 := s8.add r8
theorem s10 : Stage Tryz.prog base t10 := s9.add r9
theorem s11 : Stage Tryz.prog base t11 := s10.add r10
theorem s12 : Stage Tryz.prog base t12 := s11.add r11
theorem s13 : Stage Tryz.prog base t13 := s12.add r12
theorem s14 : Stage Tryz.prog base t14 := s13.add r13
theorem s15 : Stage Tryz.prog base t15 := s14.add r14
theorem s16 : Stage Tryz.prog base t16 := s15.add r15
theorem s17 : Stage Tryz.prog base t17 := s16.add r16
theorem s18 : Stage Tryz.prog base t18 := s17.add r17
theorem s19 : Stage Tryz.prog base t19 := s18.add r18
theorem s20 : Stage Tryz.prog base t20 := s19.add r19
theorem s21 : Stage Tryz.prog base t21 := s20.add r20
theorem s22 : Stage Tryz.prog base t22 := s21.add r21
theorem s23 : Stage Tryz.prog base t23 := s22.add r22
theorem s24 : Stage Tryz.prog base t24 := s23.add r23
theorem s25 : Stage Tryz.prog base t25 := s24.add r24
theorem s26 : Stage Tryz.prog base t26 := s25.add r25
theorem s27 : Stage Tryz.prog base t27 := s26.add r26
theorem s28 : Stage Tryz.prog base t28 := s27.add r27
theorem s29 : Stage Tryz.prog base t29 := s28.add r28
theorem s30 : Stage Tryz.prog base t30 := s29.add r29
theorem s31 : Stage Tryz.prog base t31 := s30.add r30
theorem s32 : Stage Tryz.prog base t32 := s31.add r31
theorem s33 : Stage Tryz.prog base t33 := s32.add r32
theorem s34 : Stage Tryz.prog base t34 := s33.add r33
theorem s35 : Stage Tryz.prog base t35 := s34.add r34
theorem s36 : Stage Tryz.prog base t36 := s35.add r35
theorem s37 : Stage Tryz.prog base t37 := s36.add r36
theorem s38 : Stage Tryz.prog base t38 := s37.add r37
theorem s39 : Stage Tryz.prog base t39 := s38.add r38
theorem s40 : Stage Tryz.prog base t40 := s39.add r39
theorem s41 : Stage Tryz.prog base t41 := s40.add r40
theorem s42 : Stage Tryz.prog base t42 := s41.add r41
theorem s43 : Stage Tryz.prog base t43 := s42.add r42
theorem s44 : Stage Tryz.prog base t44 := s43.add r43
theorem s45 : Stage Tryz.prog base t45 := s44.add r44
theorem s46 : Stage Tryz.prog base t46 := s45.add r45
theorem s47 : Stage Tryz.prog base t47 := s46.add r46
theorem s48 : Stage Tryz.prog base t48 := s47.add r47
theorem s49 : Stage Tryz.prog base t49 := s48.add r48
theorem s50 : Stage Tryz.prog base t50 := s49.add r49
theorem s51 : Stage Tryz.prog base t51 := s50.add r50
theorem s52 : Stage Tryz.prog base t52 := s51.add r51
theorem s53 : Stage Tryz.prog base t53 := s52.add r52
theorem s54 : Stage Tryz.prog base t54 := s53.add r53
theorem s55 : Stage Tryz.prog base t55 := s54.add r54
theorem s56 : Stage Tryz.prog base t56 := s55.add r55
theorem s57 : Stage Tryz.prog base t57 := s56.add r56
theorem s58 : Stage Tryz.prog base t58 := s57.add r57
theorem s59 : Stage Tryz.prog base t59 := s58.add r58
theorem s60 : Stage Tryz.prog base t60 := s59.add r59
theorem s61 : Stage Tryz.prog base t61 := s60.add r60
theorem s62 : Stage Tryz.prog base t62 := s61.add r61
theorem s63 : Stage Tryz.prog base t63 := s62.add r62
theorem s64 : Stage Tryz.prog base t64 := s63.add r63
theorem s65 : Stage Tryz.prog base t65 := s64.add r64
theorem s66 : Stage Tryz.prog base t66 := s65.add r65
theorem s67 : Stage Tryz.prog base t67 := s66.add r66
theorem s68 : Stage Tryz.prog base t68 := s67.add r67
theorem s69 : Stage Tryz.prog base t69 := s68.add r68
theorem s70 : Stage Tryz.prog base t70 := s69.add r69
theorem s71 : Stage Tryz.prog base t71 := s70.add r70
theorem s72 : Stage Tryz.prog base t72 := s71.add r71
theorem s73 : Stage Tryz.prog base t73 := s72.add r72
theorem s74 : Stage Tryz.prog base t74 := s73.add r73
theorem s75 : Stage Tryz.prog base t75 := s74.add r74
theorem s76 : Stage Tryz.prog base t76 := s75.add r75
theorem s77 : Stage Tryz.prog base t77 := s76.add r76
theorem s78 : Stage Tryz.prog base t78 := s77.add r77
theorem s79 : Stage Tryz.prog base t79 := s78.add r78
theorem s80 : Stage Tryz.prog base t80 := s79.add r79
theorem s81 : Stage Tryz.prog base t81 := s80.add r80
theorem s82 : Stage Tryz.prog base t82 := s81.add r81
theorem s83 : Stage Tryz.prog base t83 := s82.add r82
theorem s84 : Stage Tryz.prog base t84 := s83.add r83
theorem s85 : Stage Tryz.prog base t85 := s84.add r84
theorem s86 : Stage Tryz.prog base t86 := s85.add r85
theorem s87 : Stage Tryz.prog base t87 := s86.add r86
theorem s88 : Stage Tryz.prog base t88 := s87.add r87
theorem s89 : Stage Tryz.prog base t89 := s88.add r88
theorem s90 : Stage Tryz.prog base t90 := s89.add r89
theorem s91 : Stage Tryz.prog base t91 := s90.add r90
theorem s92 : Stage Tryz.prog base t92 := s91.add r91
theorem s93 : Stage Tryz.prog base t93 := s92.add r92
theorem s94 : Stage Tryz.prog base t94 := s93.add r93
theorem s95 : Stage Tryz.prog base t95 := s94.add r94
theorem s96 : Stage Tryz.prog base t96 := s95.add r95
theorem s97 : Stage Tryz.prog base t97 := s96.add r96
theorem s98 : Stage Tryz.prog base t98 := s97.add r97
theorem s99 : Stage Tryz.prog base t99 := s98.add r98
theorem s100 : Stage Tryz.prog base t100 := s99.add r99
theorem s101 : Stage Tryz.prog base t101 := s100.add r100
theorem s102 : Stage Tryz.prog base t102 := s101.add r101
theorem s103 : Stage Tryz.prog base t103 := s102.add r102
theorem s104 : Stage Tryz.prog base t104 := s103.add r103
theorem s105 : Stage Tryz.prog base t105 := s104.add r104
theorem s106 : Stage Tryz.prog base t106 := s105.add r105
theorem s107 : Stage Tryz.prog base t107 := s106.add r106
theorem s108 : Stage Tryz.prog base t108 := s107.add r107
theorem s109 : Stage Tryz.prog base t109 := s108.add r108
theorem s110 : Stage Tryz.prog base t110 := s109.add r109
theorem s111 : Stage Tryz.prog base t111 := s110.add r110
theorem s112 : Stage Tryz.prog base t112 := s111.add r111
theorem s113 : Stage Tryz.prog base t113 := s112.add r112
theorem s114 : Stage Tryz.prog base t114 := s113.add r113
theorem s115 : Stage Tryz.prog base t115 := s114.add r114
theorem s116 : Stage Tryz.prog base t116 := s115.add r115
theorem s117 : Stage Tryz.prog base t117 := s116.add r116
theorem s118 : Stage Tryz.prog base t118 := s117.add r117
theorem s119 : Stage Tryz.prog base t119 := s118.add r118
theorem s120 : Stage Tryz.prog base t120 := s119.add r119
theorem s121 : Stage Tryz.prog base t121 := s120.add r120
theorem s122 : Stage Tryz.prog base t122 := s121.add r121
theorem s123 : Stage Tryz.prog base t123 := s122.add r122
theorem s124 : Stage Tryz.prog base t124 := s123.add r123
theorem s125 : Stage Tryz.prog base t125 := s124.add r124
theorem s126 : Stage Tryz.prog base t126 := s125.add r125
theorem s127 : Stage Tryz.prog base t127 := s126.add r126
theorem s128 : Stage Tryz.prog base t128 := s127.add r127
theorem s129 : Stage Tryz.prog base t129 := s128.add r128
theorem s130 : Stage Tryz.prog base t130 := s129.add r129
theorem s131 : Stage Tryz.prog base t131 := s130.add r130
theorem s132 : Stage Tryz.prog base t132 := s131.add r131
theorem s133 : Stage Tryz.prog base t133 := s132.add r132
theorem s134 : Stage Tryz.prog base t134 := s133.add r133
theorem s135 : Stage Tryz.prog base t135 := s134.add r134
theorem s136 : Stage Tryz.prog base t136 := s135.add r135
theorem s137 : Stage Tryz.prog base t137 := s136.add r136
theorem s138 : Stage Tryz.prog base t138 := s137.add r137
theorem s139 : Stage Tryz.prog base t139 := s138.add r138
theorem s140 : Stage Tryz.prog base t140 := s139.add r139
theorem s141 : Stage Tryz.prog base t141 := s140.add r140
theorem s142 : Stage Tryz.prog base t142 := s141.add r141
theorem s143 : Stage Tryz.prog base t143 := s142.add r142
theorem s144 : Stage Tryz.prog base t144 := s143.add r143
theorem s145 : Stage Tryz.prog base t145 := s144.add r144
theorem s146 : Stage Tryz.prog base t146 := s145.add r145
theorem s147 : Stage Tryz.prog base t147 := s146.add r146
theorem s148 : Stage Tryz.prog base t148 := s147.add r147
theorem s149 : Stage Tryz.prog base t149 := s148.add r148
theorem s150 : Stage Tryz.prog base t150 := s149.add r149
theorem s151 : Stage Tryz.prog base t151 := s150.add r150
theorem s152 : Stage Tryz.prog base t152 := s151.add r151
theorem s153 : Stage Tryz.prog base t153 := s152.add r152
theorem s154 : Stage Tryz.prog base t154 := s153.add r153
theorem s155 : Stage Tryz.prog base t155 := s154.add r154
theorem s156 : Stage Tryz.prog base t156 := s155.add r155
theorem s157 : Stage Tryz.prog base t157 := s156.add r156
theorem s158 : Stage Tryz.prog base t158 := s157.add r157
theorem s159 : Stage Tryz.prog base t159 := s158.add r158
theorem s160 : Stage Tryz.prog base t160 := s159.add r159
theorem s161 : Stage Tryz.prog base t161 := s160.add r160
theorem s162 : Stage Tryz.prog base t162 := s161.add r161
theorem s163 : Stage Tryz.prog base t163 := s162.add r162
theorem s164 : Stage Tryz.prog base t164 := s163.add r163
theorem s165 : Stage Tryz.prog base t165 := s164.add r164
theorem s166 : Stage Tryz.prog base t166 := s165.add r165
theorem s167 : Stage Tryz.prog base t167 := s166.add r166
theorem s168 : Stage Tryz.prog base t168 := s167.add r167
theorem s169 : Stage Tryz.prog base t169 := s168.add r168
theorem s170 : Stage Tryz.prog base t170 := s169.add r169
theorem s171 : Stage Tryz.prog base t171 := s170.add r170
theorem s172 : Stage Tryz.prog base t172 := s171.add r171
theorem s173 : Stage Tryz.prog base t173 := s172.add r172
theorem s174 : Stage Tryz.prog base t174 := s173.add r173
theorem s175 : Stage Tryz.prog base t175 := s174.add r174
theorem s176 : Stage Tryz.prog base t176 := s175.add r175
theorem s177 : Stage Tryz.prog base t177 := s176.add r176
theorem s178 : Stage Tryz.prog base t178 := s177.add r177
theorem s179 : Stage Tryz.prog base t179 := s178.add r178
theorem s180 : Stage Tryz.prog base t180 := s179.add r179
theorem s181 : Stage Tryz.prog base t181 := s180.add r180
theorem s182 : Stage Tryz.prog base t182 := s181.add r181
theorem s183 : Stage Tryz.prog base t183 := s182.add r182
theorem s184 : Stage Tryz.prog base t184 := s183.add r183
theorem s185 : Stage Tryz.prog base t185 := s184.add r184
theorem s186 : Stage Tryz.prog base t186 := s185.add r185
theorem s187 : Stage Tryz.prog base t187 := s186.add r186
theorem s188 : Stage Tryz.prog base t188 := s187.add r187
theorem s189 : Stage Tryz.prog base t189 := s188.add r188
theorem s190 : Stage Tryz.prog base t190 := s189.add r189
theorem s191 : Stage Tryz.prog base t191 := s190.add r190
theorem s192 : Stage Tryz.prog base t192 := s191.add r191
theorem s193 : Stage Tryz.prog base t193 := s192.add r192
theorem s194 : Stage Tryz.prog base t194 := s193.add r193
theorem s195 : Stage Tryz.prog base t195 := s194.add r194
theorem s196 : Stage Tryz.prog base t196 := s195.add r195
theorem s197 : Stage Tryz.prog base t197 := s196.add r196
theorem s198 : Stage Tryz.prog base t198 := s197.add r197
theorem s199 : Stage Tryz.prog base t199 := s198.add r198
theorem s200 : Stage Tryz.prog base t200 := s199.add r199
theorem s201 : Stage Tryz.prog base t201 := s200.add r200
theorem s202 : Stage Tryz.prog base t202 := s201.add r201
theorem s203 : Stage Tryz.prog base t203 := s202.add r202
theorem s204 : Stage Tryz.prog base t204 := s203.add r203
theorem s205 : Stage Tryz.prog base t205 := s204.add r204
theorem s206 : Stage Tryz.prog base t206 := s205.add r205
theorem s207 : Stage Tryz.prog base t207 := s206.add r206
theorem s208 : Stage Tryz.prog base t208 := s207.add r207
theorem s209 : Stage Tryz.prog base t209 := s208.add r208
theorem s210 : Stage Tryz.prog base t210 := s209.add r209
theorem s211 : Stage Tryz.prog base t211 := s210.add r210
theorem s212 : Stage Tryz.prog base t212 := s211.add r211
theorem s213 : Stage Tryz.prog base t213 := s212.add r212
theorem s214 : Stage Tryz.prog base t214 := s213.add r213
theorem s215 : Stage Tryz.prog base t215 := s214.add r214
theorem s216 : Stage Tryz.prog base t216 := s215.add r215
theorem s217 : Stage Tryz.prog base t217 := s216.add r216
theorem s218 : Stage Tryz.prog base t218 := s217.add r217
theorem s219 : Stage Tryz.prog base t219 := s218.add r218
theorem s220 : Stage Tryz.prog base t220 := s219.add r219
theorem s221 : Stage Tryz.prog base t221 := s220.add r220
theorem s222 : Stage Tryz.prog base t222 := s221.add r221
theorem s223 : Stage Tryz.prog base t223 := s222.add r222
theorem s224 : Stage Tryz.prog base t224 := s223.add r223
theorem s225 : Stage Tryz.prog base t225 := s224.add r224
theorem s226 : Stage Tryz.prog base t226 := s225.add r225
theorem s227 : Stage Tryz.prog base t227 := s226.add r226
theorem s228 : Stage Tryz.prog base t228 := s227.add r227
theorem s229 : Stage Tryz.prog base t229 := s228.add r228
theorem s230 : Stage Tryz.prog base t230 := s229.add r229
theorem s231 : Stage Tryz.prog base t231 := s230.add r230
theorem s232 : Stage Tryz.prog base t232 := s231.add r231
theorem s233 : Stage Tryz.prog base t233 := s232.add r232
theorem s234 : Stage Tryz.prog base t234 := s233.add r233
theorem s235 : Stage Tryz.prog base t235 := s234.add r234
theorem s236 : Stage Tryz.prog base t236 := s235.add r235
theorem s237 : Stage Tryz.prog base t237 := s236.add r236
theorem s238 : Stage Tryz.prog base t238 := s237.add r237
theorem s239 : Stage Tryz.prog base t239 := s238.add r238
theorem s240 : Stage Tryz.prog base t240 := s239.add r239
theorem s241 : Stage Tryz.prog base t241 := s240.add r240
theorem s242 : Stage Tryz.prog base t242 := s241.add r241
theorem s243 : Stage Tryz.prog base t243 := s242.add r242
theorem s244 : Stage Tryz.prog base t244 := s243.add r243
theorem s245 : Stage Tryz.prog base t245 := s244.add r244
theorem s246 : Stage Tryz.prog base t246 := s245.add r245
end
end Go.Proofs.YtgicplfpejeddaaGreat
