/- The evaluator's tables for this program (printed by mkinst.py). -/
import Derived.Test.YtmiegcjnimlbmaaGreatDoorAxC
import Derived.Test.YtmiegcjnimlbmaaGreatDoorChecked
import Derived.KernelRfl
import Derived.Test.YtmiegcjnimlbmaaGreatDoorAxD
import Derived.Test.YtmiegcjnimlbmaaGreatDoorPcP
set_option linter.unusedSectionVars false
set_option linter.unusedSimpArgs false
set_option linter.unusedVariables false
namespace Go.UInst
open Go.Proofs Go.Ax
set_option maxRecDepth 100000
def b9e(k:IntKind)(l:List Int):List AV:=l.map (.int k)
@[reducible] def lf{a:Type}(k:Nat)(v:a):Tab a:=.node .nil k v .nil
open Tryz in
noncomputable def TT:Tab TypeInfo:=(.node (.node (.node (.node (.node (.node (.node (.node (lf 0 t0) 1 t1 .nil) 2 t2 (lf 3 t3)) 4 t4 (.node (.node (lf 5 t5) 6 t6 .nil) 7 t7 (lf 8 t8))) 9 t9 (.node (.node (.node (lf 10 t10) 11 t11 .nil) 12 t12 (lf 13 t13)) 14 t14 (.node (.node (lf 15 t15) 16 t16 .nil) 17 t17 (lf 18 t18)))) 19 t19 (.node (.node (.node (.node (lf 20 t20) 21 t21 .nil) 22 t22 (lf 23 t23)) 24 t24 (.node (.node (lf 25 t25) 26 t26 .nil) 27 t27 (lf 28 t28))) 29 t29 (.node (.node (.node (lf 30 t30) 31 t31 .nil) 32 t32 (lf 33 t33)) 34 t34 (.node (.node (lf 35 t35) 36 t36 .nil) 37 t37 (lf 38 t38))))) 39 t39 (.node (.node (.node (.node (.node (lf 40 t40) 41 t41 .nil) 42 t42 (lf 43 t43)) 44 t44 (.node (.node (lf 45 t45) 46 t46 .nil) 47 t47 (lf 48 t48))) 49 t49 (.node (.node (.node (lf 50 t50) 51 t51 .nil) 52 t52 (lf 53 t53)) 54 t54 (.node (.node (lf 55 t55) 56 t56 .nil) 57 t57 (lf 58 t58)))) 59 t59 (.node (.node (.node (.node (lf 60 t60) 61 t61 .nil) 62 t62 (lf 63 t63)) 64 t64 (.node (.node (lf 65 t65) 66 t66 .nil) 67 t67 (lf 68 t68))) 69 t69 (.node (.node (.node (lf 70 t70) 71 t71 .nil) 72 t72 (lf 73 t73)) 74 t74 (.node (lf 75 t75) 76 t76 (lf 77 t77)))))) 78 t78 (.node (.node (.node (.node (.node (.node (lf 79 t79) 80 t80 .nil) 81 t81 (lf 82 t82)) 83 t83 (.node (.node (lf 84 t84) 85 t85 .nil) 86 t86 (lf 87 t87))) 88 t88 (.node (.node (.node (lf 89 t89) 90 t90 .nil) 91 t91 (lf 92 t92)) 93 t93 (.node (.node (lf 94 t94) 95 t95 .nil) 96 t96 (lf 97 t97)))) 98 t98 (.node (.node (.node (.node (lf 99 t99) 100 t100 .nil) 101 t101 (lf 102 t102)) 103 t103 (.node (.node (lf 104 t104) 105 t105 .nil) 106 t106 (lf 107 t107))) 108 t108 (.node (.node (.node (lf 109 t109) 110 t110 .nil) 111 t111 (lf 112 t112)) 113 t113 (.node (.node (lf 114 t114) 115 t115 .nil) 116 t116 (lf 117 t117))))) 118 t118 (.node (.node (.node (.node (.node (lf 119 t119) 120 t120 .nil) 121 t121 (lf 122 t122)) 123 t123 (.node (.node (lf 124 t124) 125 t125 .nil) 126 t126 (lf 127 t127))) 128 t128 (.node (.node (.node (lf 129 t129) 130 t130 .nil) 131 t131 (lf 132 t132)) 133 t133 (.node (.node (lf 134 t134) 135 t135 .nil) 136 t136 (lf 137 t137)))) 138 t138 (.node (.node (.node (.node (lf 139 t139) 140 t140 .nil) 141 t141 (lf 142 t142)) 143 t143 (.node (.node (lf 144 t144) 145 t145 .nil) 146 t146 (lf 147 t147))) 148 t148 (.node (.node (.node (lf 149 t149) 150 t150 .nil) 151 t151 (lf 152 t152)) 153 t153 (.node (lf 154 t154) 155 t155 (lf 156 t156))))))) 157 t157 (.node (.node (.node (.node (.node (.node (.node (lf 158 t158) 159 t159 .nil) 160 t160 (lf 161 t161)) 162 t162 (.node (.node (lf 163 t163) 164 t164 .nil) 165 t165 (lf 166 t166))) 167 t167 (.node (.node (.node (lf 168 t168) 169 t169 .nil) 170 t170 (lf 171 t171)) 172 t172 (.node (.node (lf 173 t173) 174 t174 .nil) 175 t175 (lf 176 t176)))) 177 t177 (.node (.node (.node (.node (lf 178 t178) 179 t179 .nil) 180 t180 (lf 181 t181)) 182 t182 (.node (.node (lf 183 t183) 184 t184 .nil) 185 t185 (lf 186 t186))) 187 t187 (.node (.node (.node (lf 188 t188) 189 t189 .nil) 190 t190 (lf 191 t191)) 192 t192 (.node (.node (lf 193 t193) 194 t194 .nil) 195 t195 (lf 196 t196))))) 197 t197 (.node (.node (.node (.node (.node (lf 198 t198) 199 t199 .nil) 200 t200 (lf 201 t201)) 202 t202 (.node (.node (lf 203 t203) 204 t204 .nil) 205 t205 (lf 206 t206))) 207 t207 (.node (.node (.node (lf 208 t208) 209 t209 .nil) 210 t210 (lf 211 t211)) 212 t212 (.node (.node (lf 213 t213) 214 t214 .nil) 215 t215 (lf 216 t216)))) 217 t217 (.node (.node (.node (.node (lf 218 t218) 219 t219 .nil) 220 t220 (lf 221 t221)) 222 t222 (.node (.node (lf 223 t223) 224 t224 .nil) 225 t225 (lf 226 t226))) 227 t227 (.node (.node (.node (lf 228 t228) 229 t229 .nil) 230 t230 (lf 231 t231)) 232 t232 (.node (lf 233 t233) 234 t234 (lf 235 t235)))))) 236 t236 (.node (.node (.node (.node (.node (.node (lf 237 t237) 238 t238 .nil) 239 t239 (lf 240 t240)) 241 t241 (.node (.node (lf 242 t242) 243 t243 .nil) 244 t244 (lf 245 t245))) 246 t246 (.node (.node (.node (lf 247 t247) 248 t248 .nil) 249 t249 (lf 250 t250)) 251 t251 (.node (.node (lf 252 t252) 253 t253 .nil) 254 t254 (lf 255 t255)))) 256 t256 (.node (.node (.node (.node (lf 257 t257) 258 t258 .nil) 259 t259 (lf 260 t260)) 261 t261 (.node (.node (lf 262 t262) 263 t263 .nil) 264 t264 (lf 265 t265))) 266 t266 (.node (.node (.node (lf 267 t267) 268 t268 .nil) 269 t269 (lf 270 t270)) 271 t271 (.node (lf 272 t272) 273 t273 (lf 274 t274))))) 275 t275 (.node (.node (.node (.node (.node (lf 276 t276) 277 t277 .nil) 278 t278 (lf 279 t279)) 280 t280 (.node (.node (lf 281 t281) 282 t282 .nil) 283 t283 (lf 284 t284))) 285 t285 (.node (.node (.node (lf 286 t286) 287 t287 .nil) 288 t288 (lf 289 t289)) 290 t290 (.node (.node (lf 291 t291) 292 t292 .nil) 293 t293 (lf 294 t294)))) 295 t295 (.node (.node (.node (.node (lf 296 t296) 297 t297 .nil) 298 t298 (lf 299 t299)) 300 t300 (.node (.node (lf 301 t301) 302 t302 .nil) 303 t303 (lf 304 t304))) 305 t305 (.node (.node (.node (lf 306 t306) 307 t307 .nil) 308 t308 (lf 309 t309)) 310 t310 (.node (lf 311 t311) 312 t312 (lf 313 t313))))))))
open Tryz in
noncomputable def FT:Tab Func:=(.node (.node (.node (.node (.node (.node (.node (.node (lf 0 f0) 1 f1 .nil) 2 f2 (lf 3 f3)) 4 f4 (.node (lf 5 f5) 6 f6 (lf 7 f7))) 8 f8 (.node (.node (lf 9 f9) 10 f10 (lf 11 f11)) 12 f12 (.node (lf 13 f13) 14 f14 (lf 15 f15)))) 16 f16 (.node (.node (.node (.node (lf 17 f17) 18 f18 .nil) 19 f19 (lf 20 f20)) 21 f21 (.node (lf 22 f22) 23 f23 (lf 24 f24))) 25 f25 (.node (.node (lf 26 f26) 27 f27 (lf 28 f28)) 29 f29 (.node (lf 30 f30) 31 f31 (lf 32 f32))))) 33 f33 (.node (.node (.node (.node (.node (lf 34 f34) 35 f35 .nil) 36 f36 (lf 37 f37)) 38 f38 (.node (lf 39 f39) 40 f40 (lf 41 f41))) 42 f42 (.node (.node (lf 43 f43) 44 f44 (lf 45 f45)) 46 f46 (.node (lf 47 f47) 48 f48 (lf 49 f49)))) 50 f50 (.node (.node (.node (lf 51 f51) 52 f52 (lf 53 f53)) 54 f54 (.node (lf 55 f55) 56 f56 (lf 57 f57))) 58 f58 (.node (.node (lf 59 f59) 60 f60 (lf 61 f61)) 62 f62 (.node (lf 63 f63) 64 f64 (lf 65 f65)))))) 66 f66 (.node (.node (.node (.node (.node (.node (lf 67 f67) 68 f68 .nil) 69 f69 (lf 70 f70)) 71 f71 (.node (lf 72 f72) 73 f73 (lf 74 f74))) 75 f75 (.node (.node (lf 76 f76) 77 f77 (lf 78 f78)) 79 f79 (.node (lf 80 f80) 81 f81 (lf 82 f82)))) 83 f83 (.node (.node (.node (lf 84 f84) 85 f85 (lf 86 f86)) 87 f87 (.node (lf 88 f88) 89 f89 (lf 90 f90))) 91 f91 (.node (.node (lf 92 f92) 93 f93 (lf 94 f94)) 95 f95 (.node (lf 96 f96) 97 f97 (lf 98 f98))))) 99 f99 (.node (.node (.node (.node (.node (lf 100 f100) 101 f101 .nil) 102 f102 (lf 103 f103)) 104 f104 (.node (lf 105 f105) 106 f106 (lf 107 f107))) 108 f108 (.node (.node (lf 109 f109) 110 f110 (lf 111 f111)) 112 f112 (.node (lf 113 f113) 114 f114 (lf 115 f115)))) 116 f116 (.node (.node (.node (lf 117 f117) 118 f118 (lf 119 f119)) 120 f120 (.node (lf 121 f121) 122 f122 (lf 123 f123))) 124 f124 (.node (.node (lf 125 f125) 126 f126 (lf 127 f127)) 128 f128 (.node (lf 129 f129) 130 f130 (lf 131 f131))))))) 132 f132 (.node (.node (.node (.node (.node (.node (.node (lf 133 f133) 134 f134 .nil) 135 f135 (lf 136 f136)) 137 f137 (.node (lf 138 f138) 139 f139 (lf 140 f140))) 141 f141 (.node (.node (lf 142 f142) 143 f143 (lf 144 f144)) 145 f145 (.node (lf 146 f146) 147 f147 (lf 148 f148)))) 149 f149 (.node (.node (.node (.node (lf 150 f150) 151 f151 .nil) 152 f152 (lf 153 f153)) 154 f154 (.node (lf 155 f155) 156 f156 (lf 157 f157))) 158 f158 (.node (.node (lf 159 f159) 160 f160 (lf 161 f161)) 162 f162 (.node (lf 163 f163) 164 f164 (lf 165 f165))))) 166 f166 (.node (.node (.node (.node (.node (lf 167 f167) 168 f168 .nil) 169 f169 (lf 170 f170)) 171 f171 (.node (lf 172 f172) 173 f173 (lf 174 f174))) 175 f175 (.node (.node (lf 176 f176) 177 f177 (lf 178 f178)) 179 f179 (.node (lf 180 f180) 181 f181 (lf 182 f182)))) 183 f183 (.node (.node (.node (lf 184 f184) 185 f185 (lf 186 f186)) 187 f187 (.node (lf 188 f188) 189 f189 (lf 190 f190))) 191 f191 (.node (.node (lf 192 f192) 193 f193 (lf 194 f194)) 195 f195 (.node (lf 196 f196) 197 f197 (lf 198 f198)))))) 199 f199 (.node (.node (.node (.node (.node (.node (lf 200 f200) 201 f201 .nil) 202 f202 (lf 203 f203)) 204 f204 (.node (lf 205 f205) 206 f206 (lf 207 f207))) 208 f208 (.node (.node (lf 209 f209) 210 f210 (lf 211 f211)) 212 f212 (.node (lf 213 f213) 214 f214 (lf 215 f215)))) 216 f216 (.node (.node (.node (lf 217 f217) 218 f218 (lf 219 f219)) 220 f220 (.node (lf 221 f221) 222 f222 (lf 223 f223))) 224 f224 (.node (.node (lf 225 f225) 226 f226 (lf 227 f227)) 228 f228 (.node (lf 229 f229) 230 f230 (lf 231 f231))))) 232 f232 (.node (.node (.node (.node (.node (lf 233 f233) 234 f234 .nil) 235 f235 (lf 236 f236)) 237 f237 (.node (lf 238 f238) 239 f239 (lf 240 f240))) 241 f241 (.node (.node (lf 242 f242) 243 f243 (lf 244 f244)) 245 f245 (.node (lf 246 f246) 247 f247 (lf 248 f248)))) 249 f249 (.node (.node (.node (lf 250 f250) 251 f251 (lf 252 f252)) 253 f253 (.node (lf 254 f254) 255 f255 (lf 256 f256))) 257 f257 (.node (.node (lf 258 f258) 259 f259 (lf 260 f260)) 261 f261 (.node (lf 262 f262) 263 f263 (lf 264 f264))))))))
class ZC where j:Nat
@[reducible] def zc2:ZC:=⟨2⟩
@[reducible] def zc5:ZC:=⟨5⟩
@[go_sem] theorem f8n:@ZC.j zc2=2:=rfl
@[go_sem] theorem f8m:@ZC.j zc5=5:=rfl
variable [ZC]
def KT:Tab (List (Nat×List Nat)):=(.node (.node (.node (.node (.node (.node (lf 3 [(0,[3,4,6,7]),(2,[3,4,6,7,8])]) 4 [(0,[5,7,8,9,10,11]),(2,[5,7,8,9,10,11,12,13]),(5,[7,8,9,16,18]),(7,[7,8,9,16,18,19,20])] .nil) 5 [(0,[7,8,9,10]),(2,[7,8,9,10,11]),(4,[17,20,25,27,28])] (.node (lf 6 [(0,[5,6,7,11,12]),(2,[5,6,7,12,13,16])]) 7 [(0,[7,8,9,10]),(2,[7,8,9,10,11]),(4,[14,16,19])] .nil)) 8 [(0,[5,7,9,11,12,13,14])] (.node (.node (lf 9 [(0,[17,19,21])]) 10 [(0,[1,2,3,4]),(2,[1,2,3,5,6,7]),(4,[1,2,3,5,6,8]),(6,[1,2,3,5,6,9,10]),(8,[1,2,3,9,11]),(10,[1,2,3,9,12])] .nil) 11 [(0,[1,6,7,38,39,40]),(2,[6,7,62,63]),(4,[6,7,11,62,63])] (lf 16 [(0,[1,2,5,6])]))) 17 [(0,[1,2,6,10,34,35])] (.node (.node (.node (lf 18 [(0,[1,3,4,29,30,31]),(2,[1,3,4,45,46,47]),(4,[1,3,4,9,61,62,63])]) 23 [(0,[4,9,10,40,41,42]),(2,[4,9,10,12,13,40,41,42,59,60,61])] .nil) 25 [(0,[1,2,4,8,30,31,1000003]),(2,[1,2,4,8,11,52,53,54,1000002])] (lf 26 [(1,[2,3,4,8,39,40,41]),(4,[16,17,18,82,83,84]),(6,[16,17,18,19,20,21,82,83,84,92,93,1000000+ZC.j]),(8,[16,17,18,19,20,82,83,84,107,108,109])])) 28 [(0,[1,3,5,7,8,9,10]),(2,[1,3,5,9,10,11,14,17])] (.node (.node (lf 29 [(0,[1,5,6,25,26,27]),(2,[1,5,6,42,43,44]),(4,[1,5,6,12,42,43,44,61,62,63]),(6,[1,5,6,78,79,80])]) 30 [(0,[2,3,4,5,17,18,19])] .nil) 31 [(0,[2,5,25,26,27])] (lf 32 [(0,[2,3,4,6,7,8,9,10,11,12])])))) 35 [(0,[1,5,9,10,11])] (.node (.node (.node (.node (lf 44 [(1,[1,2,3,7,24,25]),(3,[1,2,48,49])]) 45 [(0,[1,2,7,13,14,15])] .nil) 49 [(0,[2,39,40,41])] (lf 56 [(0,[7,8])])) 58 [(0,[4,6,21,22])] (.node (.node (lf 60 [(0,[2,3,10,11,12]),(2,[2,3,29,30,31])]) 63 [(0,[1,2,3,12,13,14]),(2,[1,2,3,29,30,31])] .nil) 65 [(0,[5,14,15,16])] (lf 66 [(0,[0,1,12,13])]))) 67 [(1,[8,27,28,29]),(3,[8,10,27,28,29,34,35])] (.node (.node (.node (lf 75 [(1,[0,1,5,39,40,41]),(3,[1,8,63,64,65])]) 84 [(0,[1,5,6,7,29,30,31]),(2,[1,5,6,7,10,11]),(4,[1,5,6,7,10,11,12,76,77,78])] .nil) 88 [(0,[0,1,7,8])] (lf 90 [(0,[0,1,2,7,8])])) 91 [(0,[1,2,5,6])] (.node (.node (lf 93 [(0,[0,3,9,10,11]),(2,[6,25,26,27])]) 98 [(0,[0,3]),(2,[0,3,4,5])] .nil) 99 [(0,[1,2,3,4,9])] (lf 100 [(0,[2,5,6]),(2,[2,5,6,45,46,47])]))))) 111 [(0,[3,6,7,8])] (.node (.node (.node (.node (.node (lf 120 [(0,[0,3,4,5,41,42,43]),(2,[0,3,4,5,60,61,62]),(4,[0,4,5,12,89,90,91]),(6,[0,4,5,16,143,144,145]),(8,[0,4,16,162,163,164])]) 127 [(0,[0,1,2,3,9,10])] .nil) 129 [(0,[0,1,5,6])] (.node (lf 132 [(0,[0,1,4,13,14,15])]) 134 [(1,[1,36,37,38]),(3,[1,55,56,57])] .nil)) 135 [(0,[3,4,18,19,20]),(2,[3,4,5,18,19,20,26,27,28]),(4,[3,51,52,53])] (.node (.node (lf 136 [(0,[0,1,7,8])]) 138 [(0,[1,2,10])] .nil) 139 [(0,[0,1,7,8])] (lf 142 [(0,[0,1,2,3,8,9])]))) 146 [(0,[0,1,2,6,7,8]),(2,[0,1,2,6]),(4,[0,1,2,6,7,8])] (.node (.node (.node (lf 149 [(0,[1,2,7,11,12,13])]) 160 [(0,[0,1,5,16,17,18])] .nil) 164 [(0,[0,1,6,7])] (lf 165 [(0,[0,1,5])])) 167 [(0,[0,1,7,8])] (.node (.node (lf 169 [(0,[0,3,24,25])]) 172 [(0,[3,8,9,10])] .nil) 179 [(0,[0,1,4])] (lf 180 [(0,[0,1,3,4,10,11,12,13,14,15,16]),(2,[0,1,3,4,10,11,12,13,17])])))) 182 [(0,[0,1,2,6]),(2,[0,1,2,6,7])] (.node (.node (.node (.node (lf 183 [(0,[0,6,7,8,9]),(2,[0,6,7,10])]) 184 [(0,[0,1,6,7,8,9])] .nil) 186 [(0,[0,6,7])] (lf 187 [(0,[0,1,2,7,8]),(2,[0,1,2,7,8]),(4,[0,1,2,7,8,9]),(6,[0,1,2,7,8,10])])) 189 [(0,[0,1,9,10]),(2,[0,1,9,10]),(4,[0,1,9,10])] (.node (.node (lf 190 [(0,[0,1,10,11]),(2,[0,1,10,11]),(4,[0,1,10,11]),(6,[0,1,10,11]),(8,[0,1,10,11])]) 193 [(0,[0,1,2,3,8]),(2,[0,1,2,3,8,9])] .nil) 194 [(0,[0,1,4,10,11]),(2,[0,10,13]),(4,[0,2,4,14,15]),(6,[0,14,17]),(8,[0,1,2,3,4,18,19,20,21,22])] (lf 200 [(0,[2,4])]))) 203 [(1,[0,1,5,6,7,8,9,10])] (.node (.node (.node (lf 204 [(0,[0,1,7,8])]) 210 [(0,[0,1,7,8])] .nil) 216 [(0,[0,2,3,8])] (lf 222 [(0,[0,2,4,10,11])])) 223 [(0,[0,1,7,8])] (.node (.node (lf 227 [(0,[0,1,5,6,7,8,9]),(2,[0,1,5,6,7,8,10])]) 233 [(0,[0,1,2,3,10])] .nil) 234 [(0,[0,4,5]),(2,[4,6,7,8])] (lf 235 [(9,[175]),(1,[0,7,8,9]),(3,[0,7,8,9,12]),(5,[0,7,8,9,14,15]),(7,[0,7,8,9,14,15,16])]))))))
def EQ:Tab Bool:=(.node (.node (.node (.node (.node (.node (lf 2 true) 3 true .nil) 4 true (lf 5 true)) 6 true (.node (lf 7 true) 8 true (lf 9 true))) 10 true (.node (.node (.node (lf 11 true) 12 true .nil) 15 true (lf 16 true)) 17 true (.node (lf 20 true) 21 true (lf 22 true)))) 23 true (.node (.node (.node (.node (lf 36 true) 42 true .nil) 43 true (lf 44 true)) 53 true (.node (lf 61 true) 62 true (lf 63 true))) 64 true (.node (.node (.node (lf 70 true) 71 true .nil) 72 true (lf 73 true)) 74 true (.node (lf 75 true) 76 true (lf 91 true))))) 92 true (.node (.node (.node (.node (.node (lf 105 true) 106 true .nil) 110 true (lf 114 true)) 115 true (.node (lf 116 true) 152 true (lf 157 true))) 169 true (.node (.node (.node (lf 191 true) 204 true .nil) 215 true (lf 230 true)) 233 true (.node (lf 238 true) 239 true (lf 243 true)))) 254 true (.node (.node (.node (.node (lf 260 true) 282 true .nil) 283 true (lf 284 true)) 288 true (.node (lf 292 true) 294 true (lf 295 true))) 296 true (.node (.node (.node (lf 297 true) 300 true .nil) 301 true (lf 304 true)) 307 true (.node (lf 308 true) 310 true (lf 311 true))))))
def GT(g:Nat):Option (List AV):=bif Nat.beq g 0 then some (b9e .i64 [0,0,0,0,0,0,1,1,1,1,2,16,2,16,2,16,2,16,2,16,2,16,3,3,2,2,1,16,1,1,0,0])else none
noncomputable def L[ZC]:Laid:={ P:=Tryz.prog,T:=TT,F:=FT,keep:=KT,eqs:=EQ,G:=GT,thaw:=λg=>decide (g=161∨g=118∨g=68∨g=96∨g=56∨g=140∨g=26∨g=17∨g=25),ro:=λg=>decide (g=159∨g=160),ext:=λf=>Nat.beq f 181,lend:=λg=>decide (g=44∨g=50∨g=37∨g=26∨g=27∨g=18),zf:=λf=>Nat.beq f 64||Nat.beq f 68,zn:=λf=>bif Nat.beq f 64 then 10 else bif Nat.beq f 68 then 2 else 0,zj:=λf=>bif Nat.beq f 64 then 6 else bif Nat.beq f 68 then 0 else 0,raw:=λg=>decide (g=68) }
theorem e04:∀i x,TT.get i=some x->Tryz.prog.types[i]?=some x:=b7s (n:=314) (l:=Tryz.types.toList) (by kernel_rfl) (by kernel_rfl)
theorem e27:∀i x,FT.get i=some x->Tryz.prog.funcs[i]?=some x:=b7s (n:=265) (l:=Tryz.funcs.toList) (by kernel_rfl) (by kernel_rfl)
theorem laidOk:LaidOk L:={
 types:=e04
 funcs:=e27
 shape:=by kernel_rfl
 names:=by kernel_rfl
 eqs:=by kernel_rfl
 ext:=λf h=>by
  have h:Nat.beq f 181=true:=h;have:f=181:=by simpa using h
  subst this;exact⟨Tryz.f181,by kernel_rfl,by kernel_rfl,by kernel_rfl,by kernel_rfl,by kernel_rfl⟩
 mixed:=by kernel_rfl
 draws:=by kernel_rfl
 yid:=by kernel_rfl
 rf:=by kernel_rfl}
theorem ok:EnvOk L.env:=laidOk.envOk
theorem dr:DrOk L.env:=laidOk.drawn
@[go_sem] theorem f6l:L.env.G 0=some (b9e .i64 [0,0,0,0,0,0,1,1,1,1,2,16,2,16,2,16,2,16,2,16,2,16,3,3,2,2,1,16,1,1,0,0]):=by kernel_rfl
attribute [go_sem] b9e
@[go_sem] theorem roF(g:FuncId):L.env.ro g=decide (g=159∨g=160):=by rfl
@[go_sem] theorem f8p(g:FuncId):L.env.thaw g=decide (g=161∨g=118∨g=68∨g=96∨g=56∨g=140∨g=26∨g=17∨g=25):=by rfl
@[go_sem] theorem kp8_0:L.env.keep 8 0=[5,7,9,11,12,13,14]:=by kernel_rfl
@[go_sem] theorem kp10_0:L.env.keep 10 0=[1,2,3,4]:=by kernel_rfl
@[go_sem] theorem kp10_2:L.env.keep 10 2=[1,2,3,5,6,7]:=by kernel_rfl
@[go_sem] theorem kp10_4:L.env.keep 10 4=[1,2,3,5,6,8]:=by kernel_rfl
@[go_sem] theorem kp10_6:L.env.keep 10 6=[1,2,3,5,6,9,10]:=by kernel_rfl
@[go_sem] theorem kp10_8:L.env.keep 10 8=[1,2,3,9,11]:=by kernel_rfl
@[go_sem] theorem kp10_10:L.env.keep 10 10=[1,2,3,9,12]:=by kernel_rfl
@[go_sem] theorem kp11_0:L.env.keep 11 0=[1,6,7,38,39,40]:=by kernel_rfl
@[go_sem] theorem kp11_2:L.env.keep 11 2=[6,7,62,63]:=by kernel_rfl
@[go_sem] theorem kp11_4:L.env.keep 11 4=[6,7,11,62,63]:=by kernel_rfl
@[go_sem] theorem kp16_0:L.env.keep 16 0=[1,2,5,6]:=by kernel_rfl
@[go_sem] theorem kp17_0:L.env.keep 17 0=[1,2,6,10,34,35]:=by kernel_rfl
@[go_sem] theorem kp18_0:L.env.keep 18 0=[1,3,4,29,30,31]:=by kernel_rfl
@[go_sem] theorem kp18_2:L.env.keep 18 2=[1,3,4,45,46,47]:=by kernel_rfl
@[go_sem] theorem kp18_4:L.env.keep 18 4=[1,3,4,9,61,62,63]:=by kernel_rfl
@[go_sem] theorem kp23_0:L.env.keep 23 0=[4,9,10,40,41,42]:=by kernel_rfl
@[go_sem] theorem kp23_2:L.env.keep 23 2=[4,9,10,12,13,40,41,42,59,60,61]:=by kernel_rfl
@[go_sem] theorem kp25_0:L.env.keep 25 0=[1,2,4,8,30,31,1000003]:=by kernel_rfl
@[go_sem] theorem kp25_2:L.env.keep 25 2=[1,2,4,8,11,52,53,54,1000002]:=by kernel_rfl
@[go_sem] theorem kp26_1:L.env.keep 26 1=[2,3,4,8,39,40,41]:=by kernel_rfl
@[go_sem] theorem kp26_4:L.env.keep 26 4=[16,17,18,82,83,84]:=by kernel_rfl
@[go_sem] theorem kp26_6:L.env.keep 26 6=[16,17,18,19,20,21,82,83,84,92,93,1000000+ZC.j]:=by kernel_rfl
@[go_sem] theorem kp26_8:L.env.keep 26 8=[16,17,18,19,20,82,83,84,107,108,109]:=by kernel_rfl
@[go_sem] theorem kp32_0:L.env.keep 32 0=[2,3,4,6,7,8,9,10,11,12]:=by kernel_rfl
@[go_sem] theorem kp35_0:L.env.keep 35 0=[1,5,9,10,11]:=by kernel_rfl
@[go_sem] theorem kp44_1:L.env.keep 44 1=[1,2,3,7,24,25]:=by kernel_rfl
@[go_sem] theorem kp44_3:L.env.keep 44 3=[1,2,48,49]:=by kernel_rfl
@[go_sem] theorem kp45_0:L.env.keep 45 0=[1,2,7,13,14,15]:=by kernel_rfl
@[go_sem] theorem kp49_0:L.env.keep 49 0=[2,39,40,41]:=by kernel_rfl
@[go_sem] theorem kp58_0:L.env.keep 58 0=[4,6,21,22]:=by kernel_rfl
@[go_sem] theorem kp60_0:L.env.keep 60 0=[2,3,10,11,12]:=by kernel_rfl
@[go_sem] theorem kp60_2:L.env.keep 60 2=[2,3,29,30,31]:=by kernel_rfl
@[go_sem] theorem kp63_0:L.env.keep 63 0=[1,2,3,12,13,14]:=by kernel_rfl
@[go_sem] theorem kp63_2:L.env.keep 63 2=[1,2,3,29,30,31]:=by kernel_rfl
@[go_sem] theorem kp65_0:L.env.keep 65 0=[5,14,15,16]:=by kernel_rfl
@[go_sem] theorem kp66_0:L.env.keep 66 0=[0,1,12,13]:=by kernel_rfl
@[go_sem] theorem kp67_1:L.env.keep 67 1=[8,27,28,29]:=by kernel_rfl
@[go_sem] theorem kp67_3:L.env.keep 67 3=[8,10,27,28,29,34,35]:=by kernel_rfl
@[go_sem] theorem kp84_0:L.env.keep 84 0=[1,5,6,7,29,30,31]:=by kernel_rfl
@[go_sem] theorem kp84_2:L.env.keep 84 2=[1,5,6,7,10,11]:=by kernel_rfl
@[go_sem] theorem kp84_4:L.env.keep 84 4=[1,5,6,7,10,11,12,76,77,78]:=by kernel_rfl
@[go_sem] theorem kp88_0:L.env.keep 88 0=[0,1,7,8]:=by kernel_rfl
@[go_sem] theorem kp90_0:L.env.keep 90 0=[0,1,2,7,8]:=by kernel_rfl
@[go_sem] theorem kp91_0:L.env.keep 91 0=[1,2,5,6]:=by kernel_rfl
@[go_sem] theorem kp93_0:L.env.keep 93 0=[0,3,9,10,11]:=by kernel_rfl
@[go_sem] theorem kp93_2:L.env.keep 93 2=[6,25,26,27]:=by kernel_rfl
@[go_sem] theorem kp100_0:L.env.keep 100 0=[2,5,6]:=by kernel_rfl
@[go_sem] theorem kp100_2:L.env.keep 100 2=[2,5,6,45,46,47]:=by kernel_rfl
@[go_sem] theorem kp111_0:L.env.keep 111 0=[3,6,7,8]:=by kernel_rfl
@[go_sem] theorem kp120_0:L.env.keep 120 0=[0,3,4,5,41,42,43]:=by kernel_rfl
@[go_sem] theorem kp120_2:L.env.keep 120 2=[0,3,4,5,60,61,62]:=by kernel_rfl
@[go_sem] theorem kp120_4:L.env.keep 120 4=[0,4,5,12,89,90,91]:=by kernel_rfl
@[go_sem] theorem kp120_6:L.env.keep 120 6=[0,4,5,16,143,144,145]:=by kernel_rfl
@[go_sem] theorem kp120_8:L.env.keep 120 8=[0,4,16,162,163,164]:=by kernel_rfl
@[go_sem] theorem kp134_1:L.env.keep 134 1=[1,36,37,38]:=by kernel_rfl
@[go_sem] theorem kp134_3:L.env.keep 134 3=[1,55,56,57]:=by kernel_rfl
@[go_sem] theorem kp135_0:L.env.keep 135 0=[3,4,18,19,20]:=by kernel_rfl
@[go_sem] theorem kp135_2:L.env.keep 135 2=[3,4,5,18,19,20,26,27,28]:=by kernel_rfl
@[go_sem] theorem kp135_4:L.env.keep 135 4=[3,51,52,53]:=by kernel_rfl
@[go_sem] theorem kp136_0:L.env.keep 136 0=[0,1,7,8]:=by kernel_rfl
@[go_sem] theorem kp139_0:L.env.keep 139 0=[0,1,7,8]:=by kernel_rfl
@[go_sem] theorem kp146_0:L.env.keep 146 0=[0,1,2,6,7,8]:=by kernel_rfl
@[go_sem] theorem kp146_2:L.env.keep 146 2=[0,1,2,6]:=by kernel_rfl
@[go_sem] theorem kp149_0:L.env.keep 149 0=[1,2,7,11,12,13]:=by kernel_rfl
@[go_sem] theorem kp160_0:L.env.keep 160 0=[0,1,5,16,17,18]:=by kernel_rfl
@[go_sem] theorem kp172_0:L.env.keep 172 0=[3,8,9,10]:=by kernel_rfl
@[go_sem] theorem kp193_0:L.env.keep 193 0=[0,1,2,3,8]:=by kernel_rfl
@[go_sem] theorem kp193_2:L.env.keep 193 2=[0,1,2,3,8,9]:=by kernel_rfl
@[go_sem] theorem kp210_0:L.env.keep 210 0=[0,1,7,8]:=by kernel_rfl
@[go_sem] theorem kp223_0:L.env.keep 223 0=[0,1,7,8]:=by kernel_rfl
@[go_sem] theorem by3:L.env.bytes 3=8:=by kernel_rfl
@[go_sem] theorem by4:L.env.bytes 4=1:=by kernel_rfl
@[go_sem] theorem by5:L.env.bytes 5=1:=by kernel_rfl
@[go_sem] theorem by9:L.env.bytes 9=16:=by kernel_rfl
@[go_sem] theorem g17:L.env.bytes 44=24:=by kernel_rfl
@[go_sem] theorem f7x:L.env.bytes 52=24:=by kernel_rfl
@[go_sem] theorem f7w:L.env.bytes 53=1:=by kernel_rfl
@[go_sem] theorem g16:L.env.bytes 64=32:=by kernel_rfl
@[go_sem] theorem g15:L.env.bytes 74=16:=by kernel_rfl
@[go_sem] theorem g14:L.env.bytes 76=40:=by kernel_rfl
@[go_sem] theorem g13:L.env.bytes 92=24:=by kernel_rfl
@[go_sem] theorem f3n:L.env.bytes 112=48:=by kernel_rfl
@[go_sem] theorem f3m:L.env.bytes 223=24:=by kernel_rfl
@[go_sem] theorem in3:c9o L.env 3=some .i64:=by kernel_rfl
@[go_sem] theorem un4:L.env.und 4=some .bool:=by kernel_rfl
@[go_sem] theorem in5:c9o L.env 5=some .u8:=by kernel_rfl
@[go_sem] theorem ar22:c6t L.env 22=some (2,5):=by kernel_rfl
@[go_sem] theorem ar23:c6t L.env 23=some (4,5):=by kernel_rfl
@[go_sem] theorem st24:slT L.env 24=some 116:=by kernel_rfl
@[go_sem] theorem st25:slT L.env 25=some 5:=by kernel_rfl
@[go_sem] theorem g3n{k:Nat}(h:(k<=1000000000)=True):c8a L.env 5 (k:Int) (k:Int)=true:=a7s (f7q h) (by rw[by5];decide)
@[go_sem] theorem ag27:a6o L.env 27=some true:=by kernel_rfl
theorem ft27:a8y L.env 27=some [5,5,22,4,4,23,24,25]:=by kernel_rfl
@[go_sem] theorem g3j{k:Nat}(h:(k<=1000000000)=True):a2j L.env 112 k=true:=a6h (f7q h) (by rw[f3n];decide)
@[go_sem] theorem g3i{k:Nat}(h:(k<=1000000000)=True):a2j L.env 9 k=true:=a6h (f7q h) (by rw[by9];decide)
@[go_sem] theorem g3h{k:Nat}(h:(k<=1000000000)=True):a2j L.env 3 k=true:=a6h (f7q h) (by rw[by3];decide)
@[go_sem] theorem g3m{k:Nat}(h:(k<=1000000000)=True):c8a L.env 3 (k:Int) (k:Int)=true:=a7s (f7q h) (by rw[by3];decide)
@[go_sem] theorem is3:isT L.env 3=true∧L.env.sz 3=1∧a6o L.env 3=some false∧L.env.zero 3=some [.int .i64 0]∧isT L.env 4=true∧L.env.sz 4=1∧a6o L.env 4=some false∧L.env.zero 4=some [.bool false]∧isT L.env 5=true∧L.env.sz 5=1∧a6o L.env 5=some false∧L.env.zero 5=some [.int .u8 0]∧isT L.env 9=true∧L.env.sz 9=1∧a6o L.env 9=some false∧e5b L.env 9=true∧L.env.zero 9=some [.str []]∧isT L.env 22=true∧L.env.sz 22=2∧isT L.env 23=true∧L.env.sz 23=4∧isT L.env 24=true∧L.env.sz 24=1∧a6o L.env 24=some false∧isT L.env 25=true∧L.env.sz 25=1∧a6o L.env 25=some false∧byT L.env 25 9=true∧L.env.sz 27=12∧a53 L.env 27 0=some (0,5)∧a53 L.env 27 1=some (1,5)∧a53 L.env 27 2=some (2,22)∧a53 L.env 27 3=some (4,4)∧a53 L.env 27 4=some (5,4)∧a53 L.env 27 5=some (6,23)∧a53 L.env 27 6=some (10,24)∧a53 L.env 27 7=some (11,25)∧isT L.env 28=true∧L.env.sz 28=1∧a6o L.env 28=some false∧slT L.env 28=some 112∧apT L.env 28 28=some 112∧isT L.env 29=true∧L.env.sz 29=1∧a6o L.env 29=some false∧slT L.env 29=some 9∧apT L.env 29 29=some 9∧isT L.env 30=true∧L.env.sz 30=1∧a6o L.env 30=some false∧slT L.env 30=some 118∧isT L.env 31=true∧L.env.sz 31=1∧a6o L.env 31=some false∧slT L.env 31=some 3∧apT L.env 31 31=some 3∧L.env.zero 31=some [.nilslice]∧isT L.env 33=true∧L.env.sz 33=4∧a6o L.env 33=some true:=by refine⟨?_,?_,?_,?_,?_,?_,?_,?_,?_,?_,?_,?_,?_,?_,?_,?_,?_,?_,?_,?_,?_,?_,?_,?_,?_,?_,?_,?_,?_,?_,?_,?_,?_,?_,?_,?_,?_,?_,?_,?_,?_,?_,?_,?_,?_,?_,?_,?_,?_,?_,?_,?_,?_,?_,?_,?_,?_,?_,?_,?_⟩<;>kernel_rfl
@[go_sem] theorem g3g{k:Nat}(h:(k<=1000000000)=True):a2j L.env 44 k=true:=a6h (f7q h) (by rw[g17];decide)
@[go_sem] theorem st46:slT L.env 46=some 68:=by kernel_rfl
@[go_sem] theorem g3f{k:Nat}(h:(k<=1000000000)=True):a2j L.env 52 k=true:=a6h (f7q h) (by rw[f7x];decide)
@[go_sem] theorem g3l{k:Nat}(h:(k<=1000000000)=True):c8a L.env 52 (k:Int) (k:Int)=true:=a7s (f7q h) (by rw[f7x];decide)
@[go_sem] theorem g3e{k:Nat}(h:(k<=1000000000)=True):a2j L.env 53 k=true:=a6h (f7q h) (by rw[f7w];decide)
@[go_sem] theorem g3k{k:Nat}(h:(k<=1000000000)=True):c8a L.env 53 (k:Int) (k:Int)=true:=a7s (f7q h) (by rw[f7w];decide)
@[go_sem] theorem in53:c9o L.env 53=some .u8:=by kernel_rfl
@[go_sem] theorem g3d{k:Nat}(h:(k<=1000000000)=True):a2j L.env 64 k=true:=a6h (f7q h) (by rw[g16];decide)
@[go_sem] theorem f7m:a53 L.env 33 0=some (0,28)∧a53 L.env 33 1=some (1,29)∧a53 L.env 33 2=some (2,30)∧a53 L.env 33 3=some (3,31)∧L.env.zero 33=some [.nilslice,.nilslice,.nilslice,.nilslice]∧isT L.env 35=true∧L.env.sz 35=1∧a6o L.env 35=some false∧slT L.env 35=some 44∧apT L.env 35 35=some 44∧isT L.env 42=true∧L.env.sz 42=1∧a6o L.env 42=some false∧isT L.env 44=true∧L.env.sz 44=2∧a6o L.env 44=some true∧c4n L.env 44=true∧a53 L.env 44 0=some (0,9)∧a8g L.env 44 0=some (0,1)∧a53 L.env 44 1=some (1,42)∧a8g L.env 44 1=some (1,1)∧L.env.zero 44=some [.str [],.int .u8 0]∧isT L.env 46=true∧L.env.sz 46=1∧a6o L.env 46=some false∧slT L.env 50=some 52∧apT L.env 50 50=some 52∧isT L.env 52=true∧L.env.sz 52=1∧a6o L.env 52=some false∧slT L.env 52=some 53∧apT L.env 52 52=some 53∧L.env.zero 52=some [.nilslice]∧isT L.env 53=true∧L.env.sz 53=1∧a6o L.env 53=some false∧L.env.zero 53=some [.int .u8 0]∧isT L.env 54=true∧L.env.sz 54=1∧a6o L.env 54=some false∧slT L.env 54=some 62∧isT L.env 55=true∧L.env.sz 55=1∧a6o L.env 55=some false∧slT L.env 55=some 64∧apT L.env 55 55=some 64∧isT L.env 57=true∧L.env.sz 57=3∧a6o L.env 57=some true∧c4n L.env 57=true∧a53 L.env 57 0=some (0,35)∧a8g L.env 57 0=some (0,1)∧a53 L.env 57 1=some (1,54)∧a8g L.env 57 1=some (1,1)∧a53 L.env 57 2=some (2,55)∧L.env.zero 57=some [.nilslice,.nilslice,.nilslice]∧isT L.env 62=true∧L.env.sz 62=6∧a6o L.env 62=some true∧c4n L.env 62=true:=by refine⟨?_,?_,?_,?_,?_,?_,?_,?_,?_,?_,?_,?_,?_,?_,?_,?_,?_,?_,?_,?_,?_,?_,?_,?_,?_,?_,?_,?_,?_,?_,?_,?_,?_,?_,?_,?_,?_,?_,?_,?_,?_,?_,?_,?_,?_,?_,?_,?_,?_,?_,?_,?_,?_,?_,?_,?_,?_,?_,?_,?_⟩<;>kernel_rfl
theorem ft68:a8y L.env 68=some [25,25]:=by kernel_rfl
@[go_sem] theorem in72:c9o L.env 72=some .u8:=by kernel_rfl
theorem ft74:a8y L.env 74=some [3,3]:=by kernel_rfl
theorem ft76:a8y L.env 76=some [72,74,53,3]:=by kernel_rfl
@[go_sem] theorem f7d:a53 L.env 62 0=some (0,9)∧a8g L.env 62 0=some (0,1)∧a8g L.env 62 1=some (1,1)∧a8g L.env 62 2=some (2,1)∧a8g L.env 62 3=some (3,1)∧a8g L.env 62 4=some (4,1)∧a8g L.env 62 5=some (5,1)∧L.env.zero 62=some [.str [],.int .i64 0,.int .i64 0,.int .i64 0,.int .i64 0,.int .i64 0]∧isT L.env 64=true∧L.env.sz 64=3∧a6o L.env 64=some true∧c4n L.env 64=true∧a53 L.env 64 0=some (0,3)∧a8g L.env 64 0=some (0,1)∧a53 L.env 64 1=some (1,9)∧a8g L.env 64 1=some (1,1)∧a53 L.env 64 2=some (2,3)∧a8g L.env 64 2=some (2,1)∧L.env.zero 64=some [.int .i64 0,.str [],.int .i64 0]∧isT L.env 68=true∧L.env.sz 68=2∧a6o L.env 68=some true∧a53 L.env 68 0=some (0,25)∧a53 L.env 68 1=some (1,25)∧isT L.env 72=true∧L.env.sz 72=1∧a6o L.env 72=some false∧isT L.env 74=true∧L.env.sz 74=2∧a6o L.env 74=some true∧c4n L.env 74=true∧a53 L.env 74 0=some (0,3)∧a8g L.env 74 0=some (0,1)∧a53 L.env 74 1=some (1,3)∧a8g L.env 74 1=some (1,1)∧L.env.zero 74=some [.int .i64 0,.int .i64 0]∧isT L.env 76=true∧L.env.sz 76=5∧a6o L.env 76=some true∧a53 L.env 76 0=some (0,72)∧a53 L.env 76 1=some (1,74)∧a53 L.env 76 2=some (3,53)∧a53 L.env 76 3=some (4,3)∧L.env.zero 76=some [.int .u8 0,.int .i64 0,.int .i64 0,.int .u8 0,.int .i64 0]∧isT L.env 80=true∧L.env.sz 80=2∧a6o L.env 80=some true∧c4n L.env 80=true∧a53 L.env 80 0=some (0,52)∧a8g L.env 80 0=some (0,1)∧a53 L.env 80 1=some (1,52)∧a8g L.env 80 1=some (1,1)∧L.env.zero 80=some [.nilslice,.nilslice]∧isT L.env 83=true∧L.env.sz 83=2∧a6o L.env 83=some true∧c4n L.env 83=true∧a53 L.env 83 0=some (0,52)∧a8g L.env 83 0=some (0,1)∧a53 L.env 83 1=some (1,52):=by refine⟨?_,?_,?_,?_,?_,?_,?_,?_,?_,?_,?_,?_,?_,?_,?_,?_,?_,?_,?_,?_,?_,?_,?_,?_,?_,?_,?_,?_,?_,?_,?_,?_,?_,?_,?_,?_,?_,?_,?_,?_,?_,?_,?_,?_,?_,?_,?_,?_,?_,?_,?_,?_,?_,?_,?_,?_,?_,?_,?_,?_⟩<;>kernel_rfl
@[go_sem] theorem g3c{k:Nat}(h:(k<=1000000000)=True):a2j L.env 92 k=true:=a6h (f7q h) (by rw[g13];decide)
@[go_sem] theorem ag100:a6o L.env 100=some true:=by kernel_rfl
theorem ft100:a8y L.env 100=some [46,76,4,4]:=by kernel_rfl
@[go_sem] theorem f9o{k:Nat}(h:(k<=1000000000)=True):a2j L.env 76 k=true:=a6h (f7q h) (by rw[g14];decide)
@[go_sem] theorem ar114:c6t L.env 114=some (3,5):=by kernel_rfl
theorem ft116:a8y L.env 116=some [5,114]:=by kernel_rfl
@[go_sem] theorem f4j:a8g L.env 83 1=some (1,1)∧L.env.zero 83=some [.nilslice,.nilslice]∧slT L.env 88=some 92∧apT L.env 88 88=some 92∧isT L.env 92=true∧L.env.sz 92=3∧c4n L.env 92=true∧a8g L.env 92 0=some (0,1)∧a8g L.env 92 1=some (1,1)∧a8g L.env 92 2=some (2,1)∧L.env.zero 92=some [.int .i64 0,.int .i64 0,.int .u8 0]∧a53 L.env 100 0=some (0,46)∧a53 L.env 100 1=some (1,76)∧a53 L.env 100 2=some (6,4)∧a53 L.env 100 3=some (7,4)∧L.env.sz 101=1∧a6o L.env 101=some false∧slT L.env 101=some 76∧apT L.env 101 101=some 76∧isT L.env 110=true∧L.env.sz 110=1∧a6o L.env 110=some false∧c9o L.env 110=some .u8∧L.env.zero 110=some [.int .u8 0]∧isT L.env 112=true∧L.env.sz 112=4∧a6o L.env 112=some true∧c4n L.env 112=true∧a53 L.env 112 0=some (0,110)∧a8g L.env 112 0=some (0,1)∧a53 L.env 112 1=some (1,31)∧a8g L.env 112 1=some (1,1)∧a53 L.env 112 2=some (2,3)∧a53 L.env 112 3=some (3,3)∧a8g L.env 112 3=some (3,1)∧L.env.zero 112=some [.int .u8 0,.nilslice,.int .i64 0,.int .i64 0]∧isT L.env 114=true∧L.env.sz 114=3∧isT L.env 116=true∧L.env.sz 116=4∧a6o L.env 116=some true∧a53 L.env 116 0=some (0,5)∧a53 L.env 116 1=some (1,114)∧isT L.env 118=true∧L.env.sz 118=3∧a6o L.env 118=some true∧c4n L.env 118=true∧a53 L.env 118 0=some (0,31)∧a8g L.env 118 0=some (0,1)∧a53 L.env 118 1=some (1,31)∧a8g L.env 118 1=some (1,1)∧a53 L.env 118 2=some (2,3)∧a8g L.env 118 2=some (2,1)∧L.env.zero 118=some [.nilslice,.nilslice,.int .i64 0]∧b8m L.env 122=false∧isT L.env 140=true∧L.env.sz 140=5∧a6o L.env 140=some true∧c4n L.env 140=true∧a53 L.env 140 0=some (0,33):=by refine⟨?_,?_,?_,?_,?_,?_,?_,?_,?_,?_,?_,?_,?_,?_,?_,?_,?_,?_,?_,?_,?_,?_,?_,?_,?_,?_,?_,?_,?_,?_,?_,?_,?_,?_,?_,?_,?_,?_,?_,?_,?_,?_,?_,?_,?_,?_,?_,?_,?_,?_,?_,?_,?_,?_,?_,?_,?_,?_,?_,?_⟩<;>kernel_rfl
@[go_sem] theorem f9z{k:Nat}(h:(k<=1000000000)=True):c8a L.env 4 (k:Int) (k:Int)=true:=a7s (f7q h) (by rw[by4];decide)
@[go_sem] theorem f9y{k:Nat}(h:(k<=1000000000)=True):c8a L.env 223 (k:Int) (k:Int)=true:=a7s (f7q h) (by rw[f3m];decide)
@[go_sem] theorem f9n{k:Nat}(h:(k<=1000000000)=True):a2j L.env 74 k=true:=a6h (f7q h) (by rw[g15];decide)
@[go_sem] theorem f1f:a8g L.env 140 0=some (0,4)∧a53 L.env 140 1=some (4,52)∧a8g L.env 140 1=some (4,1)∧L.env.zero 140=some [.nilslice,.nilslice,.nilslice,.nilslice,.nilslice]∧slT L.env 175=some 110∧slT L.env 189=some 4∧L.env.sz 198=1∧a6o L.env 198=some false∧isT L.env 201=true∧L.env.sz 201=1∧a6o L.env 201=some false∧L.env.zero 201=some [.nilfunc]∧isT L.env 206=true∧L.env.sz 206=1∧a6o L.env 206=some false∧L.env.zero 206=some [.nilfunc]∧isT L.env 207=true∧L.env.sz 207=1∧a6o L.env 207=some false∧isT L.env 208=true∧L.env.sz 208=1∧a6o L.env 208=some false∧c4n L.env 210=true∧a53 L.env 210 0=some (0,33)∧a8g L.env 210 0=some (0,4)∧a53 L.env 210 1=some (4,52)∧a53 L.env 210 2=some (5,207)∧a8g L.env 210 2=some (5,1)∧a53 L.env 210 3=some (6,208)∧a8g L.env 210 3=some (6,1)∧L.env.zero 210=some [.nilslice,.nilslice,.nilslice,.nilslice,.nilslice,.nilfunc,.nilfunc]∧c4n L.env 212=true∧a53 L.env 212 0=some (0,206)∧a53 L.env 212 1=some (1,80)∧a8g L.env 212 1=some (1,2)∧L.env.zero 212=some [.nilfunc,.nilslice,.nilslice]∧slT L.env 221=some 223∧isT L.env 223=true∧L.env.sz 223=1∧a6o L.env 223=some false∧slT L.env 223=some 74∧apT L.env 223 223=some 74∧L.env.zero 223=some [.nilslice]∧isT L.env 238=true∧L.env.sz 238=2∧c6t L.env 238=some (2,3)∧c6t L.env 239=some (16,238):=by refine⟨?_,?_,?_,?_,?_,?_,?_,?_,?_,?_,?_,?_,?_,?_,?_,?_,?_,?_,?_,?_,?_,?_,?_,?_,?_,?_,?_,?_,?_,?_,?_,?_,?_,?_,?_,?_,?_,?_,?_,?_,?_,?_,?_,?_,?_,?_,?_⟩<;>kernel_rfl
def Mf:List Fact:=[]
abbrev fb(a:Nat)(n:Int)(p:Int)(v:Nat)(o:Int):List AV:=[.int .u8 a,.int .i64 n,.int .i64 p,.int .u8 v,.int .i64 o]
noncomputable abbrev sM:=sem L.env Mf
noncomputable abbrev cl(d:Bool)(g:Nat)(a:List AV)(H:a03):=a20 L.env d (sem L.env Mf) (.func (.func g) [] []) a H
theorem cf{d:Bool}{c:CallF}{g:FuncId}{fs cs a:List AV}{H:a03}{v:AV}(ha:a0d (fs++a++cs)=[])(h:c g (fs++a++cs) []=some (v,[]))(hv:refs v=[])(hx:L.env.ext g=false:=by kernel_rfl)(hf:(L.env.fn g).isSome=true:=by kernel_rfl):a20 L.env d c (.func (.func g) fs cs) a H=some (v,H,[]):=a0v hx hf rfl ha h hv
theorem no(g:Nat)(h:(Mf.all λy=>!Nat.beq y.g g)=true):∀y∈Mf,y.g≠g:=by intro y hy;cases hy
theorem c5t:sM 208 [.str [110,48,48]] []=some (.bool true,[]):=a0h (E:=L.env) a0q 60 (by kernel_rfl)
theorem c5s:sM 208 [.str [110,48,49]] []=some (.bool true,[]):=a0h (E:=L.env) a0q 60 (by kernel_rfl)
theorem c5r:sM 208 [.str [110,48,50]] []=some (.bool true,[]):=a0h (E:=L.env) a0q 60 (by kernel_rfl)
theorem c5q:sM 208 [.str [110,48,51]] []=some (.bool true,[]):=a0h (E:=L.env) a0q 60 (by kernel_rfl)
theorem c5p:sM 208 [.str [110,48,52]] []=some (.bool true,[]):=a0h (E:=L.env) a0q 60 (by kernel_rfl)
theorem c5o:sM 208 [.str [110,48,53]] []=some (.bool true,[]):=a0h (E:=L.env) a0q 60 (by kernel_rfl)
theorem c5n:sM 208 [.str [110,48,54]] []=some (.bool true,[]):=a0h (E:=L.env) a0q 60 (by kernel_rfl)
theorem c5m:sM 208 [.str [110,48,55]] []=some (.bool true,[]):=a0h (E:=L.env) a0q 60 (by kernel_rfl)
theorem c5l:sM 208 [.str [110,48,56]] []=some (.bool true,[]):=a0h (E:=L.env) a0q 60 (by kernel_rfl)
theorem c5k:sM 208 [.str [110,48,57]] []=some (.bool true,[]):=a0h (E:=L.env) a0q 60 (by kernel_rfl)
theorem c1z:sM 208 [.str [110,49,48]] []=some (.bool true,[]):=a0h (E:=L.env) a0q 60 (by kernel_rfl)
theorem c1y:sM 208 [.str [110,49,49]] []=some (.bool true,[]):=a0h (E:=L.env) a0q 60 (by kernel_rfl)
theorem c1x:sM 208 [.str [110,49,50]] []=some (.bool true,[]):=a0h (E:=L.env) a0q 60 (by kernel_rfl)
theorem c1w:sM 208 [.str [110,49,51]] []=some (.bool true,[]):=a0h (E:=L.env) a0q 60 (by kernel_rfl)
open Go.Proofs Go.Ax Go.Pc
theorem e1k(i:Nat)(hi:i<100):sM 33 [.int .i64 i] []=some (.str (a1l i),[]):=by
 have a1:IntKind.i64.wrap ((i/10:Nat):Int)=((i/10:Nat):Int):=wI (by omega);have a2:IntKind.i64.wrap (48+((i/10:Nat):Int))=((48+i/10:Nat):Int):=by rw[w64 (by omega) (by omega)];omega
 have a3:IntKind.i64.wrap (48+((i%10:Nat):Int))=((48+i%10:Nat):Int):=by rw[w64 (by omega) (by omega)];omega
 have a4:IntKind.u8.wrap ((48+i/10:Nat):Int)=((48+i/10:Nat):Int):=wB (by omega);have a5:IntKind.u8.wrap ((48+i%10:Nat):Int)=((48+i%10:Nat):Int):=wB (by omega)
 (refine sv Tryz.f33 ?_;simp only[Tryz.f33,gS])
 (repeat first|simp only[ww]|apply xa;simp+decide only[go_sem,a1,a2,a3,a4,a5];rfl;kernel_rfl)
 (apply fqb;simp+decide only[go_sem]<;>rfl)
theorem a7b{d:Bool}(H:a03)(i:Nat)(hi:i<100):cl d 33 [.int .i64 i] H=some (.str (a1l i),H,[]):=cf rfl (e1k i hi) rfl
def a3x:List AV:=[.int .u8 0,.nilslice,.int .i64 0,.int .i64 0]
def dR(b:Nat):List AV:=[.int .u8 14,.slice b 0 1 (some 1),.int .i64 0,.int .i64 0]
def one(v:Nat):Option AObj:=some (.row 1 [[.int .i64 v]])
def xh(x:CX):Option AObj:=some (.row 12 [x.enc])
def rh:Option AObj:=some (.row 4 [[.nilslice,.nilslice,.nilslice,.nilslice]])
def nV:Nat->AV|0=>.nilslice|i+1=>.slice 3 0 (i+1) none
def nH:Nat->a03|0=>[]|i+1=>[some (.row 4 (List.replicate (i+1) a3x))]
theorem nV0:nV 0 = .nilslice:=by rfl
theorem nVs(i:Nat):nV (i+1) = .slice 3 0 (i+1) none:=by rfl
theorem nH0:nH 0=[]:=by rfl
theorem nHs(i:Nat):nH (i+1)=[some (.row 4 (List.replicate (i+1) a3x))]:=by rfl
theorem a2i{α:Type}(r:α)(n:Nat):List.replicate n r++[r]=List.replicate (n+1) r:=by rw[List.replicate_succ']
theorem a07(l:List Nd):(l.map Nd.enc).flatMap a0d=[]:=a06 (FlatR.map λx=>by simp only[Nd.enc,a0d,a16,refs];rfl)
theorem a0f(π:Nat->Option Nat)(l:List Nd):(l.map Nd.enc).map (λr=>r.map (ren π))=l.map Nd.enc:=a05 π (FlatR.map λx=>by simp only[Nd.enc,a0d,a16,refs];rfl)
theorem b7x(b:Bool)(ks:List Nat):gN b ks []=[]:=by rfl
def slN(b:Nat):Nat->AV|0=>.nilslice|i+1=>.slice b 0 (i+1) none
theorem a70(b:Nat):slN b 0 = .nilslice:=by rfl
theorem a4p(b i:Nat):slN b (i+1) = .slice b 0 (i+1) none:=by rfl
def nmR(j:Nat):List AV:=[.str (a1l j)]
def nmH:Nat->a03|0=>[]|i+1=>[some (.row 1 ((List.range (i+1)).map nmR))]
theorem c0j:nmH 0=[]:=by rfl
theorem b3c(i:Nat):nmH (i+1)=[some (.row 1 ((List.range (i+1)).map nmR))]:=by rfl
theorem a1a(l:List Nat):(l.map nmR).flatMap a0d=[]:=a06 (FlatR.map λ_=>rfl)
theorem a1q(π:Nat->Option Nat)(l:List Nat):(l.map nmR).map (λr=>r.map (ren π))=l.map nmR:=a05 π (FlatR.map λ_=>rfl)
theorem nm1:(List.range 1).map nmR=[[.str (a1l 0)]]:=by rfl
theorem b1t(i:Nat):(List.range (i+1+1)).map nmR=(List.range (i+1)).map nmR++[[.str (a1l (i+1))]]:=by rw[f8o,f2t];rfl
def otR(n o:Nat):List AV:=[.int .i64 (o%n:Nat)]
def otH(x:CX):Nat->a03|0=>[]|i+1=>[some (.row 1 ((x.outs.take (i+1)).map (otR x.n)))]
theorem c9l(x:CX):otH x 0=[]:=by rfl
theorem c0i(x:CX)(i:Nat):otH x (i+1)=[some (.row 1 ((x.outs.take (i+1)).map (otR x.n)))]:=by rfl
theorem a5x(n:Nat)(l:List Nat):(l.map (otR n)).flatMap a0d=[]:=a06 (FlatR.map λ_=>rfl)
theorem a82(n:Nat)(π:Nat->Option Nat)(l:List Nat):(l.map (otR n)).map (λr=>r.map (ren π))=l.map (otR n):=a05 π (FlatR.map λ_=>rfl)
theorem a5v{m:Nat}{d:AV->Option AV}{n:Nat}{r:List AV}(h:a0d r=[]):a9t m d (List.replicate n r)=some (List.replicate n r):=a0z m d (FlatR.replicate h)
theorem a88{m:Nat}{d:AV->Option AV}(l:List Nd):a9t m d (l.map Nd.enc)=some (l.map Nd.enc):=a0z m d (c6a l)
theorem a87{m:Nat}{d:AV->Option AV}(l:List Nat):a9t m d (l.map nmR)=some (l.map nmR):=a0z m d (FlatR.map λ_=>rfl)
theorem a86{m:Nat}{d:AV->Option AV}(n:Nat)(l:List Nat):a9t m d (l.map (otR n))=some (l.map (otR n)):=a0z m d (FlatR.map λ_=>rfl)
theorem a4b{α:Type}{l:List α}{n:Nat}(h:(l.length<=n)=True):l.take n=l:=f1k (f7q h)
theorem a83(n:Nat)(l:List Nat):l.map (a13∘λo=>o%n)=l.map (otR n):=by rfl
theorem a85(l:List Nat):l.map (d0a∘a1l)=l.map nmR:=by rfl
attribute [go_sem] a3x dR one xh rh nmR otR List.range_zero
def trV(b:Nat)(l:List Nat):AV:=match l with|[]=>.nilslice|_::l=>.slice b 0 (l.length+1) none
def trH(l:List Nat):a03:=match l with|[]=>[]|y::l=>[some (.row 1 (a13 y::l.map a13))]
theorem e07(b:Nat):trV b [] = .nilslice:=by rfl
theorem d5c(b y:Nat)(l:List Nat):trV b (y::l) = .slice b 0 (l.length+1) none:=by rfl
theorem e08:trH []=[]:=by rfl
theorem d5d(y:Nat)(l:List Nat):trH (y::l)=[some (.row 1 (a13 y::l.map a13))]:=by rfl
theorem d38(l:List Nat):(l.map a13).flatMap a0d=[]:=a06 (FlatR.map λ_=>rfl)
theorem d5z(π:Nat->Option Nat)(l:List Nat):(l.map a13).map (λr=>r.map (ren π))=l.map a13:=a05 π (FlatR.map λ_=>rfl)
attribute [go_sem] e07 d5c e08 d5d d38 d5z
theorem d0w(t:Nat)(l:List Nat)(j:Nat)(h:j<l.length+1):([AV.int .i64 (t:Int)]::List.map a13 l)[j]?=some [.int .i64 (((t::l).getD j 0:Nat):Int)]:=by have e:([AV.int .i64 (t:Int)]::List.map a13 l)=(t::l).map a13:=rfl;rw[e,f1l,z9e (by simpa using h)];simp[a13,List.getD,z9e (show j<(t::l).length by simpa using h)]
set_option maxHeartbeats 200000000
theorem b9m(m m1 m2 m3:Nat)(B:List Nat)(X:a03)(hX:(m=1∧m1=2∧m2=3∧m3=4∧B=[]∧X=[])∨(m=2∧m1=3∧m2=4∧m3=5∧B=[1]∧X=[some (.row 1 [[.int .i64 0]])])∨(m=3∧m1=4∧m2=5∧m3=6∧B=[1,2]∧X=[some (.row 1 [[.int .i64 0]]),some (.row 1 [[.int .i64 0]])]))(x:CX)(g:GX)(hg:g.ok)(R:List (List AV))(ks:List Nat)(cap:Option Nat)(hk:KindRows R ks)(h0:0<ks.length)(hl:ks.length<1000)(hR:R.flatMap a0d=B)(hI:FixR m R) :
 sem L.env Mf 32 [.agg x.enc,.agg g.enc,.slice 0 0 ks.length cap] (some (.row 4 R)::X)=some (.agg (a0k x.bus g ks).enc,(some (.row 4 R)::X)):=by
 rcases hX with ⟨hm,db,cF,kU,hB,hX⟩|⟨hm,db,cF,kU,hB,hX⟩|⟨hm,db,cF,kU,hB,hX⟩
 all_goals
  obtain⟨vZ,tJ,vY,vX⟩:=hg;have w0:=wI (n:=g.i0) (by omega);have w1:=wI (n:=g.i1) (by omega);have w2:=wI (n:=g.i2) (by omega);have hn:¬(ks.length:Int)=0:=by omega
  have jf:∀σ,R.map (λr=>r.map (ren (b6g m σ)))=R:=λσ=>hI _ (λb hb=>by rw[d2z,f4m hb];rfl);have dJ:R.map (λr=>r.map (ren (a1p m)))=R:=hI _ (λb hb=>by rw[b79,f4m hb];rfl);have w9:=wI (n:=g.kind%9) (by omega);have qT:=wI (n:=g.kind%13) (by omega);rw[hX]
  (refine sv Tryz.f32 ?_;simp only[Tryz.f32,gS])
  (repeat first|simp only[ww]|(apply xa;simp+decide only[go_sem,w0,w1,w2,hn];rfl;kernel_rfl))
  refine a1g (σ:=Nat) kp32_0
   (λi=>[(2,.slice 0 0 ks.length cap),(3,.ptr m 0 0),(4,.ptr m1 0 0),(6,.ptr m2 0 0),(7,.int .i64 ks.length),(8,.int .i64 (g.i0%ks.length:Nat)),(9,.int .i64 (g.i1%ks.length:Nat)),(10,.int .i64 (g.i2%ks.length:Nat)),(11,trV m3 (a6b ks i)),(12,.int .i64 i)])
   (λi=>(some (.row 4 R)::X)++[some (.row 12 [x.enc]),some (.row 4 [g.enc]),some (.row 4 [[.int .u8 0,.nilslice,.int .i64 0,.int .i64 0]])]++trH (a6b ks i)) (λi=>ks.length-i) (λi=>i<=ks.length) 0 ?_ (f2i _) ?_ ?_
  ·subst hm db cF kU hB hX
   (simp+decide only[go_sem,a01,a00,hR,jf]<;>rfl)
  ·subst hm db cF kU hB hX;intro i _;cases gw:a6b ks i with
   |nil=>((simp+decide only[go_sem,a01,a00,hR,jf]<;>rfl))
   |cons a l=>((simp+decide only[go_sem,a01,a00,hR,jf,gw]<;>rfl))
  ·subst hm db cF kU hB hX;intro i hi;by_cases ai:i<ks.length
   ·obtain⟨k,tC⟩:∃k,ks[i]?=some k:=⟨_,z9e ai⟩
    obtain⟨v,y,z,hr⟩:=hk.2 i k tC;have hd:(i:Int)<ks.length:=by omega
    have hw:=wI1 (n:=i) (by omega);have ht:=c39 tC;have dE:=c0s ks i;by_cases pH:k=12
    ·subst pH;rw[f2w rfl]at ht;cases gw:a6b ks i with
     |nil=>
      rw[gw]at ht
      (repeat first|simp only[ww]|(apply xa;simp+decide only[go_sem,hd,ai,hr,hw];rfl;kernel_rfl))
      refine a1m (i+1) ?_ (by omega) (by omega)
      ((simp+decide only[go_sem,a01,a00,hR,jf,ht]<;>rfl))
     |cons a l=>
      rw[gw]at ht;rw[gw]at dE;simp only[f1c]at dE;have aD:l.length+1+1<=1000000000:=by omega
      (repeat first|simp only[ww]|(apply xa;simp+decide only[go_sem,hd,ai,hr,hw,aD];rfl;kernel_rfl))
      refine a1m (i+1) ?_ (by omega) (by omega)
      ((simp+decide only[go_sem,a01,a00,hR,jf,ht,f2t,f7r]<;>rfl))
    ·rw[f2m pH]at ht;have fC:¬(k:Int)=12:=by omega
     (repeat first|simp only[ww]|(apply xa;simp+decide only[go_sem,hd,ai,hr,hw,fC];rfl;kernel_rfl))
     refine a1m (i+1) ?_ (by omega) (by omega);cases gw:a6b ks i with
     |nil=>
      rw[gw]at ht
      ((simp+decide only[go_sem,a01,a00,hR,jf,ht]<;>rfl))
     |cons a l=>
      rw[gw]at ht
      ((simp+decide only[go_sem,a01,a00,hR,jf,ht]<;>rfl))
   ·have dA:i=ks.length:=by omega
    subst dA;have hd:¬(ks.length:Int)<ks.length:=by omega
    rw[show a6b ks ks.length=a9x ks from rfl];have dE:(a9x ks).length<=ks.length:=c0s ks ks.length
    (repeat first|simp only[ww]|(apply xa;simp+decide only[go_sem,hd,w9,qT];rfl;kernel_rfl))
    rcases gw:a9x ks with _|⟨t,l⟩
    ·cases hb:x.bus with
     |true=>
      (repeat first|simp only[ww]|(apply xa;simp+decide only[go_sem,hb,qT];rfl;kernel_rfl))
      have wk:IntKind.u8.wrap (((g.kind%13):Nat):Int)=((g.kind%13):Nat):=wB (by omega);have fU:(g.kind%13)<6->IntKind.u8.wrap (5+(((g.kind%13):Nat):Int))=((5+(g.kind%13):Nat):Int):=λh=>by rw[IntWalk.u8_in _ ⟨by omega,by omega⟩];omega
      by_cases h6:(g.kind%13)<6
      ·have c6:(((g.kind%13):Nat):Int)<6:=by omega
       have fU:=fU h6;by_cases fA:128<=g.kind
       ·have dT:(128:Int)<=g.kind:=by omega
        have e:a0k true g ks=⟨5+(g.kind%13),some none,[g.i0%ks.length,g.i1%ks.length,g.i2%ks.length],0,0⟩:=by simp[a0k,h6,fA]
        rw[e]
        (repeat first|simp only[ww]|(apply xa;simp+decide only[go_sem,c6,wk,fU,dT];rfl;kernel_rfl))
        (apply fqb;simp+decide only[go_sem,dJ,hR]<;>rfl)
       ·have dT:¬(128:Int)<=g.kind:=by omega
        have e:a0k true g ks=⟨5+(g.kind%13),some (some 2),[g.i0%ks.length,g.i1%ks.length],0,0⟩:=by simp[a0k,h6,fA]
        rw[e]
        (repeat first|simp only[ww]|(apply xa;simp+decide only[go_sem,c6,wk,fU,dT];rfl;kernel_rfl))
        (apply fqb;simp+decide only[go_sem,dJ,hR]<;>rfl)
      have c6:¬(((g.kind%13):Nat):Int)<6:=by omega
      by_cases h7:(g.kind%13)=6
      ·have c7:(((g.kind%13):Nat):Int)=6:=by omega
       have e:a0k true g ks=⟨4,some (some 1),[g.i0%ks.length],0,0⟩:=by simp[a0k,h7]
       rw[e]
       (repeat first|simp only[ww]|(apply xa;simp+decide only[go_sem,c6,c7];rfl;kernel_rfl))
       (apply fqb;simp+decide only[go_sem,dJ,hR]<;>rfl)
      have c7:¬(((g.kind%13):Nat):Int)=6:=by omega
      by_cases h8:(g.kind%13)=7
      ·have c8:(((g.kind%13):Nat):Int)=7:=by omega
       have e:a0k true g ks=⟨11,some (some 3),[g.i0%ks.length,g.i1%ks.length,g.i2%ks.length],0,0⟩:=by simp[a0k,h8]
       rw[e]
       (repeat first|simp only[ww]|(apply xa;simp+decide only[go_sem,c6,c7,c8];rfl;kernel_rfl))
       (apply fqb;simp+decide only[go_sem,dJ,hR]<;>rfl)
      have c8:¬(((g.kind%13):Nat):Int)=7:=by omega
      by_cases h9:(g.kind%13)=9
      ·have c9:(((g.kind%13):Nat):Int)=9:=by omega
       have e:a0k true g ks=⟨12,some (some 2),[g.i0%ks.length,g.i1%ks.length],0,0⟩:=by simp[a0k,h9]
       rw[e]
       (repeat first|simp only[ww]|(apply xa;simp+decide only[go_sem,c6,c7,c8,c9];rfl;kernel_rfl))
       (apply fqb;simp+decide only[go_sem,dJ,hR]<;>rfl)
      by_cases h10:(g.kind%13)=10
      ·have c9:¬(((g.kind%13):Nat):Int)=9:=by omega
       have gr:(((g.kind%13):Nat):Int)=10:=by omega
       have e:a0k true g ks=⟨12,some (some 2),[g.i0%ks.length,g.i1%ks.length],0,0⟩:=by simp[a0k,h10]
       rw[e]
       (repeat first|simp only[ww]|(apply xa;simp+decide only[go_sem,c6,c7,c8,c9,gr];rfl;kernel_rfl))
       (apply fqb;simp+decide only[go_sem,dJ,hR]<;>rfl)
      have c9:¬(((g.kind%13):Nat):Int)=9:=by omega
      have gr:¬(((g.kind%13):Nat):Int)=10:=by omega
      by_cases h11:10<(g.kind%13)
      ·have ig:(10:Int)<(((g.kind%13):Nat):Int):=by omega
       by_cases eh:240<g.kind
       ·have cX:(240:Int)<g.kind:=by omega
        have u1:IntKind.u8.wrap (1+((g.i0%2:Nat):Int))=((1+g.i0%2:Nat):Int):=by rw[IntWalk.u8_in _ ⟨by omega,by omega⟩];omega
        have e:a0k true g ks=⟨1+g.i0%2,none,[],0,0⟩:=by simp[a0k,h6,h7,h8,h9,h10,eh,gw]
        rw[e]
        (repeat first|simp only[ww]|(apply xa;simp+decide only[go_sem,c6,c7,c8,c9,gr,cX,u1,ig];rfl;kernel_rfl))
        (apply fqb;simp+decide only[go_sem,dJ,hR]<;>rfl)
       ·have cX:¬(240:Int)<g.kind:=by omega
        have e:a0k true g ks=⟨3,some (some 1),[g.i0%ks.length],0,0⟩:=by simp[a0k,h6,h7,h8,h9,h10,eh,gw]
        rw[e]
        (repeat first|simp only[ww]|(apply xa;simp+decide only[go_sem,c6,c7,c8,c9,gr,cX,ig];rfl;kernel_rfl))
        (apply fqb;simp+decide only[go_sem,dJ,hR]<;>rfl)
      ·have ig:¬(10:Int)<(((g.kind%13):Nat):Int):=by omega
       by_cases eh:240<g.kind
       ·have cX:(240:Int)<g.kind:=by omega
        have u1:IntKind.u8.wrap (1+((g.i0%2:Nat):Int))=((1+g.i0%2:Nat):Int):=by rw[IntWalk.u8_in _ ⟨by omega,by omega⟩];omega
        have e:a0k true g ks=⟨1+g.i0%2,none,[],0,0⟩:=by simp[a0k,h6,h7,h8,h9,h10,eh,h11]
        rw[e]
        (repeat first|simp only[ww]|(apply xa;simp+decide only[go_sem,c6,c7,c8,c9,gr,cX,u1,ig];rfl;kernel_rfl))
        (apply fqb;simp+decide only[go_sem,dJ,hR]<;>rfl)
       ·have cX:¬(240:Int)<g.kind:=by omega
        have e:a0k true g ks=⟨3,some (some 1),[g.i0%ks.length],0,0⟩:=by simp[a0k,h6,h7,h8,h9,h10,eh,h11]
        rw[e]
        (repeat first|simp only[ww]|(apply xa;simp+decide only[go_sem,c6,c7,c8,c9,gr,cX,ig];rfl;kernel_rfl))
        (apply fqb;simp+decide only[go_sem,dJ,hR]<;>rfl)
     |false=>
      (repeat first|simp only[ww]|(apply xa;simp+decide only[go_sem,hb,w9];rfl;kernel_rfl))
      have wk:IntKind.u8.wrap (((g.kind%9):Nat):Int)=((g.kind%9):Nat):=wB (by omega);have fU:(g.kind%9)<6->IntKind.u8.wrap (5+(((g.kind%9):Nat):Int))=((5+(g.kind%9):Nat):Int):=λh=>by rw[IntWalk.u8_in _ ⟨by omega,by omega⟩];omega
      by_cases h6:(g.kind%9)<6
      ·have c6:(((g.kind%9):Nat):Int)<6:=by omega
       have fU:=fU h6;by_cases fA:128<=g.kind
       ·have dT:(128:Int)<=g.kind:=by omega
        have e:a0k false g ks=⟨5+(g.kind%9),some none,[g.i0%ks.length,g.i1%ks.length,g.i2%ks.length],0,0⟩:=by simp[a0k,h6,fA]
        rw[e]
        (repeat first|simp only[ww]|(apply xa;simp+decide only[go_sem,c6,wk,fU,dT];rfl;kernel_rfl))
        (apply fqb;simp+decide only[go_sem,dJ,hR]<;>rfl)
       ·have dT:¬(128:Int)<=g.kind:=by omega
        have e:a0k false g ks=⟨5+(g.kind%9),some (some 2),[g.i0%ks.length,g.i1%ks.length],0,0⟩:=by simp[a0k,h6,fA]
        rw[e]
        (repeat first|simp only[ww]|(apply xa;simp+decide only[go_sem,c6,wk,fU,dT];rfl;kernel_rfl))
        (apply fqb;simp+decide only[go_sem,dJ,hR]<;>rfl)
      have c6:¬(((g.kind%9):Nat):Int)<6:=by omega
      by_cases h7:(g.kind%9)=6
      ·have c7:(((g.kind%9):Nat):Int)=6:=by omega
       have e:a0k false g ks=⟨4,some (some 1),[g.i0%ks.length],0,0⟩:=by simp[a0k,h7]
       rw[e]
       (repeat first|simp only[ww]|(apply xa;simp+decide only[go_sem,c6,c7];rfl;kernel_rfl))
       (apply fqb;simp+decide only[go_sem,dJ,hR]<;>rfl)
      have c7:¬(((g.kind%9):Nat):Int)=6:=by omega
      by_cases h8:(g.kind%9)=7
      ·have c8:(((g.kind%9):Nat):Int)=7:=by omega
       have e:a0k false g ks=⟨11,some (some 3),[g.i0%ks.length,g.i1%ks.length,g.i2%ks.length],0,0⟩:=by simp[a0k,h8]
       rw[e]
       (repeat first|simp only[ww]|(apply xa;simp+decide only[go_sem,c6,c7,c8];rfl;kernel_rfl))
       (apply fqb;simp+decide only[go_sem,dJ,hR]<;>rfl)
      have c8:¬(((g.kind%9):Nat):Int)=7:=by omega
      have c9:¬(((g.kind%9):Nat):Int)=9:=by omega
      have gr:¬(((g.kind%9):Nat):Int)=10:=by omega
      have n9:¬(g.kind%9)=9:=by omega
      have oQ:¬(g.kind%9)=10:=by omega
      have ig:¬(10:Int)<(((g.kind%9):Nat):Int):=by omega
      have oP:¬10<(g.kind%9):=by omega
      by_cases eh:240<g.kind
      ·have cX:(240:Int)<g.kind:=by omega
       have u1:IntKind.u8.wrap (1+((g.i0%2:Nat):Int))=((1+g.i0%2:Nat):Int):=by rw[IntWalk.u8_in _ ⟨by omega,by omega⟩];omega
       have e:a0k false g ks=⟨1+g.i0%2,none,[],0,0⟩:=by simp[a0k,h6,h7,h8,n9,oQ,eh,oP]
       rw[e]
       (repeat first|simp only[ww]|(apply xa;simp+decide only[go_sem,c6,c7,c8,c9,gr,cX,u1,ig];rfl;kernel_rfl))
       (apply fqb;simp+decide only[go_sem,dJ,hR]<;>rfl)
      ·have cX:¬(240:Int)<g.kind:=by omega
       have e:a0k false g ks=⟨3,some (some 1),[g.i0%ks.length],0,0⟩:=by simp[a0k,h6,h7,h8,n9,oQ,eh,oP]
       rw[e]
       (repeat first|simp only[ww]|(apply xa;simp+decide only[go_sem,c6,c7,c8,c9,gr,cX,ig];rfl;kernel_rfl))
       (apply fqb;simp+decide only[go_sem,dJ,hR]<;>rfl)
    ·cases hb:x.bus with
     |true=>
      (repeat first|simp only[ww]|(apply xa;simp+decide only[go_sem,hb,qT];rfl;kernel_rfl))
      have wk:IntKind.u8.wrap (((g.kind%13):Nat):Int)=((g.kind%13):Nat):=wB (by omega);have fU:(g.kind%13)<6->IntKind.u8.wrap (5+(((g.kind%13):Nat):Int))=((5+(g.kind%13):Nat):Int):=λh=>by rw[IntWalk.u8_in _ ⟨by omega,by omega⟩];omega
      by_cases h6:(g.kind%13)<6
      ·have c6:(((g.kind%13):Nat):Int)<6:=by omega
       have fU:=fU h6;by_cases fA:128<=g.kind
       ·have dT:(128:Int)<=g.kind:=by omega
        have e:a0k true g ks=⟨5+(g.kind%13),some none,[g.i0%ks.length,g.i1%ks.length,g.i2%ks.length],0,0⟩:=by simp[a0k,h6,fA]
        rw[e]
        (repeat first|simp only[ww]|(apply xa;simp+decide only[go_sem,c6,wk,fU,dT];rfl;kernel_rfl))
        (apply fqb;simp+decide only[go_sem,dJ,hR]<;>rfl)
       ·have dT:¬(128:Int)<=g.kind:=by omega
        have e:a0k true g ks=⟨5+(g.kind%13),some (some 2),[g.i0%ks.length,g.i1%ks.length],0,0⟩:=by simp[a0k,h6,fA]
        rw[e]
        (repeat first|simp only[ww]|(apply xa;simp+decide only[go_sem,c6,wk,fU,dT];rfl;kernel_rfl))
        (apply fqb;simp+decide only[go_sem,dJ,hR]<;>rfl)
      have c6:¬(((g.kind%13):Nat):Int)<6:=by omega
      by_cases h7:(g.kind%13)=6
      ·have c7:(((g.kind%13):Nat):Int)=6:=by omega
       have e:a0k true g ks=⟨4,some (some 1),[g.i0%ks.length],0,0⟩:=by simp[a0k,h7]
       rw[e]
       (repeat first|simp only[ww]|(apply xa;simp+decide only[go_sem,c6,c7];rfl;kernel_rfl))
       (apply fqb;simp+decide only[go_sem,dJ,hR]<;>rfl)
      have c7:¬(((g.kind%13):Nat):Int)=6:=by omega
      by_cases h8:(g.kind%13)=7
      ·have c8:(((g.kind%13):Nat):Int)=7:=by omega
       have e:a0k true g ks=⟨11,some (some 3),[g.i0%ks.length,g.i1%ks.length,g.i2%ks.length],0,0⟩:=by simp[a0k,h8]
       rw[e]
       (repeat first|simp only[ww]|(apply xa;simp+decide only[go_sem,c6,c7,c8];rfl;kernel_rfl))
       (apply fqb;simp+decide only[go_sem,dJ,hR]<;>rfl)
      have c8:¬(((g.kind%13):Nat):Int)=7:=by omega
      by_cases h9:(g.kind%13)=9
      ·have c9:(((g.kind%13):Nat):Int)=9:=by omega
       have e:a0k true g ks=⟨12,some (some 2),[g.i0%ks.length,g.i1%ks.length],0,0⟩:=by simp[a0k,h9]
       rw[e]
       (repeat first|simp only[ww]|(apply xa;simp+decide only[go_sem,c6,c7,c8,c9];rfl;kernel_rfl))
       (apply fqb;simp+decide only[go_sem,dJ,hR]<;>rfl)
      by_cases h10:(g.kind%13)=10
      ·have c9:¬(((g.kind%13):Nat):Int)=9:=by omega
       have gr:(((g.kind%13):Nat):Int)=10:=by omega
       have e:a0k true g ks=⟨12,some (some 2),[g.i0%ks.length,g.i1%ks.length],0,0⟩:=by simp[a0k,h10]
       rw[e]
       (repeat first|simp only[ww]|(apply xa;simp+decide only[go_sem,c6,c7,c8,c9,gr];rfl;kernel_rfl))
       (apply fqb;simp+decide only[go_sem,dJ,hR]<;>rfl)
      have c9:¬(((g.kind%13):Nat):Int)=9:=by omega
      have gr:¬(((g.kind%13):Nat):Int)=10:=by omega
      by_cases h11:10<(g.kind%13)
      ·have ig:(10:Int)<(((g.kind%13):Nat):Int):=by omega
       simp only[gw,f1c]at dE;have cp:(0:Int)<((l.length+1:Nat):Int):=by omega
       have nl:¬((l.length+1:Nat):Int)=0:=by omega
       have jl:g.i0%(l.length+1)<l.length+1:=Nat.mod_lt _ (by omega);have hj:([AV.int .i64 (t:Int)]::List.map a13 l)[g.i0%(l.length+1)]?=some [.int .i64 (((t::l).getD (g.i0%(l.length+1)) 0:Nat):Int)]:=d0w t l _ jl;by_cases h1:1<l.length+1
       ·have c1:(1:Int)<((l.length+1:Nat):Int):=by omega
        have kl:(g.i0%(l.length+1)+1)%(l.length+1)<l.length+1:=Nat.mod_lt _ (by omega);have uR:([AV.int .i64 (t:Int)]::List.map a13 l)[(g.i0%(l.length+1)+1)%(l.length+1)]?=some [.int .i64 (((t::l).getD ((g.i0%(l.length+1)+1)%(l.length+1)) 0:Nat):Int)]:=d0w t l _ kl;have wj:=wI1 (n:=g.i0%(l.length+1)) (by omega);have e:a0k true g ks=⟨13,some none,[(t::l).getD (g.i0%(l.length+1)) 0,(t::l).getD ((g.i0%(l.length+1)+1)%(l.length+1)) 0],0,0⟩:=by simp[a0k,h6,h7,h8,h9,h10,h11,gw,h1]
        rw[e]
        (repeat first|simp only[ww]|(apply xa;simp+decide only[go_sem,c6,c7,c8,c9,gr,ig,cp,nl,w0,jl,hj,c1,kl,uR,wj];rfl;kernel_rfl))
        (apply fqb;simp+decide only[go_sem,dJ,hR]<;>rfl)
       ·have c1:¬(1:Int)<((l.length+1:Nat):Int):=by omega
        have e:a0k true g ks=⟨13,some (some 1),[(t::l).getD (g.i0%(l.length+1)) 0],0,0⟩:=by simp[a0k,h6,h7,h8,h9,h10,h11,gw,h1]
        rw[e]
        (repeat first|simp only[ww]|(apply xa;simp+decide only[go_sem,c6,c7,c8,c9,gr,ig,cp,nl,w0,jl,hj,c1];rfl;kernel_rfl))
        (apply fqb;simp+decide only[go_sem,dJ,hR]<;>rfl)
      ·have ig:¬(10:Int)<(((g.kind%13):Nat):Int):=by omega
       by_cases eh:240<g.kind
       ·have cX:(240:Int)<g.kind:=by omega
        have u1:IntKind.u8.wrap (1+((g.i0%2:Nat):Int))=((1+g.i0%2:Nat):Int):=by rw[IntWalk.u8_in _ ⟨by omega,by omega⟩];omega
        have e:a0k true g ks=⟨1+g.i0%2,none,[],0,0⟩:=by simp[a0k,h6,h7,h8,h9,h10,eh,h11]
        rw[e]
        (repeat first|simp only[ww]|(apply xa;simp+decide only[go_sem,c6,c7,c8,c9,gr,cX,u1,ig];rfl;kernel_rfl))
        (apply fqb;simp+decide only[go_sem,dJ,hR]<;>rfl)
       ·have cX:¬(240:Int)<g.kind:=by omega
        have e:a0k true g ks=⟨3,some (some 1),[g.i0%ks.length],0,0⟩:=by simp[a0k,h6,h7,h8,h9,h10,eh,h11]
        rw[e]
        (repeat first|simp only[ww]|(apply xa;simp+decide only[go_sem,c6,c7,c8,c9,gr,cX,ig];rfl;kernel_rfl))
        (apply fqb;simp+decide only[go_sem,dJ,hR]<;>rfl)
     |false=>
      (repeat first|simp only[ww]|(apply xa;simp+decide only[go_sem,hb,w9];rfl;kernel_rfl))
      have wk:IntKind.u8.wrap (((g.kind%9):Nat):Int)=((g.kind%9):Nat):=wB (by omega);have fU:(g.kind%9)<6->IntKind.u8.wrap (5+(((g.kind%9):Nat):Int))=((5+(g.kind%9):Nat):Int):=λh=>by rw[IntWalk.u8_in _ ⟨by omega,by omega⟩];omega
      by_cases h6:(g.kind%9)<6
      ·have c6:(((g.kind%9):Nat):Int)<6:=by omega
       have fU:=fU h6;by_cases fA:128<=g.kind
       ·have dT:(128:Int)<=g.kind:=by omega
        have e:a0k false g ks=⟨5+(g.kind%9),some none,[g.i0%ks.length,g.i1%ks.length,g.i2%ks.length],0,0⟩:=by simp[a0k,h6,fA]
        rw[e]
        (repeat first|simp only[ww]|(apply xa;simp+decide only[go_sem,c6,wk,fU,dT];rfl;kernel_rfl))
        (apply fqb;simp+decide only[go_sem,dJ,hR]<;>rfl)
       ·have dT:¬(128:Int)<=g.kind:=by omega
        have e:a0k false g ks=⟨5+(g.kind%9),some (some 2),[g.i0%ks.length,g.i1%ks.length],0,0⟩:=by simp[a0k,h6,fA]
        rw[e]
        (repeat first|simp only[ww]|(apply xa;simp+decide only[go_sem,c6,wk,fU,dT];rfl;kernel_rfl))
        (apply fqb;simp+decide only[go_sem,dJ,hR]<;>rfl)
      have c6:¬(((g.kind%9):Nat):Int)<6:=by omega
      by_cases h7:(g.kind%9)=6
      ·have c7:(((g.kind%9):Nat):Int)=6:=by omega
       have e:a0k false g ks=⟨4,some (some 1),[g.i0%ks.length],0,0⟩:=by simp[a0k,h7]
       rw[e]
       (repeat first|simp only[ww]|(apply xa;simp+decide only[go_sem,c6,c7];rfl;kernel_rfl))
       (apply fqb;simp+decide only[go_sem,dJ,hR]<;>rfl)
      have c7:¬(((g.kind%9):Nat):Int)=6:=by omega
      by_cases h8:(g.kind%9)=7
      ·have c8:(((g.kind%9):Nat):Int)=7:=by omega
       have e:a0k false g ks=⟨11,some (some 3),[g.i0%ks.length,g.i1%ks.length,g.i2%ks.length],0,0⟩:=by simp[a0k,h8]
       rw[e]
       (repeat first|simp only[ww]|(apply xa;simp+decide only[go_sem,c6,c7,c8];rfl;kernel_rfl))
       (apply fqb;simp+decide only[go_sem,dJ,hR]<;>rfl)
      have c8:¬(((g.kind%9):Nat):Int)=7:=by omega
      have c9:¬(((g.kind%9):Nat):Int)=9:=by omega
      have gr:¬(((g.kind%9):Nat):Int)=10:=by omega
      have n9:¬(g.kind%9)=9:=by omega
      have oQ:¬(g.kind%9)=10:=by omega
      have ig:¬(10:Int)<(((g.kind%9):Nat):Int):=by omega
      have oP:¬10<(g.kind%9):=by omega
      by_cases eh:240<g.kind
      ·have cX:(240:Int)<g.kind:=by omega
       have u1:IntKind.u8.wrap (1+((g.i0%2:Nat):Int))=((1+g.i0%2:Nat):Int):=by rw[IntWalk.u8_in _ ⟨by omega,by omega⟩];omega
       have e:a0k false g ks=⟨1+g.i0%2,none,[],0,0⟩:=by simp[a0k,h6,h7,h8,n9,oQ,eh,oP]
       rw[e]
       (repeat first|simp only[ww]|(apply xa;simp+decide only[go_sem,c6,c7,c8,c9,gr,cX,u1,ig];rfl;kernel_rfl))
       (apply fqb;simp+decide only[go_sem,dJ,hR]<;>rfl)
      ·have cX:¬(240:Int)<g.kind:=by omega
       have e:a0k false g ks=⟨3,some (some 1),[g.i0%ks.length],0,0⟩:=by simp[a0k,h6,h7,h8,n9,oQ,eh,oP]
       rw[e]
       (repeat first|simp only[ww]|(apply xa;simp+decide only[go_sem,c6,c7,c8,c9,gr,cX,ig];rfl;kernel_rfl))
       (apply fqb;simp+decide only[go_sem,dJ,hR]<;>rfl)
theorem d7a(x:CX)(g:GX)(hg:g.ok)(R:List (List AV))(ks:List Nat)(cap:Option Nat)(hk:KindRows R ks)(h0:0<ks.length)(hl:ks.length<1000)(hR:R.flatMap a0d=[])(hI:FixR 1 R) :
 sem L.env Mf 32 [.agg x.enc,.agg g.enc,.slice 0 0 ks.length cap] [some (.row 4 R)]=some (.agg (a0k x.bus g ks).enc,[some (.row 4 R)]):=b9m 1 2 3 4 _ _ (.inl ⟨rfl,rfl,rfl,rfl,rfl,rfl⟩) x g hg R ks cap hk h0 hl hR hI
theorem d79(x:CX)(g:GX)(hg:g.ok)(R:List (List AV))(ks:List Nat)(cap:Option Nat)(hk:KindRows R ks)(h0:0<ks.length)(hl:ks.length<1000)(hR:R.flatMap a0d=[1])(hI:FixR 2 R) :
 sem L.env Mf 32 [.agg x.enc,.agg g.enc,.slice 0 0 ks.length cap] [some (.row 4 R),some (.row 1 [[.int .i64 0]])]=some (.agg (a0k x.bus g ks).enc,[some (.row 4 R),some (.row 1 [[.int .i64 0]])]):=b9m 2 3 4 5 _ _ (.inr (.inl ⟨rfl,rfl,rfl,rfl,rfl,rfl⟩)) x g hg R ks cap hk h0 hl hR hI
theorem d78(x:CX)(g:GX)(hg:g.ok)(R:List (List AV))(ks:List Nat)(cap:Option Nat)(hk:KindRows R ks)(h0:0<ks.length)(hl:ks.length<1000)(hR:R.flatMap a0d=[1,2])(hI:FixR 3 R) :
 sem L.env Mf 32 [.agg x.enc,.agg g.enc,.slice 0 0 ks.length cap] [some (.row 4 R),some (.row 1 [[.int .i64 0]]),some (.row 1 [[.int .i64 0]])]=some (.agg (a0k x.bus g ks).enc,[some (.row 4 R),some (.row 1 [[.int .i64 0]]),some (.row 1 [[.int .i64 0]])]):=b9m 3 4 5 6 _ _ (.inr (.inr ⟨rfl,rfl,rfl,rfl,rfl,rfl⟩)) x g hg R ks cap hk h0 hl hR hI
theorem b7w{d:Bool}(x:CX)(g:GX)(hg:g.ok)(gs:List Nd)(k n:Nat)(hk:0<k)(hn:n=k+0+gs.length)(hl:n<1000)(X0 X1 X2:Option AObj) :
 cl d 32 [.agg x.enc,.agg g.enc,.slice 3 0 n none] [X0,X1,X2,some (.row 4 (List.replicate k a3x++[]++gs.map Nd.enc))]=some (.agg (a0k x.bus g (List.replicate k 0++List.replicate 0 14++gs.map Nd.kind)).enc,[X0,X1,X2,some (.row 4 (List.replicate k a3x++[]++gs.map Nd.enc))],[3]):=by
 have pF:KindRows (List.replicate k a3x++[]++gs.map Nd.enc) (List.replicate k 0++List.replicate 0 14++gs.map Nd.kind):=(((KindRows.rep k 0 _ _ _).append KindRows.nil).append (KindRows.nds gs))
 have ak:(List.replicate k 0++List.replicate 0 14++gs.map Nd.kind).length=n:=by simp;omega
 have hr:=d7a x g hg (List.replicate k a3x++[]++gs.map Nd.enc) (List.replicate k 0++List.replicate 0 14++gs.map Nd.kind) none pF (by rw[ak];omega) (by rw[ak];exact hl) (by simp+decide only[go_sem,a07]) ?_
 ·rw[ak]at hr;have hc:=a1v (sM 32) [.agg x.enc,.agg g.enc,.slice 3 0 n none] [X0,X1,X2,some (.row 4 (List.replicate k a3x++[]++gs.map Nd.enc))] (σ:=[3]) (by simp+decide only[go_sem,a07]) (by decide) (by simp+decide only[go_sem]) (au:=[.agg x.enc,.agg g.enc,.slice 0 0 n none]) (by simp+decide only[go_sem]) (H0:=[some (.row 4 (List.replicate k a3x++[]++gs.map Nd.enc))]) (by simp+decide only[go_sem,a07,a0f]) hr;refine a63 (by kernel_rfl) (by kernel_rfl) rfl (hc.trans ?_) rfl;simp+decide only[go_sem,a07,a0f]<;>rfl
 ·refine FixR.append (FixR.append (FixR.flat (FlatR.replicate rfl)) ?_) (FixR.flat (c6a gs));intro π hπ;simp+decide only[go_sem]
theorem b7v{d:Bool}(x:CX)(g:GX)(hg:g.ok)(gs:List Nd)(k n:Nat)(hk:0<k)(hn:n=k+1+gs.length)(hl:n<1000)(X0 X1 X2:Option AObj) :
 cl d 32 [.agg x.enc,.agg g.enc,.slice 3 0 n none] [X0,X1,X2,some (.row 4 (List.replicate k a3x++[dR 4]++gs.map Nd.enc)),one 0]=some (.agg (a0k x.bus g (List.replicate k 0++List.replicate 1 14++gs.map Nd.kind)).enc,[X0,X1,X2,some (.row 4 (List.replicate k a3x++[dR 4]++gs.map Nd.enc)),one 0],[3,4]):=by
 have pF:KindRows (List.replicate k a3x++[dR 1]++gs.map Nd.enc) (List.replicate k 0++List.replicate 1 14++gs.map Nd.kind):=(((KindRows.rep k 0 _ _ _).append (KindRows.nil).cons).append (KindRows.nds gs))
 have ak:(List.replicate k 0++List.replicate 1 14++gs.map Nd.kind).length=n:=by simp;omega
 have hr:=d79 x g hg (List.replicate k a3x++[dR 1]++gs.map Nd.enc) (List.replicate k 0++List.replicate 1 14++gs.map Nd.kind) none pF (by rw[ak];omega) (by rw[ak];exact hl) (by simp+decide only[go_sem,a07]) ?_
 ·rw[ak]at hr;have hc:=a1v (sM 32) [.agg x.enc,.agg g.enc,.slice 3 0 n none] [X0,X1,X2,some (.row 4 (List.replicate k a3x++[dR 4]++gs.map Nd.enc)),one 0] (σ:=[3,4]) (by simp+decide only[go_sem,a07]) (by decide) (by simp+decide only[go_sem]) (au:=[.agg x.enc,.agg g.enc,.slice 0 0 n none]) (by simp+decide only[go_sem]) (H0:=[some (.row 4 (List.replicate k a3x++[dR 1]++gs.map Nd.enc)),one 0]) (by simp+decide only[go_sem,a07,a0f]) hr;refine a63 (by kernel_rfl) (by kernel_rfl) rfl (hc.trans ?_) rfl;simp+decide only[go_sem,a07,a0f]<;>rfl
 ·refine FixR.append (FixR.append (FixR.flat (FlatR.replicate rfl)) ?_) (FixR.flat (c6a gs));intro π hπ;simp+decide only[go_sem,hπ 1 (by omega)]
theorem b7u{d:Bool}(x:CX)(g:GX)(hg:g.ok)(gs:List Nd)(k n:Nat)(hk:0<k)(hn:n=k+2+gs.length)(hl:n<1000)(X0 X1 X2:Option AObj) :
 cl d 32 [.agg x.enc,.agg g.enc,.slice 3 0 n none] [X0,X1,X2,some (.row 4 (List.replicate k a3x++[dR 4,dR 5]++gs.map Nd.enc)),one 0,one 0]=some (.agg (a0k x.bus g (List.replicate k 0++List.replicate 2 14++gs.map Nd.kind)).enc,[X0,X1,X2,some (.row 4 (List.replicate k a3x++[dR 4,dR 5]++gs.map Nd.enc)),one 0,one 0],[3,4,5]):=by
 have pF:KindRows (List.replicate k a3x++[dR 1,dR 2]++gs.map Nd.enc) (List.replicate k 0++List.replicate 2 14++gs.map Nd.kind):=(((KindRows.rep k 0 _ _ _).append ((KindRows.nil).cons).cons).append (KindRows.nds gs))
 have ak:(List.replicate k 0++List.replicate 2 14++gs.map Nd.kind).length=n:=by simp;omega
 have hr:=d78 x g hg (List.replicate k a3x++[dR 1,dR 2]++gs.map Nd.enc) (List.replicate k 0++List.replicate 2 14++gs.map Nd.kind) none pF (by rw[ak];omega) (by rw[ak];exact hl) (by simp+decide only[go_sem,a07]) ?_
 ·rw[ak]at hr;have hc:=a1v (sM 32) [.agg x.enc,.agg g.enc,.slice 3 0 n none] [X0,X1,X2,some (.row 4 (List.replicate k a3x++[dR 4,dR 5]++gs.map Nd.enc)),one 0,one 0] (σ:=[3,4,5]) (by simp+decide only[go_sem,a07]) (by decide) (by simp+decide only[go_sem]) (au:=[.agg x.enc,.agg g.enc,.slice 0 0 n none]) (by simp+decide only[go_sem]) (H0:=[some (.row 4 (List.replicate k a3x++[dR 1,dR 2]++gs.map Nd.enc)),one 0,one 0]) (by simp+decide only[go_sem,a07,a0f]) hr;refine a63 (by kernel_rfl) (by kernel_rfl) rfl (hc.trans ?_) rfl;simp+decide only[go_sem,a07,a0f]<;>rfl
 ·refine FixR.append (FixR.append (FixR.flat (FlatR.replicate rfl)) ?_) (FixR.flat (c6a gs));intro π hπ;simp+decide only[go_sem,hπ 1 (by omega),hπ 2 (by omega)]
theorem e67(x:CX)(hx:x.ok)(hm:x.mem=false)(hd:x.d=0) :
 sM 10 [.agg x.enc] []=some (.agg x.cir.enc,[]):=by
 obtain⟨x1,x2,x3,x4,x5,x6⟩:=hx;have lG:x.inn%4+1=x.k:=rfl;have jy:x.dffs%3=0:=hd;have kk:x.k<=4:=by unfold CX.k;omega
 have kp:0<x.k:=by unfold CX.k;omega
 have gl:x.gs.length<=8:=by unfold CX.gs;rw[f2z];omega
 have w4:=wI (n:=x.inn%4) (by omega);have w3:=wI (n:=x.dffs%3) (by omega);obtain⟨k',fC⟩:∃k',x.k=k'+1:=⟨x.k-1,by omega⟩
 (refine sv Tryz.f10 ?_;simp only[Tryz.f10,gS])
 (repeat first|simp only[ww]|apply xa;simp+decide only[go_sem];rfl;kernel_rfl)
 -- the inputs
 refine a1g (σ:=Nat) kp10_0 (λi=>[(1,.ptr 0 0 0),(2,.ptr 1 0 0),(3,.ptr 2 0 0),(4,.int .i64 i)])
  (λi=>[xh x,rh,some (.row 4 [[nV i,.nilslice,.nilslice,.nilslice]])]++nH i) (λi=>x.k-i) (λi=>i<=x.k) 0 ?_ (f2i _) ?_ ?_
 ·(simp+decide only[go_sem,a01,a00,nV0,nH0]<;>rfl)
 ·intro i _;cases i with
  |zero=>((simp+decide only[go_sem,a01,a00,nV0,nH0]<;>rfl))
  |succ i=>((simp+decide only[go_sem,a01,a00,nVs,nHs]<;>rfl))
 ·intro i hi;by_cases ai:i<x.k
  ·have c1:(i:Int)<=((x.inn%4:Nat):Int):=by omega
   have hw:=wI1 (n:=i) (by omega);cases i with
   |zero=>
    (repeat first|simp only[ww]|apply xa;simp+decide only[go_sem,w4,c1,hw,nV0,nH0];rfl;kernel_rfl)
    refine a1m 1 ?_ (by omega) (by omega)
    ((simp+decide only[go_sem,a01,a00,nVs,nHs]<;>rfl))
   |succ i=>
    have aD:i+1+1<=1000000000:=by omega
    (repeat first|simp only[ww]|apply xa;simp+decide only[go_sem,w4,c1,hw,nVs,nHs,aD,a2i];rfl;kernel_rfl)
    refine a1m (i+1+1) ?_ (by omega) (by omega)
    ((simp+decide only[go_sem,a01,a00,nVs,nHs,a2i]<;>rfl))
  have im:i=x.k:=by omega
  subst im;have c1:¬((x.k:Nat):Int)<=((x.inn%4:Nat):Int):=by omega
  have jP:nV x.k = .slice 3 0 x.k none:=by rw[fC];rfl
  have jQ:nH x.k=[some (.row 4 (List.replicate x.k a3x))]:=by rw[fC];rfl
  rw[jP,jQ]
  (repeat first|simp only[ww]|apply xa;simp+decide only[go_sem,w4,w3,c1,jy];rfl;kernel_rfl)
  -- the flip-flops
  refine a1g (σ:=Nat) kp10_2 (λi=>[(1,.ptr 0 0 0),(2,.ptr 1 0 0),(3,.ptr 2 0 0),(5,.int .i64 x.k),(6,.int .i64 0),(7,.int .i64 i)])
   (λi=>match i with|_=>[xh x,rh,some (.row 4 [[.slice 3 0 (x.k+0) none,.nilslice,.nilslice,.nilslice]]),some (.row 4 (List.replicate x.k a3x++[]))]++[]) (λi=>0-i) (λi=>i<=0) 0 ?_ (f2i _) ?_ ?_
  ·(simp+decide only[go_sem,a01,a00]<;>rfl)
  ·intro i hi;obtain rfl:i=0:=by omega
   ((simp+decide only[go_sem,a01,a00]<;>rfl))
  ·intro i hi;obtain rfl:i=0:=by omega
   (repeat first|simp only[ww]|apply xa;simp+decide only[go_sem,hm];rfl;kernel_rfl)
   -- the gates
   refine a1g (σ:=Nat) kp10_4 (λi=>[(1,.ptr 0 0 0),(2,.ptr 1 0 0),(3,.ptr 2 0 0),(5,.int .i64 x.k),(6,.int .i64 0),(8,.int .i64 i)])
    (λi=>[xh x,rh,some (.row 4 [[.slice 3 0 (x.k+0+i) none,.nilslice,.nilslice,.nilslice]]),some (.row 4 (List.replicate x.k a3x++[]++(gN x.bus x.base (x.gates.take i)).map Nd.enc))]++[]) (λi=>x.gs.length-i) (λi=>i<=x.gs.length) 0 ?_ (f2i _) ?_ ?_
   ·(simp+decide only[go_sem,a01,a00,hm,f2j,b7x,e12]<;>rfl)
   ·intro i _
    (simp+decide only[go_sem,a01,a00,hm,a07,a0f,e12]<;>rfl)
   ·intro i hi;have eJ:x.gs.length=min 8 x.gates.length:=by unfold CX.gs;rw[f2z]
    by_cases ai:i<x.gs.length
    ·obtain⟨g,hg⟩:∃g,x.gates[i]?=some g:=⟨_,z9e (by omega)⟩
     have c1:(i:Int)<x.gates.length:=by omega
     have ei:i<x.gates.length:=by omega
     have c2:(i:Int)<8:=by omega
     have hw:=wI1 (n:=i) (by omega);have fv:g.ok:=x5 g (c11 hg);have ed:(gN x.bus x.base (x.gates.take i)).length=i:=by rw[a2f,f2z];omega
     have hs:=b0e x.bus g (x.gates.take i) x.base;rw[<-a1b hg]at hs;have af:=b7w (d:=true) x g fv (gN x.bus x.base (x.gates.take i)) x.k (x.k+0+i) kp (by rw[ed]) (by omega) (xh x) rh (some (.row 4 [[.slice 3 0 (x.k+0+i) none,.nilslice,.nilslice,.nilslice]]));rw[show List.replicate x.k 0++List.replicate 0 14++(gN x.bus x.base (x.gates.take i)).map Nd.kind=x.base++(gN x.bus x.base (x.gates.take i)).map Nd.kind by unfold CX.base;rw[hd]]at af;generalize a0k x.bus g (x.base++(gN x.bus x.base (x.gates.take i)).map Nd.kind)=nd at af hs;simp+decide only[go_sem,hm,e12]at af;have aD:x.k+i+1<=1000000000:=by omega
     have ak:decide (x.k+i=x.k+(i))=true:=f4m (by omega)
     (repeat first|simp only[ww]|apply xa;simp+decide only[go_sem,hm,c1,ei,c2,hw,hg,af,aD,ak,e12,ed];rfl;kernel_rfl)
     refine a1m (i+1) ?_ (by omega) (by omega);rw[hs]
     (simp+decide only[go_sem,a01,a00,hm,a07,a0f,e12]<;>rfl)
    have dA:i=x.gs.length:=by omega
    subst dA;rw[x.gs_take];have ed:(gN x.bus x.base x.gs).length=x.gs.length:=a2f _ _ _;have bG:x.n=x.k+0+x.gs.length:=by unfold CX.n;rw[hd]
    rw[<-bG];generalize hG:gN x.bus x.base x.gs=gg at ed;have po:0<x.n:=by omega
    have dH:x.n<=14:=by omega
    have bD:¬(x.n:Int)=0:=by omega
    have gH:¬((x.gs.length:Int)<x.gates.length∧(x.gs.length:Int)<8):=by omega
    -- the guard of the loop's end is decided in either case
    have dB:∀F,F=[(1,AV.ptr 0 0 0),(2,.ptr 1 0 0),(3,.ptr 2 0 0),(5,.int .i64 x.k),(6,.int .i64 0),(8,.int .i64 x.gs.length)]->True:=λ_ _=>trivial;rcases f6u x.gs.length x.gates.length with g1|g1
    all_goals first
    |(have c1:(x.gs.length:Int)<x.gates.length:=(by omega);have c2:¬(x.gs.length:Int)<8:=(by omega);(repeat first|simp only[ww]|apply xa;simp+decide only[go_sem,c1,c2,hm];rfl;kernel_rfl))
    |(have c1:¬(x.gs.length:Int)<x.gates.length:=(by omega);(repeat first|simp only[ww]|apply xa;simp+decide only[go_sem,c1,hm];rfl;kernel_rfl))
    all_goals
     -- the flip-flops' data
     refine a1g (σ:=Nat) kp10_6 (λi=>[(1,.ptr 0 0 0),(2,.ptr 1 0 0),(3,.ptr 2 0 0),(5,.int .i64 x.k),(6,.int .i64 0),(9,.int .i64 x.n),(10,.int .i64 i)])
      (λi=>match i with|_=>[xh x,rh,some (.row 4 [[.slice 3 0 x.n none,.nilslice,.nilslice,.nilslice]]),some (.row 4 (List.replicate x.k a3x++[]++gg.map Nd.enc))]++[]) (λi=>0-i) (λi=>i<=0) 0 ?_ (f2i _) ?_ ?_
     ·(simp+decide only[go_sem,a01,a00,hm,a07,a0f,e12]<;>rfl)
     ·intro i hi;obtain rfl:i=0:=by omega
      (simp+decide only[go_sem,a01,a00,hm,a07,a0f,e12]<;>rfl)
     ·intro i hi;obtain rfl:i=0:=by omega
      (repeat first|simp only[ww]|apply xa;simp+decide only[go_sem,hm];rfl;kernel_rfl)
      -- the names
      refine a1g (σ:=Nat) kp10_8 (λi=>[(1,.ptr 0 0 0),(2,.ptr 1 0 0),(3,.ptr 2 0 0),(9,.int .i64 x.n),(11,.int .i64 i)])
       (λi=>[xh x,rh,some (.row 4 [[.slice 3 0 x.n none,slN 4 i,.nilslice,.nilslice]]),some (.row 4 (List.replicate x.k a3x++[]++gg.map Nd.enc))]++[]++nmH i) (λi=>x.n-i) (λi=>i<=x.n) 0 ?_ (f2i _) ?_ ?_
      ·(simp+decide only[go_sem,a01,a00,hm,a70,c0j,a07,a0f,e12]<;>rfl)
      ·intro i _;cases i with
       |zero=>(simp+decide only[go_sem,a01,a00,hm,a70,c0j,a07,a0f,e12]<;>rfl)
       |succ i=>(simp+decide only[go_sem,a01,a00,hm,a4p,b3c,a07,a0f,a1a,a1q,e12]<;>rfl)
      ·intro i hi;by_cases ai:i<x.n
       ·have c1:(i:Int)<x.n:=by omega
        have hw:=wI1 (n:=i) (by omega);have af:=λH=>a7b (d:=true) H i (by omega);have aD:i+1<=1000000000:=by omega
        cases i with
        |zero=>
         (repeat first|simp only[ww]|apply xa;simp+decide only[go_sem,hm,c1,hw,af,a70,c0j];rfl;kernel_rfl)
         refine a1m 1 ?_ (by omega) (by omega)
         (simp+decide only[go_sem,a01,a00,hm,a4p,b3c,a07,a0f,nm1,e12]<;>rfl)
        |succ i=>
         have aD:i+1+1<=1000000000:=by omega
         (repeat first|simp only[ww]|apply xa;simp+decide only[go_sem,hm,c1,hw,af,a4p,b3c,aD,f3b];rfl;kernel_rfl)
         refine a1m (i+1+1) ?_ (by omega) (by omega)
         (simp+decide only[go_sem,a01,a00,hm,a4p,b3c,a07,a0f,a1a,a1q,b1t,e12]<;>rfl)
       have dA:i=x.n:=by omega
       subst dA;have c1:¬(x.n:Int)<x.n:=by omega
       obtain⟨n',dZ⟩:∃n',x.n=n'+1:=⟨x.n-1,by omega⟩
       have e1:slN 4 x.n = .slice 4 0 x.n none:=by rw[dZ];rfl
       have e2:nmH x.n=[some (.row 1 ((List.range x.n).map nmR))]:=by rw[dZ];rfl
       rw[e1,e2]
       (repeat first|simp only[ww]|apply xa;simp+decide only[go_sem,hm,c1];rfl;kernel_rfl)
       -- the outputs
       refine a1g (σ:=Nat) kp10_10 (λi=>[(1,.ptr 0 0 0),(2,.ptr 1 0 0),(3,.ptr 2 0 0),(9,.int .i64 x.n),(12,.int .i64 i)])
        (λi=>[xh x,rh,some (.row 4 [[.slice 3 0 x.n none,.slice 4 0 x.n none,.nilslice,slN 5 i]]),some (.row 4 (List.replicate x.k a3x++[]++gg.map Nd.enc))]++[]++[some (.row 1 ((List.range x.n).map nmR))]++otH x i) (λi=>3-i) (λi=>i<=3∧i<=x.outs.length) 0 ?_ ⟨by omega,by omega⟩ ?_ ?_
       ·(simp+decide only[go_sem,a01,a00,hm,a70,c9l,a07,a0f,a1a,a1q,e12]<;>rfl)
       ·intro i _;cases i with
        |zero=>(simp+decide only[go_sem,a01,a00,hm,a70,c9l,a07,a0f,a1a,a1q,e12]<;>rfl)
        |succ i=>(simp+decide only[go_sem,a01,a00,hm,a4p,c0i,a07,a0f,a1a,a1q,a5x,a82,e12]<;>rfl)
       ·intro i hi;by_cases ai:i<3∧i<x.outs.length
        ·obtain⟨o,ho⟩:∃o,x.outs[i]?=some o:=⟨_,z9e ai.2⟩
         have cE:=x6 o (c11 ho);have wo:=wI (n:=o) (by omega);have c1:(i:Int)<x.outs.length:=by omega
         have ei:i<x.outs.length:=by omega
         have c2:(i:Int)<3:=by omega
         have hw:=wI1 (n:=i) (by omega);have ht:=a1b ho;have dE:(x.outs.take i).length=i:=by rw[f2z];omega
         cases i with
         |zero=>
          (repeat first|simp only[ww]|apply xa;simp+decide only[go_sem,hm,c1,ei,c2,hw,ho,wo,bD,a70,c9l];rfl;kernel_rfl)
          refine a1m 1 ?_ (by omega) ⟨by omega,by omega⟩
          (simp+decide only[go_sem,a01,a00,hm,a4p,c0i,a07,a0f,a1a,a1q,ht,f2j,e12]<;>rfl)
         |succ i=>
          have aD:i+1+1<=1000000000:=by omega
          (repeat first|simp only[ww]|apply xa;simp+decide only[go_sem,hm,c1,ei,c2,hw,ho,wo,bD,a4p,c0i,aD,dE];rfl;kernel_rfl)
          refine a1m (i+1+1) ?_ (by omega) ⟨by omega,by omega⟩
          (simp+decide only[go_sem,a01,a00,hm,a4p,c0i,a07,a0f,a1a,a1q,a5x,a82,ht,e12]<;>rfl)
        have ko:x.outs.take i=x.outs.take 3:=by
         by_cases h3:i=3
         ·rw[h3]
         ·rw[f1k (by omega),f1k (by omega)]
        have bQ:(x.outs.take i).length=i:=by rw[f2z];omega
        have ff:IntKind.i64.wrap ((x.n:Int)-1)=((x.n-1:Nat):Int):=by rw[w64 (by omega) (by omega)];omega
        have dG:x.cir=⟨some none,List.replicate x.k b0p++[]++gg,some none,(List.range x.n).map a1l,some none,(x.outs.take i).map (·% x.n)++[x.n-1]⟩:=by rw[ko,<-hG];simp[CX.cir,CX.nodes,CX.dn,CX.names,CX.outN,hd]
        rw[dG];have cT:x.n<=x.k+gg.length:=by omega
        have bY:x.k+gg.length<=x.n:=by omega
        cases i with
        |zero=>
         have c1:¬((0:Nat):Int)<x.outs.length:=by omega
         (repeat first|simp only[ww]|apply xa;simp+decide only[go_sem,hm,c1,a70,c9l,ff,bQ];rfl;kernel_rfl)
         (apply fqb;simp+decide only[go_sem,hm,a5v,a88,a87,a86,a26,f7c,bQ,b0p,a4n,a85,Cir.enc,a4b,cT,bY,f3b,f2q,a83,f2j]<;>rfl)
        |succ i=>
         have aD:i+1+1<=1000000000:=by omega
         rcases f6u (i+1) x.outs.length with g1|g1
         all_goals first
         |(have c1:((i+1:Nat):Int)<x.outs.length:=(by omega);have c2:¬((i+1:Nat):Int)<3:=(by omega);(repeat first|simp only[ww]|apply xa;simp+decide only[go_sem,hm,c1,c2,a4p,c0i,aD,ff,bQ];rfl;kernel_rfl))
         |(have c1:¬((i+1:Nat):Int)<x.outs.length:=(by omega);(repeat first|simp only[ww]|apply xa;simp+decide only[go_sem,hm,c1,a4p,c0i,aD,ff,bQ];rfl;kernel_rfl))
         all_goals (apply fqb;simp+decide only[go_sem,hm,a5v,a88,a87,a86,a26,f7c,bQ,b0p,a4n,a85,Cir.enc,a4b,cT,bY,f3b,f2q,a83]<;>rfl)
theorem e66(x:CX)(hx:x.ok)(hm:x.mem=false)(hd:x.d=1) :
 sM 10 [.agg x.enc] []=some (.agg x.cir.enc,[]):=by
 obtain⟨x1,x2,x3,x4,x5,x6⟩:=hx;have lG:x.inn%4+1=x.k:=rfl;have jy:x.dffs%3=1:=hd;have kk:x.k<=4:=by unfold CX.k;omega
 have kp:0<x.k:=by unfold CX.k;omega
 have gl:x.gs.length<=8:=by unfold CX.gs;rw[f2z];omega
 have w4:=wI (n:=x.inn%4) (by omega);have w3:=wI (n:=x.dffs%3) (by omega);obtain⟨k',fC⟩:∃k',x.k=k'+1:=⟨x.k-1,by omega⟩
 (refine sv Tryz.f10 ?_;simp only[Tryz.f10,gS])
 (repeat first|simp only[ww]|apply xa;simp+decide only[go_sem];rfl;kernel_rfl)
 -- the inputs
 refine a1g (σ:=Nat) kp10_0 (λi=>[(1,.ptr 0 0 0),(2,.ptr 1 0 0),(3,.ptr 2 0 0),(4,.int .i64 i)])
  (λi=>[xh x,rh,some (.row 4 [[nV i,.nilslice,.nilslice,.nilslice]])]++nH i) (λi=>x.k-i) (λi=>i<=x.k) 0 ?_ (f2i _) ?_ ?_
 ·(simp+decide only[go_sem,a01,a00,nV0,nH0]<;>rfl)
 ·intro i _;cases i with
  |zero=>((simp+decide only[go_sem,a01,a00,nV0,nH0]<;>rfl))
  |succ i=>((simp+decide only[go_sem,a01,a00,nVs,nHs]<;>rfl))
 ·intro i hi;by_cases ai:i<x.k
  ·have c1:(i:Int)<=((x.inn%4:Nat):Int):=by omega
   have hw:=wI1 (n:=i) (by omega);cases i with
   |zero=>
    (repeat first|simp only[ww]|apply xa;simp+decide only[go_sem,w4,c1,hw,nV0,nH0];rfl;kernel_rfl)
    refine a1m 1 ?_ (by omega) (by omega)
    ((simp+decide only[go_sem,a01,a00,nVs,nHs]<;>rfl))
   |succ i=>
    have aD:i+1+1<=1000000000:=by omega
    (repeat first|simp only[ww]|apply xa;simp+decide only[go_sem,w4,c1,hw,nVs,nHs,aD,a2i];rfl;kernel_rfl)
    refine a1m (i+1+1) ?_ (by omega) (by omega)
    ((simp+decide only[go_sem,a01,a00,nVs,nHs,a2i]<;>rfl))
  have im:i=x.k:=by omega
  subst im;have c1:¬((x.k:Nat):Int)<=((x.inn%4:Nat):Int):=by omega
  have jP:nV x.k = .slice 3 0 x.k none:=by rw[fC];rfl
  have jQ:nH x.k=[some (.row 4 (List.replicate x.k a3x))]:=by rw[fC];rfl
  rw[jP,jQ]
  (repeat first|simp only[ww]|apply xa;simp+decide only[go_sem,w4,w3,c1,jy];rfl;kernel_rfl)
  -- the flip-flops
  refine a1g (σ:=Nat) kp10_2 (λi=>[(1,.ptr 0 0 0),(2,.ptr 1 0 0),(3,.ptr 2 0 0),(5,.int .i64 x.k),(6,.int .i64 1),(7,.int .i64 i)])
   (λi=>match i with|0=>[xh x,rh,some (.row 4 [[.slice 3 0 (x.k+0) none,.nilslice,.nilslice,.nilslice]]),some (.row 4 (List.replicate x.k a3x++[]))]++[]|_=>[xh x,rh,some (.row 4 [[.slice 3 0 (x.k+1) none,.nilslice,.nilslice,.nilslice]]),some (.row 4 (List.replicate x.k a3x++[dR 4]))]++[one 0]) (λi=>1-i) (λi=>i<=1) 0 ?_ (f2i _) ?_ ?_
  ·(simp+decide only[go_sem,a01,a00]<;>rfl)
  ·intro i hi;by_cases bV:i=0
   ·subst bV
    ((simp+decide only[go_sem,a01,a00]<;>rfl))
   obtain rfl:i=1:=by omega
   ((simp+decide only[go_sem,a01,a00]<;>rfl))
  ·intro i hi;by_cases bV:i=0
   ·subst bV;have aD:x.k+0+1<=1000000000:=by omega
    have hw:=wI1 (n:=0) (by omega)
    (repeat first|simp only[ww]|apply xa;simp+decide only[go_sem,aD,a2i,hw];rfl;kernel_rfl)
    refine a1m 1 ?_ (by omega) (by omega)
    ((simp+decide only[go_sem,a01,a00,e12]<;>rfl))
   obtain rfl:i=1:=by omega
   (repeat first|simp only[ww]|apply xa;simp+decide only[go_sem,hm];rfl;kernel_rfl)
   -- the gates
   refine a1g (σ:=Nat) kp10_4 (λi=>[(1,.ptr 0 0 0),(2,.ptr 1 0 0),(3,.ptr 2 0 0),(5,.int .i64 x.k),(6,.int .i64 1),(8,.int .i64 i)])
    (λi=>[xh x,rh,some (.row 4 [[.slice 3 0 (x.k+1+i) none,.nilslice,.nilslice,.nilslice]]),some (.row 4 (List.replicate x.k a3x++[dR 4]++(gN x.bus x.base (x.gates.take i)).map Nd.enc))]++[one 0]) (λi=>x.gs.length-i) (λi=>i<=x.gs.length) 0 ?_ (f2i _) ?_ ?_
   ·(simp+decide only[go_sem,a01,a00,hm,f2j,b7x,e12]<;>rfl)
   ·intro i _
    (simp+decide only[go_sem,a01,a00,hm,a07,a0f,e12]<;>rfl)
   ·intro i hi;have eJ:x.gs.length=min 8 x.gates.length:=by unfold CX.gs;rw[f2z]
    by_cases ai:i<x.gs.length
    ·obtain⟨g,hg⟩:∃g,x.gates[i]?=some g:=⟨_,z9e (by omega)⟩
     have c1:(i:Int)<x.gates.length:=by omega
     have ei:i<x.gates.length:=by omega
     have c2:(i:Int)<8:=by omega
     have hw:=wI1 (n:=i) (by omega);have fv:g.ok:=x5 g (c11 hg);have ed:(gN x.bus x.base (x.gates.take i)).length=i:=by rw[a2f,f2z];omega
     have hs:=b0e x.bus g (x.gates.take i) x.base;rw[<-a1b hg]at hs;have af:=b7v (d:=true) x g fv (gN x.bus x.base (x.gates.take i)) x.k (x.k+1+i) kp (by rw[ed]) (by omega) (xh x) rh (some (.row 4 [[.slice 3 0 (x.k+1+i) none,.nilslice,.nilslice,.nilslice]]));rw[show List.replicate x.k 0++List.replicate 1 14++(gN x.bus x.base (x.gates.take i)).map Nd.kind=x.base++(gN x.bus x.base (x.gates.take i)).map Nd.kind by unfold CX.base;rw[hd]]at af;generalize a0k x.bus g (x.base++(gN x.bus x.base (x.gates.take i)).map Nd.kind)=nd at af hs;simp+decide only[go_sem,hm,e12]at af;have aD:x.k+1+i+1<=1000000000:=by omega
     have ak:decide (x.k+1+i=x.k+(i+1))=true:=f4m (by omega)
     (repeat first|simp only[ww]|apply xa;simp+decide only[go_sem,hm,c1,ei,c2,hw,hg,af,aD,ak,e12,ed];rfl;kernel_rfl)
     refine a1m (i+1) ?_ (by omega) (by omega);rw[hs]
     (simp+decide only[go_sem,a01,a00,hm,a07,a0f,e12]<;>rfl)
    have dA:i=x.gs.length:=by omega
    subst dA;rw[x.gs_take];have ed:(gN x.bus x.base x.gs).length=x.gs.length:=a2f _ _ _;have bG:x.n=x.k+1+x.gs.length:=by unfold CX.n;rw[hd]
    rw[<-bG];generalize hG:gN x.bus x.base x.gs=gg at ed;have po:0<x.n:=by omega
    have dH:x.n<=14:=by omega
    have bD:¬(x.n:Int)=0:=by omega
    have gH:¬((x.gs.length:Int)<x.gates.length∧(x.gs.length:Int)<8):=by omega
    -- the guard of the loop's end is decided in either case
    have dB:∀F,F=[(1,AV.ptr 0 0 0),(2,.ptr 1 0 0),(3,.ptr 2 0 0),(5,.int .i64 x.k),(6,.int .i64 1),(8,.int .i64 x.gs.length)]->True:=λ_ _=>trivial;rcases f6u x.gs.length x.gates.length with g1|g1
    all_goals first
    |(have c1:(x.gs.length:Int)<x.gates.length:=(by omega);have c2:¬(x.gs.length:Int)<8:=(by omega);(repeat first|simp only[ww]|apply xa;simp+decide only[go_sem,c1,c2,hm];rfl;kernel_rfl))
    |(have c1:¬(x.gs.length:Int)<x.gates.length:=(by omega);(repeat first|simp only[ww]|apply xa;simp+decide only[go_sem,c1,hm];rfl;kernel_rfl))
    all_goals
     -- the flip-flops' data
     refine a1g (σ:=Nat) kp10_6 (λi=>[(1,.ptr 0 0 0),(2,.ptr 1 0 0),(3,.ptr 2 0 0),(5,.int .i64 x.k),(6,.int .i64 1),(9,.int .i64 x.n),(10,.int .i64 i)])
      (λi=>match i with|0=>[xh x,rh,some (.row 4 [[.slice 3 0 x.n none,.nilslice,.nilslice,.nilslice]]),some (.row 4 (List.replicate x.k a3x++[dR 4]++gg.map Nd.enc))]++[one 0]|_=>[xh x,rh,some (.row 4 [[.slice 3 0 x.n none,.nilslice,.nilslice,.nilslice]]),some (.row 4 (List.replicate x.k a3x++[dR 4]++gg.map Nd.enc))]++[one (x.d0%x.n)]) (λi=>1-i) (λi=>i<=1) 0 ?_ (f2i _) ?_ ?_
     ·(simp+decide only[go_sem,a01,a00,hm,a07,a0f,e12]<;>rfl)
     ·intro i hi;by_cases bV:i=0
      ·subst bV
       (simp+decide only[go_sem,a01,a00,hm,a07,a0f,e12]<;>rfl)
      obtain rfl:i=1:=by omega
      (simp+decide only[go_sem,a01,a00,hm,a07,a0f,e12]<;>rfl)
     ·intro i hi;by_cases bV:i=0
      ·subst bV;have hw:=wI1 (n:=0) (by omega);have jW:IntKind.i64.wrap ((x.k:Int)+(((0:Nat)):Int))=((x.k+0:Nat):Int):=by rw[w64 (by omega) (by omega)];omega
       have fg:IntKind.i64.wrap ((x.k:Int)+0)=((x.k+0:Nat):Int):=by rw[w64 (by omega) (by omega)];omega
       have wd:=wI (n:=x.d0) (by omega);have bw:x.k+0<x.n:=by omega
       have fm:x.k<x.n:=by omega
       (repeat first|simp only[ww]|apply xa;simp+decide only[go_sem,hm,hw,jW,fg,wd,bD,bw,fm,b1x,a9o,b1k,a9d,e12];rfl;kernel_rfl)
       refine a1m 1 ?_ (by omega) (by omega)
       (simp+decide only[go_sem,a01,a00,hm,a07,a0f,e12]<;>rfl)
      obtain rfl:i=1:=by omega
      (repeat first|simp only[ww]|apply xa;simp+decide only[go_sem,hm];rfl;kernel_rfl)
      -- the names
      refine a1g (σ:=Nat) kp10_8 (λi=>[(1,.ptr 0 0 0),(2,.ptr 1 0 0),(3,.ptr 2 0 0),(9,.int .i64 x.n),(11,.int .i64 i)])
       (λi=>[xh x,rh,some (.row 4 [[.slice 3 0 x.n none,slN 5 i,.nilslice,.nilslice]]),some (.row 4 (List.replicate x.k a3x++[dR 4]++gg.map Nd.enc))]++[one (x.d0%x.n)]++nmH i) (λi=>x.n-i) (λi=>i<=x.n) 0 ?_ (f2i _) ?_ ?_
      ·(simp+decide only[go_sem,a01,a00,hm,a70,c0j,a07,a0f,e12]<;>rfl)
      ·intro i _;cases i with
       |zero=>(simp+decide only[go_sem,a01,a00,hm,a70,c0j,a07,a0f,e12]<;>rfl)
       |succ i=>(simp+decide only[go_sem,a01,a00,hm,a4p,b3c,a07,a0f,a1a,a1q,e12]<;>rfl)
      ·intro i hi;by_cases ai:i<x.n
       ·have c1:(i:Int)<x.n:=by omega
        have hw:=wI1 (n:=i) (by omega);have af:=λH=>a7b (d:=true) H i (by omega);have aD:i+1<=1000000000:=by omega
        cases i with
        |zero=>
         (repeat first|simp only[ww]|apply xa;simp+decide only[go_sem,hm,c1,hw,af,a70,c0j];rfl;kernel_rfl)
         refine a1m 1 ?_ (by omega) (by omega)
         (simp+decide only[go_sem,a01,a00,hm,a4p,b3c,a07,a0f,nm1,e12]<;>rfl)
        |succ i=>
         have aD:i+1+1<=1000000000:=by omega
         (repeat first|simp only[ww]|apply xa;simp+decide only[go_sem,hm,c1,hw,af,a4p,b3c,aD,f3b];rfl;kernel_rfl)
         refine a1m (i+1+1) ?_ (by omega) (by omega)
         (simp+decide only[go_sem,a01,a00,hm,a4p,b3c,a07,a0f,a1a,a1q,b1t,e12]<;>rfl)
       have dA:i=x.n:=by omega
       subst dA;have c1:¬(x.n:Int)<x.n:=by omega
       obtain⟨n',dZ⟩:∃n',x.n=n'+1:=⟨x.n-1,by omega⟩
       have e1:slN 5 x.n = .slice 5 0 x.n none:=by rw[dZ];rfl
       have e2:nmH x.n=[some (.row 1 ((List.range x.n).map nmR))]:=by rw[dZ];rfl
       rw[e1,e2]
       (repeat first|simp only[ww]|apply xa;simp+decide only[go_sem,hm,c1];rfl;kernel_rfl)
       -- the outputs
       refine a1g (σ:=Nat) kp10_10 (λi=>[(1,.ptr 0 0 0),(2,.ptr 1 0 0),(3,.ptr 2 0 0),(9,.int .i64 x.n),(12,.int .i64 i)])
        (λi=>[xh x,rh,some (.row 4 [[.slice 3 0 x.n none,.slice 5 0 x.n none,.nilslice,slN 6 i]]),some (.row 4 (List.replicate x.k a3x++[dR 4]++gg.map Nd.enc))]++[one (x.d0%x.n)]++[some (.row 1 ((List.range x.n).map nmR))]++otH x i) (λi=>3-i) (λi=>i<=3∧i<=x.outs.length) 0 ?_ ⟨by omega,by omega⟩ ?_ ?_
       ·(simp+decide only[go_sem,a01,a00,hm,a70,c9l,a07,a0f,a1a,a1q,e12]<;>rfl)
       ·intro i _;cases i with
        |zero=>(simp+decide only[go_sem,a01,a00,hm,a70,c9l,a07,a0f,a1a,a1q,e12]<;>rfl)
        |succ i=>(simp+decide only[go_sem,a01,a00,hm,a4p,c0i,a07,a0f,a1a,a1q,a5x,a82,e12]<;>rfl)
       ·intro i hi;by_cases ai:i<3∧i<x.outs.length
        ·obtain⟨o,ho⟩:∃o,x.outs[i]?=some o:=⟨_,z9e ai.2⟩
         have cE:=x6 o (c11 ho);have wo:=wI (n:=o) (by omega);have c1:(i:Int)<x.outs.length:=by omega
         have ei:i<x.outs.length:=by omega
         have c2:(i:Int)<3:=by omega
         have hw:=wI1 (n:=i) (by omega);have ht:=a1b ho;have dE:(x.outs.take i).length=i:=by rw[f2z];omega
         cases i with
         |zero=>
          (repeat first|simp only[ww]|apply xa;simp+decide only[go_sem,hm,c1,ei,c2,hw,ho,wo,bD,a70,c9l];rfl;kernel_rfl)
          refine a1m 1 ?_ (by omega) ⟨by omega,by omega⟩
          (simp+decide only[go_sem,a01,a00,hm,a4p,c0i,a07,a0f,a1a,a1q,ht,f2j,e12]<;>rfl)
         |succ i=>
          have aD:i+1+1<=1000000000:=by omega
          (repeat first|simp only[ww]|apply xa;simp+decide only[go_sem,hm,c1,ei,c2,hw,ho,wo,bD,a4p,c0i,aD,dE];rfl;kernel_rfl)
          refine a1m (i+1+1) ?_ (by omega) ⟨by omega,by omega⟩
          (simp+decide only[go_sem,a01,a00,hm,a4p,c0i,a07,a0f,a1a,a1q,a5x,a82,ht,e12]<;>rfl)
        have ko:x.outs.take i=x.outs.take 3:=by
         by_cases h3:i=3
         ·rw[h3]
         ·rw[f1k (by omega),f1k (by omega)]
        have bQ:(x.outs.take i).length=i:=by rw[f2z];omega
        have ff:IntKind.i64.wrap ((x.n:Int)-1)=((x.n-1:Nat):Int):=by rw[w64 (by omega) (by omega)];omega
        have dG:x.cir=⟨some none,List.replicate x.k b0p++[a4n (x.d0%x.n)]++gg,some none,(List.range x.n).map a1l,some none,(x.outs.take i).map (·% x.n)++[x.n-1]⟩:=by rw[ko,<-hG];simp[CX.cir,CX.nodes,CX.dn,CX.names,CX.outN,hd]
        rw[dG];have cT:x.n<=x.k+1+gg.length:=by omega
        have bY:x.k+1+gg.length<=x.n:=by omega
        cases i with
        |zero=>
         have c1:¬((0:Nat):Int)<x.outs.length:=by omega
         (repeat first|simp only[ww]|apply xa;simp+decide only[go_sem,hm,c1,a70,c9l,ff,bQ];rfl;kernel_rfl)
         (apply fqb;simp+decide only[go_sem,hm,a5v,a88,a87,a86,a26,f7c,bQ,b0p,a4n,a85,Cir.enc,a4b,cT,bY,f3b,f2q,a83,f2j]<;>rfl)
        |succ i=>
         have aD:i+1+1<=1000000000:=by omega
         rcases f6u (i+1) x.outs.length with g1|g1
         all_goals first
         |(have c1:((i+1:Nat):Int)<x.outs.length:=(by omega);have c2:¬((i+1:Nat):Int)<3:=(by omega);(repeat first|simp only[ww]|apply xa;simp+decide only[go_sem,hm,c1,c2,a4p,c0i,aD,ff,bQ];rfl;kernel_rfl))
         |(have c1:¬((i+1:Nat):Int)<x.outs.length:=(by omega);(repeat first|simp only[ww]|apply xa;simp+decide only[go_sem,hm,c1,a4p,c0i,aD,ff,bQ];rfl;kernel_rfl))
         all_goals (apply fqb;simp+decide only[go_sem,hm,a5v,a88,a87,a86,a26,f7c,bQ,b0p,a4n,a85,Cir.enc,a4b,cT,bY,f3b,f2q,a83]<;>rfl)
theorem e65(x:CX)(hx:x.ok)(hm:x.mem=false)(hd:x.d=2) :
 sM 10 [.agg x.enc] []=some (.agg x.cir.enc,[]):=by
 obtain⟨x1,x2,x3,x4,x5,x6⟩:=hx;have lG:x.inn%4+1=x.k:=rfl;have jy:x.dffs%3=2:=hd;have kk:x.k<=4:=by unfold CX.k;omega
 have kp:0<x.k:=by unfold CX.k;omega
 have gl:x.gs.length<=8:=by unfold CX.gs;rw[f2z];omega
 have w4:=wI (n:=x.inn%4) (by omega);have w3:=wI (n:=x.dffs%3) (by omega);obtain⟨k',fC⟩:∃k',x.k=k'+1:=⟨x.k-1,by omega⟩
 (refine sv Tryz.f10 ?_;simp only[Tryz.f10,gS])
 (repeat first|simp only[ww]|apply xa;simp+decide only[go_sem];rfl;kernel_rfl)
 -- the inputs
 refine a1g (σ:=Nat) kp10_0 (λi=>[(1,.ptr 0 0 0),(2,.ptr 1 0 0),(3,.ptr 2 0 0),(4,.int .i64 i)])
  (λi=>[xh x,rh,some (.row 4 [[nV i,.nilslice,.nilslice,.nilslice]])]++nH i) (λi=>x.k-i) (λi=>i<=x.k) 0 ?_ (f2i _) ?_ ?_
 ·(simp+decide only[go_sem,a01,a00,nV0,nH0]<;>rfl)
 ·intro i _;cases i with
  |zero=>((simp+decide only[go_sem,a01,a00,nV0,nH0]<;>rfl))
  |succ i=>((simp+decide only[go_sem,a01,a00,nVs,nHs]<;>rfl))
 ·intro i hi;by_cases ai:i<x.k
  ·have c1:(i:Int)<=((x.inn%4:Nat):Int):=by omega
   have hw:=wI1 (n:=i) (by omega);cases i with
   |zero=>
    (repeat first|simp only[ww]|apply xa;simp+decide only[go_sem,w4,c1,hw,nV0,nH0];rfl;kernel_rfl)
    refine a1m 1 ?_ (by omega) (by omega)
    ((simp+decide only[go_sem,a01,a00,nVs,nHs]<;>rfl))
   |succ i=>
    have aD:i+1+1<=1000000000:=by omega
    (repeat first|simp only[ww]|apply xa;simp+decide only[go_sem,w4,c1,hw,nVs,nHs,aD,a2i];rfl;kernel_rfl)
    refine a1m (i+1+1) ?_ (by omega) (by omega)
    ((simp+decide only[go_sem,a01,a00,nVs,nHs,a2i]<;>rfl))
  have im:i=x.k:=by omega
  subst im;have c1:¬((x.k:Nat):Int)<=((x.inn%4:Nat):Int):=by omega
  have jP:nV x.k = .slice 3 0 x.k none:=by rw[fC];rfl
  have jQ:nH x.k=[some (.row 4 (List.replicate x.k a3x))]:=by rw[fC];rfl
  rw[jP,jQ]
  (repeat first|simp only[ww]|apply xa;simp+decide only[go_sem,w4,w3,c1,jy];rfl;kernel_rfl)
  -- the flip-flops
  refine a1g (σ:=Nat) kp10_2 (λi=>[(1,.ptr 0 0 0),(2,.ptr 1 0 0),(3,.ptr 2 0 0),(5,.int .i64 x.k),(6,.int .i64 2),(7,.int .i64 i)])
   (λi=>match i with|0=>[xh x,rh,some (.row 4 [[.slice 3 0 (x.k+0) none,.nilslice,.nilslice,.nilslice]]),some (.row 4 (List.replicate x.k a3x++[]))]++[]|1=>[xh x,rh,some (.row 4 [[.slice 3 0 (x.k+1) none,.nilslice,.nilslice,.nilslice]]),some (.row 4 (List.replicate x.k a3x++[dR 4]))]++[one 0]|_=>[xh x,rh,some (.row 4 [[.slice 3 0 (x.k+2) none,.nilslice,.nilslice,.nilslice]]),some (.row 4 (List.replicate x.k a3x++[dR 4,dR 5]))]++[one 0,one 0]) (λi=>2-i) (λi=>i<=2) 0 ?_ (f2i _) ?_ ?_
  ·(simp+decide only[go_sem,a01,a00]<;>rfl)
  ·intro i hi;by_cases bV:i=0
   ·subst bV
    ((simp+decide only[go_sem,a01,a00]<;>rfl))
   by_cases fH:i=1
   ·subst fH
    ((simp+decide only[go_sem,a01,a00]<;>rfl))
   obtain rfl:i=2:=by omega
   ((simp+decide only[go_sem,a01,a00]<;>rfl))
  ·intro i hi;by_cases bV:i=0
   ·subst bV;have aD:x.k+0+1<=1000000000:=by omega
    have hw:=wI1 (n:=0) (by omega)
    (repeat first|simp only[ww]|apply xa;simp+decide only[go_sem,aD,a2i,hw];rfl;kernel_rfl)
    refine a1m 1 ?_ (by omega) (by omega)
    ((simp+decide only[go_sem,a01,a00,e12]<;>rfl))
   by_cases fH:i=1
   ·subst fH;have aD:x.k+1+1<=1000000000:=by omega
    have hw:=wI1 (n:=1) (by omega)
    (repeat first|simp only[ww]|apply xa;simp+decide only[go_sem,aD,a2i,hw];rfl;kernel_rfl)
    refine a1m 2 ?_ (by omega) (by omega)
    ((simp+decide only[go_sem,a01,a00,e12]<;>rfl))
   obtain rfl:i=2:=by omega
   (repeat first|simp only[ww]|apply xa;simp+decide only[go_sem,hm];rfl;kernel_rfl)
   -- the gates
   refine a1g (σ:=Nat) kp10_4 (λi=>[(1,.ptr 0 0 0),(2,.ptr 1 0 0),(3,.ptr 2 0 0),(5,.int .i64 x.k),(6,.int .i64 2),(8,.int .i64 i)])
    (λi=>[xh x,rh,some (.row 4 [[.slice 3 0 (x.k+2+i) none,.nilslice,.nilslice,.nilslice]]),some (.row 4 (List.replicate x.k a3x++[dR 4,dR 5]++(gN x.bus x.base (x.gates.take i)).map Nd.enc))]++[one 0,one 0]) (λi=>x.gs.length-i) (λi=>i<=x.gs.length) 0 ?_ (f2i _) ?_ ?_
   ·(simp+decide only[go_sem,a01,a00,hm,f2j,b7x,e12]<;>rfl)
   ·intro i _
    (simp+decide only[go_sem,a01,a00,hm,a07,a0f,e12]<;>rfl)
   ·intro i hi;have eJ:x.gs.length=min 8 x.gates.length:=by unfold CX.gs;rw[f2z]
    by_cases ai:i<x.gs.length
    ·obtain⟨g,hg⟩:∃g,x.gates[i]?=some g:=⟨_,z9e (by omega)⟩
     have c1:(i:Int)<x.gates.length:=by omega
     have ei:i<x.gates.length:=by omega
     have c2:(i:Int)<8:=by omega
     have hw:=wI1 (n:=i) (by omega);have fv:g.ok:=x5 g (c11 hg);have ed:(gN x.bus x.base (x.gates.take i)).length=i:=by rw[a2f,f2z];omega
     have hs:=b0e x.bus g (x.gates.take i) x.base;rw[<-a1b hg]at hs;have af:=b7u (d:=true) x g fv (gN x.bus x.base (x.gates.take i)) x.k (x.k+2+i) kp (by rw[ed]) (by omega) (xh x) rh (some (.row 4 [[.slice 3 0 (x.k+2+i) none,.nilslice,.nilslice,.nilslice]]));rw[show List.replicate x.k 0++List.replicate 2 14++(gN x.bus x.base (x.gates.take i)).map Nd.kind=x.base++(gN x.bus x.base (x.gates.take i)).map Nd.kind by unfold CX.base;rw[hd]]at af;generalize a0k x.bus g (x.base++(gN x.bus x.base (x.gates.take i)).map Nd.kind)=nd at af hs;simp+decide only[go_sem,hm,e12]at af;have aD:x.k+2+i+1<=1000000000:=by omega
     have ak:decide (x.k+2+i=x.k+(i+1+1))=true:=f4m (by omega)
     (repeat first|simp only[ww]|apply xa;simp+decide only[go_sem,hm,c1,ei,c2,hw,hg,af,aD,ak,e12,ed];rfl;kernel_rfl)
     refine a1m (i+1) ?_ (by omega) (by omega);rw[hs]
     (simp+decide only[go_sem,a01,a00,hm,a07,a0f,e12]<;>rfl)
    have dA:i=x.gs.length:=by omega
    subst dA;rw[x.gs_take];have ed:(gN x.bus x.base x.gs).length=x.gs.length:=a2f _ _ _;have bG:x.n=x.k+2+x.gs.length:=by unfold CX.n;rw[hd]
    rw[<-bG];generalize hG:gN x.bus x.base x.gs=gg at ed;have po:0<x.n:=by omega
    have dH:x.n<=14:=by omega
    have bD:¬(x.n:Int)=0:=by omega
    have gH:¬((x.gs.length:Int)<x.gates.length∧(x.gs.length:Int)<8):=by omega
    -- the guard of the loop's end is decided in either case
    have dB:∀F,F=[(1,AV.ptr 0 0 0),(2,.ptr 1 0 0),(3,.ptr 2 0 0),(5,.int .i64 x.k),(6,.int .i64 2),(8,.int .i64 x.gs.length)]->True:=λ_ _=>trivial;rcases f6u x.gs.length x.gates.length with g1|g1
    all_goals first
    |(have c1:(x.gs.length:Int)<x.gates.length:=(by omega);have c2:¬(x.gs.length:Int)<8:=(by omega);(repeat first|simp only[ww]|apply xa;simp+decide only[go_sem,c1,c2,hm];rfl;kernel_rfl))
    |(have c1:¬(x.gs.length:Int)<x.gates.length:=(by omega);(repeat first|simp only[ww]|apply xa;simp+decide only[go_sem,c1,hm];rfl;kernel_rfl))
    all_goals
     -- the flip-flops' data
     refine a1g (σ:=Nat) kp10_6 (λi=>[(1,.ptr 0 0 0),(2,.ptr 1 0 0),(3,.ptr 2 0 0),(5,.int .i64 x.k),(6,.int .i64 2),(9,.int .i64 x.n),(10,.int .i64 i)])
      (λi=>match i with|0=>[xh x,rh,some (.row 4 [[.slice 3 0 x.n none,.nilslice,.nilslice,.nilslice]]),some (.row 4 (List.replicate x.k a3x++[dR 4,dR 5]++gg.map Nd.enc))]++[one 0,one 0]|1=>[xh x,rh,some (.row 4 [[.slice 3 0 x.n none,.nilslice,.nilslice,.nilslice]]),some (.row 4 (List.replicate x.k a3x++[dR 4,dR 5]++gg.map Nd.enc))]++[one (x.d0%x.n),one 0]|_=>[xh x,rh,some (.row 4 [[.slice 3 0 x.n none,.nilslice,.nilslice,.nilslice]]),some (.row 4 (List.replicate x.k a3x++[dR 4,dR 5]++gg.map Nd.enc))]++[one (x.d0%x.n),one (x.d1%x.n)]) (λi=>2-i) (λi=>i<=2) 0 ?_ (f2i _) ?_ ?_
     ·(simp+decide only[go_sem,a01,a00,hm,a07,a0f,e12]<;>rfl)
     ·intro i hi;by_cases bV:i=0
      ·subst bV
       (simp+decide only[go_sem,a01,a00,hm,a07,a0f,e12]<;>rfl)
      by_cases fH:i=1
      ·subst fH
       (simp+decide only[go_sem,a01,a00,hm,a07,a0f,e12]<;>rfl)
      obtain rfl:i=2:=by omega
      (simp+decide only[go_sem,a01,a00,hm,a07,a0f,e12]<;>rfl)
     ·intro i hi;by_cases bV:i=0
      ·subst bV;have hw:=wI1 (n:=0) (by omega);have jW:IntKind.i64.wrap ((x.k:Int)+(((0:Nat)):Int))=((x.k+0:Nat):Int):=by rw[w64 (by omega) (by omega)];omega
       have fg:IntKind.i64.wrap ((x.k:Int)+0)=((x.k+0:Nat):Int):=by rw[w64 (by omega) (by omega)];omega
       have wd:=wI (n:=x.d0) (by omega);have bw:x.k+0<x.n:=by omega
       have fm:x.k<x.n:=by omega
       (repeat first|simp only[ww]|apply xa;simp+decide only[go_sem,hm,hw,jW,fg,wd,bD,bw,fm,b1x,a9o,b1k,a9d,e12];rfl;kernel_rfl)
       refine a1m 1 ?_ (by omega) (by omega)
       (simp+decide only[go_sem,a01,a00,hm,a07,a0f,e12]<;>rfl)
      by_cases fH:i=1
      ·subst fH;have hw:=wI1 (n:=1) (by omega);have jW:IntKind.i64.wrap ((x.k:Int)+(((1:Nat)):Int))=((x.k+1:Nat):Int):=by rw[w64 (by omega) (by omega)];omega
       have fg:IntKind.i64.wrap ((x.k:Int)+1)=((x.k+1:Nat):Int):=by rw[w64 (by omega) (by omega)];omega
       have wd:=wI (n:=x.d1) (by omega);have bw:x.k+1<x.n:=by omega
       have fm:x.k<x.n:=by omega
       (repeat first|simp only[ww]|apply xa;simp+decide only[go_sem,hm,hw,jW,fg,wd,bD,bw,fm,b1x,a9o,b1k,a9d,e12];rfl;kernel_rfl)
       refine a1m 2 ?_ (by omega) (by omega)
       (simp+decide only[go_sem,a01,a00,hm,a07,a0f,e12]<;>rfl)
      obtain rfl:i=2:=by omega
      (repeat first|simp only[ww]|apply xa;simp+decide only[go_sem,hm];rfl;kernel_rfl)
      -- the names
      refine a1g (σ:=Nat) kp10_8 (λi=>[(1,.ptr 0 0 0),(2,.ptr 1 0 0),(3,.ptr 2 0 0),(9,.int .i64 x.n),(11,.int .i64 i)])
       (λi=>[xh x,rh,some (.row 4 [[.slice 3 0 x.n none,slN 6 i,.nilslice,.nilslice]]),some (.row 4 (List.replicate x.k a3x++[dR 4,dR 5]++gg.map Nd.enc))]++[one (x.d0%x.n),one (x.d1%x.n)]++nmH i) (λi=>x.n-i) (λi=>i<=x.n) 0 ?_ (f2i _) ?_ ?_
      ·(simp+decide only[go_sem,a01,a00,hm,a70,c0j,a07,a0f,e12]<;>rfl)
      ·intro i _;cases i with
       |zero=>(simp+decide only[go_sem,a01,a00,hm,a70,c0j,a07,a0f,e12]<;>rfl)
       |succ i=>(simp+decide only[go_sem,a01,a00,hm,a4p,b3c,a07,a0f,a1a,a1q,e12]<;>rfl)
      ·intro i hi;by_cases ai:i<x.n
       ·have c1:(i:Int)<x.n:=by omega
        have hw:=wI1 (n:=i) (by omega);have af:=λH=>a7b (d:=true) H i (by omega);have aD:i+1<=1000000000:=by omega
        cases i with
        |zero=>
         (repeat first|simp only[ww]|apply xa;simp+decide only[go_sem,hm,c1,hw,af,a70,c0j];rfl;kernel_rfl)
         refine a1m 1 ?_ (by omega) (by omega)
         (simp+decide only[go_sem,a01,a00,hm,a4p,b3c,a07,a0f,nm1,e12]<;>rfl)
        |succ i=>
         have aD:i+1+1<=1000000000:=by omega
         (repeat first|simp only[ww]|apply xa;simp+decide only[go_sem,hm,c1,hw,af,a4p,b3c,aD,f3b];rfl;kernel_rfl)
         refine a1m (i+1+1) ?_ (by omega) (by omega)
         (simp+decide only[go_sem,a01,a00,hm,a4p,b3c,a07,a0f,a1a,a1q,b1t,e12]<;>rfl)
       have dA:i=x.n:=by omega
       subst dA;have c1:¬(x.n:Int)<x.n:=by omega
       obtain⟨n',dZ⟩:∃n',x.n=n'+1:=⟨x.n-1,by omega⟩
       have e1:slN 6 x.n = .slice 6 0 x.n none:=by rw[dZ];rfl
       have e2:nmH x.n=[some (.row 1 ((List.range x.n).map nmR))]:=by rw[dZ];rfl
       rw[e1,e2]
       (repeat first|simp only[ww]|apply xa;simp+decide only[go_sem,hm,c1];rfl;kernel_rfl)
       -- the outputs
       refine a1g (σ:=Nat) kp10_10 (λi=>[(1,.ptr 0 0 0),(2,.ptr 1 0 0),(3,.ptr 2 0 0),(9,.int .i64 x.n),(12,.int .i64 i)])
        (λi=>[xh x,rh,some (.row 4 [[.slice 3 0 x.n none,.slice 6 0 x.n none,.nilslice,slN 7 i]]),some (.row 4 (List.replicate x.k a3x++[dR 4,dR 5]++gg.map Nd.enc))]++[one (x.d0%x.n),one (x.d1%x.n)]++[some (.row 1 ((List.range x.n).map nmR))]++otH x i) (λi=>3-i) (λi=>i<=3∧i<=x.outs.length) 0 ?_ ⟨by omega,by omega⟩ ?_ ?_
       ·(simp+decide only[go_sem,a01,a00,hm,a70,c9l,a07,a0f,a1a,a1q,e12]<;>rfl)
       ·intro i _;cases i with
        |zero=>(simp+decide only[go_sem,a01,a00,hm,a70,c9l,a07,a0f,a1a,a1q,e12]<;>rfl)
        |succ i=>(simp+decide only[go_sem,a01,a00,hm,a4p,c0i,a07,a0f,a1a,a1q,a5x,a82,e12]<;>rfl)
       ·intro i hi;by_cases ai:i<3∧i<x.outs.length
        ·obtain⟨o,ho⟩:∃o,x.outs[i]?=some o:=⟨_,z9e ai.2⟩
         have cE:=x6 o (c11 ho);have wo:=wI (n:=o) (by omega);have c1:(i:Int)<x.outs.length:=by omega
         have ei:i<x.outs.length:=by omega
         have c2:(i:Int)<3:=by omega
         have hw:=wI1 (n:=i) (by omega);have ht:=a1b ho;have dE:(x.outs.take i).length=i:=by rw[f2z];omega
         cases i with
         |zero=>
          (repeat first|simp only[ww]|apply xa;simp+decide only[go_sem,hm,c1,ei,c2,hw,ho,wo,bD,a70,c9l];rfl;kernel_rfl)
          refine a1m 1 ?_ (by omega) ⟨by omega,by omega⟩
          (simp+decide only[go_sem,a01,a00,hm,a4p,c0i,a07,a0f,a1a,a1q,ht,f2j,e12]<;>rfl)
         |succ i=>
          have aD:i+1+1<=1000000000:=by omega
          (repeat first|simp only[ww]|apply xa;simp+decide only[go_sem,hm,c1,ei,c2,hw,ho,wo,bD,a4p,c0i,aD,dE];rfl;kernel_rfl)
          refine a1m (i+1+1) ?_ (by omega) ⟨by omega,by omega⟩
          (simp+decide only[go_sem,a01,a00,hm,a4p,c0i,a07,a0f,a1a,a1q,a5x,a82,ht,e12]<;>rfl)
        have ko:x.outs.take i=x.outs.take 3:=by
         by_cases h3:i=3
         ·rw[h3]
         ·rw[f1k (by omega),f1k (by omega)]
        have bQ:(x.outs.take i).length=i:=by rw[f2z];omega
        have ff:IntKind.i64.wrap ((x.n:Int)-1)=((x.n-1:Nat):Int):=by rw[w64 (by omega) (by omega)];omega
        have dG:x.cir=⟨some none,List.replicate x.k b0p++[a4n (x.d0%x.n),a4n (x.d1%x.n)]++gg,some none,(List.range x.n).map a1l,some none,(x.outs.take i).map (·% x.n)++[x.n-1]⟩:=by rw[ko,<-hG];simp[CX.cir,CX.nodes,CX.dn,CX.names,CX.outN,hd]
        rw[dG];have cT:x.n<=x.k+2+gg.length:=by omega
        have bY:x.k+2+gg.length<=x.n:=by omega
        cases i with
        |zero=>
         have c1:¬((0:Nat):Int)<x.outs.length:=by omega
         (repeat first|simp only[ww]|apply xa;simp+decide only[go_sem,hm,c1,a70,c9l,ff,bQ];rfl;kernel_rfl)
         (apply fqb;simp+decide only[go_sem,hm,a5v,a88,a87,a86,a26,f7c,bQ,b0p,a4n,a85,Cir.enc,a4b,cT,bY,f3b,f2q,a83,f2j]<;>rfl)
        |succ i=>
         have aD:i+1+1<=1000000000:=by omega
         rcases f6u (i+1) x.outs.length with g1|g1
         all_goals first
         |(have c1:((i+1:Nat):Int)<x.outs.length:=(by omega);have c2:¬((i+1:Nat):Int)<3:=(by omega);(repeat first|simp only[ww]|apply xa;simp+decide only[go_sem,hm,c1,c2,a4p,c0i,aD,ff,bQ];rfl;kernel_rfl))
         |(have c1:¬((i+1:Nat):Int)<x.outs.length:=(by omega);(repeat first|simp only[ww]|apply xa;simp+decide only[go_sem,hm,c1,a4p,c0i,aD,ff,bQ];rfl;kernel_rfl))
         all_goals (apply fqb;simp+decide only[go_sem,hm,a5v,a88,a87,a86,a26,f7c,bQ,b0p,a4n,a85,Cir.enc,a4b,cT,bY,f3b,f2q,a83]<;>rfl)
theorem f1q(x:CX)(hx:x.ok)(hm:x.mem=false):sM 10 [.agg x.enc] []=some (.agg x.cir.enc,[]):=by
 have h3:x.d<3:=Nat.mod_lt _ (by omega);have h:x.d=0∨x.d=1∨x.d=2:=by omega
 rcases h with h|h|h
 ·exact e67 x hx hm h
 ·exact e66 x hx hm h
 ·exact e65 x hx hm h
theorem a4c(c:Cir):a0d c.enc=[]:=by simp only[go_sem,Cir.enc]
theorem d1g{d:Bool}(H:a03)(x:CX)(hx:x.ok)(hm:x.mem=false):cl d 10 [.agg x.enc] H=some (.agg x.cir.enc,H,[]):=cf (by simp only[go_sem]) (f1q x hx hm) (a4c _)
def a7a(x:CX):CX:={ x with mem:=false }
/-! a circuit with a memory -/
def mR0:List AV:=[.int .u8 15,.nilslice,.int .i64 0,.int .i64 0]
def mR1:List AV:=[.int .u8 15,.nilslice,.int .i64 0,.int .i64 1]
theorem d1y(l:List Nd):List.map Nd.enc (mN++l)=mR0::mR1::List.map Nd.enc l:=by rfl
def mH(x:CX)(b:Nat):a03:=[some (.row 3 [[.slice (b+1) 0 1 (some 1),.slice (b+2) 0 2 (some 2),.int .i64 (x.p3%x.nM:Nat)]]),one (x.p0%x.nM),some (.row 1 [[.int .i64 (x.p1%x.nM:Nat)],[.int .i64 (x.p2%x.nM:Nat)]])]
def mVn(b:Nat):Nat->AV|0=>.slice b 0 1 (some 1)|_+1=>.slice (b+1) 0 1 (some 1)
def mHn(x:CX)(b:Nat):Nat->a03|0=>mH x b|_+1=>mH x (b+1)
theorem d6n(b:Nat):mVn b 0 = .slice b 0 1 (some 1):=by rfl
theorem c9m(b i:Nat):mVn b (i+1) = .slice (b+1) 0 1 (some 1):=by rfl
theorem d6o(x:CX)(b:Nat):mHn x b 0=[some (.row 3 [[.slice (b+1) 0 1 (some 1),.slice (b+2) 0 2 (some 2),.int .i64 (x.p3%x.nM:Nat)]]),one (x.p0%x.nM),some (.row 1 [[.int .i64 (x.p1%x.nM:Nat)],[.int .i64 (x.p2%x.nM:Nat)]])]:=by rfl
theorem c9n(x:CX)(b i:Nat):mHn x b (i+1)=[some (.row 3 [[.slice (b+1+1) 0 1 (some 1),.slice (b+1+2) 0 2 (some 2),.int .i64 (x.p3%x.nM:Nat)]]),one (x.p0%x.nM),some (.row 1 [[.int .i64 (x.p1%x.nM:Nat)],[.int .i64 (x.p2%x.nM:Nat)]])]:=by rfl
def e62(x:CX):Nat->a03|0=>[]|i+1=>[some (.row 1 ((x.outs.take (i+1)).map (otR x.nM)))]
theorem b31(x:CX):e62 x 0=[]:=by rfl
theorem a8d(x:CX)(i:Nat):e62 x (i+1)=[some (.row 1 ((x.outs.take (i+1)).map (otR x.nM)))]:=by rfl
attribute [go_sem] mR0 mR1
theorem e1e(x:CX)(hx:x.ok)(mj:x.p0<256)(dw:x.p1<256)(cB:x.p2<256)(tt:x.p3<256)(hm:x.mem=true)(hd:x.d=0) :
 sM 10 [.agg x.enc] []=some (.agg (a2x x.cirM x.memA),[]):=by
 obtain⟨x1,x2,x3,x4,x5,x6⟩:=hx;have lG:x.inn%4+1=x.k:=rfl;have jy:x.dffs%3=0:=hd;have kk:x.k<=4:=by unfold CX.k;omega
 have kp:0<x.k:=by unfold CX.k;omega
 have gl:x.gs.length<=8:=by unfold CX.gs;rw[f2z];omega
 have w4:=wI (n:=x.inn%4) (by omega);have w3:=wI (n:=x.dffs%3) (by omega);obtain⟨k',fC⟩:∃k',x.k=k'+1:=⟨x.k-1,by omega⟩
 (refine sv Tryz.f10 ?_;simp only[Tryz.f10,gS])
 (repeat first|simp only[ww]|apply xa;simp+decide only[go_sem];rfl;kernel_rfl)
 -- the inputs
 refine a1g (σ:=Nat) kp10_0 (λi=>[(1,.ptr 0 0 0),(2,.ptr 1 0 0),(3,.ptr 2 0 0),(4,.int .i64 i)])
  (λi=>[xh x,rh,some (.row 4 [[nV i,.nilslice,.nilslice,.nilslice]])]++nH i) (λi=>x.k-i) (λi=>i<=x.k) 0 ?_ (f2i _) ?_ ?_
 ·(simp+decide only[go_sem,a01,a00,nV0,nH0]<;>rfl)
 ·intro i _;cases i with
  |zero=>((simp+decide only[go_sem,a01,a00,nV0,nH0]<;>rfl))
  |succ i=>((simp+decide only[go_sem,a01,a00,nVs,nHs]<;>rfl))
 ·intro i hi;by_cases ai:i<x.k
  ·have c1:(i:Int)<=((x.inn%4:Nat):Int):=by omega
   have hw:=wI1 (n:=i) (by omega);cases i with
   |zero=>
    (repeat first|simp only[ww]|apply xa;simp+decide only[go_sem,w4,c1,hw,nV0,nH0];rfl;kernel_rfl)
    refine a1m 1 ?_ (by omega) (by omega)
    ((simp+decide only[go_sem,a01,a00,nVs,nHs]<;>rfl))
   |succ i=>
    have aD:i+1+1<=1000000000:=by omega
    (repeat first|simp only[ww]|apply xa;simp+decide only[go_sem,w4,c1,hw,nVs,nHs,aD,a2i];rfl;kernel_rfl)
    refine a1m (i+1+1) ?_ (by omega) (by omega)
    ((simp+decide only[go_sem,a01,a00,nVs,nHs,a2i]<;>rfl))
  have im:i=x.k:=by omega
  subst im;have c1:¬((x.k:Nat):Int)<=((x.inn%4:Nat):Int):=by omega
  have jP:nV x.k = .slice 3 0 x.k none:=by rw[fC];rfl
  have jQ:nH x.k=[some (.row 4 (List.replicate x.k a3x))]:=by rw[fC];rfl
  rw[jP,jQ]
  (repeat first|simp only[ww]|apply xa;simp+decide only[go_sem,w4,w3,c1,jy];rfl;kernel_rfl)
  -- the flip-flops
  refine a1g (σ:=Nat) kp10_2 (λi=>[(1,.ptr 0 0 0),(2,.ptr 1 0 0),(3,.ptr 2 0 0),(5,.int .i64 x.k),(6,.int .i64 0),(7,.int .i64 i)])
   (λi=>match i with|_=>[xh x,rh,some (.row 4 [[.slice 3 0 (x.k+0) none,.nilslice,.nilslice,.nilslice]]),some (.row 4 (List.replicate x.k a3x++[]))]++[]) (λi=>0-i) (λi=>i<=0) 0 ?_ (f2i _) ?_ ?_
  ·(simp+decide only[go_sem,a01,a00]<;>rfl)
  ·intro i hi;obtain rfl:i=0:=by omega
   ((simp+decide only[go_sem,a01,a00]<;>rfl))
  ·intro i hi;obtain rfl:i=0:=by omega
   have j9:x.k+0+1+1<=1000000000:=by omega
   have kb:x.k+0+2<=1000000000:=by omega
   (repeat first|simp only[ww]|apply xa;simp+decide only[go_sem,hm,kb,j9];rfl;kernel_rfl)
   -- the gates
   refine a1g (σ:=Nat) kp10_4 (λi=>[(1,.ptr 0 0 0),(2,.ptr 1 0 0),(3,.ptr 2 0 0),(5,.int .i64 x.k),(6,.int .i64 0),(8,.int .i64 i)])
    (λi=>[xh x,rh,some (.row 4 [[.slice 3 0 (x.k+2+i) none,.nilslice,.nilslice,.nilslice]]),some (.row 4 (List.replicate x.k a3x++[mR0,mR1]++(gN x.bus x.baseM (x.gates.take i)).map Nd.enc))]++[]) (λi=>x.gs.length-i) (λi=>i<=x.gs.length) 0 ?_ (f2i _) ?_ ?_
   ·(simp+decide only[go_sem,a01,a00,hm,f2j,b7x,e12]<;>rfl)
   ·intro i _
    (simp+decide only[go_sem,a01,a00,hm,a07,a0f,e12]<;>rfl)
   ·intro i hi;have eJ:x.gs.length=min 8 x.gates.length:=by unfold CX.gs;rw[f2z]
    by_cases ai:i<x.gs.length
    ·obtain⟨g,hg⟩:∃g,x.gates[i]?=some g:=⟨_,z9e (by omega)⟩
     have c1:(i:Int)<x.gates.length:=by omega
     have ei:i<x.gates.length:=by omega
     have c2:(i:Int)<8:=by omega
     have hw:=wI1 (n:=i) (by omega);have fv:g.ok:=x5 g (c11 hg);have ed:(gN x.bus x.baseM (x.gates.take i)).length=i:=by rw[a2f,f2z];omega
     have hs:=b0e x.bus g (x.gates.take i) x.baseM;rw[<-a1b hg]at hs;have af:=b7w (d:=true) x g fv (mN++gN x.bus x.baseM (x.gates.take i)) x.k (x.k+2+i) kp (by rw[f2n,ed];show _=_+(2+i);omega) (by omega) (xh x) rh (some (.row 4 [[.slice 3 0 (x.k+2+i) none,.nilslice,.nilslice,.nilslice]]));rw[show List.replicate x.k 0++List.replicate 0 14++(mN++gN x.bus x.baseM (x.gates.take i)).map Nd.kind=x.baseM++(gN x.bus x.baseM (x.gates.take i)).map Nd.kind by show _=x.base++[15,15]++_;unfold CX.base;rw[hd];simp[mN,mNd]]at af;generalize a0k x.bus g (x.baseM++(gN x.bus x.baseM (x.gates.take i)).map Nd.kind)=nd at af hs;simp+decide only[go_sem,hm,e12,d1y]at af;have aD:x.k+2+i+1<=1000000000:=by omega
     have ak:decide (x.k+2+i=x.k+(i+1+1))=true:=f4m (by omega)
     (repeat first|simp only[ww]|apply xa;simp+decide only[go_sem,hm,c1,ei,c2,hw,hg,af,aD,ak,e12,ed];rfl;kernel_rfl)
     refine a1m (i+1) ?_ (by omega) (by omega);rw[hs]
     (simp+decide only[go_sem,a01,a00,hm,a07,a0f,e12]<;>rfl)
    have dA:i=x.gs.length:=by omega
    subst dA;rw[x.gs_take];have ed:(gN x.bus x.baseM x.gs).length=x.gs.length:=a2f _ _ _;have bG:x.nM=x.k+2+x.gs.length:=by unfold CX.nM;omega
    rw[<-bG];generalize hG:gN x.bus x.baseM x.gs=gg at ed;have po:0<x.nM:=by omega
    have dH:x.nM<=16:=by omega
    have bD:¬(x.nM:Int)=0:=by omega
    have gH:¬((x.gs.length:Int)<x.gates.length∧(x.gs.length:Int)<8):=by omega
    -- the guard of the loop's end is decided in either case
    have dB:∀F,F=[(1,AV.ptr 0 0 0),(2,.ptr 1 0 0),(3,.ptr 2 0 0),(5,.int .i64 x.k),(6,.int .i64 0),(8,.int .i64 x.gs.length)]->True:=λ_ _=>trivial;rcases f6u x.gs.length x.gates.length with g1|g1
    all_goals first
    |(have c1:(x.gs.length:Int)<x.gates.length:=(by omega);have c2:¬(x.gs.length:Int)<8:=(by omega);(repeat first|simp only[ww]|apply xa;simp+decide only[go_sem,c1,c2,hm];rfl;kernel_rfl))
    |(have c1:¬(x.gs.length:Int)<x.gates.length:=(by omega);(repeat first|simp only[ww]|apply xa;simp+decide only[go_sem,c1,hm];rfl;kernel_rfl))
    all_goals
     -- the flip-flops' data
     refine a1g (σ:=Nat) kp10_6 (λi=>[(1,.ptr 0 0 0),(2,.ptr 1 0 0),(3,.ptr 2 0 0),(5,.int .i64 x.k),(6,.int .i64 0),(9,.int .i64 x.nM),(10,.int .i64 i)])
      (λi=>match i with|_=>[xh x,rh,some (.row 4 [[.slice 3 0 x.nM none,.nilslice,.nilslice,.nilslice]]),some (.row 4 (List.replicate x.k a3x++[mR0,mR1]++gg.map Nd.enc))]++[]) (λi=>0-i) (λi=>i<=0) 0 ?_ (f2i _) ?_ ?_
     ·(simp+decide only[go_sem,a01,a00,hm,a07,a0f,e12]<;>rfl)
     ·intro i hi;obtain rfl:i=0:=by omega
      (simp+decide only[go_sem,a01,a00,hm,a07,a0f,e12]<;>rfl)
     ·intro i hi;obtain rfl:i=0:=by omega
      have oI:=wI (n:=x.p0) (by omega);have oH:=wI (n:=x.p1) (by omega);have oG:=wI (n:=x.p2) (by omega);have oF:=wI (n:=x.p3) (by omega)
      (repeat first|simp only[ww]|apply xa;simp+decide only[go_sem,hm,bD,oI,oH,oG,oF];rfl;kernel_rfl)
      -- the names
      refine a1g (σ:=Nat) kp10_8 (λi=>[(1,.ptr 0 0 0),(2,.ptr 1 0 0),(3,.ptr 2 0 0),(9,.int .i64 x.nM),(11,.int .i64 i)])
       (λi=>[xh x,rh,some (.row 4 [[.slice 3 0 x.nM none,slN 4 i,mVn 4 i,.nilslice]]),some (.row 4 (List.replicate x.k a3x++[mR0,mR1]++gg.map Nd.enc))]++[]++nmH i++mHn x 4 i) (λi=>x.nM-i) (λi=>i<=x.nM) 0 ?_ (f2i _) ?_ ?_
      ·(simp+decide only[go_sem,a01,a00,hm,a70,c0j,d6n,d6o,a07,a0f,e12]<;>rfl)
      ·intro i _;cases i with
       |zero=>(simp+decide only[go_sem,a01,a00,hm,a70,c0j,d6n,d6o,a07,a0f,e12]<;>rfl)
       |succ i=>(simp+decide only[go_sem,a01,a00,hm,a4p,b3c,c9m,c9n,a07,a0f,a1a,a1q,e12]<;>rfl)
      ·intro i hi;by_cases ai:i<x.nM
       ·have c1:(i:Int)<x.nM:=by omega
        have hw:=wI1 (n:=i) (by omega);have af:=λH=>a7b (d:=true) H i (by omega);have aD:i+1<=1000000000:=by omega
        cases i with
        |zero=>
         (repeat first|simp only[ww]|apply xa;simp+decide only[go_sem,hm,c1,hw,af,a70,c0j,d6n,d6o];rfl;kernel_rfl)
         refine a1m 1 ?_ (by omega) (by omega)
         (simp+decide only[go_sem,a01,a00,hm,a4p,b3c,c9m,c9n,a07,a0f,nm1,e12]<;>rfl)
        |succ i=>
         have aD:i+1+1<=1000000000:=by omega
         (repeat first|simp only[ww]|apply xa;simp+decide only[go_sem,hm,c1,hw,af,a4p,b3c,c9m,c9n,aD,f3b];rfl;kernel_rfl)
         refine a1m (i+1+1) ?_ (by omega) (by omega)
         (simp+decide only[go_sem,a01,a00,hm,a4p,b3c,c9m,c9n,a07,a0f,a1a,a1q,b1t,e12]<;>rfl)
       have dA:i=x.nM:=by omega
       subst dA;have c1:¬(x.nM:Int)<x.nM:=by omega
       obtain⟨n',dZ⟩:∃n',x.nM=n'+1:=⟨x.nM-1,by omega⟩
       have e1:slN 4 x.nM = .slice 4 0 x.nM none:=by rw[dZ];rfl
       have e2:nmH x.nM=[some (.row 1 ((List.range x.nM).map nmR))]:=by rw[dZ];rfl
       have e3:mVn 4 x.nM = .slice 5 0 1 (some 1):=by rw[dZ];rfl
       have e4:mHn x 4 x.nM=mH x 5:=by rw[dZ];rfl
       rw[e1,e2,e3,e4]
       (repeat first|simp only[ww]|apply xa;simp+decide only[go_sem,hm,c1,mH];rfl;kernel_rfl)
       -- the outputs
       refine a1g (σ:=Nat) kp10_10 (λi=>[(1,.ptr 0 0 0),(2,.ptr 1 0 0),(3,.ptr 2 0 0),(9,.int .i64 x.nM),(12,.int .i64 i)])
        (λi=>[xh x,rh,some (.row 4 [[.slice 3 0 x.nM none,.slice 4 0 x.nM none,.slice 5 0 1 (some 1),slN 8 i]]),some (.row 4 (List.replicate x.k a3x++[mR0,mR1]++gg.map Nd.enc))]++[]++[some (.row 1 ((List.range x.nM).map nmR))]++mH x 5++e62 x i) (λi=>3-i) (λi=>i<=3∧i<=x.outs.length) 0 ?_ ⟨by omega,by omega⟩ ?_ ?_
       ·(simp+decide only[go_sem,a01,a00,hm,a70,b31,mH,a07,a0f,a1a,a1q,e12]<;>rfl)
       ·intro i _;cases i with
        |zero=>(simp+decide only[go_sem,a01,a00,hm,a70,b31,mH,a07,a0f,a1a,a1q,e12]<;>rfl)
        |succ i=>(simp+decide only[go_sem,a01,a00,hm,a4p,a8d,mH,a07,a0f,a1a,a1q,a5x,a82,e12]<;>rfl)
       ·intro i hi;by_cases ai:i<3∧i<x.outs.length
        ·obtain⟨o,ho⟩:∃o,x.outs[i]?=some o:=⟨_,z9e ai.2⟩
         have cE:=x6 o (c11 ho);have wo:=wI (n:=o) (by omega);have c1:(i:Int)<x.outs.length:=by omega
         have ei:i<x.outs.length:=by omega
         have c2:(i:Int)<3:=by omega
         have hw:=wI1 (n:=i) (by omega);have ht:=a1b ho;have dE:(x.outs.take i).length=i:=by rw[f2z];omega
         cases i with
         |zero=>
          (repeat first|simp only[ww]|apply xa;simp+decide only[go_sem,hm,c1,ei,c2,hw,ho,wo,bD,a70,b31,mH];rfl;kernel_rfl)
          refine a1m 1 ?_ (by omega) ⟨by omega,by omega⟩
          (simp+decide only[go_sem,a01,a00,hm,a4p,a8d,mH,a07,a0f,a1a,a1q,ht,f2j,e12]<;>rfl)
         |succ i=>
          have aD:i+1+1<=1000000000:=by omega
          (repeat first|simp only[ww]|apply xa;simp+decide only[go_sem,hm,c1,ei,c2,hw,ho,wo,bD,a4p,a8d,mH,aD,dE];rfl;kernel_rfl)
          refine a1m (i+1+1) ?_ (by omega) ⟨by omega,by omega⟩
          (simp+decide only[go_sem,a01,a00,hm,a4p,a8d,mH,a07,a0f,a1a,a1q,a5x,a82,ht,e12]<;>rfl)
        have ko:x.outs.take i=x.outs.take 3:=by
         by_cases h3:i=3
         ·rw[h3]
         ·rw[f1k (by omega),f1k (by omega)]
        have bQ:(x.outs.take i).length=i:=by rw[f2z];omega
        have ff:IntKind.i64.wrap ((x.nM:Int)-1)=((x.nM-1:Nat):Int):=by rw[w64 (by omega) (by omega)];omega
        have dG:x.cirM=⟨some none,List.replicate x.k b0p++[mNd 0,mNd 1]++gg,some none,(List.range x.nM).map a1l,some none,(x.outs.take i).map (·% x.nM)++[x.nM-1]⟩:=by rw[ko,<-hG];simp[CX.cirM,CX.nodesM,CX.dnM,CX.outNM,mN,hd]
        rw[dG];have cT:x.nM<=x.k+2+gg.length:=by omega
        have bY:x.k+2+gg.length<=x.nM:=by omega
        cases i with
        |zero=>
         have c1:¬((0:Nat):Int)<x.outs.length:=by omega
         (repeat first|simp only[ww]|apply xa;simp+decide only[go_sem,hm,c1,a70,b31,mH,ff,bQ];rfl;kernel_rfl)
         (apply fqb;simp+decide only[go_sem,hm,a5v,a88,a87,a86,a26,f7c,bQ,b0p,a4n,mNd,a85,a2x,a8s,a4b,cT,bY,f3b,f2q,a83,f2j]<;>rfl)
        |succ i=>
         have aD:i+1+1<=1000000000:=by omega
         rcases f6u (i+1) x.outs.length with g1|g1
         all_goals first
         |(have c1:((i+1:Nat):Int)<x.outs.length:=(by omega);have c2:¬((i+1:Nat):Int)<3:=(by omega);(repeat first|simp only[ww]|apply xa;simp+decide only[go_sem,hm,c1,c2,a4p,a8d,mH,aD,ff,bQ];rfl;kernel_rfl))
         |(have c1:¬((i+1:Nat):Int)<x.outs.length:=(by omega);(repeat first|simp only[ww]|apply xa;simp+decide only[go_sem,hm,c1,a4p,a8d,mH,aD,ff,bQ];rfl;kernel_rfl))
         all_goals (apply fqb;simp+decide only[go_sem,hm,a5v,a88,a87,a86,a26,f7c,bQ,b0p,a4n,mNd,a85,a2x,a8s,a4b,cT,bY,f3b,f2q,a83]<;>rfl)
theorem e1d(x:CX)(hx:x.ok)(mj:x.p0<256)(dw:x.p1<256)(cB:x.p2<256)(tt:x.p3<256)(hm:x.mem=true)(hd:x.d=1) :
 sM 10 [.agg x.enc] []=some (.agg (a2x x.cirM x.memA),[]):=by
 obtain⟨x1,x2,x3,x4,x5,x6⟩:=hx;have lG:x.inn%4+1=x.k:=rfl;have jy:x.dffs%3=1:=hd;have kk:x.k<=4:=by unfold CX.k;omega
 have kp:0<x.k:=by unfold CX.k;omega
 have gl:x.gs.length<=8:=by unfold CX.gs;rw[f2z];omega
 have w4:=wI (n:=x.inn%4) (by omega);have w3:=wI (n:=x.dffs%3) (by omega);obtain⟨k',fC⟩:∃k',x.k=k'+1:=⟨x.k-1,by omega⟩
 (refine sv Tryz.f10 ?_;simp only[Tryz.f10,gS])
 (repeat first|simp only[ww]|apply xa;simp+decide only[go_sem];rfl;kernel_rfl)
 -- the inputs
 refine a1g (σ:=Nat) kp10_0 (λi=>[(1,.ptr 0 0 0),(2,.ptr 1 0 0),(3,.ptr 2 0 0),(4,.int .i64 i)])
  (λi=>[xh x,rh,some (.row 4 [[nV i,.nilslice,.nilslice,.nilslice]])]++nH i) (λi=>x.k-i) (λi=>i<=x.k) 0 ?_ (f2i _) ?_ ?_
 ·(simp+decide only[go_sem,a01,a00,nV0,nH0]<;>rfl)
 ·intro i _;cases i with
  |zero=>((simp+decide only[go_sem,a01,a00,nV0,nH0]<;>rfl))
  |succ i=>((simp+decide only[go_sem,a01,a00,nVs,nHs]<;>rfl))
 ·intro i hi;by_cases ai:i<x.k
  ·have c1:(i:Int)<=((x.inn%4:Nat):Int):=by omega
   have hw:=wI1 (n:=i) (by omega);cases i with
   |zero=>
    (repeat first|simp only[ww]|apply xa;simp+decide only[go_sem,w4,c1,hw,nV0,nH0];rfl;kernel_rfl)
    refine a1m 1 ?_ (by omega) (by omega)
    ((simp+decide only[go_sem,a01,a00,nVs,nHs]<;>rfl))
   |succ i=>
    have aD:i+1+1<=1000000000:=by omega
    (repeat first|simp only[ww]|apply xa;simp+decide only[go_sem,w4,c1,hw,nVs,nHs,aD,a2i];rfl;kernel_rfl)
    refine a1m (i+1+1) ?_ (by omega) (by omega)
    ((simp+decide only[go_sem,a01,a00,nVs,nHs,a2i]<;>rfl))
  have im:i=x.k:=by omega
  subst im;have c1:¬((x.k:Nat):Int)<=((x.inn%4:Nat):Int):=by omega
  have jP:nV x.k = .slice 3 0 x.k none:=by rw[fC];rfl
  have jQ:nH x.k=[some (.row 4 (List.replicate x.k a3x))]:=by rw[fC];rfl
  rw[jP,jQ]
  (repeat first|simp only[ww]|apply xa;simp+decide only[go_sem,w4,w3,c1,jy];rfl;kernel_rfl)
  -- the flip-flops
  refine a1g (σ:=Nat) kp10_2 (λi=>[(1,.ptr 0 0 0),(2,.ptr 1 0 0),(3,.ptr 2 0 0),(5,.int .i64 x.k),(6,.int .i64 1),(7,.int .i64 i)])
   (λi=>match i with|0=>[xh x,rh,some (.row 4 [[.slice 3 0 (x.k+0) none,.nilslice,.nilslice,.nilslice]]),some (.row 4 (List.replicate x.k a3x++[]))]++[]|_=>[xh x,rh,some (.row 4 [[.slice 3 0 (x.k+1) none,.nilslice,.nilslice,.nilslice]]),some (.row 4 (List.replicate x.k a3x++[dR 4]))]++[one 0]) (λi=>1-i) (λi=>i<=1) 0 ?_ (f2i _) ?_ ?_
  ·(simp+decide only[go_sem,a01,a00]<;>rfl)
  ·intro i hi;by_cases bV:i=0
   ·subst bV
    ((simp+decide only[go_sem,a01,a00]<;>rfl))
   obtain rfl:i=1:=by omega
   ((simp+decide only[go_sem,a01,a00]<;>rfl))
  ·intro i hi;by_cases bV:i=0
   ·subst bV;have aD:x.k+0+1<=1000000000:=by omega
    have hw:=wI1 (n:=0) (by omega)
    (repeat first|simp only[ww]|apply xa;simp+decide only[go_sem,aD,a2i,hw];rfl;kernel_rfl)
    refine a1m 1 ?_ (by omega) (by omega)
    ((simp+decide only[go_sem,a01,a00,e12]<;>rfl))
   obtain rfl:i=1:=by omega
   have j9:x.k+1+1+1<=1000000000:=by omega
   have kb:x.k+1+2<=1000000000:=by omega
   (repeat first|simp only[ww]|apply xa;simp+decide only[go_sem,hm,kb,j9];rfl;kernel_rfl)
   -- the gates
   refine a1g (σ:=Nat) kp10_4 (λi=>[(1,.ptr 0 0 0),(2,.ptr 1 0 0),(3,.ptr 2 0 0),(5,.int .i64 x.k),(6,.int .i64 1),(8,.int .i64 i)])
    (λi=>[xh x,rh,some (.row 4 [[.slice 3 0 (x.k+3+i) none,.nilslice,.nilslice,.nilslice]]),some (.row 4 (List.replicate x.k a3x++[dR 4,mR0,mR1]++(gN x.bus x.baseM (x.gates.take i)).map Nd.enc))]++[one 0]) (λi=>x.gs.length-i) (λi=>i<=x.gs.length) 0 ?_ (f2i _) ?_ ?_
   ·(simp+decide only[go_sem,a01,a00,hm,f2j,b7x,e12]<;>rfl)
   ·intro i _
    (simp+decide only[go_sem,a01,a00,hm,a07,a0f,e12]<;>rfl)
   ·intro i hi;have eJ:x.gs.length=min 8 x.gates.length:=by unfold CX.gs;rw[f2z]
    by_cases ai:i<x.gs.length
    ·obtain⟨g,hg⟩:∃g,x.gates[i]?=some g:=⟨_,z9e (by omega)⟩
     have c1:(i:Int)<x.gates.length:=by omega
     have ei:i<x.gates.length:=by omega
     have c2:(i:Int)<8:=by omega
     have hw:=wI1 (n:=i) (by omega);have fv:g.ok:=x5 g (c11 hg);have ed:(gN x.bus x.baseM (x.gates.take i)).length=i:=by rw[a2f,f2z];omega
     have hs:=b0e x.bus g (x.gates.take i) x.baseM;rw[<-a1b hg]at hs;have af:=b7v (d:=true) x g fv (mN++gN x.bus x.baseM (x.gates.take i)) x.k (x.k+3+i) kp (by rw[f2n,ed];show _=_+(2+i);omega) (by omega) (xh x) rh (some (.row 4 [[.slice 3 0 (x.k+3+i) none,.nilslice,.nilslice,.nilslice]]));rw[show List.replicate x.k 0++List.replicate 1 14++(mN++gN x.bus x.baseM (x.gates.take i)).map Nd.kind=x.baseM++(gN x.bus x.baseM (x.gates.take i)).map Nd.kind by show _=x.base++[15,15]++_;unfold CX.base;rw[hd];simp[mN,mNd]]at af;generalize a0k x.bus g (x.baseM++(gN x.bus x.baseM (x.gates.take i)).map Nd.kind)=nd at af hs;simp+decide only[go_sem,hm,e12,d1y]at af;have aD:x.k+3+i+1<=1000000000:=by omega
     have ak:decide (x.k+3+i=x.k+(i+1+1+1))=true:=f4m (by omega)
     (repeat first|simp only[ww]|apply xa;simp+decide only[go_sem,hm,c1,ei,c2,hw,hg,af,aD,ak,e12,ed];rfl;kernel_rfl)
     refine a1m (i+1) ?_ (by omega) (by omega);rw[hs]
     (simp+decide only[go_sem,a01,a00,hm,a07,a0f,e12]<;>rfl)
    have dA:i=x.gs.length:=by omega
    subst dA;rw[x.gs_take];have ed:(gN x.bus x.baseM x.gs).length=x.gs.length:=a2f _ _ _;have bG:x.nM=x.k+3+x.gs.length:=by unfold CX.nM;omega
    rw[<-bG];generalize hG:gN x.bus x.baseM x.gs=gg at ed;have po:0<x.nM:=by omega
    have dH:x.nM<=16:=by omega
    have bD:¬(x.nM:Int)=0:=by omega
    have gH:¬((x.gs.length:Int)<x.gates.length∧(x.gs.length:Int)<8):=by omega
    -- the guard of the loop's end is decided in either case
    have dB:∀F,F=[(1,AV.ptr 0 0 0),(2,.ptr 1 0 0),(3,.ptr 2 0 0),(5,.int .i64 x.k),(6,.int .i64 1),(8,.int .i64 x.gs.length)]->True:=λ_ _=>trivial;rcases f6u x.gs.length x.gates.length with g1|g1
    all_goals first
    |(have c1:(x.gs.length:Int)<x.gates.length:=(by omega);have c2:¬(x.gs.length:Int)<8:=(by omega);(repeat first|simp only[ww]|apply xa;simp+decide only[go_sem,c1,c2,hm];rfl;kernel_rfl))
    |(have c1:¬(x.gs.length:Int)<x.gates.length:=(by omega);(repeat first|simp only[ww]|apply xa;simp+decide only[go_sem,c1,hm];rfl;kernel_rfl))
    all_goals
     -- the flip-flops' data
     refine a1g (σ:=Nat) kp10_6 (λi=>[(1,.ptr 0 0 0),(2,.ptr 1 0 0),(3,.ptr 2 0 0),(5,.int .i64 x.k),(6,.int .i64 1),(9,.int .i64 x.nM),(10,.int .i64 i)])
      (λi=>match i with|0=>[xh x,rh,some (.row 4 [[.slice 3 0 x.nM none,.nilslice,.nilslice,.nilslice]]),some (.row 4 (List.replicate x.k a3x++[dR 4,mR0,mR1]++gg.map Nd.enc))]++[one 0]|_=>[xh x,rh,some (.row 4 [[.slice 3 0 x.nM none,.nilslice,.nilslice,.nilslice]]),some (.row 4 (List.replicate x.k a3x++[dR 4,mR0,mR1]++gg.map Nd.enc))]++[one (x.d0%x.nM)]) (λi=>1-i) (λi=>i<=1) 0 ?_ (f2i _) ?_ ?_
     ·(simp+decide only[go_sem,a01,a00,hm,a07,a0f,e12]<;>rfl)
     ·intro i hi;by_cases bV:i=0
      ·subst bV
       (simp+decide only[go_sem,a01,a00,hm,a07,a0f,e12]<;>rfl)
      obtain rfl:i=1:=by omega
      (simp+decide only[go_sem,a01,a00,hm,a07,a0f,e12]<;>rfl)
     ·intro i hi;by_cases bV:i=0
      ·subst bV;have hw:=wI1 (n:=0) (by omega);have jW:IntKind.i64.wrap ((x.k:Int)+(((0:Nat)):Int))=((x.k+0:Nat):Int):=by rw[w64 (by omega) (by omega)];omega
       have fg:IntKind.i64.wrap ((x.k:Int)+0)=((x.k+0:Nat):Int):=by rw[w64 (by omega) (by omega)];omega
       have wd:=wI (n:=x.d0) (by omega);have bw:x.k+0<x.nM:=by omega
       have fm:x.k<x.nM:=by omega
       (repeat first|simp only[ww]|apply xa;simp+decide only[go_sem,hm,hw,jW,fg,wd,bD,bw,fm,b1x,a9o,b1k,a9d,e12];rfl;kernel_rfl)
       refine a1m 1 ?_ (by omega) (by omega)
       (simp+decide only[go_sem,a01,a00,hm,a07,a0f,e12]<;>rfl)
      obtain rfl:i=1:=by omega
      have oI:=wI (n:=x.p0) (by omega);have oH:=wI (n:=x.p1) (by omega);have oG:=wI (n:=x.p2) (by omega);have oF:=wI (n:=x.p3) (by omega)
      (repeat first|simp only[ww]|apply xa;simp+decide only[go_sem,hm,bD,oI,oH,oG,oF];rfl;kernel_rfl)
      -- the names
      refine a1g (σ:=Nat) kp10_8 (λi=>[(1,.ptr 0 0 0),(2,.ptr 1 0 0),(3,.ptr 2 0 0),(9,.int .i64 x.nM),(11,.int .i64 i)])
       (λi=>[xh x,rh,some (.row 4 [[.slice 3 0 x.nM none,slN 5 i,mVn 5 i,.nilslice]]),some (.row 4 (List.replicate x.k a3x++[dR 4,mR0,mR1]++gg.map Nd.enc))]++[one (x.d0%x.nM)]++nmH i++mHn x 5 i) (λi=>x.nM-i) (λi=>i<=x.nM) 0 ?_ (f2i _) ?_ ?_
      ·(simp+decide only[go_sem,a01,a00,hm,a70,c0j,d6n,d6o,a07,a0f,e12]<;>rfl)
      ·intro i _;cases i with
       |zero=>(simp+decide only[go_sem,a01,a00,hm,a70,c0j,d6n,d6o,a07,a0f,e12]<;>rfl)
       |succ i=>(simp+decide only[go_sem,a01,a00,hm,a4p,b3c,c9m,c9n,a07,a0f,a1a,a1q,e12]<;>rfl)
      ·intro i hi;by_cases ai:i<x.nM
       ·have c1:(i:Int)<x.nM:=by omega
        have hw:=wI1 (n:=i) (by omega);have af:=λH=>a7b (d:=true) H i (by omega);have aD:i+1<=1000000000:=by omega
        cases i with
        |zero=>
         (repeat first|simp only[ww]|apply xa;simp+decide only[go_sem,hm,c1,hw,af,a70,c0j,d6n,d6o];rfl;kernel_rfl)
         refine a1m 1 ?_ (by omega) (by omega)
         (simp+decide only[go_sem,a01,a00,hm,a4p,b3c,c9m,c9n,a07,a0f,nm1,e12]<;>rfl)
        |succ i=>
         have aD:i+1+1<=1000000000:=by omega
         (repeat first|simp only[ww]|apply xa;simp+decide only[go_sem,hm,c1,hw,af,a4p,b3c,c9m,c9n,aD,f3b];rfl;kernel_rfl)
         refine a1m (i+1+1) ?_ (by omega) (by omega)
         (simp+decide only[go_sem,a01,a00,hm,a4p,b3c,c9m,c9n,a07,a0f,a1a,a1q,b1t,e12]<;>rfl)
       have dA:i=x.nM:=by omega
       subst dA;have c1:¬(x.nM:Int)<x.nM:=by omega
       obtain⟨n',dZ⟩:∃n',x.nM=n'+1:=⟨x.nM-1,by omega⟩
       have e1:slN 5 x.nM = .slice 5 0 x.nM none:=by rw[dZ];rfl
       have e2:nmH x.nM=[some (.row 1 ((List.range x.nM).map nmR))]:=by rw[dZ];rfl
       have e3:mVn 5 x.nM = .slice 6 0 1 (some 1):=by rw[dZ];rfl
       have e4:mHn x 5 x.nM=mH x 6:=by rw[dZ];rfl
       rw[e1,e2,e3,e4]
       (repeat first|simp only[ww]|apply xa;simp+decide only[go_sem,hm,c1,mH];rfl;kernel_rfl)
       -- the outputs
       refine a1g (σ:=Nat) kp10_10 (λi=>[(1,.ptr 0 0 0),(2,.ptr 1 0 0),(3,.ptr 2 0 0),(9,.int .i64 x.nM),(12,.int .i64 i)])
        (λi=>[xh x,rh,some (.row 4 [[.slice 3 0 x.nM none,.slice 5 0 x.nM none,.slice 6 0 1 (some 1),slN 9 i]]),some (.row 4 (List.replicate x.k a3x++[dR 4,mR0,mR1]++gg.map Nd.enc))]++[one (x.d0%x.nM)]++[some (.row 1 ((List.range x.nM).map nmR))]++mH x 6++e62 x i) (λi=>3-i) (λi=>i<=3∧i<=x.outs.length) 0 ?_ ⟨by omega,by omega⟩ ?_ ?_
       ·(simp+decide only[go_sem,a01,a00,hm,a70,b31,mH,a07,a0f,a1a,a1q,e12]<;>rfl)
       ·intro i _;cases i with
        |zero=>(simp+decide only[go_sem,a01,a00,hm,a70,b31,mH,a07,a0f,a1a,a1q,e12]<;>rfl)
        |succ i=>(simp+decide only[go_sem,a01,a00,hm,a4p,a8d,mH,a07,a0f,a1a,a1q,a5x,a82,e12]<;>rfl)
       ·intro i hi;by_cases ai:i<3∧i<x.outs.length
        ·obtain⟨o,ho⟩:∃o,x.outs[i]?=some o:=⟨_,z9e ai.2⟩
         have cE:=x6 o (c11 ho);have wo:=wI (n:=o) (by omega);have c1:(i:Int)<x.outs.length:=by omega
         have ei:i<x.outs.length:=by omega
         have c2:(i:Int)<3:=by omega
         have hw:=wI1 (n:=i) (by omega);have ht:=a1b ho;have dE:(x.outs.take i).length=i:=by rw[f2z];omega
         cases i with
         |zero=>
          (repeat first|simp only[ww]|apply xa;simp+decide only[go_sem,hm,c1,ei,c2,hw,ho,wo,bD,a70,b31,mH];rfl;kernel_rfl)
          refine a1m 1 ?_ (by omega) ⟨by omega,by omega⟩
          (simp+decide only[go_sem,a01,a00,hm,a4p,a8d,mH,a07,a0f,a1a,a1q,ht,f2j,e12]<;>rfl)
         |succ i=>
          have aD:i+1+1<=1000000000:=by omega
          (repeat first|simp only[ww]|apply xa;simp+decide only[go_sem,hm,c1,ei,c2,hw,ho,wo,bD,a4p,a8d,mH,aD,dE];rfl;kernel_rfl)
          refine a1m (i+1+1) ?_ (by omega) ⟨by omega,by omega⟩
          (simp+decide only[go_sem,a01,a00,hm,a4p,a8d,mH,a07,a0f,a1a,a1q,a5x,a82,ht,e12]<;>rfl)
        have ko:x.outs.take i=x.outs.take 3:=by
         by_cases h3:i=3
         ·rw[h3]
         ·rw[f1k (by omega),f1k (by omega)]
        have bQ:(x.outs.take i).length=i:=by rw[f2z];omega
        have ff:IntKind.i64.wrap ((x.nM:Int)-1)=((x.nM-1:Nat):Int):=by rw[w64 (by omega) (by omega)];omega
        have dG:x.cirM=⟨some none,List.replicate x.k b0p++[a4n (x.d0%x.nM),mNd 0,mNd 1]++gg,some none,(List.range x.nM).map a1l,some none,(x.outs.take i).map (·% x.nM)++[x.nM-1]⟩:=by rw[ko,<-hG];simp[CX.cirM,CX.nodesM,CX.dnM,CX.outNM,mN,hd]
        rw[dG];have cT:x.nM<=x.k+3+gg.length:=by omega
        have bY:x.k+3+gg.length<=x.nM:=by omega
        cases i with
        |zero=>
         have c1:¬((0:Nat):Int)<x.outs.length:=by omega
         (repeat first|simp only[ww]|apply xa;simp+decide only[go_sem,hm,c1,a70,b31,mH,ff,bQ];rfl;kernel_rfl)
         (apply fqb;simp+decide only[go_sem,hm,a5v,a88,a87,a86,a26,f7c,bQ,b0p,a4n,mNd,a85,a2x,a8s,a4b,cT,bY,f3b,f2q,a83,f2j]<;>rfl)
        |succ i=>
         have aD:i+1+1<=1000000000:=by omega
         rcases f6u (i+1) x.outs.length with g1|g1
         all_goals first
         |(have c1:((i+1:Nat):Int)<x.outs.length:=(by omega);have c2:¬((i+1:Nat):Int)<3:=(by omega);(repeat first|simp only[ww]|apply xa;simp+decide only[go_sem,hm,c1,c2,a4p,a8d,mH,aD,ff,bQ];rfl;kernel_rfl))
         |(have c1:¬((i+1:Nat):Int)<x.outs.length:=(by omega);(repeat first|simp only[ww]|apply xa;simp+decide only[go_sem,hm,c1,a4p,a8d,mH,aD,ff,bQ];rfl;kernel_rfl))
         all_goals (apply fqb;simp+decide only[go_sem,hm,a5v,a88,a87,a86,a26,f7c,bQ,b0p,a4n,mNd,a85,a2x,a8s,a4b,cT,bY,f3b,f2q,a83]<;>rfl)
theorem e1c(x:CX)(hx:x.ok)(mj:x.p0<256)(dw:x.p1<256)(cB:x.p2<256)(tt:x.p3<256)(hm:x.mem=true)(hd:x.d=2) :
 sM 10 [.agg x.enc] []=some (.agg (a2x x.cirM x.memA),[]):=by
 obtain⟨x1,x2,x3,x4,x5,x6⟩:=hx;have lG:x.inn%4+1=x.k:=rfl;have jy:x.dffs%3=2:=hd;have kk:x.k<=4:=by unfold CX.k;omega
 have kp:0<x.k:=by unfold CX.k;omega
 have gl:x.gs.length<=8:=by unfold CX.gs;rw[f2z];omega
 have w4:=wI (n:=x.inn%4) (by omega);have w3:=wI (n:=x.dffs%3) (by omega);obtain⟨k',fC⟩:∃k',x.k=k'+1:=⟨x.k-1,by omega⟩
 (refine sv Tryz.f10 ?_;simp only[Tryz.f10,gS])
 (repeat first|simp only[ww]|apply xa;simp+decide only[go_sem];rfl;kernel_rfl)
 -- the inputs
 refine a1g (σ:=Nat) kp10_0 (λi=>[(1,.ptr 0 0 0),(2,.ptr 1 0 0),(3,.ptr 2 0 0),(4,.int .i64 i)])
  (λi=>[xh x,rh,some (.row 4 [[nV i,.nilslice,.nilslice,.nilslice]])]++nH i) (λi=>x.k-i) (λi=>i<=x.k) 0 ?_ (f2i _) ?_ ?_
 ·(simp+decide only[go_sem,a01,a00,nV0,nH0]<;>rfl)
 ·intro i _;cases i with
  |zero=>((simp+decide only[go_sem,a01,a00,nV0,nH0]<;>rfl))
  |succ i=>((simp+decide only[go_sem,a01,a00,nVs,nHs]<;>rfl))
 ·intro i hi;by_cases ai:i<x.k
  ·have c1:(i:Int)<=((x.inn%4:Nat):Int):=by omega
   have hw:=wI1 (n:=i) (by omega);cases i with
   |zero=>
    (repeat first|simp only[ww]|apply xa;simp+decide only[go_sem,w4,c1,hw,nV0,nH0];rfl;kernel_rfl)
    refine a1m 1 ?_ (by omega) (by omega)
    ((simp+decide only[go_sem,a01,a00,nVs,nHs]<;>rfl))
   |succ i=>
    have aD:i+1+1<=1000000000:=by omega
    (repeat first|simp only[ww]|apply xa;simp+decide only[go_sem,w4,c1,hw,nVs,nHs,aD,a2i];rfl;kernel_rfl)
    refine a1m (i+1+1) ?_ (by omega) (by omega)
    ((simp+decide only[go_sem,a01,a00,nVs,nHs,a2i]<;>rfl))
  have im:i=x.k:=by omega
  subst im;have c1:¬((x.k:Nat):Int)<=((x.inn%4:Nat):Int):=by omega
  have jP:nV x.k = .slice 3 0 x.k none:=by rw[fC];rfl
  have jQ:nH x.k=[some (.row 4 (List.replicate x.k a3x))]:=by rw[fC];rfl
  rw[jP,jQ]
  (repeat first|simp only[ww]|apply xa;simp+decide only[go_sem,w4,w3,c1,jy];rfl;kernel_rfl)
  -- the flip-flops
  refine a1g (σ:=Nat) kp10_2 (λi=>[(1,.ptr 0 0 0),(2,.ptr 1 0 0),(3,.ptr 2 0 0),(5,.int .i64 x.k),(6,.int .i64 2),(7,.int .i64 i)])
   (λi=>match i with|0=>[xh x,rh,some (.row 4 [[.slice 3 0 (x.k+0) none,.nilslice,.nilslice,.nilslice]]),some (.row 4 (List.replicate x.k a3x++[]))]++[]|1=>[xh x,rh,some (.row 4 [[.slice 3 0 (x.k+1) none,.nilslice,.nilslice,.nilslice]]),some (.row 4 (List.replicate x.k a3x++[dR 4]))]++[one 0]|_=>[xh x,rh,some (.row 4 [[.slice 3 0 (x.k+2) none,.nilslice,.nilslice,.nilslice]]),some (.row 4 (List.replicate x.k a3x++[dR 4,dR 5]))]++[one 0,one 0]) (λi=>2-i) (λi=>i<=2) 0 ?_ (f2i _) ?_ ?_
  ·(simp+decide only[go_sem,a01,a00]<;>rfl)
  ·intro i hi;by_cases bV:i=0
   ·subst bV
    ((simp+decide only[go_sem,a01,a00]<;>rfl))
   by_cases fH:i=1
   ·subst fH
    ((simp+decide only[go_sem,a01,a00]<;>rfl))
   obtain rfl:i=2:=by omega
   ((simp+decide only[go_sem,a01,a00]<;>rfl))
  ·intro i hi;by_cases bV:i=0
   ·subst bV;have aD:x.k+0+1<=1000000000:=by omega
    have hw:=wI1 (n:=0) (by omega)
    (repeat first|simp only[ww]|apply xa;simp+decide only[go_sem,aD,a2i,hw];rfl;kernel_rfl)
    refine a1m 1 ?_ (by omega) (by omega)
    ((simp+decide only[go_sem,a01,a00,e12]<;>rfl))
   by_cases fH:i=1
   ·subst fH;have aD:x.k+1+1<=1000000000:=by omega
    have hw:=wI1 (n:=1) (by omega)
    (repeat first|simp only[ww]|apply xa;simp+decide only[go_sem,aD,a2i,hw];rfl;kernel_rfl)
    refine a1m 2 ?_ (by omega) (by omega)
    ((simp+decide only[go_sem,a01,a00,e12]<;>rfl))
   obtain rfl:i=2:=by omega
   have j9:x.k+2+1+1<=1000000000:=by omega
   have kb:x.k+2+2<=1000000000:=by omega
   (repeat first|simp only[ww]|apply xa;simp+decide only[go_sem,hm,kb,j9];rfl;kernel_rfl)
   -- the gates
   refine a1g (σ:=Nat) kp10_4 (λi=>[(1,.ptr 0 0 0),(2,.ptr 1 0 0),(3,.ptr 2 0 0),(5,.int .i64 x.k),(6,.int .i64 2),(8,.int .i64 i)])
    (λi=>[xh x,rh,some (.row 4 [[.slice 3 0 (x.k+4+i) none,.nilslice,.nilslice,.nilslice]]),some (.row 4 (List.replicate x.k a3x++[dR 4,dR 5,mR0,mR1]++(gN x.bus x.baseM (x.gates.take i)).map Nd.enc))]++[one 0,one 0]) (λi=>x.gs.length-i) (λi=>i<=x.gs.length) 0 ?_ (f2i _) ?_ ?_
   ·(simp+decide only[go_sem,a01,a00,hm,f2j,b7x,e12]<;>rfl)
   ·intro i _
    (simp+decide only[go_sem,a01,a00,hm,a07,a0f,e12]<;>rfl)
   ·intro i hi;have eJ:x.gs.length=min 8 x.gates.length:=by unfold CX.gs;rw[f2z]
    by_cases ai:i<x.gs.length
    ·obtain⟨g,hg⟩:∃g,x.gates[i]?=some g:=⟨_,z9e (by omega)⟩
     have c1:(i:Int)<x.gates.length:=by omega
     have ei:i<x.gates.length:=by omega
     have c2:(i:Int)<8:=by omega
     have hw:=wI1 (n:=i) (by omega);have fv:g.ok:=x5 g (c11 hg);have ed:(gN x.bus x.baseM (x.gates.take i)).length=i:=by rw[a2f,f2z];omega
     have hs:=b0e x.bus g (x.gates.take i) x.baseM;rw[<-a1b hg]at hs;have af:=b7u (d:=true) x g fv (mN++gN x.bus x.baseM (x.gates.take i)) x.k (x.k+4+i) kp (by rw[f2n,ed];show _=_+(2+i);omega) (by omega) (xh x) rh (some (.row 4 [[.slice 3 0 (x.k+4+i) none,.nilslice,.nilslice,.nilslice]]));rw[show List.replicate x.k 0++List.replicate 2 14++(mN++gN x.bus x.baseM (x.gates.take i)).map Nd.kind=x.baseM++(gN x.bus x.baseM (x.gates.take i)).map Nd.kind by show _=x.base++[15,15]++_;unfold CX.base;rw[hd];simp[mN,mNd]]at af;generalize a0k x.bus g (x.baseM++(gN x.bus x.baseM (x.gates.take i)).map Nd.kind)=nd at af hs;simp+decide only[go_sem,hm,e12,d1y]at af;have aD:x.k+4+i+1<=1000000000:=by omega
     have ak:decide (x.k+4+i=x.k+(i+1+1+1+1))=true:=f4m (by omega)
     (repeat first|simp only[ww]|apply xa;simp+decide only[go_sem,hm,c1,ei,c2,hw,hg,af,aD,ak,e12,ed];rfl;kernel_rfl)
     refine a1m (i+1) ?_ (by omega) (by omega);rw[hs]
     (simp+decide only[go_sem,a01,a00,hm,a07,a0f,e12]<;>rfl)
    have dA:i=x.gs.length:=by omega
    subst dA;rw[x.gs_take];have ed:(gN x.bus x.baseM x.gs).length=x.gs.length:=a2f _ _ _;have bG:x.nM=x.k+4+x.gs.length:=by unfold CX.nM;omega
    rw[<-bG];generalize hG:gN x.bus x.baseM x.gs=gg at ed;have po:0<x.nM:=by omega
    have dH:x.nM<=16:=by omega
    have bD:¬(x.nM:Int)=0:=by omega
    have gH:¬((x.gs.length:Int)<x.gates.length∧(x.gs.length:Int)<8):=by omega
    -- the guard of the loop's end is decided in either case
    have dB:∀F,F=[(1,AV.ptr 0 0 0),(2,.ptr 1 0 0),(3,.ptr 2 0 0),(5,.int .i64 x.k),(6,.int .i64 2),(8,.int .i64 x.gs.length)]->True:=λ_ _=>trivial;rcases f6u x.gs.length x.gates.length with g1|g1
    all_goals first
    |(have c1:(x.gs.length:Int)<x.gates.length:=(by omega);have c2:¬(x.gs.length:Int)<8:=(by omega);(repeat first|simp only[ww]|apply xa;simp+decide only[go_sem,c1,c2,hm];rfl;kernel_rfl))
    |(have c1:¬(x.gs.length:Int)<x.gates.length:=(by omega);(repeat first|simp only[ww]|apply xa;simp+decide only[go_sem,c1,hm];rfl;kernel_rfl))
    all_goals
     -- the flip-flops' data
     refine a1g (σ:=Nat) kp10_6 (λi=>[(1,.ptr 0 0 0),(2,.ptr 1 0 0),(3,.ptr 2 0 0),(5,.int .i64 x.k),(6,.int .i64 2),(9,.int .i64 x.nM),(10,.int .i64 i)])
      (λi=>match i with|0=>[xh x,rh,some (.row 4 [[.slice 3 0 x.nM none,.nilslice,.nilslice,.nilslice]]),some (.row 4 (List.replicate x.k a3x++[dR 4,dR 5,mR0,mR1]++gg.map Nd.enc))]++[one 0,one 0]|1=>[xh x,rh,some (.row 4 [[.slice 3 0 x.nM none,.nilslice,.nilslice,.nilslice]]),some (.row 4 (List.replicate x.k a3x++[dR 4,dR 5,mR0,mR1]++gg.map Nd.enc))]++[one (x.d0%x.nM),one 0]|_=>[xh x,rh,some (.row 4 [[.slice 3 0 x.nM none,.nilslice,.nilslice,.nilslice]]),some (.row 4 (List.replicate x.k a3x++[dR 4,dR 5,mR0,mR1]++gg.map Nd.enc))]++[one (x.d0%x.nM),one (x.d1%x.nM)]) (λi=>2-i) (λi=>i<=2) 0 ?_ (f2i _) ?_ ?_
     ·(simp+decide only[go_sem,a01,a00,hm,a07,a0f,e12]<;>rfl)
     ·intro i hi;by_cases bV:i=0
      ·subst bV
       (simp+decide only[go_sem,a01,a00,hm,a07,a0f,e12]<;>rfl)
      by_cases fH:i=1
      ·subst fH
       (simp+decide only[go_sem,a01,a00,hm,a07,a0f,e12]<;>rfl)
      obtain rfl:i=2:=by omega
      (simp+decide only[go_sem,a01,a00,hm,a07,a0f,e12]<;>rfl)
     ·intro i hi;by_cases bV:i=0
      ·subst bV;have hw:=wI1 (n:=0) (by omega);have jW:IntKind.i64.wrap ((x.k:Int)+(((0:Nat)):Int))=((x.k+0:Nat):Int):=by rw[w64 (by omega) (by omega)];omega
       have fg:IntKind.i64.wrap ((x.k:Int)+0)=((x.k+0:Nat):Int):=by rw[w64 (by omega) (by omega)];omega
       have wd:=wI (n:=x.d0) (by omega);have bw:x.k+0<x.nM:=by omega
       have fm:x.k<x.nM:=by omega
       (repeat first|simp only[ww]|apply xa;simp+decide only[go_sem,hm,hw,jW,fg,wd,bD,bw,fm,b1x,a9o,b1k,a9d,e12];rfl;kernel_rfl)
       refine a1m 1 ?_ (by omega) (by omega)
       (simp+decide only[go_sem,a01,a00,hm,a07,a0f,e12]<;>rfl)
      by_cases fH:i=1
      ·subst fH;have hw:=wI1 (n:=1) (by omega);have jW:IntKind.i64.wrap ((x.k:Int)+(((1:Nat)):Int))=((x.k+1:Nat):Int):=by rw[w64 (by omega) (by omega)];omega
       have fg:IntKind.i64.wrap ((x.k:Int)+1)=((x.k+1:Nat):Int):=by rw[w64 (by omega) (by omega)];omega
       have wd:=wI (n:=x.d1) (by omega);have bw:x.k+1<x.nM:=by omega
       have fm:x.k<x.nM:=by omega
       (repeat first|simp only[ww]|apply xa;simp+decide only[go_sem,hm,hw,jW,fg,wd,bD,bw,fm,b1x,a9o,b1k,a9d,e12];rfl;kernel_rfl)
       refine a1m 2 ?_ (by omega) (by omega)
       (simp+decide only[go_sem,a01,a00,hm,a07,a0f,e12]<;>rfl)
      obtain rfl:i=2:=by omega
      have oI:=wI (n:=x.p0) (by omega);have oH:=wI (n:=x.p1) (by omega);have oG:=wI (n:=x.p2) (by omega);have oF:=wI (n:=x.p3) (by omega)
      (repeat first|simp only[ww]|apply xa;simp+decide only[go_sem,hm,bD,oI,oH,oG,oF];rfl;kernel_rfl)
      -- the names
      refine a1g (σ:=Nat) kp10_8 (λi=>[(1,.ptr 0 0 0),(2,.ptr 1 0 0),(3,.ptr 2 0 0),(9,.int .i64 x.nM),(11,.int .i64 i)])
       (λi=>[xh x,rh,some (.row 4 [[.slice 3 0 x.nM none,slN 6 i,mVn 6 i,.nilslice]]),some (.row 4 (List.replicate x.k a3x++[dR 4,dR 5,mR0,mR1]++gg.map Nd.enc))]++[one (x.d0%x.nM),one (x.d1%x.nM)]++nmH i++mHn x 6 i) (λi=>x.nM-i) (λi=>i<=x.nM) 0 ?_ (f2i _) ?_ ?_
      ·(simp+decide only[go_sem,a01,a00,hm,a70,c0j,d6n,d6o,a07,a0f,e12]<;>rfl)
      ·intro i _;cases i with
       |zero=>(simp+decide only[go_sem,a01,a00,hm,a70,c0j,d6n,d6o,a07,a0f,e12]<;>rfl)
       |succ i=>(simp+decide only[go_sem,a01,a00,hm,a4p,b3c,c9m,c9n,a07,a0f,a1a,a1q,e12]<;>rfl)
      ·intro i hi;by_cases ai:i<x.nM
       ·have c1:(i:Int)<x.nM:=by omega
        have hw:=wI1 (n:=i) (by omega);have af:=λH=>a7b (d:=true) H i (by omega);have aD:i+1<=1000000000:=by omega
        cases i with
        |zero=>
         (repeat first|simp only[ww]|apply xa;simp+decide only[go_sem,hm,c1,hw,af,a70,c0j,d6n,d6o];rfl;kernel_rfl)
         refine a1m 1 ?_ (by omega) (by omega)
         (simp+decide only[go_sem,a01,a00,hm,a4p,b3c,c9m,c9n,a07,a0f,nm1,e12]<;>rfl)
        |succ i=>
         have aD:i+1+1<=1000000000:=by omega
         (repeat first|simp only[ww]|apply xa;simp+decide only[go_sem,hm,c1,hw,af,a4p,b3c,c9m,c9n,aD,f3b];rfl;kernel_rfl)
         refine a1m (i+1+1) ?_ (by omega) (by omega)
         (simp+decide only[go_sem,a01,a00,hm,a4p,b3c,c9m,c9n,a07,a0f,a1a,a1q,b1t,e12]<;>rfl)
       have dA:i=x.nM:=by omega
       subst dA;have c1:¬(x.nM:Int)<x.nM:=by omega
       obtain⟨n',dZ⟩:∃n',x.nM=n'+1:=⟨x.nM-1,by omega⟩
       have e1:slN 6 x.nM = .slice 6 0 x.nM none:=by rw[dZ];rfl
       have e2:nmH x.nM=[some (.row 1 ((List.range x.nM).map nmR))]:=by rw[dZ];rfl
       have e3:mVn 6 x.nM = .slice 7 0 1 (some 1):=by rw[dZ];rfl
       have e4:mHn x 6 x.nM=mH x 7:=by rw[dZ];rfl
       rw[e1,e2,e3,e4]
       (repeat first|simp only[ww]|apply xa;simp+decide only[go_sem,hm,c1,mH];rfl;kernel_rfl)
       -- the outputs
       refine a1g (σ:=Nat) kp10_10 (λi=>[(1,.ptr 0 0 0),(2,.ptr 1 0 0),(3,.ptr 2 0 0),(9,.int .i64 x.nM),(12,.int .i64 i)])
        (λi=>[xh x,rh,some (.row 4 [[.slice 3 0 x.nM none,.slice 6 0 x.nM none,.slice 7 0 1 (some 1),slN 10 i]]),some (.row 4 (List.replicate x.k a3x++[dR 4,dR 5,mR0,mR1]++gg.map Nd.enc))]++[one (x.d0%x.nM),one (x.d1%x.nM)]++[some (.row 1 ((List.range x.nM).map nmR))]++mH x 7++e62 x i) (λi=>3-i) (λi=>i<=3∧i<=x.outs.length) 0 ?_ ⟨by omega,by omega⟩ ?_ ?_
       ·(simp+decide only[go_sem,a01,a00,hm,a70,b31,mH,a07,a0f,a1a,a1q,e12]<;>rfl)
       ·intro i _;cases i with
        |zero=>(simp+decide only[go_sem,a01,a00,hm,a70,b31,mH,a07,a0f,a1a,a1q,e12]<;>rfl)
        |succ i=>(simp+decide only[go_sem,a01,a00,hm,a4p,a8d,mH,a07,a0f,a1a,a1q,a5x,a82,e12]<;>rfl)
       ·intro i hi;by_cases ai:i<3∧i<x.outs.length
        ·obtain⟨o,ho⟩:∃o,x.outs[i]?=some o:=⟨_,z9e ai.2⟩
         have cE:=x6 o (c11 ho);have wo:=wI (n:=o) (by omega);have c1:(i:Int)<x.outs.length:=by omega
         have ei:i<x.outs.length:=by omega
         have c2:(i:Int)<3:=by omega
         have hw:=wI1 (n:=i) (by omega);have ht:=a1b ho;have dE:(x.outs.take i).length=i:=by rw[f2z];omega
         cases i with
         |zero=>
          (repeat first|simp only[ww]|apply xa;simp+decide only[go_sem,hm,c1,ei,c2,hw,ho,wo,bD,a70,b31,mH];rfl;kernel_rfl)
          refine a1m 1 ?_ (by omega) ⟨by omega,by omega⟩
          (simp+decide only[go_sem,a01,a00,hm,a4p,a8d,mH,a07,a0f,a1a,a1q,ht,f2j,e12]<;>rfl)
         |succ i=>
          have aD:i+1+1<=1000000000:=by omega
          (repeat first|simp only[ww]|apply xa;simp+decide only[go_sem,hm,c1,ei,c2,hw,ho,wo,bD,a4p,a8d,mH,aD,dE];rfl;kernel_rfl)
          refine a1m (i+1+1) ?_ (by omega) ⟨by omega,by omega⟩
          (simp+decide only[go_sem,a01,a00,hm,a4p,a8d,mH,a07,a0f,a1a,a1q,a5x,a82,ht,e12]<;>rfl)
        have ko:x.outs.take i=x.outs.take 3:=by
         by_cases h3:i=3
         ·rw[h3]
         ·rw[f1k (by omega),f1k (by omega)]
        have bQ:(x.outs.take i).length=i:=by rw[f2z];omega
        have ff:IntKind.i64.wrap ((x.nM:Int)-1)=((x.nM-1:Nat):Int):=by rw[w64 (by omega) (by omega)];omega
        have dG:x.cirM=⟨some none,List.replicate x.k b0p++[a4n (x.d0%x.nM),a4n (x.d1%x.nM),mNd 0,mNd 1]++gg,some none,(List.range x.nM).map a1l,some none,(x.outs.take i).map (·% x.nM)++[x.nM-1]⟩:=by rw[ko,<-hG];simp[CX.cirM,CX.nodesM,CX.dnM,CX.outNM,mN,hd]
        rw[dG];have cT:x.nM<=x.k+4+gg.length:=by omega
        have bY:x.k+4+gg.length<=x.nM:=by omega
        cases i with
        |zero=>
         have c1:¬((0:Nat):Int)<x.outs.length:=by omega
         (repeat first|simp only[ww]|apply xa;simp+decide only[go_sem,hm,c1,a70,b31,mH,ff,bQ];rfl;kernel_rfl)
         (apply fqb;simp+decide only[go_sem,hm,a5v,a88,a87,a86,a26,f7c,bQ,b0p,a4n,mNd,a85,a2x,a8s,a4b,cT,bY,f3b,f2q,a83,f2j]<;>rfl)
        |succ i=>
         have aD:i+1+1<=1000000000:=by omega
         rcases f6u (i+1) x.outs.length with g1|g1
         all_goals first
         |(have c1:((i+1:Nat):Int)<x.outs.length:=(by omega);have c2:¬((i+1:Nat):Int)<3:=(by omega);(repeat first|simp only[ww]|apply xa;simp+decide only[go_sem,hm,c1,c2,a4p,a8d,mH,aD,ff,bQ];rfl;kernel_rfl))
         |(have c1:¬((i+1:Nat):Int)<x.outs.length:=(by omega);(repeat first|simp only[ww]|apply xa;simp+decide only[go_sem,hm,c1,a4p,a8d,mH,aD,ff,bQ];rfl;kernel_rfl))
         all_goals (apply fqb;simp+decide only[go_sem,hm,a5v,a88,a87,a86,a26,f7c,bQ,b0p,a4n,mNd,a85,a2x,a8s,a4b,cT,bY,f3b,f2q,a83]<;>rfl)
end Go.UInst
