/- The evaluator's tables for this program (printed by mkinst.py). -/
import Derived.Test.YtmiegcjnimlbmaaGreatDoorAxC
import Derived.Test.YtmiegcjnimlbmaaGreatDoorChecked
import Derived.KernelRfl
import Derived.Test.YtmiegcjnimlbmaaGreatDoorAxD
import Derived.Test.YtmiegcjnimlbmaaGreatDoorPcP
set_option linter.unusedSimpArgs false
set_option linter.unusedVariables false
namespace Go.UInst
open Go.Proofs Go.Ax
set_option maxRecDepth 100000
def b7h(k:IntKind)(l:List Int):List AV:=l.map (.int k)
noncomputable def TT:Tab TypeInfo:=(.node (.node (.node (.node (.node (.node (.node (.node (.node .nil 0 Tryz.t0 .nil) 1 Tryz.t1 .nil) 2 Tryz.t2 (.node .nil 3 Tryz.t3 .nil)) 4 Tryz.t4 (.node (.node (.node .nil 5 Tryz.t5 .nil) 6 Tryz.t6 .nil) 7 Tryz.t7 (.node .nil 8 Tryz.t8 .nil))) 9 Tryz.t9 (.node (.node (.node (.node .nil 10 Tryz.t10 .nil) 11 Tryz.t11 .nil) 12 Tryz.t12 (.node .nil 13 Tryz.t13 .nil)) 14 Tryz.t14 (.node (.node (.node .nil 15 Tryz.t15 .nil) 16 Tryz.t16 .nil) 17 Tryz.t17 (.node .nil 18 Tryz.t18 .nil)))) 19 Tryz.t19 (.node (.node (.node (.node (.node .nil 20 Tryz.t20 .nil) 21 Tryz.t21 .nil) 22 Tryz.t22 (.node .nil 23 Tryz.t23 .nil)) 24 Tryz.t24 (.node (.node (.node .nil 25 Tryz.t25 .nil) 26 Tryz.t26 .nil) 27 Tryz.t27 (.node .nil 28 Tryz.t28 .nil))) 29 Tryz.t29 (.node (.node (.node (.node .nil 30 Tryz.t30 .nil) 31 Tryz.t31 .nil) 32 Tryz.t32 (.node .nil 33 Tryz.t33 .nil)) 34 Tryz.t34 (.node (.node (.node .nil 35 Tryz.t35 .nil) 36 Tryz.t36 .nil) 37 Tryz.t37 (.node .nil 38 Tryz.t38 .nil))))) 39 Tryz.t39 (.node (.node (.node (.node (.node (.node .nil 40 Tryz.t40 .nil) 41 Tryz.t41 .nil) 42 Tryz.t42 (.node .nil 43 Tryz.t43 .nil)) 44 Tryz.t44 (.node (.node (.node .nil 45 Tryz.t45 .nil) 46 Tryz.t46 .nil) 47 Tryz.t47 (.node .nil 48 Tryz.t48 .nil))) 49 Tryz.t49 (.node (.node (.node (.node .nil 50 Tryz.t50 .nil) 51 Tryz.t51 .nil) 52 Tryz.t52 (.node .nil 53 Tryz.t53 .nil)) 54 Tryz.t54 (.node (.node (.node .nil 55 Tryz.t55 .nil) 56 Tryz.t56 .nil) 57 Tryz.t57 (.node .nil 58 Tryz.t58 .nil)))) 59 Tryz.t59 (.node (.node (.node (.node (.node .nil 60 Tryz.t60 .nil) 61 Tryz.t61 .nil) 62 Tryz.t62 (.node .nil 63 Tryz.t63 .nil)) 64 Tryz.t64 (.node (.node (.node .nil 65 Tryz.t65 .nil) 66 Tryz.t66 .nil) 67 Tryz.t67 (.node .nil 68 Tryz.t68 .nil))) 69 Tryz.t69 (.node (.node (.node (.node .nil 70 Tryz.t70 .nil) 71 Tryz.t71 .nil) 72 Tryz.t72 (.node .nil 73 Tryz.t73 .nil)) 74 Tryz.t74 (.node (.node .nil 75 Tryz.t75 .nil) 76 Tryz.t76 (.node .nil 77 Tryz.t77 .nil)))))) 78 Tryz.t78 (.node (.node (.node (.node (.node (.node (.node .nil 79 Tryz.t79 .nil) 80 Tryz.t80 .nil) 81 Tryz.t81 (.node .nil 82 Tryz.t82 .nil)) 83 Tryz.t83 (.node (.node (.node .nil 84 Tryz.t84 .nil) 85 Tryz.t85 .nil) 86 Tryz.t86 (.node .nil 87 Tryz.t87 .nil))) 88 Tryz.t88 (.node (.node (.node (.node .nil 89 Tryz.t89 .nil) 90 Tryz.t90 .nil) 91 Tryz.t91 (.node .nil 92 Tryz.t92 .nil)) 93 Tryz.t93 (.node (.node (.node .nil 94 Tryz.t94 .nil) 95 Tryz.t95 .nil) 96 Tryz.t96 (.node .nil 97 Tryz.t97 .nil)))) 98 Tryz.t98 (.node (.node (.node (.node (.node .nil 99 Tryz.t99 .nil) 100 Tryz.t100 .nil) 101 Tryz.t101 (.node .nil 102 Tryz.t102 .nil)) 103 Tryz.t103 (.node (.node (.node .nil 104 Tryz.t104 .nil) 105 Tryz.t105 .nil) 106 Tryz.t106 (.node .nil 107 Tryz.t107 .nil))) 108 Tryz.t108 (.node (.node (.node (.node .nil 109 Tryz.t109 .nil) 110 Tryz.t110 .nil) 111 Tryz.t111 (.node .nil 112 Tryz.t112 .nil)) 113 Tryz.t113 (.node (.node (.node .nil 114 Tryz.t114 .nil) 115 Tryz.t115 .nil) 116 Tryz.t116 (.node .nil 117 Tryz.t117 .nil))))) 118 Tryz.t118 (.node (.node (.node (.node (.node (.node .nil 119 Tryz.t119 .nil) 120 Tryz.t120 .nil) 121 Tryz.t121 (.node .nil 122 Tryz.t122 .nil)) 123 Tryz.t123 (.node (.node (.node .nil 124 Tryz.t124 .nil) 125 Tryz.t125 .nil) 126 Tryz.t126 (.node .nil 127 Tryz.t127 .nil))) 128 Tryz.t128 (.node (.node (.node (.node .nil 129 Tryz.t129 .nil) 130 Tryz.t130 .nil) 131 Tryz.t131 (.node .nil 132 Tryz.t132 .nil)) 133 Tryz.t133 (.node (.node (.node .nil 134 Tryz.t134 .nil) 135 Tryz.t135 .nil) 136 Tryz.t136 (.node .nil 137 Tryz.t137 .nil)))) 138 Tryz.t138 (.node (.node (.node (.node (.node .nil 139 Tryz.t139 .nil) 140 Tryz.t140 .nil) 141 Tryz.t141 (.node .nil 142 Tryz.t142 .nil)) 143 Tryz.t143 (.node (.node (.node .nil 144 Tryz.t144 .nil) 145 Tryz.t145 .nil) 146 Tryz.t146 (.node .nil 147 Tryz.t147 .nil))) 148 Tryz.t148 (.node (.node (.node (.node .nil 149 Tryz.t149 .nil) 150 Tryz.t150 .nil) 151 Tryz.t151 (.node .nil 152 Tryz.t152 .nil)) 153 Tryz.t153 (.node (.node .nil 154 Tryz.t154 .nil) 155 Tryz.t155 (.node .nil 156 Tryz.t156 .nil))))))) 157 Tryz.t157 (.node (.node (.node (.node (.node (.node (.node (.node .nil 158 Tryz.t158 .nil) 159 Tryz.t159 .nil) 160 Tryz.t160 (.node .nil 161 Tryz.t161 .nil)) 162 Tryz.t162 (.node (.node (.node .nil 163 Tryz.t163 .nil) 164 Tryz.t164 .nil) 165 Tryz.t165 (.node .nil 166 Tryz.t166 .nil))) 167 Tryz.t167 (.node (.node (.node (.node .nil 168 Tryz.t168 .nil) 169 Tryz.t169 .nil) 170 Tryz.t170 (.node .nil 171 Tryz.t171 .nil)) 172 Tryz.t172 (.node (.node (.node .nil 173 Tryz.t173 .nil) 174 Tryz.t174 .nil) 175 Tryz.t175 (.node .nil 176 Tryz.t176 .nil)))) 177 Tryz.t177 (.node (.node (.node (.node (.node .nil 178 Tryz.t178 .nil) 179 Tryz.t179 .nil) 180 Tryz.t180 (.node .nil 181 Tryz.t181 .nil)) 182 Tryz.t182 (.node (.node (.node .nil 183 Tryz.t183 .nil) 184 Tryz.t184 .nil) 185 Tryz.t185 (.node .nil 186 Tryz.t186 .nil))) 187 Tryz.t187 (.node (.node (.node (.node .nil 188 Tryz.t188 .nil) 189 Tryz.t189 .nil) 190 Tryz.t190 (.node .nil 191 Tryz.t191 .nil)) 192 Tryz.t192 (.node (.node (.node .nil 193 Tryz.t193 .nil) 194 Tryz.t194 .nil) 195 Tryz.t195 (.node .nil 196 Tryz.t196 .nil))))) 197 Tryz.t197 (.node (.node (.node (.node (.node (.node .nil 198 Tryz.t198 .nil) 199 Tryz.t199 .nil) 200 Tryz.t200 (.node .nil 201 Tryz.t201 .nil)) 202 Tryz.t202 (.node (.node (.node .nil 203 Tryz.t203 .nil) 204 Tryz.t204 .nil) 205 Tryz.t205 (.node .nil 206 Tryz.t206 .nil))) 207 Tryz.t207 (.node (.node (.node (.node .nil 208 Tryz.t208 .nil) 209 Tryz.t209 .nil) 210 Tryz.t210 (.node .nil 211 Tryz.t211 .nil)) 212 Tryz.t212 (.node (.node (.node .nil 213 Tryz.t213 .nil) 214 Tryz.t214 .nil) 215 Tryz.t215 (.node .nil 216 Tryz.t216 .nil)))) 217 Tryz.t217 (.node (.node (.node (.node (.node .nil 218 Tryz.t218 .nil) 219 Tryz.t219 .nil) 220 Tryz.t220 (.node .nil 221 Tryz.t221 .nil)) 222 Tryz.t222 (.node (.node (.node .nil 223 Tryz.t223 .nil) 224 Tryz.t224 .nil) 225 Tryz.t225 (.node .nil 226 Tryz.t226 .nil))) 227 Tryz.t227 (.node (.node (.node (.node .nil 228 Tryz.t228 .nil) 229 Tryz.t229 .nil) 230 Tryz.t230 (.node .nil 231 Tryz.t231 .nil)) 232 Tryz.t232 (.node (.node .nil 233 Tryz.t233 .nil) 234 Tryz.t234 (.node .nil 235 Tryz.t235 .nil)))))) 236 Tryz.t236 (.node (.node (.node (.node (.node (.node (.node .nil 237 Tryz.t237 .nil) 238 Tryz.t238 .nil) 239 Tryz.t239 (.node .nil 240 Tryz.t240 .nil)) 241 Tryz.t241 (.node (.node (.node .nil 242 Tryz.t242 .nil) 243 Tryz.t243 .nil) 244 Tryz.t244 (.node .nil 245 Tryz.t245 .nil))) 246 Tryz.t246 (.node (.node (.node (.node .nil 247 Tryz.t247 .nil) 248 Tryz.t248 .nil) 249 Tryz.t249 (.node .nil 250 Tryz.t250 .nil)) 251 Tryz.t251 (.node (.node (.node .nil 252 Tryz.t252 .nil) 253 Tryz.t253 .nil) 254 Tryz.t254 (.node .nil 255 Tryz.t255 .nil)))) 256 Tryz.t256 (.node (.node (.node (.node (.node .nil 257 Tryz.t257 .nil) 258 Tryz.t258 .nil) 259 Tryz.t259 (.node .nil 260 Tryz.t260 .nil)) 261 Tryz.t261 (.node (.node (.node .nil 262 Tryz.t262 .nil) 263 Tryz.t263 .nil) 264 Tryz.t264 (.node .nil 265 Tryz.t265 .nil))) 266 Tryz.t266 (.node (.node (.node (.node .nil 267 Tryz.t267 .nil) 268 Tryz.t268 .nil) 269 Tryz.t269 (.node .nil 270 Tryz.t270 .nil)) 271 Tryz.t271 (.node (.node .nil 272 Tryz.t272 .nil) 273 Tryz.t273 (.node .nil 274 Tryz.t274 .nil))))) 275 Tryz.t275 (.node (.node (.node (.node (.node (.node .nil 276 Tryz.t276 .nil) 277 Tryz.t277 .nil) 278 Tryz.t278 (.node .nil 279 Tryz.t279 .nil)) 280 Tryz.t280 (.node (.node (.node .nil 281 Tryz.t281 .nil) 282 Tryz.t282 .nil) 283 Tryz.t283 (.node .nil 284 Tryz.t284 .nil))) 285 Tryz.t285 (.node (.node (.node (.node .nil 286 Tryz.t286 .nil) 287 Tryz.t287 .nil) 288 Tryz.t288 (.node .nil 289 Tryz.t289 .nil)) 290 Tryz.t290 (.node (.node (.node .nil 291 Tryz.t291 .nil) 292 Tryz.t292 .nil) 293 Tryz.t293 (.node .nil 294 Tryz.t294 .nil)))) 295 Tryz.t295 (.node (.node (.node (.node (.node .nil 296 Tryz.t296 .nil) 297 Tryz.t297 .nil) 298 Tryz.t298 (.node .nil 299 Tryz.t299 .nil)) 300 Tryz.t300 (.node (.node (.node .nil 301 Tryz.t301 .nil) 302 Tryz.t302 .nil) 303 Tryz.t303 (.node .nil 304 Tryz.t304 .nil))) 305 Tryz.t305 (.node (.node (.node (.node .nil 306 Tryz.t306 .nil) 307 Tryz.t307 .nil) 308 Tryz.t308 (.node .nil 309 Tryz.t309 .nil)) 310 Tryz.t310 (.node (.node .nil 311 Tryz.t311 .nil) 312 Tryz.t312 (.node .nil 313 Tryz.t313 .nil))))))))
noncomputable def FT:Tab Func:=(.node (.node (.node (.node (.node (.node (.node (.node (.node .nil 0 Tryz.f0 .nil) 1 Tryz.f1 .nil) 2 Tryz.f2 (.node .nil 3 Tryz.f3 .nil)) 4 Tryz.f4 (.node (.node .nil 5 Tryz.f5 .nil) 6 Tryz.f6 (.node .nil 7 Tryz.f7 .nil))) 8 Tryz.f8 (.node (.node (.node .nil 9 Tryz.f9 .nil) 10 Tryz.f10 (.node .nil 11 Tryz.f11 .nil)) 12 Tryz.f12 (.node (.node .nil 13 Tryz.f13 .nil) 14 Tryz.f14 (.node .nil 15 Tryz.f15 .nil)))) 16 Tryz.f16 (.node (.node (.node (.node (.node .nil 17 Tryz.f17 .nil) 18 Tryz.f18 .nil) 19 Tryz.f19 (.node .nil 20 Tryz.f20 .nil)) 21 Tryz.f21 (.node (.node .nil 22 Tryz.f22 .nil) 23 Tryz.f23 (.node .nil 24 Tryz.f24 .nil))) 25 Tryz.f25 (.node (.node (.node .nil 26 Tryz.f26 .nil) 27 Tryz.f27 (.node .nil 28 Tryz.f28 .nil)) 29 Tryz.f29 (.node (.node .nil 30 Tryz.f30 .nil) 31 Tryz.f31 (.node .nil 32 Tryz.f32 .nil))))) 33 Tryz.f33 (.node (.node (.node (.node (.node (.node .nil 34 Tryz.f34 .nil) 35 Tryz.f35 .nil) 36 Tryz.f36 (.node .nil 37 Tryz.f37 .nil)) 38 Tryz.f38 (.node (.node .nil 39 Tryz.f39 .nil) 40 Tryz.f40 (.node .nil 41 Tryz.f41 .nil))) 42 Tryz.f42 (.node (.node (.node .nil 43 Tryz.f43 .nil) 44 Tryz.f44 (.node .nil 45 Tryz.f45 .nil)) 46 Tryz.f46 (.node (.node .nil 47 Tryz.f47 .nil) 48 Tryz.f48 (.node .nil 49 Tryz.f49 .nil)))) 50 Tryz.f50 (.node (.node (.node (.node .nil 51 Tryz.f51 .nil) 52 Tryz.f52 (.node .nil 53 Tryz.f53 .nil)) 54 Tryz.f54 (.node (.node .nil 55 Tryz.f55 .nil) 56 Tryz.f56 (.node .nil 57 Tryz.f57 .nil))) 58 Tryz.f58 (.node (.node (.node .nil 59 Tryz.f59 .nil) 60 Tryz.f60 (.node .nil 61 Tryz.f61 .nil)) 62 Tryz.f62 (.node (.node .nil 63 Tryz.f63 .nil) 64 Tryz.f64 (.node .nil 65 Tryz.f65 .nil)))))) 66 Tryz.f66 (.node (.node (.node (.node (.node (.node (.node .nil 67 Tryz.f67 .nil) 68 Tryz.f68 .nil) 69 Tryz.f69 (.node .nil 70 Tryz.f70 .nil)) 71 Tryz.f71 (.node (.node .nil 72 Tryz.f72 .nil) 73 Tryz.f73 (.node .nil 74 Tryz.f74 .nil))) 75 Tryz.f75 (.node (.node (.node .nil 76 Tryz.f76 .nil) 77 Tryz.f77 (.node .nil 78 Tryz.f78 .nil)) 79 Tryz.f79 (.node (.node .nil 80 Tryz.f80 .nil) 81 Tryz.f81 (.node .nil 82 Tryz.f82 .nil)))) 83 Tryz.f83 (.node (.node (.node (.node .nil 84 Tryz.f84 .nil) 85 Tryz.f85 (.node .nil 86 Tryz.f86 .nil)) 87 Tryz.f87 (.node (.node .nil 88 Tryz.f88 .nil) 89 Tryz.f89 (.node .nil 90 Tryz.f90 .nil))) 91 Tryz.f91 (.node (.node (.node .nil 92 Tryz.f92 .nil) 93 Tryz.f93 (.node .nil 94 Tryz.f94 .nil)) 95 Tryz.f95 (.node (.node .nil 96 Tryz.f96 .nil) 97 Tryz.f97 (.node .nil 98 Tryz.f98 .nil))))) 99 Tryz.f99 (.node (.node (.node (.node (.node (.node .nil 100 Tryz.f100 .nil) 101 Tryz.f101 .nil) 102 Tryz.f102 (.node .nil 103 Tryz.f103 .nil)) 104 Tryz.f104 (.node (.node .nil 105 Tryz.f105 .nil) 106 Tryz.f106 (.node .nil 107 Tryz.f107 .nil))) 108 Tryz.f108 (.node (.node (.node .nil 109 Tryz.f109 .nil) 110 Tryz.f110 (.node .nil 111 Tryz.f111 .nil)) 112 Tryz.f112 (.node (.node .nil 113 Tryz.f113 .nil) 114 Tryz.f114 (.node .nil 115 Tryz.f115 .nil)))) 116 Tryz.f116 (.node (.node (.node (.node .nil 117 Tryz.f117 .nil) 118 Tryz.f118 (.node .nil 119 Tryz.f119 .nil)) 120 Tryz.f120 (.node (.node .nil 121 Tryz.f121 .nil) 122 Tryz.f122 (.node .nil 123 Tryz.f123 .nil))) 124 Tryz.f124 (.node (.node (.node .nil 125 Tryz.f125 .nil) 126 Tryz.f126 (.node .nil 127 Tryz.f127 .nil)) 128 Tryz.f128 (.node (.node .nil 129 Tryz.f129 .nil) 130 Tryz.f130 (.node .nil 131 Tryz.f131 .nil))))))) 132 Tryz.f132 (.node (.node (.node (.node (.node (.node (.node (.node .nil 133 Tryz.f133 .nil) 134 Tryz.f134 .nil) 135 Tryz.f135 (.node .nil 136 Tryz.f136 .nil)) 137 Tryz.f137 (.node (.node .nil 138 Tryz.f138 .nil) 139 Tryz.f139 (.node .nil 140 Tryz.f140 .nil))) 141 Tryz.f141 (.node (.node (.node .nil 142 Tryz.f142 .nil) 143 Tryz.f143 (.node .nil 144 Tryz.f144 .nil)) 145 Tryz.f145 (.node (.node .nil 146 Tryz.f146 .nil) 147 Tryz.f147 (.node .nil 148 Tryz.f148 .nil)))) 149 Tryz.f149 (.node (.node (.node (.node (.node .nil 150 Tryz.f150 .nil) 151 Tryz.f151 .nil) 152 Tryz.f152 (.node .nil 153 Tryz.f153 .nil)) 154 Tryz.f154 (.node (.node .nil 155 Tryz.f155 .nil) 156 Tryz.f156 (.node .nil 157 Tryz.f157 .nil))) 158 Tryz.f158 (.node (.node (.node .nil 159 Tryz.f159 .nil) 160 Tryz.f160 (.node .nil 161 Tryz.f161 .nil)) 162 Tryz.f162 (.node (.node .nil 163 Tryz.f163 .nil) 164 Tryz.f164 (.node .nil 165 Tryz.f165 .nil))))) 166 Tryz.f166 (.node (.node (.node (.node (.node (.node .nil 167 Tryz.f167 .nil) 168 Tryz.f168 .nil) 169 Tryz.f169 (.node .nil 170 Tryz.f170 .nil)) 171 Tryz.f171 (.node (.node .nil 172 Tryz.f172 .nil) 173 Tryz.f173 (.node .nil 174 Tryz.f174 .nil))) 175 Tryz.f175 (.node (.node (.node .nil 176 Tryz.f176 .nil) 177 Tryz.f177 (.node .nil 178 Tryz.f178 .nil)) 179 Tryz.f179 (.node (.node .nil 180 Tryz.f180 .nil) 181 Tryz.f181 (.node .nil 182 Tryz.f182 .nil)))) 183 Tryz.f183 (.node (.node (.node (.node .nil 184 Tryz.f184 .nil) 185 Tryz.f185 (.node .nil 186 Tryz.f186 .nil)) 187 Tryz.f187 (.node (.node .nil 188 Tryz.f188 .nil) 189 Tryz.f189 (.node .nil 190 Tryz.f190 .nil))) 191 Tryz.f191 (.node (.node (.node .nil 192 Tryz.f192 .nil) 193 Tryz.f193 (.node .nil 194 Tryz.f194 .nil)) 195 Tryz.f195 (.node (.node .nil 196 Tryz.f196 .nil) 197 Tryz.f197 (.node .nil 198 Tryz.f198 .nil)))))) 199 Tryz.f199 (.node (.node (.node (.node (.node (.node (.node .nil 200 Tryz.f200 .nil) 201 Tryz.f201 .nil) 202 Tryz.f202 (.node .nil 203 Tryz.f203 .nil)) 204 Tryz.f204 (.node (.node .nil 205 Tryz.f205 .nil) 206 Tryz.f206 (.node .nil 207 Tryz.f207 .nil))) 208 Tryz.f208 (.node (.node (.node .nil 209 Tryz.f209 .nil) 210 Tryz.f210 (.node .nil 211 Tryz.f211 .nil)) 212 Tryz.f212 (.node (.node .nil 213 Tryz.f213 .nil) 214 Tryz.f214 (.node .nil 215 Tryz.f215 .nil)))) 216 Tryz.f216 (.node (.node (.node (.node .nil 217 Tryz.f217 .nil) 218 Tryz.f218 (.node .nil 219 Tryz.f219 .nil)) 220 Tryz.f220 (.node (.node .nil 221 Tryz.f221 .nil) 222 Tryz.f222 (.node .nil 223 Tryz.f223 .nil))) 224 Tryz.f224 (.node (.node (.node .nil 225 Tryz.f225 .nil) 226 Tryz.f226 (.node .nil 227 Tryz.f227 .nil)) 228 Tryz.f228 (.node (.node .nil 229 Tryz.f229 .nil) 230 Tryz.f230 (.node .nil 231 Tryz.f231 .nil))))) 232 Tryz.f232 (.node (.node (.node (.node (.node (.node .nil 233 Tryz.f233 .nil) 234 Tryz.f234 .nil) 235 Tryz.f235 (.node .nil 236 Tryz.f236 .nil)) 237 Tryz.f237 (.node (.node .nil 238 Tryz.f238 .nil) 239 Tryz.f239 (.node .nil 240 Tryz.f240 .nil))) 241 Tryz.f241 (.node (.node (.node .nil 242 Tryz.f242 .nil) 243 Tryz.f243 (.node .nil 244 Tryz.f244 .nil)) 245 Tryz.f245 (.node (.node .nil 246 Tryz.f246 .nil) 247 Tryz.f247 (.node .nil 248 Tryz.f248 .nil)))) 249 Tryz.f249 (.node (.node (.node (.node .nil 250 Tryz.f250 .nil) 251 Tryz.f251 (.node .nil 252 Tryz.f252 .nil)) 253 Tryz.f253 (.node (.node .nil 254 Tryz.f254 .nil) 255 Tryz.f255 (.node .nil 256 Tryz.f256 .nil))) 257 Tryz.f257 (.node (.node (.node .nil 258 Tryz.f258 .nil) 259 Tryz.f259 (.node .nil 260 Tryz.f260 .nil)) 261 Tryz.f261 (.node (.node .nil 262 Tryz.f262 .nil) 263 Tryz.f263 (.node .nil 264 Tryz.f264 .nil))))))))
def KT:Tab (List (Nat×List Nat)):=(.node (.node (.node (.node (.node (.node (.node .nil 3 [(0,[3,4,6,7]),(2,[3,4,6,7,8])] .nil) 4 [(0,[5,7,8,9,10,11]),(2,[5,7,8,9,10,11,12,13]),(5,[7,8,9,16,18]),(7,[7,8,9,16,18,19,20])] .nil) 5 [(0,[7,8,9,10,1000000]),(2,[7,8,9,10,11]),(4,[17,20,25,27,28])] (.node (.node .nil 6 [(0,[5,6,7,11,12]),(2,[5,6,7,12,13,16])] .nil) 7 [(0,[7,8,9,10,1000000]),(2,[7,8,9,10,11]),(4,[14,16,19])] .nil)) 8 [(0,[5,7,9,11,12,13,14])] (.node (.node (.node .nil 9 [(0,[17,19,21])] .nil) 10 [(0,[1,2,3,4]),(2,[1,2,3,5,6,7]),(4,[1,2,3,5,6,8]),(6,[1,2,3,5,6,9,10]),(8,[1,2,3,9,11]),(10,[1,2,3,9,12])] .nil) 11 [(0,[1,6,7,38,39,40]),(2,[6,7,62,63]),(4,[6,7,11,62,63])] (.node .nil 16 [(0,[1,2,5,6])] .nil))) 17 [(0,[1,2,6,10,34,35])] (.node (.node (.node (.node .nil 18 [(0,[1,3,4,29,30,31]),(2,[1,3,4,45,46,47]),(4,[1,3,4,9,61,62,63])] .nil) 23 [(0,[4,9,10,40,41,42]),(2,[4,9,10,12,13,40,41,42,59,60,61])] .nil) 25 [(0,[1,2,4,8,30,31,1000003]),(2,[1,2,4,8,11,52,53,54,1000002])] (.node .nil 26 [(1,[2,3,4,8,39,40,41]),(4,[16,17,18,82,83,84]),(6,[16,17,18,19,20,21,82,83,84,92,93,1000002]),(8,[16,17,18,19,20,82,83,84,107,108,109])] .nil)) 28 [(0,[1,3,5,7,8,9,10]),(2,[1,3,5,9,10,11,14,17])] (.node (.node (.node .nil 29 [(0,[1,5,6,25,26,27]),(2,[1,5,6,42,43,44]),(4,[1,5,6,12,42,43,44,61,62,63]),(6,[1,5,6,78,79,80])] .nil) 30 [(0,[2,3,4,5,17,18,19])] .nil) 31 [(0,[2,5,25,26,27])] (.node .nil 32 [(0,[2,3,4,6,7,8,9,10,11,12])] .nil)))) 35 [(0,[1,5,9,10,11])] (.node (.node (.node (.node (.node .nil 44 [(1,[1,2,3,7,24,25]),(3,[1,2,48,49])] .nil) 45 [(0,[1,2,7,13,14,15])] .nil) 49 [(0,[2,39,40,41])] (.node .nil 56 [(0,[7,8])] .nil)) 58 [(0,[4,6,21,22])] (.node (.node (.node .nil 60 [(0,[2,3,10,11,12]),(2,[2,3,29,30,31])] .nil) 63 [(0,[1,2,3,12,13,14]),(2,[1,2,3,29,30,31])] .nil) 65 [(0,[5,14,15,16])] (.node .nil 66 [(0,[0,1,12,13])] .nil))) 67 [(1,[8,27,28,29]),(3,[8,10,27,28,29,34,35])] (.node (.node (.node (.node .nil 75 [(1,[0,1,5,39,40,41]),(3,[1,8,63,64,65])] .nil) 84 [(0,[1,5,6,7,29,30,31]),(2,[1,5,6,7,10,11]),(4,[1,5,6,7,10,11,12,76,77,78])] .nil) 88 [(0,[0,1,7,8])] (.node .nil 90 [(0,[0,1,2,7,8])] .nil)) 91 [(0,[1,2,5,6])] (.node (.node (.node .nil 93 [(0,[0,3,9,10,11]),(2,[6,25,26,27])] .nil) 98 [(0,[0,3]),(2,[0,3,4,5])] .nil) 99 [(0,[1,2,3,4,9])] (.node .nil 100 [(0,[2,5,6]),(2,[2,5,6,45,46,47])] .nil))))) 111 [(0,[3,6,7,8])] (.node (.node (.node (.node (.node (.node .nil 120 [(0,[0,3,4,5,41,42,43]),(2,[0,3,4,5,60,61,62]),(4,[0,4,5,12,89,90,91]),(6,[0,4,5,16,143,144,145]),(8,[0,4,16,162,163,164])] .nil) 127 [(0,[0,1,2,3,9,10])] .nil) 129 [(0,[0,1,5,6])] (.node (.node .nil 132 [(0,[0,1,4,13,14,15])] .nil) 134 [(1,[1,36,37,38]),(3,[1,55,56,57])] .nil)) 135 [(0,[3,4,18,19,20]),(2,[3,4,5,18,19,20,26,27,28]),(4,[3,51,52,53])] (.node (.node (.node .nil 136 [(0,[0,1,7,8])] .nil) 138 [(0,[1,2,10])] .nil) 139 [(0,[0,1,7,8])] (.node .nil 142 [(0,[0,1,2,3,8,9])] .nil))) 146 [(0,[0,1,2,6,7,8]),(2,[0,1,2,6]),(4,[0,1,2,6,7,8])] (.node (.node (.node (.node .nil 149 [(0,[1,2,7,11,12,13])] .nil) 160 [(0,[0,1,5,16,17,18])] .nil) 164 [(0,[0,1,6,7])] (.node .nil 165 [(0,[0,1,5])] .nil)) 167 [(0,[0,1,7,8])] (.node (.node (.node .nil 169 [(0,[0,3,24,25])] .nil) 172 [(0,[3,8,9,10])] .nil) 179 [(0,[0,1,4])] (.node .nil 180 [(0,[0,1,3,4,10,11,12,13,14,15,16]),(2,[0,1,3,4,10,11,12,13,17])] .nil)))) 182 [(0,[0,1,2,6]),(2,[0,1,2,6,7])] (.node (.node (.node (.node (.node .nil 183 [(0,[0,6,7,8,9]),(2,[0,6,7,10])] .nil) 184 [(0,[0,1,6,7,8,9])] .nil) 186 [(0,[0,6,7])] (.node .nil 187 [(0,[0,1,2,7,8]),(2,[0,1,2,7,8]),(4,[0,1,2,7,8,9]),(6,[0,1,2,7,8,10])] .nil)) 189 [(0,[0,1,9,10]),(2,[0,1,9,10]),(4,[0,1,9,10])] (.node (.node (.node .nil 190 [(0,[0,1,10,11]),(2,[0,1,10,11]),(4,[0,1,10,11]),(6,[0,1,10,11]),(8,[0,1,10,11])] .nil) 193 [(0,[0,1,2,3,8]),(2,[0,1,2,3,8,9])] .nil) 194 [(0,[0,1,4,10,11]),(2,[0,10,13]),(4,[0,2,4,14,15]),(6,[0,14,17]),(8,[0,1,2,3,4,18,19,20,21,22])] (.node .nil 200 [(0,[2,4])] .nil))) 203 [(1,[0,1,5,6,7,8,9,10])] (.node (.node (.node (.node .nil 204 [(0,[0,1,7,8])] .nil) 210 [(0,[0,1,7,8])] .nil) 216 [(0,[0,2,3,8])] (.node .nil 222 [(0,[0,2,4,10,11])] .nil)) 223 [(0,[0,1,7,8])] (.node (.node (.node .nil 227 [(0,[0,1,5,6,7,8,9]),(2,[0,1,5,6,7,8,10])] .nil) 233 [(0,[0,1,2,3,10])] .nil) 234 [(0,[0,4,5]),(2,[4,6,7,8])] (.node .nil 235 [(9,[175]),(1,[0,7,8,9]),(3,[0,7,8,9,12]),(5,[0,7,8,9,14,15]),(7,[0,7,8,9,14,15,16])] .nil))))))
def EQ:Tab Bool:=(.node (.node (.node (.node (.node (.node (.node .nil 2 true .nil) 3 true .nil) 4 true (.node .nil 5 true .nil)) 6 true (.node (.node .nil 7 true .nil) 8 true (.node .nil 9 true .nil))) 10 true (.node (.node (.node (.node .nil 11 true .nil) 12 true .nil) 15 true (.node .nil 16 true .nil)) 17 true (.node (.node .nil 20 true .nil) 21 true (.node .nil 22 true .nil)))) 23 true (.node (.node (.node (.node (.node .nil 36 true .nil) 42 true .nil) 43 true (.node .nil 44 true .nil)) 53 true (.node (.node .nil 61 true .nil) 62 true (.node .nil 63 true .nil))) 64 true (.node (.node (.node (.node .nil 70 true .nil) 71 true .nil) 72 true (.node .nil 73 true .nil)) 74 true (.node (.node .nil 75 true .nil) 76 true (.node .nil 91 true .nil))))) 92 true (.node (.node (.node (.node (.node (.node .nil 105 true .nil) 106 true .nil) 110 true (.node .nil 114 true .nil)) 115 true (.node (.node .nil 116 true .nil) 152 true (.node .nil 157 true .nil))) 169 true (.node (.node (.node (.node .nil 191 true .nil) 204 true .nil) 215 true (.node .nil 230 true .nil)) 233 true (.node (.node .nil 238 true .nil) 239 true (.node .nil 243 true .nil)))) 254 true (.node (.node (.node (.node (.node .nil 260 true .nil) 282 true .nil) 283 true (.node .nil 284 true .nil)) 288 true (.node (.node .nil 292 true .nil) 294 true (.node .nil 295 true .nil))) 296 true (.node (.node (.node (.node .nil 297 true .nil) 300 true .nil) 301 true (.node .nil 304 true .nil)) 307 true (.node (.node .nil 308 true .nil) 310 true (.node .nil 311 true .nil))))))
def GT(g:Nat):Option (List AV):=bif Nat.beq g 0 then some (b7h .i64 [0,0,0,0,0,0,1,1,1,1,2,16,2,16,2,16,2,16,2,16,2,16,3,3,2,2,1,16,1,1,0,0])else none
noncomputable def L:Laid:={ P:=Tryz.prog,T:=TT,F:=FT,keep:=KT,eqs:=EQ,G:=GT,thaw:=λg=>decide (g=161∨g=118∨g=68∨g=96∨g=56∨g=140∨g=26∨g=16∨g=43∨g=90),ro:=λg=>decide (g=159∨g=160),ext:=λf=>Nat.beq f 181,lend:=λg=>decide (g=44∨g=50∨g=37∨g=26) }
theorem d71:∀i x,TT.get i=some x→Tryz.prog.types[i]?=some x:=b64 (n:=314) (l:=Tryz.types.toList) (by kernel_rfl) (by kernel_rfl)
theorem d8z:∀i x,FT.get i=some x→Tryz.prog.funcs[i]?=some x:=b64 (n:=265) (l:=Tryz.funcs.toList) (by kernel_rfl) (by kernel_rfl)
theorem laidOk:LaidOk L:={
 types:=d71
 funcs:=d8z
 shape:=by kernel_rfl
 names:=by kernel_rfl
 eqs:=by kernel_rfl
 ext:=λf h=>by
  have h:Nat.beq f 181=true:=h;have:f=181:=by simpa using h
  subst this;exact⟨Tryz.f181,by kernel_rfl,by kernel_rfl,by kernel_rfl,by kernel_rfl,by kernel_rfl⟩
 mixed:=by kernel_rfl
 draws:=by kernel_rfl
 yid:=by kernel_rfl
 rf:=by kernel_rfl}
theorem ok:EnvOk L.env:=laidOk.envOk
theorem dr:DrOk L.env:=laidOk.drawn
@[go_sem] theorem f0f:L.env.G 0=some (b7h .i64 [0,0,0,0,0,0,1,1,1,1,2,16,2,16,2,16,2,16,2,16,2,16,3,3,2,2,1,16,1,1,0,0]):=by kernel_rfl
attribute [go_sem] b7h
end Go.UInst
/- Type facts (printed by AxTypes). -/
namespace Go.UInst
open Go.Proofs Go.Ax
@[go_sem] theorem roF(g:FuncId):L.env.ro g=decide (g=159∨g=160):=by rfl
@[go_sem] theorem f2m(g:FuncId):L.env.thaw g=decide (g=161∨g=118∨g=68∨g=96∨g=56∨g=140∨g=26∨g=16∨g=43∨g=90):=by rfl
@[go_sem] theorem kp7_0:L.env.keep 7 0=[7,8,9,10,1000000]:=by kernel_rfl
@[go_sem] theorem kp7_2:L.env.keep 7 2=[7,8,9,10,11]:=by kernel_rfl
@[go_sem] theorem kp7_4:L.env.keep 7 4=[14,16,19]:=by kernel_rfl
@[go_sem] theorem kp10_0:L.env.keep 10 0=[1,2,3,4]:=by kernel_rfl
@[go_sem] theorem kp10_2:L.env.keep 10 2=[1,2,3,5,6,7]:=by kernel_rfl
@[go_sem] theorem kp10_4:L.env.keep 10 4=[1,2,3,5,6,8]:=by kernel_rfl
@[go_sem] theorem kp10_6:L.env.keep 10 6=[1,2,3,5,6,9,10]:=by kernel_rfl
@[go_sem] theorem kp10_8:L.env.keep 10 8=[1,2,3,9,11]:=by kernel_rfl
@[go_sem] theorem kp10_10:L.env.keep 10 10=[1,2,3,9,12]:=by kernel_rfl
@[go_sem] theorem kp11_0:L.env.keep 11 0=[1,6,7,38,39,40]:=by kernel_rfl
@[go_sem] theorem kp11_2:L.env.keep 11 2=[6,7,62,63]:=by kernel_rfl
@[go_sem] theorem kp11_4:L.env.keep 11 4=[6,7,11,62,63]:=by kernel_rfl
@[go_sem] theorem kp16_0:L.env.keep 16 0=[1,2,5,6]:=by kernel_rfl
@[go_sem] theorem kp17_0:L.env.keep 17 0=[1,2,6,10,34,35]:=by kernel_rfl
@[go_sem] theorem kp18_0:L.env.keep 18 0=[1,3,4,29,30,31]:=by kernel_rfl
@[go_sem] theorem kp18_2:L.env.keep 18 2=[1,3,4,45,46,47]:=by kernel_rfl
@[go_sem] theorem kp18_4:L.env.keep 18 4=[1,3,4,9,61,62,63]:=by kernel_rfl
@[go_sem] theorem kp23_0:L.env.keep 23 0=[4,9,10,40,41,42]:=by kernel_rfl
@[go_sem] theorem kp23_2:L.env.keep 23 2=[4,9,10,12,13,40,41,42,59,60,61]:=by kernel_rfl
@[go_sem] theorem kp25_0:L.env.keep 25 0=[1,2,4,8,30,31,1000003]:=by kernel_rfl
@[go_sem] theorem kp25_2:L.env.keep 25 2=[1,2,4,8,11,52,53,54,1000002]:=by kernel_rfl
@[go_sem] theorem kp26_1:L.env.keep 26 1=[2,3,4,8,39,40,41]:=by kernel_rfl
@[go_sem] theorem kp26_4:L.env.keep 26 4=[16,17,18,82,83,84]:=by kernel_rfl
@[go_sem] theorem kp26_6:L.env.keep 26 6=[16,17,18,19,20,21,82,83,84,92,93,1000002]:=by kernel_rfl
@[go_sem] theorem kp26_8:L.env.keep 26 8=[16,17,18,19,20,82,83,84,107,108,109]:=by kernel_rfl
@[go_sem] theorem kp28_0:L.env.keep 28 0=[1,3,5,7,8,9,10]:=by kernel_rfl
@[go_sem] theorem kp28_2:L.env.keep 28 2=[1,3,5,9,10,11,14,17]:=by kernel_rfl
@[go_sem] theorem kp32_0:L.env.keep 32 0=[2,3,4,6,7,8,9,10,11,12]:=by kernel_rfl
@[go_sem] theorem kp35_0:L.env.keep 35 0=[1,5,9,10,11]:=by kernel_rfl
@[go_sem] theorem kp44_1:L.env.keep 44 1=[1,2,3,7,24,25]:=by kernel_rfl
@[go_sem] theorem kp44_3:L.env.keep 44 3=[1,2,48,49]:=by kernel_rfl
@[go_sem] theorem kp45_0:L.env.keep 45 0=[1,2,7,13,14,15]:=by kernel_rfl
@[go_sem] theorem kp49_0:L.env.keep 49 0=[2,39,40,41]:=by kernel_rfl
@[go_sem] theorem kp58_0:L.env.keep 58 0=[4,6,21,22]:=by kernel_rfl
@[go_sem] theorem kp60_0:L.env.keep 60 0=[2,3,10,11,12]:=by kernel_rfl
@[go_sem] theorem kp60_2:L.env.keep 60 2=[2,3,29,30,31]:=by kernel_rfl
@[go_sem] theorem kp63_0:L.env.keep 63 0=[1,2,3,12,13,14]:=by kernel_rfl
@[go_sem] theorem kp63_2:L.env.keep 63 2=[1,2,3,29,30,31]:=by kernel_rfl
@[go_sem] theorem kp65_0:L.env.keep 65 0=[5,14,15,16]:=by kernel_rfl
@[go_sem] theorem kp66_0:L.env.keep 66 0=[0,1,12,13]:=by kernel_rfl
@[go_sem] theorem kp67_1:L.env.keep 67 1=[8,27,28,29]:=by kernel_rfl
@[go_sem] theorem kp67_3:L.env.keep 67 3=[8,10,27,28,29,34,35]:=by kernel_rfl
@[go_sem] theorem kp84_0:L.env.keep 84 0=[1,5,6,7,29,30,31]:=by kernel_rfl
@[go_sem] theorem kp84_2:L.env.keep 84 2=[1,5,6,7,10,11]:=by kernel_rfl
@[go_sem] theorem kp84_4:L.env.keep 84 4=[1,5,6,7,10,11,12,76,77,78]:=by kernel_rfl
@[go_sem] theorem kp88_0:L.env.keep 88 0=[0,1,7,8]:=by kernel_rfl
@[go_sem] theorem kp90_0:L.env.keep 90 0=[0,1,2,7,8]:=by kernel_rfl
@[go_sem] theorem kp91_0:L.env.keep 91 0=[1,2,5,6]:=by kernel_rfl
@[go_sem] theorem kp93_0:L.env.keep 93 0=[0,3,9,10,11]:=by kernel_rfl
@[go_sem] theorem kp93_2:L.env.keep 93 2=[6,25,26,27]:=by kernel_rfl
@[go_sem] theorem kp99_0:L.env.keep 99 0=[1,2,3,4,9]:=by kernel_rfl
@[go_sem] theorem kp100_0:L.env.keep 100 0=[2,5,6]:=by kernel_rfl
@[go_sem] theorem kp100_2:L.env.keep 100 2=[2,5,6,45,46,47]:=by kernel_rfl
@[go_sem] theorem kp111_0:L.env.keep 111 0=[3,6,7,8]:=by kernel_rfl
@[go_sem] theorem kp120_0:L.env.keep 120 0=[0,3,4,5,41,42,43]:=by kernel_rfl
@[go_sem] theorem kp120_2:L.env.keep 120 2=[0,3,4,5,60,61,62]:=by kernel_rfl
@[go_sem] theorem kp120_4:L.env.keep 120 4=[0,4,5,12,89,90,91]:=by kernel_rfl
@[go_sem] theorem kp120_6:L.env.keep 120 6=[0,4,5,16,143,144,145]:=by kernel_rfl
@[go_sem] theorem kp120_8:L.env.keep 120 8=[0,4,16,162,163,164]:=by kernel_rfl
@[go_sem] theorem kp134_1:L.env.keep 134 1=[1,36,37,38]:=by kernel_rfl
@[go_sem] theorem kp134_3:L.env.keep 134 3=[1,55,56,57]:=by kernel_rfl
@[go_sem] theorem kp135_0:L.env.keep 135 0=[3,4,18,19,20]:=by kernel_rfl
@[go_sem] theorem kp135_2:L.env.keep 135 2=[3,4,5,18,19,20,26,27,28]:=by kernel_rfl
@[go_sem] theorem kp135_4:L.env.keep 135 4=[3,51,52,53]:=by kernel_rfl
@[go_sem] theorem kp136_0:L.env.keep 136 0=[0,1,7,8]:=by kernel_rfl
@[go_sem] theorem kp139_0:L.env.keep 139 0=[0,1,7,8]:=by kernel_rfl
@[go_sem] theorem kp146_0:L.env.keep 146 0=[0,1,2,6,7,8]:=by kernel_rfl
@[go_sem] theorem kp146_2:L.env.keep 146 2=[0,1,2,6]:=by kernel_rfl
@[go_sem] theorem kp149_0:L.env.keep 149 0=[1,2,7,11,12,13]:=by kernel_rfl
@[go_sem] theorem kp160_0:L.env.keep 160 0=[0,1,5,16,17,18]:=by kernel_rfl
@[go_sem] theorem kp172_0:L.env.keep 172 0=[3,8,9,10]:=by kernel_rfl
@[go_sem] theorem kp193_0:L.env.keep 193 0=[0,1,2,3,8]:=by kernel_rfl
@[go_sem] theorem kp193_2:L.env.keep 193 2=[0,1,2,3,8,9]:=by kernel_rfl
@[go_sem] theorem kp210_0:L.env.keep 210 0=[0,1,7,8]:=by kernel_rfl
@[go_sem] theorem kp223_0:L.env.keep 223 0=[0,1,7,8]:=by kernel_rfl
@[go_sem] theorem by3:L.env.bytes 3=8:=by kernel_rfl
@[go_sem] theorem by4:L.env.bytes 4=1:=by kernel_rfl
@[go_sem] theorem by5:L.env.bytes 5=1:=by kernel_rfl
@[go_sem] theorem by9:L.env.bytes 9=16:=by kernel_rfl
@[go_sem] theorem f4m:L.env.bytes 44=24:=by kernel_rfl
@[go_sem] theorem f1v:L.env.bytes 52=24:=by kernel_rfl
@[go_sem] theorem f1u:L.env.bytes 53=1:=by kernel_rfl
@[go_sem] theorem f4l:L.env.bytes 64=32:=by kernel_rfl
@[go_sem] theorem f4k:L.env.bytes 74=16:=by kernel_rfl
@[go_sem] theorem f4j:L.env.bytes 92=24:=by kernel_rfl
@[go_sem] theorem e8x:L.env.bytes 112=48:=by kernel_rfl
@[go_sem] theorem e8w:L.env.bytes 223=24:=by kernel_rfl
@[go_sem] theorem un4:L.env.und 4=some .bool:=by kernel_rfl
@[go_sem] theorem in5:d3z L.env 5=some .u8:=by kernel_rfl
@[go_sem] theorem ar22:c49 L.env 22=some (2,5):=by kernel_rfl
@[go_sem] theorem ar23:c49 L.env 23=some (4,5):=by kernel_rfl
@[go_sem] theorem st24:slT L.env 24=some 116:=by kernel_rfl
@[go_sem] theorem st25:slT L.env 25=some 5:=by kernel_rfl
@[go_sem] theorem f7o{k:Nat}(h:(k≤1000000000)=True):c6s L.env 5 (k:Int) (k:Int)=true:=a70 (f1m h) (by rw[by5];decide)
@[go_sem] theorem ag27:a5w L.env 27=some true:=by kernel_rfl
theorem ft27:b0u L.env 27=some [5,5,22,4,4,23,24,25]:=by kernel_rfl
@[go_sem] theorem f7k{k:Nat}(h:(k≤1000000000)=True):a28 L.env 112 k=true:=a69 (f1m h) (by rw[e8x];decide)
@[go_sem] theorem f7j{k:Nat}(h:(k≤1000000000)=True):a28 L.env 9 k=true:=a69 (f1m h) (by rw[by9];decide)
@[go_sem] theorem f7i{k:Nat}(h:(k≤1000000000)=True):a28 L.env 3 k=true:=a69 (f1m h) (by rw[by3];decide)
@[go_sem] theorem f7n{k:Nat}(h:(k≤1000000000)=True):c6s L.env 3 (k:Int) (k:Int)=true:=a70 (f1m h) (by rw[by3];decide)
@[go_sem] theorem is3:isT L.env 3=true∧L.env.sz 3=1∧a5w L.env 3=some false∧d3z L.env 3=some .i64∧L.env.zero 3=some [.int .i64 0]∧isT L.env 4=true∧L.env.sz 4=1∧a5w L.env 4=some false∧L.env.zero 4=some [.bool false]∧isT L.env 5=true∧L.env.sz 5=1∧a5w L.env 5=some false∧L.env.zero 5=some [.int .u8 0]∧isT L.env 9=true∧L.env.sz 9=1∧a5w L.env 9=some false∧e21 L.env 9=true∧L.env.zero 9=some [.str []]∧isT L.env 22=true∧isT L.env 24=true∧L.env.sz 24=1∧a5w L.env 24=some false∧isT L.env 25=true∧L.env.sz 25=1∧a5w L.env 25=some false∧byT L.env 25 9=true∧L.env.sz 27=12∧a4q L.env 27 0=some (0,5)∧a4q L.env 27 1=some (1,5)∧a4q L.env 27 2=some (2,22)∧a4q L.env 27 3=some (4,4)∧a4q L.env 27 4=some (5,4)∧a4q L.env 27 6=some (10,24)∧a4q L.env 27 7=some (11,25)∧isT L.env 28=true∧L.env.sz 28=1∧a5w L.env 28=some false∧slT L.env 28=some 112∧apT L.env 28 28=some 112∧isT L.env 29=true∧L.env.sz 29=1∧a5w L.env 29=some false∧slT L.env 29=some 9∧apT L.env 29 29=some 9∧isT L.env 30=true∧L.env.sz 30=1∧a5w L.env 30=some false∧slT L.env 30=some 118∧isT L.env 31=true∧L.env.sz 31=1∧a5w L.env 31=some false∧slT L.env 31=some 3∧apT L.env 31 31=some 3∧L.env.zero 31=some [.nilslice]∧isT L.env 33=true∧L.env.sz 33=4∧a5w L.env 33=some true∧a4q L.env 33 0=some (0,28)∧a4q L.env 33 1=some (1,29)∧a4q L.env 33 2=some (2,30):=by refine⟨?_,?_,?_,?_,?_,?_,?_,?_,?_,?_,?_,?_,?_,?_,?_,?_,?_,?_,?_,?_,?_,?_,?_,?_,?_,?_,?_,?_,?_,?_,?_,?_,?_,?_,?_,?_,?_,?_,?_,?_,?_,?_,?_,?_,?_,?_,?_,?_,?_,?_,?_,?_,?_,?_,?_,?_,?_,?_,?_,?_⟩<;>kernel_rfl
@[go_sem] theorem f7h{k:Nat}(h:(k≤1000000000)=True):a28 L.env 44 k=true:=a69 (f1m h) (by rw[f4m];decide)
@[go_sem] theorem ag46:a5w L.env 46=some false:=by kernel_rfl
@[go_sem] theorem st46:slT L.env 46=some 68:=by kernel_rfl
@[go_sem] theorem f7g{k:Nat}(h:(k≤1000000000)=True):a28 L.env 52 k=true:=a69 (f1m h) (by rw[f1v];decide)
@[go_sem] theorem f7m{k:Nat}(h:(k≤1000000000)=True):c6s L.env 52 (k:Int) (k:Int)=true:=a70 (f1m h) (by rw[f1v];decide)
@[go_sem] theorem f7f{k:Nat}(h:(k≤1000000000)=True):a28 L.env 53 k=true:=a69 (f1m h) (by rw[f1u];decide)
@[go_sem] theorem f7l{k:Nat}(h:(k≤1000000000)=True):c6s L.env 53 (k:Int) (k:Int)=true:=a70 (f1m h) (by rw[f1u];decide)
@[go_sem] theorem f7e{k:Nat}(h:(k≤1000000000)=True):a28 L.env 64 k=true:=a69 (f1m h) (by rw[f4l];decide)
@[go_sem] theorem f1i:a4q L.env 33 3=some (3,31)∧L.env.zero 33=some [.nilslice,.nilslice,.nilslice,.nilslice]∧isT L.env 35=true∧L.env.sz 35=1∧a5w L.env 35=some false∧slT L.env 35=some 44∧apT L.env 35 35=some 44∧isT L.env 42=true∧L.env.sz 42=1∧a5w L.env 42=some false∧isT L.env 44=true∧L.env.sz 44=2∧a5w L.env 44=some true∧c2f L.env 44=true∧a4q L.env 44 0=some (0,9)∧a8j L.env 44 0=some (0,1)∧a4q L.env 44 1=some (1,42)∧a8j L.env 44 1=some (1,1)∧L.env.zero 44=some [.str [],.int .u8 0]∧slT L.env 50=some 52∧apT L.env 50 50=some 52∧isT L.env 52=true∧L.env.sz 52=1∧a5w L.env 52=some false∧slT L.env 52=some 53∧apT L.env 52 52=some 53∧L.env.zero 52=some [.nilslice]∧isT L.env 53=true∧L.env.sz 53=1∧a5w L.env 53=some false∧L.env.zero 53=some [.int .u8 0]∧isT L.env 54=true∧L.env.sz 54=1∧a5w L.env 54=some false∧slT L.env 54=some 62∧isT L.env 55=true∧L.env.sz 55=1∧a5w L.env 55=some false∧slT L.env 55=some 64∧apT L.env 55 55=some 64∧isT L.env 57=true∧L.env.sz 57=3∧a5w L.env 57=some true∧c2f L.env 57=true∧a4q L.env 57 0=some (0,35)∧a8j L.env 57 0=some (0,1)∧a4q L.env 57 1=some (1,54)∧a8j L.env 57 1=some (1,1)∧a4q L.env 57 2=some (2,55)∧L.env.zero 57=some [.nilslice,.nilslice,.nilslice]∧isT L.env 62=true∧L.env.sz 62=6∧a5w L.env 62=some true∧c2f L.env 62=true∧a4q L.env 62 0=some (0,9)∧a8j L.env 62 0=some (0,1)∧a8j L.env 62 1=some (1,1)∧a8j L.env 62 2=some (2,1)∧a8j L.env 62 3=some (3,1)∧a8j L.env 62 4=some (4,1):=by refine⟨?_,?_,?_,?_,?_,?_,?_,?_,?_,?_,?_,?_,?_,?_,?_,?_,?_,?_,?_,?_,?_,?_,?_,?_,?_,?_,?_,?_,?_,?_,?_,?_,?_,?_,?_,?_,?_,?_,?_,?_,?_,?_,?_,?_,?_,?_,?_,?_,?_,?_,?_,?_,?_,?_,?_,?_,?_,?_,?_,?_⟩<;>kernel_rfl
theorem ft68:b0u L.env 68=some [25,25]:=by kernel_rfl
@[go_sem] theorem ag71:a5w L.env 71=some true:=by kernel_rfl
theorem ft71:b0u L.env 71=some [5,5,5,5,4]:=by kernel_rfl
@[go_sem] theorem e9t:a8j L.env 62 5=some (5,1)∧L.env.zero 62=some [.str [],.int .i64 0,.int .i64 0,.int .i64 0,.int .i64 0,.int .i64 0]∧isT L.env 64=true∧L.env.sz 64=3∧a5w L.env 64=some true∧c2f L.env 64=true∧a4q L.env 64 0=some (0,3)∧a8j L.env 64 0=some (0,1)∧a4q L.env 64 1=some (1,9)∧a8j L.env 64 1=some (1,1)∧a4q L.env 64 2=some (2,3)∧a8j L.env 64 2=some (2,1)∧L.env.zero 64=some [.int .i64 0,.str [],.int .i64 0]∧isT L.env 68=true∧L.env.sz 68=2∧a5w L.env 68=some true∧a4q L.env 68 0=some (0,25)∧a4q L.env 68 1=some (1,25)∧L.env.sz 71=5∧a4q L.env 71 0=some (0,5)∧a4q L.env 71 1=some (1,5)∧a4q L.env 71 2=some (2,5)∧a4q L.env 71 3=some (3,5)∧a4q L.env 71 4=some (4,4)∧isT L.env 72=true∧L.env.sz 72=1∧a5w L.env 72=some false∧isT L.env 74=true∧L.env.sz 74=2∧a5w L.env 74=some true∧c2f L.env 74=true∧a4q L.env 74 0=some (0,3)∧a8j L.env 74 0=some (0,1)∧a4q L.env 74 1=some (1,3)∧a8j L.env 74 1=some (1,1)∧L.env.zero 74=some [.int .i64 0,.int .i64 0]∧isT L.env 76=true∧L.env.sz 76=5∧a5w L.env 76=some true∧c2f L.env 76=true∧a4q L.env 76 0=some (0,72)∧a8j L.env 76 0=some (0,1)∧a4q L.env 76 1=some (1,74)∧a8j L.env 76 1=some (1,2)∧a4q L.env 76 2=some (3,53)∧a4q L.env 76 3=some (4,3)∧L.env.zero 76=some [.int .u8 0,.int .i64 0,.int .i64 0,.int .u8 0,.int .i64 0]∧isT L.env 80=true∧L.env.sz 80=2∧a5w L.env 80=some true∧c2f L.env 80=true∧a4q L.env 80 0=some (0,52)∧a8j L.env 80 0=some (0,1)∧a4q L.env 80 1=some (1,52)∧a8j L.env 80 1=some (1,1)∧L.env.zero 80=some [.nilslice,.nilslice]∧isT L.env 83=true∧L.env.sz 83=2∧a5w L.env 83=some true∧c2f L.env 83=true:=by refine⟨?_,?_,?_,?_,?_,?_,?_,?_,?_,?_,?_,?_,?_,?_,?_,?_,?_,?_,?_,?_,?_,?_,?_,?_,?_,?_,?_,?_,?_,?_,?_,?_,?_,?_,?_,?_,?_,?_,?_,?_,?_,?_,?_,?_,?_,?_,?_,?_,?_,?_,?_,?_,?_,?_,?_,?_,?_,?_,?_,?_⟩<;>kernel_rfl
@[go_sem] theorem f7d{k:Nat}(h:(k≤1000000000)=True):a28 L.env 92 k=true:=a69 (f1m h) (by rw[f4j];decide)
@[go_sem] theorem ar114:c49 L.env 114=some (3,5):=by kernel_rfl
theorem ft116:b0u L.env 116=some [5,114]:=by kernel_rfl
@[go_sem] theorem f3r{k:Nat}(h:(k≤1000000000)=True):c6s L.env 4 (k:Int) (k:Int)=true:=a70 (f1m h) (by rw[by4];decide)
@[go_sem] theorem f0j:a4q L.env 83 0=some (0,52)∧a8j L.env 83 0=some (0,1)∧a4q L.env 83 1=some (1,52)∧a8j L.env 83 1=some (1,1)∧L.env.zero 83=some [.nilslice,.nilslice]∧slT L.env 88=some 92∧apT L.env 88 88=some 92∧isT L.env 92=true∧L.env.sz 92=3∧a5w L.env 92=some true∧c2f L.env 92=true∧a8j L.env 92 0=some (0,1)∧a8j L.env 92 1=some (1,1)∧a8j L.env 92 2=some (2,1)∧L.env.zero 92=some [.int .i64 0,.int .i64 0,.int .u8 0]∧L.env.sz 101=1∧a5w L.env 101=some false∧slT L.env 101=some 76∧isT L.env 110=true∧L.env.sz 110=1∧a5w L.env 110=some false∧d3z L.env 110=some .u8∧L.env.zero 110=some [.int .u8 0]∧isT L.env 112=true∧L.env.sz 112=4∧a5w L.env 112=some true∧c2f L.env 112=true∧a4q L.env 112 0=some (0,110)∧a8j L.env 112 0=some (0,1)∧a4q L.env 112 1=some (1,31)∧a8j L.env 112 1=some (1,1)∧a4q L.env 112 2=some (2,3)∧a4q L.env 112 3=some (3,3)∧L.env.zero 112=some [.int .u8 0,.nilslice,.int .i64 0,.int .i64 0]∧isT L.env 114=true∧isT L.env 116=true∧L.env.sz 116=4∧a5w L.env 116=some true∧a4q L.env 116 0=some (0,5)∧a4q L.env 116 1=some (1,114)∧b6s L.env 122=false∧isT L.env 140=true∧L.env.sz 140=5∧a5w L.env 140=some true∧c2f L.env 140=true∧a4q L.env 140 0=some (0,33)∧a8j L.env 140 0=some (0,4)∧a4q L.env 140 1=some (4,52)∧a8j L.env 140 1=some (4,1)∧L.env.zero 140=some [.nilslice,.nilslice,.nilslice,.nilslice,.nilslice]∧slT L.env 175=some 110∧slT L.env 189=some 4∧L.env.sz 198=1∧a5w L.env 198=some false∧isT L.env 206=true∧L.env.sz 206=1∧a5w L.env 206=some false∧isT L.env 207=true∧L.env.sz 207=1∧a5w L.env 207=some false:=by refine⟨?_,?_,?_,?_,?_,?_,?_,?_,?_,?_,?_,?_,?_,?_,?_,?_,?_,?_,?_,?_,?_,?_,?_,?_,?_,?_,?_,?_,?_,?_,?_,?_,?_,?_,?_,?_,?_,?_,?_,?_,?_,?_,?_,?_,?_,?_,?_,?_,?_,?_,?_,?_,?_,?_,?_,?_,?_,?_,?_,?_⟩<;>kernel_rfl
@[go_sem] theorem f3q{k:Nat}(h:(k≤1000000000)=True):c6s L.env 223 (k:Int) (k:Int)=true:=a70 (f1m h) (by rw[e8w];decide)
@[go_sem] theorem f3g{k:Nat}(h:(k≤1000000000)=True):a28 L.env 74 k=true:=a69 (f1m h) (by rw[f4k];decide)
@[go_sem] theorem f3u:isT L.env 208=true∧L.env.sz 208=1∧a5w L.env 208=some false∧c2f L.env 210=true∧a4q L.env 210 0=some (0,33)∧a8j L.env 210 0=some (0,4)∧a4q L.env 210 1=some (4,52)∧a4q L.env 210 2=some (5,207)∧a8j L.env 210 2=some (5,1)∧a4q L.env 210 3=some (6,208)∧a8j L.env 210 3=some (6,1)∧L.env.zero 210=some [.nilslice,.nilslice,.nilslice,.nilslice,.nilslice,.nilfunc,.nilfunc]∧c2f L.env 212=true∧a4q L.env 212 0=some (0,206)∧a4q L.env 212 1=some (1,80)∧a8j L.env 212 1=some (1,2)∧L.env.zero 212=some [.nilfunc,.nilslice,.nilslice]∧slT L.env 221=some 223∧isT L.env 223=true∧L.env.sz 223=1∧a5w L.env 223=some false∧slT L.env 223=some 74∧apT L.env 223 223=some 74∧L.env.zero 223=some [.nilslice]∧isT L.env 238=true∧L.env.sz 238=2∧c49 L.env 238=some (2,3)∧c49 L.env 239=some (16,238):=by refine⟨?_,?_,?_,?_,?_,?_,?_,?_,?_,?_,?_,?_,?_,?_,?_,?_,?_,?_,?_,?_,?_,?_,?_,?_,?_,?_,?_,?_⟩<;>kernel_rfl
end Go.UInst
/- No fact is given; names of nodes. -/
namespace Go.UInst
open Go.Proofs Go.Ax
set_option maxRecDepth 100000
def Mf:List Fact:=[]
theorem no(g:Nat)(h:(Mf.all λy=>!Nat.beq y.g g)=true):∀y∈Mf,y.g≠g:=by intro y hy;cases hy
theorem d3v:sem L.env Mf 208 [.str [110,48,48]] []=some (.bool true,[]):=a0o (E:=L.env) a0m 60 (by kernel_rfl)
theorem d3u:sem L.env Mf 208 [.str [110,48,49]] []=some (.bool true,[]):=a0o (E:=L.env) a0m 60 (by kernel_rfl)
theorem d3t:sem L.env Mf 208 [.str [110,48,50]] []=some (.bool true,[]):=a0o (E:=L.env) a0m 60 (by kernel_rfl)
theorem d3s:sem L.env Mf 208 [.str [110,48,51]] []=some (.bool true,[]):=a0o (E:=L.env) a0m 60 (by kernel_rfl)
theorem d3r:sem L.env Mf 208 [.str [110,48,52]] []=some (.bool true,[]):=a0o (E:=L.env) a0m 60 (by kernel_rfl)
theorem d3q:sem L.env Mf 208 [.str [110,48,53]] []=some (.bool true,[]):=a0o (E:=L.env) a0m 60 (by kernel_rfl)
theorem d3p:sem L.env Mf 208 [.str [110,48,54]] []=some (.bool true,[]):=a0o (E:=L.env) a0m 60 (by kernel_rfl)
theorem d3o:sem L.env Mf 208 [.str [110,48,55]] []=some (.bool true,[]):=a0o (E:=L.env) a0m 60 (by kernel_rfl)
theorem d3n:sem L.env Mf 208 [.str [110,48,56]] []=some (.bool true,[]):=a0o (E:=L.env) a0m 60 (by kernel_rfl)
theorem d3m:sem L.env Mf 208 [.str [110,48,57]] []=some (.bool true,[]):=a0o (E:=L.env) a0m 60 (by kernel_rfl)
theorem c9f:sem L.env Mf 208 [.str [110,49,48]] []=some (.bool true,[]):=a0o (E:=L.env) a0m 60 (by kernel_rfl)
theorem c9e:sem L.env Mf 208 [.str [110,49,49]] []=some (.bool true,[]):=a0o (E:=L.env) a0m 60 (by kernel_rfl)
theorem c9d:sem L.env Mf 208 [.str [110,49,50]] []=some (.bool true,[]):=a0o (E:=L.env) a0m 60 (by kernel_rfl)
theorem c9c:sem L.env Mf 208 [.str [110,49,51]] []=some (.bool true,[]):=a0o (E:=L.env) a0m 60 (by kernel_rfl)
open Go.Proofs Go.Ax Go.Pc
def a5y:List AV:=[.int .u8 0,.nilslice,.int .i64 0,.int .i64 0]
def dR(b:Nat):List AV:=[.int .u8 14,.slice b 0 1 (some 1),.int .i64 0,.int .i64 0]
def one(v:Nat):Option AObj:=some (.row 1 [[.int .i64 v]])
def xh(x:CX):Option AObj:=some (.row 12 [x.enc])
def rh:Option AObj:=some (.row 4 [[.nilslice,.nilslice,.nilslice,.nilslice]])
def nV:Nat→AV|0=>.nilslice|i+1=>.slice 3 0 (i+1) none
def nH:Nat→a03|0=>[]|i+1=>[some (.row 4 (List.replicate (i+1) a5y))]
theorem nV0:nV 0 = .nilslice:=by rfl
theorem nVs(i:Nat):nV (i+1) = .slice 3 0 (i+1) none:=by rfl
theorem nH0:nH 0=[]:=by rfl
theorem nHs(i:Nat):nH (i+1)=[some (.row 4 (List.replicate (i+1) a5y))]:=by rfl
theorem a5b{α:Type}(r:α)(n:Nat):List.replicate n r++[r]=List.replicate (n+1) r:=by rw[List.replicate_succ']
theorem a0i(l:List Nd):(l.map Nd.enc).flatMap a0d=[]:=a08 (FlatR.map λx=>by simp only[Nd.enc,a0d,a1b,refs];rfl)
theorem a10(π:Nat→Option Nat)(l:List Nd):(l.map Nd.enc).map (λr=>r.map (ren π))=l.map Nd.enc:=a05 π (FlatR.map λx=>by simp only[Nd.enc,a0d,a1b,refs];rfl)
theorem c9y(b:Bool)(ks:List Nat):gN b ks []=[]:=by rfl
def slN(b:Nat):Nat→AV|0=>.nilslice|i+1=>.slice b 0 (i+1) none
theorem b4p(b:Nat):slN b 0 = .nilslice:=by rfl
theorem a9i(b i:Nat):slN b (i+1) = .slice b 0 (i+1) none:=by rfl
def nmR(j:Nat):List AV:=[.str (a2h j)]
def nmH:Nat→a03|0=>[]|i+1=>[some (.row 1 ((List.range (i+1)).map nmR))]
theorem d30:nmH 0=[]:=by rfl
theorem c6r(i:Nat):nmH (i+1)=[some (.row 1 ((List.range (i+1)).map nmR))]:=by rfl
theorem a2e(l:List Nat):(l.map nmR).flatMap a0d=[]:=a08 (FlatR.map λ_=>rfl)
theorem a3k(π:Nat→Option Nat)(l:List Nat):(l.map nmR).map (λr=>r.map (ren π))=l.map nmR:=a05 π (FlatR.map λ_=>rfl)
theorem nm1:(List.range 1).map nmR=[[.str (a2h 0)]]:=by rfl
theorem c1h(i:Nat):(List.range (i+1+1)).map nmR=(List.range (i+1)).map nmR++[[.str (a2h (i+1))]]:=by rw[f2r,e8l];rfl
def otR(n o:Nat):List AV:=[.int .i64 (o%n:Nat)]
def otH(x:CX):Nat→a03|0=>[]|i+1=>[some (.row 1 ((x.outs.take (i+1)).map (otR x.n)))]
theorem c6q(x:CX):otH x 0=[]:=by rfl
theorem b8j(x:CX)(i:Nat):otH x (i+1)=[some (.row 1 ((x.outs.take (i+1)).map (otR x.n)))]:=by rfl
theorem b0q(n:Nat)(l:List Nat):(l.map (otR n)).flatMap a0d=[]:=a08 (FlatR.map λ_=>rfl)
theorem b5f(n:Nat)(π:Nat→Option Nat)(l:List Nat):(l.map (otR n)).map (λr=>r.map (ren π))=l.map (otR n):=a05 π (FlatR.map λ_=>rfl)
theorem b0o{m:Nat}{d:AV→Option AV}{n:Nat}{r:List AV}(h:a0d r=[]):a8v m d (List.replicate n r)=some (List.replicate n r):=a12 m d (FlatR.replicate h)
theorem b68{m:Nat}{d:AV→Option AV}(l:List Nd):a8v m d (l.map Nd.enc)=some (l.map Nd.enc):=a12 m d (c3w l)
theorem b67{m:Nat}{d:AV→Option AV}(l:List Nat):a8v m d (l.map nmR)=some (l.map nmR):=a12 m d (FlatR.map λ_=>rfl)
theorem b66{m:Nat}{d:AV→Option AV}(n:Nat)(l:List Nat):a8v m d (l.map (otR n))=some (l.map (otR n)):=a12 m d (FlatR.map λ_=>rfl)
theorem a8d{α:Type}{l:List α}{n:Nat}(h:(l.length≤n)=True):l.take n=l:=e8b (f1m h)
theorem b5q(n:Nat)(l:List Nat):l.map (a0f∘λo=>o%n)=l.map (otR n):=by rfl
theorem b5s(l:List Nat):l.map (a1c∘a2h)=l.map nmR:=by rfl
attribute [go_sem] a5y dR one xh rh nmR otR List.range_zero
theorem d89(i:Nat)(hi:i<100):sem L.env Mf 33 [.int .i64 i] []=some (.str (a2h i),[]):=by
 have a1:IntKind.i64.wrap ((i/10:Nat):Int)=((i/10:Nat):Int):=wI (by omega);have a2:IntKind.i64.wrap (48+((i/10:Nat):Int))=((48+i/10:Nat):Int):=by rw[w64 (by omega) (by omega)];omega
 have a3:IntKind.i64.wrap (48+((i%10:Nat):Int))=((48+i%10:Nat):Int):=by rw[w64 (by omega) (by omega)];omega
 have a4:IntKind.u8.wrap ((48+i/10:Nat):Int)=((48+i/10:Nat):Int):=wB (by omega);have a5:IntKind.u8.wrap ((48+i%10:Nat):Int)=((48+i%10:Nat):Int):=wB (by omega)
 (refine sv Tryz.f33 ?_;simp only[Tryz.f33,gS])
 (repeat first|simp only[ww]|(apply xa;simp+decide only[go_sem,a1,a2,a3,a4,a5];rfl;kernel_rfl))
 (apply fqb;simp+decide only[go_sem]<;>rfl)
theorem b33{d:Bool}(H:a03)(i:Nat)(hi:i<100):a0a L.env d (sem L.env Mf) (.func (.func 33) [] []) [.int .i64 i] H=some (.str (a2h i),H,[]):=a04 (by kernel_rfl) (by kernel_rfl) rfl rfl (d89 i hi) rfl
def trV(b:Nat)(l:List Nat):AV:=match l with|[]=>.nilslice|_::l=>.slice b 0 (l.length+1) none
def trH(l:List Nat):a03:=match l with|[]=>[]|y::l=>[some (.row 1 (a0f y::l.map a0f))]
theorem d75(b:Nat):trV b [] = .nilslice:=by rfl
theorem d24(b y:Nat)(l:List Nat):trV b (y::l) = .slice b 0 (l.length+1) none:=by rfl
theorem d76:trH []=[]:=by rfl
theorem d25(y:Nat)(l:List Nat):trH (y::l)=[some (.row 1 (a0f y::l.map a0f))]:=by rfl
theorem d07(l:List Nat):(l.map a0f).flatMap a0d=[]:=a08 (FlatR.map λ_=>rfl)
theorem d2n(π:Nat→Option Nat)(l:List Nat):(l.map a0f).map (λr=>r.map (ren π))=l.map a0f:=a05 π (FlatR.map λ_=>rfl)
attribute [go_sem] d75 d24 d76 d25 d07 d2n
theorem c7t(t:Nat)(l:List Nat)(j:Nat)(h:j<l.length+1):([AV.int .i64 (t:Int)]::List.map a0f l)[j]?=some [.int .i64 (((t::l).getD j 0:Nat):Int)]:=by have e:([AV.int .i64 (t:Int)]::List.map a0f l)=(t::l).map a0f:=rfl;rw[e,e8a,z9e (by simpa using h)];simp[a0f,List.getD,z9e (show j<(t::l).length by simpa using h)]
set_option maxHeartbeats 200000000
theorem b7l(m m1 m2 m3:Nat)(B:List Nat)(X:a03)(hX:(m=1∧m1=2∧m2=3∧m3=4∧B=[]∧X=[])∨(m=2∧m1=3∧m2=4∧m3=5∧B=[1]∧X=[some (.row 1 [[.int .i64 0]])])∨(m=3∧m1=4∧m2=5∧m3=6∧B=[1,2]∧X=[some (.row 1 [[.int .i64 0]]),some (.row 1 [[.int .i64 0]])]))(x:CX)(g:GX)(hg:g.ok)(R:List (List AV))(ks:List Nat)(cap:Option Nat)(hk:KindRows R ks)(h0:0<ks.length)(hl:ks.length<1000)(hR:R.flatMap a0d=B)(hI:FixR m R) :
 sem L.env Mf 32 [.agg x.enc,.agg g.enc,.slice 0 0 ks.length cap] (some (.row 4 R)::X)=some (.agg (a0j x.bus g ks).enc,(some (.row 4 R)::X)):=by
 rcases hX with ⟨hm,bR,bM,fP,hB,hX⟩|⟨hm,bR,bM,fP,hB,hX⟩|⟨hm,bR,bM,fP,hB,hX⟩
 all_goals
  obtain⟨uK,r8,uJ,uI⟩:=hg;have w0:=wI (n:=g.i0) (by omega);have w1:=wI (n:=g.i1) (by omega);have w2:=wI (n:=g.i2) (by omega);have hn:¬(ks.length:Int)=0:=by omega
  have iv:∀σ,R.map (λr=>r.map (ren (b4u m σ)))=R:=λσ=>hI _ (λb hb=>by rw[c9w,e9w hb];rfl);have di:R.map (λr=>r.map (ren (a1e m)))=R:=hI _ (λb hb=>by rw[b5n,e9w hb];rfl);have w9:=wI (n:=g.kind%9) (by omega);have pt:=wI (n:=g.kind%13) (by omega);rw[hX]
  (refine sv Tryz.f32 ?_;simp only[Tryz.f32,gS])
  (repeat first|simp only[ww]|(apply xa;simp+decide only[go_sem,w0,w1,w2,hn];rfl;kernel_rfl))
  refine a2n (σ:=Nat) kp32_0
   (λi=>[(2,.slice 0 0 ks.length cap),(3,.ptr m 0 0),(4,.ptr m1 0 0),(6,.ptr m2 0 0),(7,.int .i64 ks.length),(8,.int .i64 (g.i0%ks.length:Nat)),(9,.int .i64 (g.i1%ks.length:Nat)),(10,.int .i64 (g.i2%ks.length:Nat)),(11,trV m3 (a5j ks i)),(12,.int .i64 i)])
   (λi=>(some (.row 4 R)::X)++[some (.row 12 [x.enc]),some (.row 4 [g.enc]),some (.row 4 [[.int .u8 0,.nilslice,.int .i64 0,.int .i64 0]])]++trH (a5j ks i)) (λi=>ks.length-i) (λi=>i≤ks.length) 0 ?_ (e8e _) ?_ ?_
  ·subst hm bR bM fP hB hX
   (simp+decide only[go_sem,a01,a00,hR,iv]<;>rfl)
  ·subst hm bR bM fP hB hX;intro i _;cases gb:a5j ks i with
   |nil=>((simp+decide only[go_sem,a01,a00,hR,iv]<;>rfl))
   |cons a l=>((simp+decide only[go_sem,a01,a00,hR,iv,gb]<;>rfl))
  ·subst hm bR bM fP hB hX;intro i hi;by_cases aj:i<ks.length
   ·obtain⟨k,rS⟩:∃k,ks[i]?=some k:=⟨_,z9e aj⟩
    obtain⟨v,y,z,hr⟩:=hk.2 i k rS;have hd:(i:Int)<ks.length:=by omega
    have hw:=wI1 (n:=i) (by omega);have ht:=c0r rS;have dY:=b8n ks i;by_cases nM:k=12
    ·subst nM;rw[e8j rfl]at ht;cases gb:a5j ks i with
     |nil=>
      rw[gb]at ht
      (repeat first|simp only[ww]|(apply xa;simp+decide only[go_sem,hd,aj,hr,hw];rfl;kernel_rfl))
      refine a25 (i+1) ?_ (by omega) (by omega)
      ((simp+decide only[go_sem,a01,a00,hR,iv,ht]<;>rfl))
     |cons a l=>
      rw[gb]at ht;rw[gb]at dY;simp only[e7g]at dY;have aK:l.length+1+1≤1000000000:=by omega
      (repeat first|simp only[ww]|(apply xa;simp+decide only[go_sem,hd,aj,hr,hw,aK];rfl;kernel_rfl))
      refine a25 (i+1) ?_ (by omega) (by omega)
      ((simp+decide only[go_sem,a01,a00,hR,iv,ht,e8l,f2t]<;>rfl))
    ·rw[e8g nM]at ht;have eX:¬(k:Int)=12:=by omega
     (repeat first|simp only[ww]|(apply xa;simp+decide only[go_sem,hd,aj,hr,hw,eX];rfl;kernel_rfl))
     refine a25 (i+1) ?_ (by omega) (by omega);cases gb:a5j ks i with
     |nil=>
      rw[gb]at ht
      ((simp+decide only[go_sem,a01,a00,hR,iv,ht]<;>rfl))
     |cons a l=>
      rw[gb]at ht
      ((simp+decide only[go_sem,a01,a00,hR,iv,ht]<;>rfl))
   ·have ey:i=ks.length:=by omega
    subst ey;have hd:¬(ks.length:Int)<ks.length:=by omega
    rw[show a5j ks ks.length=a8s ks from rfl];have dY:(a8s ks).length≤ks.length:=b8n ks ks.length
    (repeat first|simp only[ww]|(apply xa;simp+decide only[go_sem,hd,w9,pt];rfl;kernel_rfl))
    rcases gb:a8s ks with _|⟨t,l⟩
    ·cases hb:x.bus with
     |true=>
      (repeat first|simp only[ww]|(apply xa;simp+decide only[go_sem,hb,pt];rfl;kernel_rfl))
      have wk:IntKind.u8.wrap (((g.kind%13):Nat):Int)=((g.kind%13):Nat):=wB (by omega);have eZ:(g.kind%13)<6→IntKind.u8.wrap (5+(((g.kind%13):Nat):Int))=((5+(g.kind%13):Nat):Int):=λh=>by rw[IntWalk.u8_in _ ⟨by omega,by omega⟩];omega
      by_cases h6:(g.kind%13)<6
      ·have c6:(((g.kind%13):Nat):Int)<6:=by omega
       have eZ:=eZ h6;by_cases eB:128≤g.kind
       ·have du:(128:Int)≤g.kind:=by omega
        have e:a0j true g ks=⟨5+(g.kind%13),some none,[g.i0%ks.length,g.i1%ks.length,g.i2%ks.length],0,0⟩:=by simp[a0j,h6,eB]
        rw[e]
        (repeat first|simp only[ww]|(apply xa;simp+decide only[go_sem,c6,wk,eZ,du];rfl;kernel_rfl))
        (apply fqb;simp+decide only[go_sem,di,hR]<;>rfl)
       ·have du:¬(128:Int)≤g.kind:=by omega
        have e:a0j true g ks=⟨5+(g.kind%13),some (some 2),[g.i0%ks.length,g.i1%ks.length],0,0⟩:=by simp[a0j,h6,eB]
        rw[e]
        (repeat first|simp only[ww]|(apply xa;simp+decide only[go_sem,c6,wk,eZ,du];rfl;kernel_rfl))
        (apply fqb;simp+decide only[go_sem,di,hR]<;>rfl)
      have c6:¬(((g.kind%13):Nat):Int)<6:=by omega
      by_cases h7:(g.kind%13)=6
      ·have c7:(((g.kind%13):Nat):Int)=6:=by omega
       have e:a0j true g ks=⟨4,some (some 1),[g.i0%ks.length],0,0⟩:=by simp[a0j,h7]
       rw[e]
       (repeat first|simp only[ww]|(apply xa;simp+decide only[go_sem,c6,c7];rfl;kernel_rfl))
       (apply fqb;simp+decide only[go_sem,di,hR]<;>rfl)
      have c7:¬(((g.kind%13):Nat):Int)=6:=by omega
      by_cases h8:(g.kind%13)=7
      ·have c8:(((g.kind%13):Nat):Int)=7:=by omega
       have e:a0j true g ks=⟨11,some (some 3),[g.i0%ks.length,g.i1%ks.length,g.i2%ks.length],0,0⟩:=by simp[a0j,h8]
       rw[e]
       (repeat first|simp only[ww]|(apply xa;simp+decide only[go_sem,c6,c7,c8];rfl;kernel_rfl))
       (apply fqb;simp+decide only[go_sem,di,hR]<;>rfl)
      have c8:¬(((g.kind%13):Nat):Int)=7:=by omega
      by_cases h9:(g.kind%13)=9
      ·have c9:(((g.kind%13):Nat):Int)=9:=by omega
       have e:a0j true g ks=⟨12,some (some 2),[g.i0%ks.length,g.i1%ks.length],0,0⟩:=by simp[a0j,h9]
       rw[e]
       (repeat first|simp only[ww]|(apply xa;simp+decide only[go_sem,c6,c7,c8,c9];rfl;kernel_rfl))
       (apply fqb;simp+decide only[go_sem,di,hR]<;>rfl)
      by_cases h10:(g.kind%13)=10
      ·have c9:¬(((g.kind%13):Nat):Int)=9:=by omega
       have fy:(((g.kind%13):Nat):Int)=10:=by omega
       have e:a0j true g ks=⟨12,some (some 2),[g.i0%ks.length,g.i1%ks.length],0,0⟩:=by simp[a0j,h10]
       rw[e]
       (repeat first|simp only[ww]|(apply xa;simp+decide only[go_sem,c6,c7,c8,c9,fy];rfl;kernel_rfl))
       (apply fqb;simp+decide only[go_sem,di,hR]<;>rfl)
      have c9:¬(((g.kind%13):Nat):Int)=9:=by omega
      have fy:¬(((g.kind%13):Nat):Int)=10:=by omega
      by_cases h11:10<(g.kind%13)
      ·have fX:(10:Int)<(((g.kind%13):Nat):Int):=by omega
       by_cases dM:240<g.kind
       ·have cq:(240:Int)<g.kind:=by omega
        have u1:IntKind.u8.wrap (1+((g.i0%2:Nat):Int))=((1+g.i0%2:Nat):Int):=by rw[IntWalk.u8_in _ ⟨by omega,by omega⟩];omega
        have e:a0j true g ks=⟨1+g.i0%2,none,[],0,0⟩:=by simp[a0j,h6,h7,h8,h9,h10,dM,gb]
        rw[e]
        (repeat first|simp only[ww]|(apply xa;simp+decide only[go_sem,c6,c7,c8,c9,fy,cq,u1,fX];rfl;kernel_rfl))
        (apply fqb;simp+decide only[go_sem,di,hR]<;>rfl)
       ·have cq:¬(240:Int)<g.kind:=by omega
        have e:a0j true g ks=⟨3,some (some 1),[g.i0%ks.length],0,0⟩:=by simp[a0j,h6,h7,h8,h9,h10,dM,gb]
        rw[e]
        (repeat first|simp only[ww]|(apply xa;simp+decide only[go_sem,c6,c7,c8,c9,fy,cq,fX];rfl;kernel_rfl))
        (apply fqb;simp+decide only[go_sem,di,hR]<;>rfl)
      ·have fX:¬(10:Int)<(((g.kind%13):Nat):Int):=by omega
       by_cases dM:240<g.kind
       ·have cq:(240:Int)<g.kind:=by omega
        have u1:IntKind.u8.wrap (1+((g.i0%2:Nat):Int))=((1+g.i0%2:Nat):Int):=by rw[IntWalk.u8_in _ ⟨by omega,by omega⟩];omega
        have e:a0j true g ks=⟨1+g.i0%2,none,[],0,0⟩:=by simp[a0j,h6,h7,h8,h9,h10,dM,h11]
        rw[e]
        (repeat first|simp only[ww]|(apply xa;simp+decide only[go_sem,c6,c7,c8,c9,fy,cq,u1,fX];rfl;kernel_rfl))
        (apply fqb;simp+decide only[go_sem,di,hR]<;>rfl)
       ·have cq:¬(240:Int)<g.kind:=by omega
        have e:a0j true g ks=⟨3,some (some 1),[g.i0%ks.length],0,0⟩:=by simp[a0j,h6,h7,h8,h9,h10,dM,h11]
        rw[e]
        (repeat first|simp only[ww]|(apply xa;simp+decide only[go_sem,c6,c7,c8,c9,fy,cq,fX];rfl;kernel_rfl))
        (apply fqb;simp+decide only[go_sem,di,hR]<;>rfl)
     |false=>
      (repeat first|simp only[ww]|(apply xa;simp+decide only[go_sem,hb,w9];rfl;kernel_rfl))
      have wk:IntKind.u8.wrap (((g.kind%9):Nat):Int)=((g.kind%9):Nat):=wB (by omega);have eZ:(g.kind%9)<6→IntKind.u8.wrap (5+(((g.kind%9):Nat):Int))=((5+(g.kind%9):Nat):Int):=λh=>by rw[IntWalk.u8_in _ ⟨by omega,by omega⟩];omega
      by_cases h6:(g.kind%9)<6
      ·have c6:(((g.kind%9):Nat):Int)<6:=by omega
       have eZ:=eZ h6;by_cases eB:128≤g.kind
       ·have du:(128:Int)≤g.kind:=by omega
        have e:a0j false g ks=⟨5+(g.kind%9),some none,[g.i0%ks.length,g.i1%ks.length,g.i2%ks.length],0,0⟩:=by simp[a0j,h6,eB]
        rw[e]
        (repeat first|simp only[ww]|(apply xa;simp+decide only[go_sem,c6,wk,eZ,du];rfl;kernel_rfl))
        (apply fqb;simp+decide only[go_sem,di,hR]<;>rfl)
       ·have du:¬(128:Int)≤g.kind:=by omega
        have e:a0j false g ks=⟨5+(g.kind%9),some (some 2),[g.i0%ks.length,g.i1%ks.length],0,0⟩:=by simp[a0j,h6,eB]
        rw[e]
        (repeat first|simp only[ww]|(apply xa;simp+decide only[go_sem,c6,wk,eZ,du];rfl;kernel_rfl))
        (apply fqb;simp+decide only[go_sem,di,hR]<;>rfl)
      have c6:¬(((g.kind%9):Nat):Int)<6:=by omega
      by_cases h7:(g.kind%9)=6
      ·have c7:(((g.kind%9):Nat):Int)=6:=by omega
       have e:a0j false g ks=⟨4,some (some 1),[g.i0%ks.length],0,0⟩:=by simp[a0j,h7]
       rw[e]
       (repeat first|simp only[ww]|(apply xa;simp+decide only[go_sem,c6,c7];rfl;kernel_rfl))
       (apply fqb;simp+decide only[go_sem,di,hR]<;>rfl)
      have c7:¬(((g.kind%9):Nat):Int)=6:=by omega
      by_cases h8:(g.kind%9)=7
      ·have c8:(((g.kind%9):Nat):Int)=7:=by omega
       have e:a0j false g ks=⟨11,some (some 3),[g.i0%ks.length,g.i1%ks.length,g.i2%ks.length],0,0⟩:=by simp[a0j,h8]
       rw[e]
       (repeat first|simp only[ww]|(apply xa;simp+decide only[go_sem,c6,c7,c8];rfl;kernel_rfl))
       (apply fqb;simp+decide only[go_sem,di,hR]<;>rfl)
      have c8:¬(((g.kind%9):Nat):Int)=7:=by omega
      have c9:¬(((g.kind%9):Nat):Int)=9:=by omega
      have fy:¬(((g.kind%9):Nat):Int)=10:=by omega
      have n9:¬(g.kind%9)=9:=by omega
      have mT:¬(g.kind%9)=10:=by omega
      have fX:¬(10:Int)<(((g.kind%9):Nat):Int):=by omega
      have mR:¬10<(g.kind%9):=by omega
      by_cases dM:240<g.kind
      ·have cq:(240:Int)<g.kind:=by omega
       have u1:IntKind.u8.wrap (1+((g.i0%2:Nat):Int))=((1+g.i0%2:Nat):Int):=by rw[IntWalk.u8_in _ ⟨by omega,by omega⟩];omega
       have e:a0j false g ks=⟨1+g.i0%2,none,[],0,0⟩:=by simp[a0j,h6,h7,h8,n9,mT,dM,mR]
       rw[e]
       (repeat first|simp only[ww]|(apply xa;simp+decide only[go_sem,c6,c7,c8,c9,fy,cq,u1,fX];rfl;kernel_rfl))
       (apply fqb;simp+decide only[go_sem,di,hR]<;>rfl)
      ·have cq:¬(240:Int)<g.kind:=by omega
       have e:a0j false g ks=⟨3,some (some 1),[g.i0%ks.length],0,0⟩:=by simp[a0j,h6,h7,h8,n9,mT,dM,mR]
       rw[e]
       (repeat first|simp only[ww]|(apply xa;simp+decide only[go_sem,c6,c7,c8,c9,fy,cq,fX];rfl;kernel_rfl))
       (apply fqb;simp+decide only[go_sem,di,hR]<;>rfl)
    ·cases hb:x.bus with
     |true=>
      (repeat first|simp only[ww]|(apply xa;simp+decide only[go_sem,hb,pt];rfl;kernel_rfl))
      have wk:IntKind.u8.wrap (((g.kind%13):Nat):Int)=((g.kind%13):Nat):=wB (by omega);have eZ:(g.kind%13)<6→IntKind.u8.wrap (5+(((g.kind%13):Nat):Int))=((5+(g.kind%13):Nat):Int):=λh=>by rw[IntWalk.u8_in _ ⟨by omega,by omega⟩];omega
      by_cases h6:(g.kind%13)<6
      ·have c6:(((g.kind%13):Nat):Int)<6:=by omega
       have eZ:=eZ h6;by_cases eB:128≤g.kind
       ·have du:(128:Int)≤g.kind:=by omega
        have e:a0j true g ks=⟨5+(g.kind%13),some none,[g.i0%ks.length,g.i1%ks.length,g.i2%ks.length],0,0⟩:=by simp[a0j,h6,eB]
        rw[e]
        (repeat first|simp only[ww]|(apply xa;simp+decide only[go_sem,c6,wk,eZ,du];rfl;kernel_rfl))
        (apply fqb;simp+decide only[go_sem,di,hR]<;>rfl)
       ·have du:¬(128:Int)≤g.kind:=by omega
        have e:a0j true g ks=⟨5+(g.kind%13),some (some 2),[g.i0%ks.length,g.i1%ks.length],0,0⟩:=by simp[a0j,h6,eB]
        rw[e]
        (repeat first|simp only[ww]|(apply xa;simp+decide only[go_sem,c6,wk,eZ,du];rfl;kernel_rfl))
        (apply fqb;simp+decide only[go_sem,di,hR]<;>rfl)
      have c6:¬(((g.kind%13):Nat):Int)<6:=by omega
      by_cases h7:(g.kind%13)=6
      ·have c7:(((g.kind%13):Nat):Int)=6:=by omega
       have e:a0j true g ks=⟨4,some (some 1),[g.i0%ks.length],0,0⟩:=by simp[a0j,h7]
       rw[e]
       (repeat first|simp only[ww]|(apply xa;simp+decide only[go_sem,c6,c7];rfl;kernel_rfl))
       (apply fqb;simp+decide only[go_sem,di,hR]<;>rfl)
      have c7:¬(((g.kind%13):Nat):Int)=6:=by omega
      by_cases h8:(g.kind%13)=7
      ·have c8:(((g.kind%13):Nat):Int)=7:=by omega
       have e:a0j true g ks=⟨11,some (some 3),[g.i0%ks.length,g.i1%ks.length,g.i2%ks.length],0,0⟩:=by simp[a0j,h8]
       rw[e]
       (repeat first|simp only[ww]|(apply xa;simp+decide only[go_sem,c6,c7,c8];rfl;kernel_rfl))
       (apply fqb;simp+decide only[go_sem,di,hR]<;>rfl)
      have c8:¬(((g.kind%13):Nat):Int)=7:=by omega
      by_cases h9:(g.kind%13)=9
      ·have c9:(((g.kind%13):Nat):Int)=9:=by omega
       have e:a0j true g ks=⟨12,some (some 2),[g.i0%ks.length,g.i1%ks.length],0,0⟩:=by simp[a0j,h9]
       rw[e]
       (repeat first|simp only[ww]|(apply xa;simp+decide only[go_sem,c6,c7,c8,c9];rfl;kernel_rfl))
       (apply fqb;simp+decide only[go_sem,di,hR]<;>rfl)
      by_cases h10:(g.kind%13)=10
      ·have c9:¬(((g.kind%13):Nat):Int)=9:=by omega
       have fy:(((g.kind%13):Nat):Int)=10:=by omega
       have e:a0j true g ks=⟨12,some (some 2),[g.i0%ks.length,g.i1%ks.length],0,0⟩:=by simp[a0j,h10]
       rw[e]
       (repeat first|simp only[ww]|(apply xa;simp+decide only[go_sem,c6,c7,c8,c9,fy];rfl;kernel_rfl))
       (apply fqb;simp+decide only[go_sem,di,hR]<;>rfl)
      have c9:¬(((g.kind%13):Nat):Int)=9:=by omega
      have fy:¬(((g.kind%13):Nat):Int)=10:=by omega
      by_cases h11:10<(g.kind%13)
      ·have fX:(10:Int)<(((g.kind%13):Nat):Int):=by omega
       simp only[gb,e7g]at dY;have cp:(0:Int)<((l.length+1:Nat):Int):=by omega
       have nl:¬((l.length+1:Nat):Int)=0:=by omega
       have jl:g.i0%(l.length+1)<l.length+1:=f4n _ (by omega);have hj:([AV.int .i64 (t:Int)]::List.map a0f l)[g.i0%(l.length+1)]?=some [.int .i64 (((t::l).getD (g.i0%(l.length+1)) 0:Nat):Int)]:=c7t t l _ jl;by_cases h1:1<l.length+1
       ·have c1:(1:Int)<((l.length+1:Nat):Int):=by omega
        have kl:(g.i0%(l.length+1)+1)%(l.length+1)<l.length+1:=f4n _ (by omega);have tt:([AV.int .i64 (t:Int)]::List.map a0f l)[(g.i0%(l.length+1)+1)%(l.length+1)]?=some [.int .i64 (((t::l).getD ((g.i0%(l.length+1)+1)%(l.length+1)) 0:Nat):Int)]:=c7t t l _ kl;have wj:=wI1 (n:=g.i0%(l.length+1)) (by omega);have e:a0j true g ks=⟨13,some none,[(t::l).getD (g.i0%(l.length+1)) 0,(t::l).getD ((g.i0%(l.length+1)+1)%(l.length+1)) 0],0,0⟩:=by simp[a0j,h6,h7,h8,h9,h10,h11,gb,h1]
        rw[e]
        (repeat first|simp only[ww]|(apply xa;simp+decide only[go_sem,c6,c7,c8,c9,fy,fX,cp,nl,w0,jl,hj,c1,kl,tt,wj];rfl;kernel_rfl))
        (apply fqb;simp+decide only[go_sem,di,hR]<;>rfl)
       ·have c1:¬(1:Int)<((l.length+1:Nat):Int):=by omega
        have e:a0j true g ks=⟨13,some (some 1),[(t::l).getD (g.i0%(l.length+1)) 0],0,0⟩:=by simp[a0j,h6,h7,h8,h9,h10,h11,gb,h1]
        rw[e]
        (repeat first|simp only[ww]|(apply xa;simp+decide only[go_sem,c6,c7,c8,c9,fy,fX,cp,nl,w0,jl,hj,c1];rfl;kernel_rfl))
        (apply fqb;simp+decide only[go_sem,di,hR]<;>rfl)
      ·have fX:¬(10:Int)<(((g.kind%13):Nat):Int):=by omega
       by_cases dM:240<g.kind
       ·have cq:(240:Int)<g.kind:=by omega
        have u1:IntKind.u8.wrap (1+((g.i0%2:Nat):Int))=((1+g.i0%2:Nat):Int):=by rw[IntWalk.u8_in _ ⟨by omega,by omega⟩];omega
        have e:a0j true g ks=⟨1+g.i0%2,none,[],0,0⟩:=by simp[a0j,h6,h7,h8,h9,h10,dM,h11]
        rw[e]
        (repeat first|simp only[ww]|(apply xa;simp+decide only[go_sem,c6,c7,c8,c9,fy,cq,u1,fX];rfl;kernel_rfl))
        (apply fqb;simp+decide only[go_sem,di,hR]<;>rfl)
       ·have cq:¬(240:Int)<g.kind:=by omega
        have e:a0j true g ks=⟨3,some (some 1),[g.i0%ks.length],0,0⟩:=by simp[a0j,h6,h7,h8,h9,h10,dM,h11]
        rw[e]
        (repeat first|simp only[ww]|(apply xa;simp+decide only[go_sem,c6,c7,c8,c9,fy,cq,fX];rfl;kernel_rfl))
        (apply fqb;simp+decide only[go_sem,di,hR]<;>rfl)
     |false=>
      (repeat first|simp only[ww]|(apply xa;simp+decide only[go_sem,hb,w9];rfl;kernel_rfl))
      have wk:IntKind.u8.wrap (((g.kind%9):Nat):Int)=((g.kind%9):Nat):=wB (by omega);have eZ:(g.kind%9)<6→IntKind.u8.wrap (5+(((g.kind%9):Nat):Int))=((5+(g.kind%9):Nat):Int):=λh=>by rw[IntWalk.u8_in _ ⟨by omega,by omega⟩];omega
      by_cases h6:(g.kind%9)<6
      ·have c6:(((g.kind%9):Nat):Int)<6:=by omega
       have eZ:=eZ h6;by_cases eB:128≤g.kind
       ·have du:(128:Int)≤g.kind:=by omega
        have e:a0j false g ks=⟨5+(g.kind%9),some none,[g.i0%ks.length,g.i1%ks.length,g.i2%ks.length],0,0⟩:=by simp[a0j,h6,eB]
        rw[e]
        (repeat first|simp only[ww]|(apply xa;simp+decide only[go_sem,c6,wk,eZ,du];rfl;kernel_rfl))
        (apply fqb;simp+decide only[go_sem,di,hR]<;>rfl)
       ·have du:¬(128:Int)≤g.kind:=by omega
        have e:a0j false g ks=⟨5+(g.kind%9),some (some 2),[g.i0%ks.length,g.i1%ks.length],0,0⟩:=by simp[a0j,h6,eB]
        rw[e]
        (repeat first|simp only[ww]|(apply xa;simp+decide only[go_sem,c6,wk,eZ,du];rfl;kernel_rfl))
        (apply fqb;simp+decide only[go_sem,di,hR]<;>rfl)
      have c6:¬(((g.kind%9):Nat):Int)<6:=by omega
      by_cases h7:(g.kind%9)=6
      ·have c7:(((g.kind%9):Nat):Int)=6:=by omega
       have e:a0j false g ks=⟨4,some (some 1),[g.i0%ks.length],0,0⟩:=by simp[a0j,h7]
       rw[e]
       (repeat first|simp only[ww]|(apply xa;simp+decide only[go_sem,c6,c7];rfl;kernel_rfl))
       (apply fqb;simp+decide only[go_sem,di,hR]<;>rfl)
      have c7:¬(((g.kind%9):Nat):Int)=6:=by omega
      by_cases h8:(g.kind%9)=7
      ·have c8:(((g.kind%9):Nat):Int)=7:=by omega
       have e:a0j false g ks=⟨11,some (some 3),[g.i0%ks.length,g.i1%ks.length,g.i2%ks.length],0,0⟩:=by simp[a0j,h8]
       rw[e]
       (repeat first|simp only[ww]|(apply xa;simp+decide only[go_sem,c6,c7,c8];rfl;kernel_rfl))
       (apply fqb;simp+decide only[go_sem,di,hR]<;>rfl)
      have c8:¬(((g.kind%9):Nat):Int)=7:=by omega
      have c9:¬(((g.kind%9):Nat):Int)=9:=by omega
      have fy:¬(((g.kind%9):Nat):Int)=10:=by omega
      have n9:¬(g.kind%9)=9:=by omega
      have mT:¬(g.kind%9)=10:=by omega
      have fX:¬(10:Int)<(((g.kind%9):Nat):Int):=by omega
      have mR:¬10<(g.kind%9):=by omega
      by_cases dM:240<g.kind
      ·have cq:(240:Int)<g.kind:=by omega
       have u1:IntKind.u8.wrap (1+((g.i0%2:Nat):Int))=((1+g.i0%2:Nat):Int):=by rw[IntWalk.u8_in _ ⟨by omega,by omega⟩];omega
       have e:a0j false g ks=⟨1+g.i0%2,none,[],0,0⟩:=by simp[a0j,h6,h7,h8,n9,mT,dM,mR]
       rw[e]
       (repeat first|simp only[ww]|(apply xa;simp+decide only[go_sem,c6,c7,c8,c9,fy,cq,u1,fX];rfl;kernel_rfl))
       (apply fqb;simp+decide only[go_sem,di,hR]<;>rfl)
      ·have cq:¬(240:Int)<g.kind:=by omega
       have e:a0j false g ks=⟨3,some (some 1),[g.i0%ks.length],0,0⟩:=by simp[a0j,h6,h7,h8,n9,mT,dM,mR]
       rw[e]
       (repeat first|simp only[ww]|(apply xa;simp+decide only[go_sem,c6,c7,c8,c9,fy,cq,fX];rfl;kernel_rfl))
       (apply fqb;simp+decide only[go_sem,di,hR]<;>rfl)
theorem d45(x:CX)(g:GX)(hg:g.ok)(R:List (List AV))(ks:List Nat)(cap:Option Nat)(hk:KindRows R ks)(h0:0<ks.length)(hl:ks.length<1000)(hR:R.flatMap a0d=[])(hI:FixR 1 R) :
 sem L.env Mf 32 [.agg x.enc,.agg g.enc,.slice 0 0 ks.length cap] [some (.row 4 R)]=some (.agg (a0j x.bus g ks).enc,[some (.row 4 R)]):=b7l 1 2 3 4 _ _ (.inl ⟨rfl,rfl,rfl,rfl,rfl,rfl⟩) x g hg R ks cap hk h0 hl hR hI
theorem d44(x:CX)(g:GX)(hg:g.ok)(R:List (List AV))(ks:List Nat)(cap:Option Nat)(hk:KindRows R ks)(h0:0<ks.length)(hl:ks.length<1000)(hR:R.flatMap a0d=[1])(hI:FixR 2 R) :
 sem L.env Mf 32 [.agg x.enc,.agg g.enc,.slice 0 0 ks.length cap] [some (.row 4 R),some (.row 1 [[.int .i64 0]])]=some (.agg (a0j x.bus g ks).enc,[some (.row 4 R),some (.row 1 [[.int .i64 0]])]):=b7l 2 3 4 5 _ _ (.inr (.inl ⟨rfl,rfl,rfl,rfl,rfl,rfl⟩)) x g hg R ks cap hk h0 hl hR hI
theorem d43(x:CX)(g:GX)(hg:g.ok)(R:List (List AV))(ks:List Nat)(cap:Option Nat)(hk:KindRows R ks)(h0:0<ks.length)(hl:ks.length<1000)(hR:R.flatMap a0d=[1,2])(hI:FixR 3 R) :
 sem L.env Mf 32 [.agg x.enc,.agg g.enc,.slice 0 0 ks.length cap] [some (.row 4 R),some (.row 1 [[.int .i64 0]]),some (.row 1 [[.int .i64 0]])]=some (.agg (a0j x.bus g ks).enc,[some (.row 4 R),some (.row 1 [[.int .i64 0]]),some (.row 1 [[.int .i64 0]])]):=b7l 3 4 5 6 _ _ (.inr (.inr ⟨rfl,rfl,rfl,rfl,rfl,rfl⟩)) x g hg R ks cap hk h0 hl hR hI
theorem c5s{d:Bool}(x:CX)(g:GX)(hg:g.ok)(gs:List Nd)(k n:Nat)(hk:0<k)(hn:n=k+0+gs.length)(hl:n<1000)(X0 X1 X2:Option AObj) :
 a0a L.env d (sem L.env Mf) (.func (.func 32) [] []) [.agg x.enc,.agg g.enc,.slice 3 0 n none] [X0,X1,X2,some (.row 4 (List.replicate k a5y++[]++gs.map Nd.enc))]=some (.agg (a0j x.bus g (List.replicate k 0++List.replicate 0 14++gs.map Nd.kind)).enc,[X0,X1,X2,some (.row 4 (List.replicate k a5y++[]++gs.map Nd.enc))],[3]):=by
 have nK:KindRows (List.replicate k a5y++[]++gs.map Nd.enc) (List.replicate k 0++List.replicate 0 14++gs.map Nd.kind):=(((KindRows.rep k 0 _ _ _).append KindRows.nil).append (KindRows.nds gs))
 have al:(List.replicate k 0++List.replicate 0 14++gs.map Nd.kind).length=n:=by simp;omega
 have hr:=d45 x g hg (List.replicate k a5y++[]++gs.map Nd.enc) (List.replicate k 0++List.replicate 0 14++gs.map Nd.kind) none nK (by rw[al];omega) (by rw[al];exact hl) (by simp+decide only[go_sem,a0i]) ?_
 ·rw[al]at hr;have hc:=a1r (sem L.env Mf 32) [.agg x.enc,.agg g.enc,.slice 3 0 n none] [X0,X1,X2,some (.row 4 (List.replicate k a5y++[]++gs.map Nd.enc))] (σ:=[3]) (by simp+decide only[go_sem,a0i]) (by decide) (by simp+decide only[go_sem]) (au:=[.agg x.enc,.agg g.enc,.slice 0 0 n none]) (by simp+decide only[go_sem]) (H0:=[some (.row 4 (List.replicate k a5y++[]++gs.map Nd.enc))]) (by simp+decide only[go_sem,a0i,a10]) hr;refine a7a (by kernel_rfl) (by kernel_rfl) rfl (hc.trans ?_) rfl;simp+decide only[go_sem,a0i,a10]<;>rfl
 ·refine FixR.append (FixR.append (FixR.flat (FlatR.replicate rfl)) ?_) (FixR.flat (c3w gs));intro π hπ;simp+decide only[go_sem]
theorem c5r{d:Bool}(x:CX)(g:GX)(hg:g.ok)(gs:List Nd)(k n:Nat)(hk:0<k)(hn:n=k+1+gs.length)(hl:n<1000)(X0 X1 X2:Option AObj) :
 a0a L.env d (sem L.env Mf) (.func (.func 32) [] []) [.agg x.enc,.agg g.enc,.slice 3 0 n none] [X0,X1,X2,some (.row 4 (List.replicate k a5y++[dR 4]++gs.map Nd.enc)),one 0]=some (.agg (a0j x.bus g (List.replicate k 0++List.replicate 1 14++gs.map Nd.kind)).enc,[X0,X1,X2,some (.row 4 (List.replicate k a5y++[dR 4]++gs.map Nd.enc)),one 0],[3,4]):=by
 have nK:KindRows (List.replicate k a5y++[dR 1]++gs.map Nd.enc) (List.replicate k 0++List.replicate 1 14++gs.map Nd.kind):=(((KindRows.rep k 0 _ _ _).append (KindRows.nil).cons).append (KindRows.nds gs))
 have al:(List.replicate k 0++List.replicate 1 14++gs.map Nd.kind).length=n:=by simp;omega
 have hr:=d44 x g hg (List.replicate k a5y++[dR 1]++gs.map Nd.enc) (List.replicate k 0++List.replicate 1 14++gs.map Nd.kind) none nK (by rw[al];omega) (by rw[al];exact hl) (by simp+decide only[go_sem,a0i]) ?_
 ·rw[al]at hr;have hc:=a1r (sem L.env Mf 32) [.agg x.enc,.agg g.enc,.slice 3 0 n none] [X0,X1,X2,some (.row 4 (List.replicate k a5y++[dR 4]++gs.map Nd.enc)),one 0] (σ:=[3,4]) (by simp+decide only[go_sem,a0i]) (by decide) (by simp+decide only[go_sem]) (au:=[.agg x.enc,.agg g.enc,.slice 0 0 n none]) (by simp+decide only[go_sem]) (H0:=[some (.row 4 (List.replicate k a5y++[dR 1]++gs.map Nd.enc)),one 0]) (by simp+decide only[go_sem,a0i,a10]) hr;refine a7a (by kernel_rfl) (by kernel_rfl) rfl (hc.trans ?_) rfl;simp+decide only[go_sem,a0i,a10]<;>rfl
 ·refine FixR.append (FixR.append (FixR.flat (FlatR.replicate rfl)) ?_) (FixR.flat (c3w gs));intro π hπ;simp+decide only[go_sem,hπ 1 (by omega)]
theorem c5q{d:Bool}(x:CX)(g:GX)(hg:g.ok)(gs:List Nd)(k n:Nat)(hk:0<k)(hn:n=k+2+gs.length)(hl:n<1000)(X0 X1 X2:Option AObj) :
 a0a L.env d (sem L.env Mf) (.func (.func 32) [] []) [.agg x.enc,.agg g.enc,.slice 3 0 n none] [X0,X1,X2,some (.row 4 (List.replicate k a5y++[dR 4,dR 5]++gs.map Nd.enc)),one 0,one 0]=some (.agg (a0j x.bus g (List.replicate k 0++List.replicate 2 14++gs.map Nd.kind)).enc,[X0,X1,X2,some (.row 4 (List.replicate k a5y++[dR 4,dR 5]++gs.map Nd.enc)),one 0,one 0],[3,4,5]):=by
 have nK:KindRows (List.replicate k a5y++[dR 1,dR 2]++gs.map Nd.enc) (List.replicate k 0++List.replicate 2 14++gs.map Nd.kind):=(((KindRows.rep k 0 _ _ _).append ((KindRows.nil).cons).cons).append (KindRows.nds gs))
 have al:(List.replicate k 0++List.replicate 2 14++gs.map Nd.kind).length=n:=by simp;omega
 have hr:=d43 x g hg (List.replicate k a5y++[dR 1,dR 2]++gs.map Nd.enc) (List.replicate k 0++List.replicate 2 14++gs.map Nd.kind) none nK (by rw[al];omega) (by rw[al];exact hl) (by simp+decide only[go_sem,a0i]) ?_
 ·rw[al]at hr;have hc:=a1r (sem L.env Mf 32) [.agg x.enc,.agg g.enc,.slice 3 0 n none] [X0,X1,X2,some (.row 4 (List.replicate k a5y++[dR 4,dR 5]++gs.map Nd.enc)),one 0,one 0] (σ:=[3,4,5]) (by simp+decide only[go_sem,a0i]) (by decide) (by simp+decide only[go_sem]) (au:=[.agg x.enc,.agg g.enc,.slice 0 0 n none]) (by simp+decide only[go_sem]) (H0:=[some (.row 4 (List.replicate k a5y++[dR 1,dR 2]++gs.map Nd.enc)),one 0,one 0]) (by simp+decide only[go_sem,a0i,a10]) hr;refine a7a (by kernel_rfl) (by kernel_rfl) rfl (hc.trans ?_) rfl;simp+decide only[go_sem,a0i,a10]<;>rfl
 ·refine FixR.append (FixR.append (FixR.flat (FlatR.replicate rfl)) ?_) (FixR.flat (c3w gs));intro π hπ;simp+decide only[go_sem,hπ 1 (by omega),hπ 2 (by omega)]
theorem e2t(x:CX)(hx:x.ok)(hm:x.mem=false)(hd:x.d=0) :
 sem L.env Mf 10 [.agg x.enc] []=some (.agg x.cir.enc,[]):=by
 obtain⟨x1,x2,x3,x4,x5,x6⟩:=hx;have mp:x.inn%4+1=x.k:=rfl;have lQ:x.dffs%3=0:=hd;have kk:x.k≤4:=by unfold CX.k;omega
 have kp:0<x.k:=by unfold CX.k;omega
 have gl:x.gs.length≤8:=by unfold CX.gs;rw[f02];omega
 have w4:=wI (n:=x.inn%4) (by omega);have w3:=wI (n:=x.dffs%3) (by omega);obtain⟨k',eX⟩:∃k',x.k=k'+1:=⟨x.k-1,by omega⟩
 (refine sv Tryz.f10 ?_;simp only[Tryz.f10,gS])
 (repeat first|simp only[ww]|(apply xa;simp+decide only[go_sem];rfl;kernel_rfl))
 -- the inputs
 refine a2n (σ:=Nat) kp10_0 (λi=>[(1,.ptr 0 0 0),(2,.ptr 1 0 0),(3,.ptr 2 0 0),(4,.int .i64 i)])
  (λi=>[xh x,rh,some (.row 4 [[nV i,.nilslice,.nilslice,.nilslice]])]++nH i) (λi=>x.k-i) (λi=>i≤x.k) 0 ?_ (e8e _) ?_ ?_
 ·(simp+decide only[go_sem,a01,a00,nV0,nH0]<;>rfl)
 ·intro i _;cases i with
  |zero=>((simp+decide only[go_sem,a01,a00,nV0,nH0]<;>rfl))
  |succ i=>((simp+decide only[go_sem,a01,a00,nVs,nHs]<;>rfl))
 ·intro i hi;by_cases aj:i<x.k
  ·have c1:(i:Int)≤((x.inn%4:Nat):Int):=by omega
   have hw:=wI1 (n:=i) (by omega);cases i with
   |zero=>
    (repeat first|simp only[ww]|(apply xa;simp+decide only[go_sem,w4,c1,hw,nV0,nH0];rfl;kernel_rfl))
    refine a25 1 ?_ (by omega) (by omega)
    ((simp+decide only[go_sem,a01,a00,nVs,nHs]<;>rfl))
   |succ i=>
    have aK:i+1+1≤1000000000:=by omega
    (repeat first|simp only[ww]|(apply xa;simp+decide only[go_sem,w4,c1,hw,nVs,nHs,aK,a5b];rfl;kernel_rfl))
    refine a25 (i+1+1) ?_ (by omega) (by omega)
    ((simp+decide only[go_sem,a01,a00,nVs,nHs,a5b]<;>rfl))
  have jx:i=x.k:=by omega
  subst jx;have c1:¬((x.k:Nat):Int)≤((x.inn%4:Nat):Int):=by omega
  have mP:nV x.k = .slice 3 0 x.k none:=by rw[eX];rfl
  have mQ:nH x.k=[some (.row 4 (List.replicate x.k a5y))]:=by rw[eX];rfl
  rw[mP,mQ]
  (repeat first|simp only[ww]|(apply xa;simp+decide only[go_sem,w4,w3,c1,lQ];rfl;kernel_rfl))
  -- the flip-flops
  refine a2n (σ:=Nat) kp10_2 (λi=>[(1,.ptr 0 0 0),(2,.ptr 1 0 0),(3,.ptr 2 0 0),(5,.int .i64 x.k),(6,.int .i64 0),(7,.int .i64 i)])
   (λi=>match i with|_=>[xh x,rh,some (.row 4 [[.slice 3 0 (x.k+0) none,.nilslice,.nilslice,.nilslice]]),some (.row 4 (List.replicate x.k a5y++[]))]++[]) (λi=>0-i) (λi=>i≤0) 0 ?_ (e8e _) ?_ ?_
  ·(simp+decide only[go_sem,a01,a00]<;>rfl)
  ·intro i hi;obtain rfl:i=0:=by omega
   ((simp+decide only[go_sem,a01,a00]<;>rfl))
  ·intro i hi;obtain rfl:i=0:=by omega
   (repeat first|simp only[ww]|(apply xa;simp+decide only[go_sem,hm];rfl;kernel_rfl))
   -- the gates
   refine a2n (σ:=Nat) kp10_4 (λi=>[(1,.ptr 0 0 0),(2,.ptr 1 0 0),(3,.ptr 2 0 0),(5,.int .i64 x.k),(6,.int .i64 0),(8,.int .i64 i)])
    (λi=>[xh x,rh,some (.row 4 [[.slice 3 0 (x.k+0+i) none,.nilslice,.nilslice,.nilslice]]),some (.row 4 (List.replicate x.k a5y++[]++(gN x.bus x.base (x.gates.take i)).map Nd.enc))]++[]) (λi=>x.gs.length-i) (λi=>i≤x.gs.length) 0 ?_ (e8e _) ?_ ?_
   ·(simp+decide only[go_sem,a01,a00,hm,e9l,c9y,e7m]<;>rfl)
   ·intro i _
    (simp+decide only[go_sem,a01,a00,hm,a0i,a10,e7m]<;>rfl)
   ·intro i hi;have gh:x.gs.length=min 8 x.gates.length:=by unfold CX.gs;rw[f02]
    by_cases aj:i<x.gs.length
    ·obtain⟨g,hg⟩:∃g,x.gates[i]?=some g:=⟨_,z9e (by omega)⟩
     have c1:(i:Int)<x.gates.length:=by omega
     have hE:i<x.gates.length:=by omega
     have c2:(i:Int)<8:=by omega
     have hw:=wI1 (n:=i) (by omega);have iY:g.ok:=x5 g (c11 hg);have gU:(gN x.bus x.base (x.gates.take i)).length=i:=by rw[a52,f02];omega
     have hs:=b7m x.bus g (x.gates.take i) x.base;rw[←a1d hg]at hs;have ai:=c5s (d:=true) x g iY (gN x.bus x.base (x.gates.take i)) x.k (x.k+0+i) kp (by rw[gU]) (by omega) (xh x) rh (some (.row 4 [[.slice 3 0 (x.k+0+i) none,.nilslice,.nilslice,.nilslice]]));rw[show List.replicate x.k 0++List.replicate 0 14++(gN x.bus x.base (x.gates.take i)).map Nd.kind=x.base++(gN x.bus x.base (x.gates.take i)).map Nd.kind by unfold CX.base;rw[hd]]at ai;generalize a0j x.bus g (x.base++(gN x.bus x.base (x.gates.take i)).map Nd.kind)=nd at ai hs;simp+decide only[go_sem,hm,e7m]at ai;have aK:x.k+i+1≤1000000000:=by omega
     have al:decide (x.k+i=x.k+(i))=true:=e9w (by omega)
     (repeat first|simp only[ww]|(apply xa;simp+decide only[go_sem,hm,c1,hE,c2,hw,hg,ai,aK,al,e7m,gU];rfl;kernel_rfl))
     refine a25 (i+1) ?_ (by omega) (by omega);rw[hs]
     (simp+decide only[go_sem,a01,a00,hm,a0i,a10,e7m]<;>rfl)
    have ey:i=x.gs.length:=by omega
    subst ey;rw[x.gs_take];have gU:(gN x.bus x.base x.gs).length=x.gs.length:=a52 _ _ _;have d6:x.n=x.k+0+x.gs.length:=by unfold CX.n;rw[hd]
    rw[←d6];generalize hG:gN x.bus x.base x.gs=gg at gU;have rL:0<x.n:=by omega
    have dw:x.n≤14:=by omega
    have cA:¬(x.n:Int)=0:=by omega
    have km:¬((x.gs.length:Int)<x.gates.length∧(x.gs.length:Int)<8):=by omega
    -- the guard of the loop's end is decided in either case
    have eP:∀F,F=[(1,AV.ptr 0 0 0),(2,.ptr 1 0 0),(3,.ptr 2 0 0),(5,.int .i64 x.k),(6,.int .i64 0),(8,.int .i64 x.gs.length)]→True:=λ_ _=>trivial;rcases f1d x.gs.length x.gates.length with g1|g1
    all_goals first
    |(have c1:(x.gs.length:Int)<x.gates.length:=(by omega);have c2:¬(x.gs.length:Int)<8:=(by omega);(repeat first|simp only[ww]|(apply xa;simp+decide only[go_sem,c1,c2,hm];rfl;kernel_rfl)))
    |(have c1:¬(x.gs.length:Int)<x.gates.length:=(by omega);(repeat first|simp only[ww]|(apply xa;simp+decide only[go_sem,c1,hm];rfl;kernel_rfl)))
    all_goals
     -- the flip-flops' data
     refine a2n (σ:=Nat) kp10_6 (λi=>[(1,.ptr 0 0 0),(2,.ptr 1 0 0),(3,.ptr 2 0 0),(5,.int .i64 x.k),(6,.int .i64 0),(9,.int .i64 x.n),(10,.int .i64 i)])
      (λi=>match i with|_=>[xh x,rh,some (.row 4 [[.slice 3 0 x.n none,.nilslice,.nilslice,.nilslice]]),some (.row 4 (List.replicate x.k a5y++[]++gg.map Nd.enc))]++[]) (λi=>0-i) (λi=>i≤0) 0 ?_ (e8e _) ?_ ?_
     ·(simp+decide only[go_sem,a01,a00,hm,a0i,a10,e7m]<;>rfl)
     ·intro i hi;obtain rfl:i=0:=by omega
      (simp+decide only[go_sem,a01,a00,hm,a0i,a10,e7m]<;>rfl)
     ·intro i hi;obtain rfl:i=0:=by omega
      (repeat first|simp only[ww]|(apply xa;simp+decide only[go_sem,hm];rfl;kernel_rfl))
      -- the names
      refine a2n (σ:=Nat) kp10_8 (λi=>[(1,.ptr 0 0 0),(2,.ptr 1 0 0),(3,.ptr 2 0 0),(9,.int .i64 x.n),(11,.int .i64 i)])
       (λi=>[xh x,rh,some (.row 4 [[.slice 3 0 x.n none,slN 4 i,.nilslice,.nilslice]]),some (.row 4 (List.replicate x.k a5y++[]++gg.map Nd.enc))]++[]++nmH i) (λi=>x.n-i) (λi=>i≤x.n) 0 ?_ (e8e _) ?_ ?_
      ·(simp+decide only[go_sem,a01,a00,hm,b4p,d30,a0i,a10,e7m]<;>rfl)
      ·intro i _;cases i with
       |zero=>(simp+decide only[go_sem,a01,a00,hm,b4p,d30,a0i,a10,e7m]<;>rfl)
       |succ i=>(simp+decide only[go_sem,a01,a00,hm,a9i,c6r,a0i,a10,a2e,a3k,e7m]<;>rfl)
      ·intro i hi;by_cases aj:i<x.n
       ·have c1:(i:Int)<x.n:=by omega
        have hw:=wI1 (n:=i) (by omega);have ai:=λH=>b33 (d:=true) H i (by omega);have aK:i+1≤1000000000:=by omega
        cases i with
        |zero=>
         (repeat first|simp only[ww]|(apply xa;simp+decide only[go_sem,hm,c1,hw,ai,b4p,d30];rfl;kernel_rfl))
         refine a25 1 ?_ (by omega) (by omega)
         (simp+decide only[go_sem,a01,a00,hm,a9i,c6r,a0i,a10,nm1,e7m]<;>rfl)
        |succ i=>
         have aK:i+1+1≤1000000000:=by omega
         (repeat first|simp only[ww]|(apply xa;simp+decide only[go_sem,hm,c1,hw,ai,a9i,c6r,aK,f0o];rfl;kernel_rfl))
         refine a25 (i+1+1) ?_ (by omega) (by omega)
         (simp+decide only[go_sem,a01,a00,hm,a9i,c6r,a0i,a10,a2e,a3k,c1h,e7m]<;>rfl)
       have ey:i=x.n:=by omega
       subst ey;have c1:¬(x.n:Int)<x.n:=by omega
       obtain⟨n',gQ⟩:∃n',x.n=n'+1:=⟨x.n-1,by omega⟩
       have e1:slN 4 x.n = .slice 4 0 x.n none:=by rw[gQ];rfl
       have e2:nmH x.n=[some (.row 1 ((List.range x.n).map nmR))]:=by rw[gQ];rfl
       rw[e1,e2]
       (repeat first|simp only[ww]|(apply xa;simp+decide only[go_sem,hm,c1];rfl;kernel_rfl))
       -- the outputs
       refine a2n (σ:=Nat) kp10_10 (λi=>[(1,.ptr 0 0 0),(2,.ptr 1 0 0),(3,.ptr 2 0 0),(9,.int .i64 x.n),(12,.int .i64 i)])
        (λi=>[xh x,rh,some (.row 4 [[.slice 3 0 x.n none,.slice 4 0 x.n none,.nilslice,slN 5 i]]),some (.row 4 (List.replicate x.k a5y++[]++gg.map Nd.enc))]++[]++[some (.row 1 ((List.range x.n).map nmR))]++otH x i) (λi=>3-i) (λi=>i≤3∧i≤x.outs.length) 0 ?_ ⟨by omega,by omega⟩ ?_ ?_
       ·(simp+decide only[go_sem,a01,a00,hm,b4p,c6q,a0i,a10,a2e,a3k,e7m]<;>rfl)
       ·intro i _;cases i with
        |zero=>(simp+decide only[go_sem,a01,a00,hm,b4p,c6q,a0i,a10,a2e,a3k,e7m]<;>rfl)
        |succ i=>(simp+decide only[go_sem,a01,a00,hm,a9i,b8j,a0i,a10,a2e,a3k,b0q,b5f,e7m]<;>rfl)
       ·intro i hi;by_cases aj:i<3∧i<x.outs.length
        ·obtain⟨o,ho⟩:∃o,x.outs[i]?=some o:=⟨_,z9e aj.2⟩
         have dF:=x6 o (c11 ho);have wo:=wI (n:=o) (by omega);have c1:(i:Int)<x.outs.length:=by omega
         have hE:i<x.outs.length:=by omega
         have c2:(i:Int)<3:=by omega
         have hw:=wI1 (n:=i) (by omega);have ht:=a1d ho;have dY:(x.outs.take i).length=i:=by rw[f02];omega
         cases i with
         |zero=>
          (repeat first|simp only[ww]|(apply xa;simp+decide only[go_sem,hm,c1,hE,c2,hw,ho,wo,cA,b4p,c6q];rfl;kernel_rfl))
          refine a25 1 ?_ (by omega) ⟨by omega,by omega⟩
          (simp+decide only[go_sem,a01,a00,hm,a9i,b8j,a0i,a10,a2e,a3k,ht,e9l,e7m]<;>rfl)
         |succ i=>
          have aK:i+1+1≤1000000000:=by omega
          (repeat first|simp only[ww]|(apply xa;simp+decide only[go_sem,hm,c1,hE,c2,hw,ho,wo,cA,a9i,b8j,aK,dY];rfl;kernel_rfl))
          refine a25 (i+1+1) ?_ (by omega) ⟨by omega,by omega⟩
          (simp+decide only[go_sem,a01,a00,hm,a9i,b8j,a0i,a10,a2e,a3k,b0q,b5f,ht,e7m]<;>rfl)
        have nN:x.outs.take i=x.outs.take 3:=by
         by_cases h3:i=3
         ·rw[h3]
         ·rw[e8b (by omega),e8b (by omega)]
        have dp:(x.outs.take i).length=i:=by rw[f02];omega
        have iE:IntKind.i64.wrap ((x.n:Int)-1)=((x.n-1:Nat):Int):=by rw[w64 (by omega) (by omega)];omega
        have eK:x.cir=⟨some none,List.replicate x.k c1v++[]++gg,some none,(List.range x.n).map a2h,some none,(x.outs.take i).map (·% x.n)++[x.n-1]⟩:=by rw[nN,←hG];simp[CX.cir,CX.nodes,CX.dn,CX.names,CX.outN,hd]
        rw[eK];have eO:x.n≤x.k+gg.length:=by omega
        have d8:x.k+gg.length≤x.n:=by omega
        cases i with
        |zero=>
         have c1:¬((0:Nat):Int)<x.outs.length:=by omega
         (repeat first|simp only[ww]|(apply xa;simp+decide only[go_sem,hm,c1,b4p,c6q,iE,dp];rfl;kernel_rfl))
         (apply fqb;simp+decide only[go_sem,hm,b0o,b68,b67,b66,a4o,f3e,dp,c1v,a9d,b5s,Cir.enc,a8d,eO,d8,f0o,e9k,b5q,e9l]<;>rfl)
        |succ i=>
         have aK:i+1+1≤1000000000:=by omega
         rcases f1d (i+1) x.outs.length with g1|g1
         all_goals first
         |(have c1:((i+1:Nat):Int)<x.outs.length:=(by omega);have c2:¬((i+1:Nat):Int)<3:=(by omega);(repeat first|simp only[ww]|(apply xa;simp+decide only[go_sem,hm,c1,c2,a9i,b8j,aK,iE,dp];rfl;kernel_rfl)))
         |(have c1:¬((i+1:Nat):Int)<x.outs.length:=(by omega);(repeat first|simp only[ww]|(apply xa;simp+decide only[go_sem,hm,c1,a9i,b8j,aK,iE,dp];rfl;kernel_rfl)))
         all_goals (apply fqb;simp+decide only[go_sem,hm,b0o,b68,b67,b66,a4o,f3e,dp,c1v,a9d,b5s,Cir.enc,a8d,eO,d8,f0o,e9k,b5q]<;>rfl)
theorem e2s(x:CX)(hx:x.ok)(hm:x.mem=false)(hd:x.d=1) :
 sem L.env Mf 10 [.agg x.enc] []=some (.agg x.cir.enc,[]):=by
 obtain⟨x1,x2,x3,x4,x5,x6⟩:=hx;have mp:x.inn%4+1=x.k:=rfl;have lQ:x.dffs%3=1:=hd;have kk:x.k≤4:=by unfold CX.k;omega
 have kp:0<x.k:=by unfold CX.k;omega
 have gl:x.gs.length≤8:=by unfold CX.gs;rw[f02];omega
 have w4:=wI (n:=x.inn%4) (by omega);have w3:=wI (n:=x.dffs%3) (by omega);obtain⟨k',eX⟩:∃k',x.k=k'+1:=⟨x.k-1,by omega⟩
 (refine sv Tryz.f10 ?_;simp only[Tryz.f10,gS])
 (repeat first|simp only[ww]|(apply xa;simp+decide only[go_sem];rfl;kernel_rfl))
 -- the inputs
 refine a2n (σ:=Nat) kp10_0 (λi=>[(1,.ptr 0 0 0),(2,.ptr 1 0 0),(3,.ptr 2 0 0),(4,.int .i64 i)])
  (λi=>[xh x,rh,some (.row 4 [[nV i,.nilslice,.nilslice,.nilslice]])]++nH i) (λi=>x.k-i) (λi=>i≤x.k) 0 ?_ (e8e _) ?_ ?_
 ·(simp+decide only[go_sem,a01,a00,nV0,nH0]<;>rfl)
 ·intro i _;cases i with
  |zero=>((simp+decide only[go_sem,a01,a00,nV0,nH0]<;>rfl))
  |succ i=>((simp+decide only[go_sem,a01,a00,nVs,nHs]<;>rfl))
 ·intro i hi;by_cases aj:i<x.k
  ·have c1:(i:Int)≤((x.inn%4:Nat):Int):=by omega
   have hw:=wI1 (n:=i) (by omega);cases i with
   |zero=>
    (repeat first|simp only[ww]|(apply xa;simp+decide only[go_sem,w4,c1,hw,nV0,nH0];rfl;kernel_rfl))
    refine a25 1 ?_ (by omega) (by omega)
    ((simp+decide only[go_sem,a01,a00,nVs,nHs]<;>rfl))
   |succ i=>
    have aK:i+1+1≤1000000000:=by omega
    (repeat first|simp only[ww]|(apply xa;simp+decide only[go_sem,w4,c1,hw,nVs,nHs,aK,a5b];rfl;kernel_rfl))
    refine a25 (i+1+1) ?_ (by omega) (by omega)
    ((simp+decide only[go_sem,a01,a00,nVs,nHs,a5b]<;>rfl))
  have jx:i=x.k:=by omega
  subst jx;have c1:¬((x.k:Nat):Int)≤((x.inn%4:Nat):Int):=by omega
  have mP:nV x.k = .slice 3 0 x.k none:=by rw[eX];rfl
  have mQ:nH x.k=[some (.row 4 (List.replicate x.k a5y))]:=by rw[eX];rfl
  rw[mP,mQ]
  (repeat first|simp only[ww]|(apply xa;simp+decide only[go_sem,w4,w3,c1,lQ];rfl;kernel_rfl))
  -- the flip-flops
  refine a2n (σ:=Nat) kp10_2 (λi=>[(1,.ptr 0 0 0),(2,.ptr 1 0 0),(3,.ptr 2 0 0),(5,.int .i64 x.k),(6,.int .i64 1),(7,.int .i64 i)])
   (λi=>match i with|0=>[xh x,rh,some (.row 4 [[.slice 3 0 (x.k+0) none,.nilslice,.nilslice,.nilslice]]),some (.row 4 (List.replicate x.k a5y++[]))]++[]|_=>[xh x,rh,some (.row 4 [[.slice 3 0 (x.k+1) none,.nilslice,.nilslice,.nilslice]]),some (.row 4 (List.replicate x.k a5y++[dR 4]))]++[one 0]) (λi=>1-i) (λi=>i≤1) 0 ?_ (e8e _) ?_ ?_
  ·(simp+decide only[go_sem,a01,a00]<;>rfl)
  ·intro i hi;by_cases dP:i=0
   ·subst dP
    ((simp+decide only[go_sem,a01,a00]<;>rfl))
   obtain rfl:i=1:=by omega
   ((simp+decide only[go_sem,a01,a00]<;>rfl))
  ·intro i hi;by_cases dP:i=0
   ·subst dP;have aK:x.k+0+1≤1000000000:=by omega
    have hw:=wI1 (n:=0) (by omega)
    (repeat first|simp only[ww]|(apply xa;simp+decide only[go_sem,aK,a5b,hw];rfl;kernel_rfl))
    refine a25 1 ?_ (by omega) (by omega)
    ((simp+decide only[go_sem,a01,a00,e7m]<;>rfl))
   obtain rfl:i=1:=by omega
   (repeat first|simp only[ww]|(apply xa;simp+decide only[go_sem,hm];rfl;kernel_rfl))
   -- the gates
   refine a2n (σ:=Nat) kp10_4 (λi=>[(1,.ptr 0 0 0),(2,.ptr 1 0 0),(3,.ptr 2 0 0),(5,.int .i64 x.k),(6,.int .i64 1),(8,.int .i64 i)])
    (λi=>[xh x,rh,some (.row 4 [[.slice 3 0 (x.k+1+i) none,.nilslice,.nilslice,.nilslice]]),some (.row 4 (List.replicate x.k a5y++[dR 4]++(gN x.bus x.base (x.gates.take i)).map Nd.enc))]++[one 0]) (λi=>x.gs.length-i) (λi=>i≤x.gs.length) 0 ?_ (e8e _) ?_ ?_
   ·(simp+decide only[go_sem,a01,a00,hm,e9l,c9y,e7m]<;>rfl)
   ·intro i _
    (simp+decide only[go_sem,a01,a00,hm,a0i,a10,e7m]<;>rfl)
   ·intro i hi;have gh:x.gs.length=min 8 x.gates.length:=by unfold CX.gs;rw[f02]
    by_cases aj:i<x.gs.length
    ·obtain⟨g,hg⟩:∃g,x.gates[i]?=some g:=⟨_,z9e (by omega)⟩
     have c1:(i:Int)<x.gates.length:=by omega
     have hE:i<x.gates.length:=by omega
     have c2:(i:Int)<8:=by omega
     have hw:=wI1 (n:=i) (by omega);have iY:g.ok:=x5 g (c11 hg);have gU:(gN x.bus x.base (x.gates.take i)).length=i:=by rw[a52,f02];omega
     have hs:=b7m x.bus g (x.gates.take i) x.base;rw[←a1d hg]at hs;have ai:=c5r (d:=true) x g iY (gN x.bus x.base (x.gates.take i)) x.k (x.k+1+i) kp (by rw[gU]) (by omega) (xh x) rh (some (.row 4 [[.slice 3 0 (x.k+1+i) none,.nilslice,.nilslice,.nilslice]]));rw[show List.replicate x.k 0++List.replicate 1 14++(gN x.bus x.base (x.gates.take i)).map Nd.kind=x.base++(gN x.bus x.base (x.gates.take i)).map Nd.kind by unfold CX.base;rw[hd]]at ai;generalize a0j x.bus g (x.base++(gN x.bus x.base (x.gates.take i)).map Nd.kind)=nd at ai hs;simp+decide only[go_sem,hm,e7m]at ai;have aK:x.k+1+i+1≤1000000000:=by omega
     have al:decide (x.k+1+i=x.k+(i+1))=true:=e9w (by omega)
     (repeat first|simp only[ww]|(apply xa;simp+decide only[go_sem,hm,c1,hE,c2,hw,hg,ai,aK,al,e7m,gU];rfl;kernel_rfl))
     refine a25 (i+1) ?_ (by omega) (by omega);rw[hs]
     (simp+decide only[go_sem,a01,a00,hm,a0i,a10,e7m]<;>rfl)
    have ey:i=x.gs.length:=by omega
    subst ey;rw[x.gs_take];have gU:(gN x.bus x.base x.gs).length=x.gs.length:=a52 _ _ _;have d6:x.n=x.k+1+x.gs.length:=by unfold CX.n;rw[hd]
    rw[←d6];generalize hG:gN x.bus x.base x.gs=gg at gU;have rL:0<x.n:=by omega
    have dw:x.n≤14:=by omega
    have cA:¬(x.n:Int)=0:=by omega
    have km:¬((x.gs.length:Int)<x.gates.length∧(x.gs.length:Int)<8):=by omega
    -- the guard of the loop's end is decided in either case
    have eP:∀F,F=[(1,AV.ptr 0 0 0),(2,.ptr 1 0 0),(3,.ptr 2 0 0),(5,.int .i64 x.k),(6,.int .i64 1),(8,.int .i64 x.gs.length)]→True:=λ_ _=>trivial;rcases f1d x.gs.length x.gates.length with g1|g1
    all_goals first
    |(have c1:(x.gs.length:Int)<x.gates.length:=(by omega);have c2:¬(x.gs.length:Int)<8:=(by omega);(repeat first|simp only[ww]|(apply xa;simp+decide only[go_sem,c1,c2,hm];rfl;kernel_rfl)))
    |(have c1:¬(x.gs.length:Int)<x.gates.length:=(by omega);(repeat first|simp only[ww]|(apply xa;simp+decide only[go_sem,c1,hm];rfl;kernel_rfl)))
    all_goals
     -- the flip-flops' data
     refine a2n (σ:=Nat) kp10_6 (λi=>[(1,.ptr 0 0 0),(2,.ptr 1 0 0),(3,.ptr 2 0 0),(5,.int .i64 x.k),(6,.int .i64 1),(9,.int .i64 x.n),(10,.int .i64 i)])
      (λi=>match i with|0=>[xh x,rh,some (.row 4 [[.slice 3 0 x.n none,.nilslice,.nilslice,.nilslice]]),some (.row 4 (List.replicate x.k a5y++[dR 4]++gg.map Nd.enc))]++[one 0]|_=>[xh x,rh,some (.row 4 [[.slice 3 0 x.n none,.nilslice,.nilslice,.nilslice]]),some (.row 4 (List.replicate x.k a5y++[dR 4]++gg.map Nd.enc))]++[one (x.d0%x.n)]) (λi=>1-i) (λi=>i≤1) 0 ?_ (e8e _) ?_ ?_
     ·(simp+decide only[go_sem,a01,a00,hm,a0i,a10,e7m]<;>rfl)
     ·intro i hi;by_cases dP:i=0
      ·subst dP
       (simp+decide only[go_sem,a01,a00,hm,a0i,a10,e7m]<;>rfl)
      obtain rfl:i=1:=by omega
      (simp+decide only[go_sem,a01,a00,hm,a0i,a10,e7m]<;>rfl)
     ·intro i hi;by_cases dP:i=0
      ·subst dP;have hw:=wI1 (n:=0) (by omega);have mZ:IntKind.i64.wrap ((x.k:Int)+(((0:Nat)):Int))=((x.k+0:Nat):Int):=by rw[w64 (by omega) (by omega)];omega
       have iF:IntKind.i64.wrap ((x.k:Int)+0)=((x.k+0:Nat):Int):=by rw[w64 (by omega) (by omega)];omega
       have wd:=wI (n:=x.d0) (by omega);have bX:x.k+0<x.n:=by omega
       have iW:x.k<x.n:=by omega
       (repeat first|simp only[ww]|(apply xa;simp+decide only[go_sem,hm,hw,mZ,iF,wd,cA,bX,iW,c1x,b7k,c13,b6w,e7m];rfl;kernel_rfl))
       refine a25 1 ?_ (by omega) (by omega)
       (simp+decide only[go_sem,a01,a00,hm,a0i,a10,e7m]<;>rfl)
      obtain rfl:i=1:=by omega
      (repeat first|simp only[ww]|(apply xa;simp+decide only[go_sem,hm];rfl;kernel_rfl))
      -- the names
      refine a2n (σ:=Nat) kp10_8 (λi=>[(1,.ptr 0 0 0),(2,.ptr 1 0 0),(3,.ptr 2 0 0),(9,.int .i64 x.n),(11,.int .i64 i)])
       (λi=>[xh x,rh,some (.row 4 [[.slice 3 0 x.n none,slN 5 i,.nilslice,.nilslice]]),some (.row 4 (List.replicate x.k a5y++[dR 4]++gg.map Nd.enc))]++[one (x.d0%x.n)]++nmH i) (λi=>x.n-i) (λi=>i≤x.n) 0 ?_ (e8e _) ?_ ?_
      ·(simp+decide only[go_sem,a01,a00,hm,b4p,d30,a0i,a10,e7m]<;>rfl)
      ·intro i _;cases i with
       |zero=>(simp+decide only[go_sem,a01,a00,hm,b4p,d30,a0i,a10,e7m]<;>rfl)
       |succ i=>(simp+decide only[go_sem,a01,a00,hm,a9i,c6r,a0i,a10,a2e,a3k,e7m]<;>rfl)
      ·intro i hi;by_cases aj:i<x.n
       ·have c1:(i:Int)<x.n:=by omega
        have hw:=wI1 (n:=i) (by omega);have ai:=λH=>b33 (d:=true) H i (by omega);have aK:i+1≤1000000000:=by omega
        cases i with
        |zero=>
         (repeat first|simp only[ww]|(apply xa;simp+decide only[go_sem,hm,c1,hw,ai,b4p,d30];rfl;kernel_rfl))
         refine a25 1 ?_ (by omega) (by omega)
         (simp+decide only[go_sem,a01,a00,hm,a9i,c6r,a0i,a10,nm1,e7m]<;>rfl)
        |succ i=>
         have aK:i+1+1≤1000000000:=by omega
         (repeat first|simp only[ww]|(apply xa;simp+decide only[go_sem,hm,c1,hw,ai,a9i,c6r,aK,f0o];rfl;kernel_rfl))
         refine a25 (i+1+1) ?_ (by omega) (by omega)
         (simp+decide only[go_sem,a01,a00,hm,a9i,c6r,a0i,a10,a2e,a3k,c1h,e7m]<;>rfl)
       have ey:i=x.n:=by omega
       subst ey;have c1:¬(x.n:Int)<x.n:=by omega
       obtain⟨n',gQ⟩:∃n',x.n=n'+1:=⟨x.n-1,by omega⟩
       have e1:slN 5 x.n = .slice 5 0 x.n none:=by rw[gQ];rfl
       have e2:nmH x.n=[some (.row 1 ((List.range x.n).map nmR))]:=by rw[gQ];rfl
       rw[e1,e2]
       (repeat first|simp only[ww]|(apply xa;simp+decide only[go_sem,hm,c1];rfl;kernel_rfl))
       -- the outputs
       refine a2n (σ:=Nat) kp10_10 (λi=>[(1,.ptr 0 0 0),(2,.ptr 1 0 0),(3,.ptr 2 0 0),(9,.int .i64 x.n),(12,.int .i64 i)])
        (λi=>[xh x,rh,some (.row 4 [[.slice 3 0 x.n none,.slice 5 0 x.n none,.nilslice,slN 6 i]]),some (.row 4 (List.replicate x.k a5y++[dR 4]++gg.map Nd.enc))]++[one (x.d0%x.n)]++[some (.row 1 ((List.range x.n).map nmR))]++otH x i) (λi=>3-i) (λi=>i≤3∧i≤x.outs.length) 0 ?_ ⟨by omega,by omega⟩ ?_ ?_
       ·(simp+decide only[go_sem,a01,a00,hm,b4p,c6q,a0i,a10,a2e,a3k,e7m]<;>rfl)
       ·intro i _;cases i with
        |zero=>(simp+decide only[go_sem,a01,a00,hm,b4p,c6q,a0i,a10,a2e,a3k,e7m]<;>rfl)
        |succ i=>(simp+decide only[go_sem,a01,a00,hm,a9i,b8j,a0i,a10,a2e,a3k,b0q,b5f,e7m]<;>rfl)
       ·intro i hi;by_cases aj:i<3∧i<x.outs.length
        ·obtain⟨o,ho⟩:∃o,x.outs[i]?=some o:=⟨_,z9e aj.2⟩
         have dF:=x6 o (c11 ho);have wo:=wI (n:=o) (by omega);have c1:(i:Int)<x.outs.length:=by omega
         have hE:i<x.outs.length:=by omega
         have c2:(i:Int)<3:=by omega
         have hw:=wI1 (n:=i) (by omega);have ht:=a1d ho;have dY:(x.outs.take i).length=i:=by rw[f02];omega
         cases i with
         |zero=>
          (repeat first|simp only[ww]|(apply xa;simp+decide only[go_sem,hm,c1,hE,c2,hw,ho,wo,cA,b4p,c6q];rfl;kernel_rfl))
          refine a25 1 ?_ (by omega) ⟨by omega,by omega⟩
          (simp+decide only[go_sem,a01,a00,hm,a9i,b8j,a0i,a10,a2e,a3k,ht,e9l,e7m]<;>rfl)
         |succ i=>
          have aK:i+1+1≤1000000000:=by omega
          (repeat first|simp only[ww]|(apply xa;simp+decide only[go_sem,hm,c1,hE,c2,hw,ho,wo,cA,a9i,b8j,aK,dY];rfl;kernel_rfl))
          refine a25 (i+1+1) ?_ (by omega) ⟨by omega,by omega⟩
          (simp+decide only[go_sem,a01,a00,hm,a9i,b8j,a0i,a10,a2e,a3k,b0q,b5f,ht,e7m]<;>rfl)
        have nN:x.outs.take i=x.outs.take 3:=by
         by_cases h3:i=3
         ·rw[h3]
         ·rw[e8b (by omega),e8b (by omega)]
        have dp:(x.outs.take i).length=i:=by rw[f02];omega
        have iE:IntKind.i64.wrap ((x.n:Int)-1)=((x.n-1:Nat):Int):=by rw[w64 (by omega) (by omega)];omega
        have eK:x.cir=⟨some none,List.replicate x.k c1v++[a9d (x.d0%x.n)]++gg,some none,(List.range x.n).map a2h,some none,(x.outs.take i).map (·% x.n)++[x.n-1]⟩:=by rw[nN,←hG];simp[CX.cir,CX.nodes,CX.dn,CX.names,CX.outN,hd]
        rw[eK];have eO:x.n≤x.k+1+gg.length:=by omega
        have d8:x.k+1+gg.length≤x.n:=by omega
        cases i with
        |zero=>
         have c1:¬((0:Nat):Int)<x.outs.length:=by omega
         (repeat first|simp only[ww]|(apply xa;simp+decide only[go_sem,hm,c1,b4p,c6q,iE,dp];rfl;kernel_rfl))
         (apply fqb;simp+decide only[go_sem,hm,b0o,b68,b67,b66,a4o,f3e,dp,c1v,a9d,b5s,Cir.enc,a8d,eO,d8,f0o,e9k,b5q,e9l]<;>rfl)
        |succ i=>
         have aK:i+1+1≤1000000000:=by omega
         rcases f1d (i+1) x.outs.length with g1|g1
         all_goals first
         |(have c1:((i+1:Nat):Int)<x.outs.length:=(by omega);have c2:¬((i+1:Nat):Int)<3:=(by omega);(repeat first|simp only[ww]|(apply xa;simp+decide only[go_sem,hm,c1,c2,a9i,b8j,aK,iE,dp];rfl;kernel_rfl)))
         |(have c1:¬((i+1:Nat):Int)<x.outs.length:=(by omega);(repeat first|simp only[ww]|(apply xa;simp+decide only[go_sem,hm,c1,a9i,b8j,aK,iE,dp];rfl;kernel_rfl)))
         all_goals (apply fqb;simp+decide only[go_sem,hm,b0o,b68,b67,b66,a4o,f3e,dp,c1v,a9d,b5s,Cir.enc,a8d,eO,d8,f0o,e9k,b5q]<;>rfl)
theorem e2r(x:CX)(hx:x.ok)(hm:x.mem=false)(hd:x.d=2) :
 sem L.env Mf 10 [.agg x.enc] []=some (.agg x.cir.enc,[]):=by
 obtain⟨x1,x2,x3,x4,x5,x6⟩:=hx;have mp:x.inn%4+1=x.k:=rfl;have lQ:x.dffs%3=2:=hd;have kk:x.k≤4:=by unfold CX.k;omega
 have kp:0<x.k:=by unfold CX.k;omega
 have gl:x.gs.length≤8:=by unfold CX.gs;rw[f02];omega
 have w4:=wI (n:=x.inn%4) (by omega);have w3:=wI (n:=x.dffs%3) (by omega);obtain⟨k',eX⟩:∃k',x.k=k'+1:=⟨x.k-1,by omega⟩
 (refine sv Tryz.f10 ?_;simp only[Tryz.f10,gS])
 (repeat first|simp only[ww]|(apply xa;simp+decide only[go_sem];rfl;kernel_rfl))
 -- the inputs
 refine a2n (σ:=Nat) kp10_0 (λi=>[(1,.ptr 0 0 0),(2,.ptr 1 0 0),(3,.ptr 2 0 0),(4,.int .i64 i)])
  (λi=>[xh x,rh,some (.row 4 [[nV i,.nilslice,.nilslice,.nilslice]])]++nH i) (λi=>x.k-i) (λi=>i≤x.k) 0 ?_ (e8e _) ?_ ?_
 ·(simp+decide only[go_sem,a01,a00,nV0,nH0]<;>rfl)
 ·intro i _;cases i with
  |zero=>((simp+decide only[go_sem,a01,a00,nV0,nH0]<;>rfl))
  |succ i=>((simp+decide only[go_sem,a01,a00,nVs,nHs]<;>rfl))
 ·intro i hi;by_cases aj:i<x.k
  ·have c1:(i:Int)≤((x.inn%4:Nat):Int):=by omega
   have hw:=wI1 (n:=i) (by omega);cases i with
   |zero=>
    (repeat first|simp only[ww]|(apply xa;simp+decide only[go_sem,w4,c1,hw,nV0,nH0];rfl;kernel_rfl))
    refine a25 1 ?_ (by omega) (by omega)
    ((simp+decide only[go_sem,a01,a00,nVs,nHs]<;>rfl))
   |succ i=>
    have aK:i+1+1≤1000000000:=by omega
    (repeat first|simp only[ww]|(apply xa;simp+decide only[go_sem,w4,c1,hw,nVs,nHs,aK,a5b];rfl;kernel_rfl))
    refine a25 (i+1+1) ?_ (by omega) (by omega)
    ((simp+decide only[go_sem,a01,a00,nVs,nHs,a5b]<;>rfl))
  have jx:i=x.k:=by omega
  subst jx;have c1:¬((x.k:Nat):Int)≤((x.inn%4:Nat):Int):=by omega
  have mP:nV x.k = .slice 3 0 x.k none:=by rw[eX];rfl
  have mQ:nH x.k=[some (.row 4 (List.replicate x.k a5y))]:=by rw[eX];rfl
  rw[mP,mQ]
  (repeat first|simp only[ww]|(apply xa;simp+decide only[go_sem,w4,w3,c1,lQ];rfl;kernel_rfl))
  -- the flip-flops
  refine a2n (σ:=Nat) kp10_2 (λi=>[(1,.ptr 0 0 0),(2,.ptr 1 0 0),(3,.ptr 2 0 0),(5,.int .i64 x.k),(6,.int .i64 2),(7,.int .i64 i)])
   (λi=>match i with|0=>[xh x,rh,some (.row 4 [[.slice 3 0 (x.k+0) none,.nilslice,.nilslice,.nilslice]]),some (.row 4 (List.replicate x.k a5y++[]))]++[]|1=>[xh x,rh,some (.row 4 [[.slice 3 0 (x.k+1) none,.nilslice,.nilslice,.nilslice]]),some (.row 4 (List.replicate x.k a5y++[dR 4]))]++[one 0]|_=>[xh x,rh,some (.row 4 [[.slice 3 0 (x.k+2) none,.nilslice,.nilslice,.nilslice]]),some (.row 4 (List.replicate x.k a5y++[dR 4,dR 5]))]++[one 0,one 0]) (λi=>2-i) (λi=>i≤2) 0 ?_ (e8e _) ?_ ?_
  ·(simp+decide only[go_sem,a01,a00]<;>rfl)
  ·intro i hi;by_cases dP:i=0
   ·subst dP
    ((simp+decide only[go_sem,a01,a00]<;>rfl))
   by_cases iV:i=1
   ·subst iV
    ((simp+decide only[go_sem,a01,a00]<;>rfl))
   obtain rfl:i=2:=by omega
   ((simp+decide only[go_sem,a01,a00]<;>rfl))
  ·intro i hi;by_cases dP:i=0
   ·subst dP;have aK:x.k+0+1≤1000000000:=by omega
    have hw:=wI1 (n:=0) (by omega)
    (repeat first|simp only[ww]|(apply xa;simp+decide only[go_sem,aK,a5b,hw];rfl;kernel_rfl))
    refine a25 1 ?_ (by omega) (by omega)
    ((simp+decide only[go_sem,a01,a00,e7m]<;>rfl))
   by_cases iV:i=1
   ·subst iV;have aK:x.k+1+1≤1000000000:=by omega
    have hw:=wI1 (n:=1) (by omega)
    (repeat first|simp only[ww]|(apply xa;simp+decide only[go_sem,aK,a5b,hw];rfl;kernel_rfl))
    refine a25 2 ?_ (by omega) (by omega)
    ((simp+decide only[go_sem,a01,a00,e7m]<;>rfl))
   obtain rfl:i=2:=by omega
   (repeat first|simp only[ww]|(apply xa;simp+decide only[go_sem,hm];rfl;kernel_rfl))
   -- the gates
   refine a2n (σ:=Nat) kp10_4 (λi=>[(1,.ptr 0 0 0),(2,.ptr 1 0 0),(3,.ptr 2 0 0),(5,.int .i64 x.k),(6,.int .i64 2),(8,.int .i64 i)])
    (λi=>[xh x,rh,some (.row 4 [[.slice 3 0 (x.k+2+i) none,.nilslice,.nilslice,.nilslice]]),some (.row 4 (List.replicate x.k a5y++[dR 4,dR 5]++(gN x.bus x.base (x.gates.take i)).map Nd.enc))]++[one 0,one 0]) (λi=>x.gs.length-i) (λi=>i≤x.gs.length) 0 ?_ (e8e _) ?_ ?_
   ·(simp+decide only[go_sem,a01,a00,hm,e9l,c9y,e7m]<;>rfl)
   ·intro i _
    (simp+decide only[go_sem,a01,a00,hm,a0i,a10,e7m]<;>rfl)
   ·intro i hi;have gh:x.gs.length=min 8 x.gates.length:=by unfold CX.gs;rw[f02]
    by_cases aj:i<x.gs.length
    ·obtain⟨g,hg⟩:∃g,x.gates[i]?=some g:=⟨_,z9e (by omega)⟩
     have c1:(i:Int)<x.gates.length:=by omega
     have hE:i<x.gates.length:=by omega
     have c2:(i:Int)<8:=by omega
     have hw:=wI1 (n:=i) (by omega);have iY:g.ok:=x5 g (c11 hg);have gU:(gN x.bus x.base (x.gates.take i)).length=i:=by rw[a52,f02];omega
     have hs:=b7m x.bus g (x.gates.take i) x.base;rw[←a1d hg]at hs;have ai:=c5q (d:=true) x g iY (gN x.bus x.base (x.gates.take i)) x.k (x.k+2+i) kp (by rw[gU]) (by omega) (xh x) rh (some (.row 4 [[.slice 3 0 (x.k+2+i) none,.nilslice,.nilslice,.nilslice]]));rw[show List.replicate x.k 0++List.replicate 2 14++(gN x.bus x.base (x.gates.take i)).map Nd.kind=x.base++(gN x.bus x.base (x.gates.take i)).map Nd.kind by unfold CX.base;rw[hd]]at ai;generalize a0j x.bus g (x.base++(gN x.bus x.base (x.gates.take i)).map Nd.kind)=nd at ai hs;simp+decide only[go_sem,hm,e7m]at ai;have aK:x.k+2+i+1≤1000000000:=by omega
     have al:decide (x.k+2+i=x.k+(i+1+1))=true:=e9w (by omega)
     (repeat first|simp only[ww]|(apply xa;simp+decide only[go_sem,hm,c1,hE,c2,hw,hg,ai,aK,al,e7m,gU];rfl;kernel_rfl))
     refine a25 (i+1) ?_ (by omega) (by omega);rw[hs]
     (simp+decide only[go_sem,a01,a00,hm,a0i,a10,e7m]<;>rfl)
    have ey:i=x.gs.length:=by omega
    subst ey;rw[x.gs_take];have gU:(gN x.bus x.base x.gs).length=x.gs.length:=a52 _ _ _;have d6:x.n=x.k+2+x.gs.length:=by unfold CX.n;rw[hd]
    rw[←d6];generalize hG:gN x.bus x.base x.gs=gg at gU;have rL:0<x.n:=by omega
    have dw:x.n≤14:=by omega
    have cA:¬(x.n:Int)=0:=by omega
    have km:¬((x.gs.length:Int)<x.gates.length∧(x.gs.length:Int)<8):=by omega
    -- the guard of the loop's end is decided in either case
    have eP:∀F,F=[(1,AV.ptr 0 0 0),(2,.ptr 1 0 0),(3,.ptr 2 0 0),(5,.int .i64 x.k),(6,.int .i64 2),(8,.int .i64 x.gs.length)]→True:=λ_ _=>trivial;rcases f1d x.gs.length x.gates.length with g1|g1
    all_goals first
    |(have c1:(x.gs.length:Int)<x.gates.length:=(by omega);have c2:¬(x.gs.length:Int)<8:=(by omega);(repeat first|simp only[ww]|(apply xa;simp+decide only[go_sem,c1,c2,hm];rfl;kernel_rfl)))
    |(have c1:¬(x.gs.length:Int)<x.gates.length:=(by omega);(repeat first|simp only[ww]|(apply xa;simp+decide only[go_sem,c1,hm];rfl;kernel_rfl)))
    all_goals
     -- the flip-flops' data
     refine a2n (σ:=Nat) kp10_6 (λi=>[(1,.ptr 0 0 0),(2,.ptr 1 0 0),(3,.ptr 2 0 0),(5,.int .i64 x.k),(6,.int .i64 2),(9,.int .i64 x.n),(10,.int .i64 i)])
      (λi=>match i with|0=>[xh x,rh,some (.row 4 [[.slice 3 0 x.n none,.nilslice,.nilslice,.nilslice]]),some (.row 4 (List.replicate x.k a5y++[dR 4,dR 5]++gg.map Nd.enc))]++[one 0,one 0]|1=>[xh x,rh,some (.row 4 [[.slice 3 0 x.n none,.nilslice,.nilslice,.nilslice]]),some (.row 4 (List.replicate x.k a5y++[dR 4,dR 5]++gg.map Nd.enc))]++[one (x.d0%x.n),one 0]|_=>[xh x,rh,some (.row 4 [[.slice 3 0 x.n none,.nilslice,.nilslice,.nilslice]]),some (.row 4 (List.replicate x.k a5y++[dR 4,dR 5]++gg.map Nd.enc))]++[one (x.d0%x.n),one (x.d1%x.n)]) (λi=>2-i) (λi=>i≤2) 0 ?_ (e8e _) ?_ ?_
     ·(simp+decide only[go_sem,a01,a00,hm,a0i,a10,e7m]<;>rfl)
     ·intro i hi;by_cases dP:i=0
      ·subst dP
       (simp+decide only[go_sem,a01,a00,hm,a0i,a10,e7m]<;>rfl)
      by_cases iV:i=1
      ·subst iV
       (simp+decide only[go_sem,a01,a00,hm,a0i,a10,e7m]<;>rfl)
      obtain rfl:i=2:=by omega
      (simp+decide only[go_sem,a01,a00,hm,a0i,a10,e7m]<;>rfl)
     ·intro i hi;by_cases dP:i=0
      ·subst dP;have hw:=wI1 (n:=0) (by omega);have mZ:IntKind.i64.wrap ((x.k:Int)+(((0:Nat)):Int))=((x.k+0:Nat):Int):=by rw[w64 (by omega) (by omega)];omega
       have iF:IntKind.i64.wrap ((x.k:Int)+0)=((x.k+0:Nat):Int):=by rw[w64 (by omega) (by omega)];omega
       have wd:=wI (n:=x.d0) (by omega);have bX:x.k+0<x.n:=by omega
       have iW:x.k<x.n:=by omega
       (repeat first|simp only[ww]|(apply xa;simp+decide only[go_sem,hm,hw,mZ,iF,wd,cA,bX,iW,c1x,b7k,c13,b6w,e7m];rfl;kernel_rfl))
       refine a25 1 ?_ (by omega) (by omega)
       (simp+decide only[go_sem,a01,a00,hm,a0i,a10,e7m]<;>rfl)
      by_cases iV:i=1
      ·subst iV;have hw:=wI1 (n:=1) (by omega);have mZ:IntKind.i64.wrap ((x.k:Int)+(((1:Nat)):Int))=((x.k+1:Nat):Int):=by rw[w64 (by omega) (by omega)];omega
       have iF:IntKind.i64.wrap ((x.k:Int)+1)=((x.k+1:Nat):Int):=by rw[w64 (by omega) (by omega)];omega
       have wd:=wI (n:=x.d1) (by omega);have bX:x.k+1<x.n:=by omega
       have iW:x.k<x.n:=by omega
       (repeat first|simp only[ww]|(apply xa;simp+decide only[go_sem,hm,hw,mZ,iF,wd,cA,bX,iW,c1x,b7k,c13,b6w,e7m];rfl;kernel_rfl))
       refine a25 2 ?_ (by omega) (by omega)
       (simp+decide only[go_sem,a01,a00,hm,a0i,a10,e7m]<;>rfl)
      obtain rfl:i=2:=by omega
      (repeat first|simp only[ww]|(apply xa;simp+decide only[go_sem,hm];rfl;kernel_rfl))
      -- the names
      refine a2n (σ:=Nat) kp10_8 (λi=>[(1,.ptr 0 0 0),(2,.ptr 1 0 0),(3,.ptr 2 0 0),(9,.int .i64 x.n),(11,.int .i64 i)])
       (λi=>[xh x,rh,some (.row 4 [[.slice 3 0 x.n none,slN 6 i,.nilslice,.nilslice]]),some (.row 4 (List.replicate x.k a5y++[dR 4,dR 5]++gg.map Nd.enc))]++[one (x.d0%x.n),one (x.d1%x.n)]++nmH i) (λi=>x.n-i) (λi=>i≤x.n) 0 ?_ (e8e _) ?_ ?_
      ·(simp+decide only[go_sem,a01,a00,hm,b4p,d30,a0i,a10,e7m]<;>rfl)
      ·intro i _;cases i with
       |zero=>(simp+decide only[go_sem,a01,a00,hm,b4p,d30,a0i,a10,e7m]<;>rfl)
       |succ i=>(simp+decide only[go_sem,a01,a00,hm,a9i,c6r,a0i,a10,a2e,a3k,e7m]<;>rfl)
      ·intro i hi;by_cases aj:i<x.n
       ·have c1:(i:Int)<x.n:=by omega
        have hw:=wI1 (n:=i) (by omega);have ai:=λH=>b33 (d:=true) H i (by omega);have aK:i+1≤1000000000:=by omega
        cases i with
        |zero=>
         (repeat first|simp only[ww]|(apply xa;simp+decide only[go_sem,hm,c1,hw,ai,b4p,d30];rfl;kernel_rfl))
         refine a25 1 ?_ (by omega) (by omega)
         (simp+decide only[go_sem,a01,a00,hm,a9i,c6r,a0i,a10,nm1,e7m]<;>rfl)
        |succ i=>
         have aK:i+1+1≤1000000000:=by omega
         (repeat first|simp only[ww]|(apply xa;simp+decide only[go_sem,hm,c1,hw,ai,a9i,c6r,aK,f0o];rfl;kernel_rfl))
         refine a25 (i+1+1) ?_ (by omega) (by omega)
         (simp+decide only[go_sem,a01,a00,hm,a9i,c6r,a0i,a10,a2e,a3k,c1h,e7m]<;>rfl)
       have ey:i=x.n:=by omega
       subst ey;have c1:¬(x.n:Int)<x.n:=by omega
       obtain⟨n',gQ⟩:∃n',x.n=n'+1:=⟨x.n-1,by omega⟩
       have e1:slN 6 x.n = .slice 6 0 x.n none:=by rw[gQ];rfl
       have e2:nmH x.n=[some (.row 1 ((List.range x.n).map nmR))]:=by rw[gQ];rfl
       rw[e1,e2]
       (repeat first|simp only[ww]|(apply xa;simp+decide only[go_sem,hm,c1];rfl;kernel_rfl))
       -- the outputs
       refine a2n (σ:=Nat) kp10_10 (λi=>[(1,.ptr 0 0 0),(2,.ptr 1 0 0),(3,.ptr 2 0 0),(9,.int .i64 x.n),(12,.int .i64 i)])
        (λi=>[xh x,rh,some (.row 4 [[.slice 3 0 x.n none,.slice 6 0 x.n none,.nilslice,slN 7 i]]),some (.row 4 (List.replicate x.k a5y++[dR 4,dR 5]++gg.map Nd.enc))]++[one (x.d0%x.n),one (x.d1%x.n)]++[some (.row 1 ((List.range x.n).map nmR))]++otH x i) (λi=>3-i) (λi=>i≤3∧i≤x.outs.length) 0 ?_ ⟨by omega,by omega⟩ ?_ ?_
       ·(simp+decide only[go_sem,a01,a00,hm,b4p,c6q,a0i,a10,a2e,a3k,e7m]<;>rfl)
       ·intro i _;cases i with
        |zero=>(simp+decide only[go_sem,a01,a00,hm,b4p,c6q,a0i,a10,a2e,a3k,e7m]<;>rfl)
        |succ i=>(simp+decide only[go_sem,a01,a00,hm,a9i,b8j,a0i,a10,a2e,a3k,b0q,b5f,e7m]<;>rfl)
       ·intro i hi;by_cases aj:i<3∧i<x.outs.length
        ·obtain⟨o,ho⟩:∃o,x.outs[i]?=some o:=⟨_,z9e aj.2⟩
         have dF:=x6 o (c11 ho);have wo:=wI (n:=o) (by omega);have c1:(i:Int)<x.outs.length:=by omega
         have hE:i<x.outs.length:=by omega
         have c2:(i:Int)<3:=by omega
         have hw:=wI1 (n:=i) (by omega);have ht:=a1d ho;have dY:(x.outs.take i).length=i:=by rw[f02];omega
         cases i with
         |zero=>
          (repeat first|simp only[ww]|(apply xa;simp+decide only[go_sem,hm,c1,hE,c2,hw,ho,wo,cA,b4p,c6q];rfl;kernel_rfl))
          refine a25 1 ?_ (by omega) ⟨by omega,by omega⟩
          (simp+decide only[go_sem,a01,a00,hm,a9i,b8j,a0i,a10,a2e,a3k,ht,e9l,e7m]<;>rfl)
         |succ i=>
          have aK:i+1+1≤1000000000:=by omega
          (repeat first|simp only[ww]|(apply xa;simp+decide only[go_sem,hm,c1,hE,c2,hw,ho,wo,cA,a9i,b8j,aK,dY];rfl;kernel_rfl))
          refine a25 (i+1+1) ?_ (by omega) ⟨by omega,by omega⟩
          (simp+decide only[go_sem,a01,a00,hm,a9i,b8j,a0i,a10,a2e,a3k,b0q,b5f,ht,e7m]<;>rfl)
        have nN:x.outs.take i=x.outs.take 3:=by
         by_cases h3:i=3
         ·rw[h3]
         ·rw[e8b (by omega),e8b (by omega)]
        have dp:(x.outs.take i).length=i:=by rw[f02];omega
        have iE:IntKind.i64.wrap ((x.n:Int)-1)=((x.n-1:Nat):Int):=by rw[w64 (by omega) (by omega)];omega
        have eK:x.cir=⟨some none,List.replicate x.k c1v++[a9d (x.d0%x.n),a9d (x.d1%x.n)]++gg,some none,(List.range x.n).map a2h,some none,(x.outs.take i).map (·% x.n)++[x.n-1]⟩:=by rw[nN,←hG];simp[CX.cir,CX.nodes,CX.dn,CX.names,CX.outN,hd]
        rw[eK];have eO:x.n≤x.k+2+gg.length:=by omega
        have d8:x.k+2+gg.length≤x.n:=by omega
        cases i with
        |zero=>
         have c1:¬((0:Nat):Int)<x.outs.length:=by omega
         (repeat first|simp only[ww]|(apply xa;simp+decide only[go_sem,hm,c1,b4p,c6q,iE,dp];rfl;kernel_rfl))
         (apply fqb;simp+decide only[go_sem,hm,b0o,b68,b67,b66,a4o,f3e,dp,c1v,a9d,b5s,Cir.enc,a8d,eO,d8,f0o,e9k,b5q,e9l]<;>rfl)
        |succ i=>
         have aK:i+1+1≤1000000000:=by omega
         rcases f1d (i+1) x.outs.length with g1|g1
         all_goals first
         |(have c1:((i+1:Nat):Int)<x.outs.length:=(by omega);have c2:¬((i+1:Nat):Int)<3:=(by omega);(repeat first|simp only[ww]|(apply xa;simp+decide only[go_sem,hm,c1,c2,a9i,b8j,aK,iE,dp];rfl;kernel_rfl)))
         |(have c1:¬((i+1:Nat):Int)<x.outs.length:=(by omega);(repeat first|simp only[ww]|(apply xa;simp+decide only[go_sem,hm,c1,a9i,b8j,aK,iE,dp];rfl;kernel_rfl)))
         all_goals (apply fqb;simp+decide only[go_sem,hm,b0o,b68,b67,b66,a4o,f3e,dp,c1v,a9d,b5s,Cir.enc,a8d,eO,d8,f0o,e9k,b5q]<;>rfl)
theorem e7s(x:CX)(hx:x.ok)(hm:x.mem=false):sem L.env Mf 10 [.agg x.enc] []=some (.agg x.cir.enc,[]):=by
 have h3:x.d<3:=f4n _ (by omega);have h:x.d=0∨x.d=1∨x.d=2:=by omega
 rcases h with h|h|h
 ·exact e2t x hx hm h
 ·exact e2s x hx hm h
 ·exact e2r x hx hm h
theorem a2i(c:Cir):a0d c.enc=[]:=by simp only[go_sem,Cir.enc]
theorem d82{d:Bool}(H:a03)(x:CX)(hx:x.ok)(hm:x.mem=false):a0a L.env d (sem L.env Mf) (.func (.func 10) [] []) [.agg x.enc] H=some (.agg x.cir.enc,H,[]):=a04 (by kernel_rfl) (by kernel_rfl) rfl (by simp only[go_sem]) (e7s x hx hm) (a2i _)
def a8p(x:CX):CX:={ x with mem:=false }
end Go.UInst
