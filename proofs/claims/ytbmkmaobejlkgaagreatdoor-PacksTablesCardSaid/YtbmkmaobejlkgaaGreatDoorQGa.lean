/- The evaluator's tables for this program (printed by mkinst.py). -/
import Derived.Test.YtbmkmaobejlkgaaGreatDoorAxC
import Derived.Test.YtbmkmaobejlkgaaGreatDoorChecked
import Derived.KernelRfl
import Derived.Test.YtbmkmaobejlkgaaGreatDoorAxD
import Derived.Test.YtbmkmaobejlkgaaGreatDoorPcP
set_option linter.unusedSimpArgs false
set_option linter.unusedVariables false
namespace Go.QInst
open Go.Proofs Go.Ax
set_option maxRecDepth 100000
def a9s(k:IntKind)(l:List Int):List AV:=l.map (.int k)
noncomputable def TT:Tab TypeInfo:=(.node (.node (.node (.node (.node (.node (.node (.node (.node .nil 0 Tryz.t0 .nil) 1 Tryz.t1 .nil) 2 Tryz.t2 (.node .nil 3 Tryz.t3 .nil)) 4 Tryz.t4 (.node (.node .nil 5 Tryz.t5 .nil) 6 Tryz.t6 (.node .nil 7 Tryz.t7 .nil))) 8 Tryz.t8 (.node (.node (.node (.node .nil 9 Tryz.t9 .nil) 10 Tryz.t10 .nil) 11 Tryz.t11 (.node .nil 12 Tryz.t12 .nil)) 13 Tryz.t13 (.node (.node .nil 14 Tryz.t14 .nil) 15 Tryz.t15 (.node .nil 16 Tryz.t16 .nil)))) 17 Tryz.t17 (.node (.node (.node (.node (.node .nil 18 Tryz.t18 .nil) 19 Tryz.t19 .nil) 20 Tryz.t20 (.node .nil 21 Tryz.t21 .nil)) 22 Tryz.t22 (.node (.node .nil 23 Tryz.t23 .nil) 24 Tryz.t24 (.node .nil 25 Tryz.t25 .nil))) 26 Tryz.t26 (.node (.node (.node (.node .nil 27 Tryz.t27 .nil) 28 Tryz.t28 .nil) 29 Tryz.t29 (.node .nil 30 Tryz.t30 .nil)) 31 Tryz.t31 (.node (.node .nil 32 Tryz.t32 .nil) 33 Tryz.t33 (.node .nil 34 Tryz.t34 .nil))))) 35 Tryz.t35 (.node (.node (.node (.node (.node (.node .nil 36 Tryz.t36 .nil) 37 Tryz.t37 .nil) 38 Tryz.t38 (.node .nil 39 Tryz.t39 .nil)) 40 Tryz.t40 (.node (.node .nil 41 Tryz.t41 .nil) 42 Tryz.t42 (.node .nil 43 Tryz.t43 .nil))) 44 Tryz.t44 (.node (.node (.node (.node .nil 45 Tryz.t45 .nil) 46 Tryz.t46 .nil) 47 Tryz.t47 (.node .nil 48 Tryz.t48 .nil)) 49 Tryz.t49 (.node (.node .nil 50 Tryz.t50 .nil) 51 Tryz.t51 (.node .nil 52 Tryz.t52 .nil)))) 53 Tryz.t53 (.node (.node (.node (.node (.node .nil 54 Tryz.t54 .nil) 55 Tryz.t55 .nil) 56 Tryz.t56 (.node .nil 57 Tryz.t57 .nil)) 58 Tryz.t58 (.node (.node .nil 59 Tryz.t59 .nil) 60 Tryz.t60 (.node .nil 61 Tryz.t61 .nil))) 62 Tryz.t62 (.node (.node (.node .nil 63 Tryz.t63 .nil) 64 Tryz.t64 (.node .nil 65 Tryz.t65 .nil)) 66 Tryz.t66 (.node (.node .nil 67 Tryz.t67 .nil) 68 Tryz.t68 (.node .nil 69 Tryz.t69 .nil)))))) 70 Tryz.t70 (.node (.node (.node (.node (.node (.node (.node .nil 71 Tryz.t71 .nil) 72 Tryz.t72 .nil) 73 Tryz.t73 (.node .nil 74 Tryz.t74 .nil)) 75 Tryz.t75 (.node (.node .nil 76 Tryz.t76 .nil) 77 Tryz.t77 (.node .nil 78 Tryz.t78 .nil))) 79 Tryz.t79 (.node (.node (.node (.node .nil 80 Tryz.t80 .nil) 81 Tryz.t81 .nil) 82 Tryz.t82 (.node .nil 83 Tryz.t83 .nil)) 84 Tryz.t84 (.node (.node .nil 85 Tryz.t85 .nil) 86 Tryz.t86 (.node .nil 87 Tryz.t87 .nil)))) 88 Tryz.t88 (.node (.node (.node (.node (.node .nil 89 Tryz.t89 .nil) 90 Tryz.t90 .nil) 91 Tryz.t91 (.node .nil 92 Tryz.t92 .nil)) 93 Tryz.t93 (.node (.node .nil 94 Tryz.t94 .nil) 95 Tryz.t95 (.node .nil 96 Tryz.t96 .nil))) 97 Tryz.t97 (.node (.node (.node .nil 98 Tryz.t98 .nil) 99 Tryz.t99 (.node .nil 100 Tryz.t100 .nil)) 101 Tryz.t101 (.node (.node .nil 102 Tryz.t102 .nil) 103 Tryz.t103 (.node .nil 104 Tryz.t104 .nil))))) 105 Tryz.t105 (.node (.node (.node (.node (.node (.node .nil 106 Tryz.t106 .nil) 107 Tryz.t107 .nil) 108 Tryz.t108 (.node .nil 109 Tryz.t109 .nil)) 110 Tryz.t110 (.node (.node .nil 111 Tryz.t111 .nil) 112 Tryz.t112 (.node .nil 113 Tryz.t113 .nil))) 114 Tryz.t114 (.node (.node (.node (.node .nil 115 Tryz.t115 .nil) 116 Tryz.t116 .nil) 117 Tryz.t117 (.node .nil 118 Tryz.t118 .nil)) 119 Tryz.t119 (.node (.node .nil 120 Tryz.t120 .nil) 121 Tryz.t121 (.node .nil 122 Tryz.t122 .nil)))) 123 Tryz.t123 (.node (.node (.node (.node (.node .nil 124 Tryz.t124 .nil) 125 Tryz.t125 .nil) 126 Tryz.t126 (.node .nil 127 Tryz.t127 .nil)) 128 Tryz.t128 (.node (.node .nil 129 Tryz.t129 .nil) 130 Tryz.t130 (.node .nil 131 Tryz.t131 .nil))) 132 Tryz.t132 (.node (.node (.node .nil 133 Tryz.t133 .nil) 134 Tryz.t134 (.node .nil 135 Tryz.t135 .nil)) 136 Tryz.t136 (.node (.node .nil 137 Tryz.t137 .nil) 138 Tryz.t138 (.node .nil 139 Tryz.t139 .nil))))))) 140 Tryz.t140 (.node (.node (.node (.node (.node (.node (.node (.node .nil 141 Tryz.t141 .nil) 142 Tryz.t142 .nil) 143 Tryz.t143 (.node .nil 144 Tryz.t144 .nil)) 145 Tryz.t145 (.node (.node .nil 146 Tryz.t146 .nil) 147 Tryz.t147 (.node .nil 148 Tryz.t148 .nil))) 149 Tryz.t149 (.node (.node (.node (.node .nil 150 Tryz.t150 .nil) 151 Tryz.t151 .nil) 152 Tryz.t152 (.node .nil 153 Tryz.t153 .nil)) 154 Tryz.t154 (.node (.node .nil 155 Tryz.t155 .nil) 156 Tryz.t156 (.node .nil 157 Tryz.t157 .nil)))) 158 Tryz.t158 (.node (.node (.node (.node (.node .nil 159 Tryz.t159 .nil) 160 Tryz.t160 .nil) 161 Tryz.t161 (.node .nil 162 Tryz.t162 .nil)) 163 Tryz.t163 (.node (.node .nil 164 Tryz.t164 .nil) 165 Tryz.t165 (.node .nil 166 Tryz.t166 .nil))) 167 Tryz.t167 (.node (.node (.node .nil 168 Tryz.t168 .nil) 169 Tryz.t169 (.node .nil 170 Tryz.t170 .nil)) 171 Tryz.t171 (.node (.node .nil 172 Tryz.t172 .nil) 173 Tryz.t173 (.node .nil 174 Tryz.t174 .nil))))) 175 Tryz.t175 (.node (.node (.node (.node (.node (.node .nil 176 Tryz.t176 .nil) 177 Tryz.t177 .nil) 178 Tryz.t178 (.node .nil 179 Tryz.t179 .nil)) 180 Tryz.t180 (.node (.node .nil 181 Tryz.t181 .nil) 182 Tryz.t182 (.node .nil 183 Tryz.t183 .nil))) 184 Tryz.t184 (.node (.node (.node (.node .nil 185 Tryz.t185 .nil) 186 Tryz.t186 .nil) 187 Tryz.t187 (.node .nil 188 Tryz.t188 .nil)) 189 Tryz.t189 (.node (.node .nil 190 Tryz.t190 .nil) 191 Tryz.t191 (.node .nil 192 Tryz.t192 .nil)))) 193 Tryz.t193 (.node (.node (.node (.node (.node .nil 194 Tryz.t194 .nil) 195 Tryz.t195 .nil) 196 Tryz.t196 (.node .nil 197 Tryz.t197 .nil)) 198 Tryz.t198 (.node (.node .nil 199 Tryz.t199 .nil) 200 Tryz.t200 (.node .nil 201 Tryz.t201 .nil))) 202 Tryz.t202 (.node (.node (.node .nil 203 Tryz.t203 .nil) 204 Tryz.t204 (.node .nil 205 Tryz.t205 .nil)) 206 Tryz.t206 (.node (.node .nil 207 Tryz.t207 .nil) 208 Tryz.t208 (.node .nil 209 Tryz.t209 .nil)))))) 210 Tryz.t210 (.node (.node (.node (.node (.node (.node (.node .nil 211 Tryz.t211 .nil) 212 Tryz.t212 .nil) 213 Tryz.t213 (.node .nil 214 Tryz.t214 .nil)) 215 Tryz.t215 (.node (.node .nil 216 Tryz.t216 .nil) 217 Tryz.t217 (.node .nil 218 Tryz.t218 .nil))) 219 Tryz.t219 (.node (.node (.node (.node .nil 220 Tryz.t220 .nil) 221 Tryz.t221 .nil) 222 Tryz.t222 (.node .nil 223 Tryz.t223 .nil)) 224 Tryz.t224 (.node (.node .nil 225 Tryz.t225 .nil) 226 Tryz.t226 (.node .nil 227 Tryz.t227 .nil)))) 228 Tryz.t228 (.node (.node (.node (.node (.node .nil 229 Tryz.t229 .nil) 230 Tryz.t230 .nil) 231 Tryz.t231 (.node .nil 232 Tryz.t232 .nil)) 233 Tryz.t233 (.node (.node .nil 234 Tryz.t234 .nil) 235 Tryz.t235 (.node .nil 236 Tryz.t236 .nil))) 237 Tryz.t237 (.node (.node (.node .nil 238 Tryz.t238 .nil) 239 Tryz.t239 (.node .nil 240 Tryz.t240 .nil)) 241 Tryz.t241 (.node (.node .nil 242 Tryz.t242 .nil) 243 Tryz.t243 (.node .nil 244 Tryz.t244 .nil))))) 245 Tryz.t245 (.node (.node (.node (.node (.node (.node .nil 246 Tryz.t246 .nil) 247 Tryz.t247 .nil) 248 Tryz.t248 (.node .nil 249 Tryz.t249 .nil)) 250 Tryz.t250 (.node (.node .nil 251 Tryz.t251 .nil) 252 Tryz.t252 (.node .nil 253 Tryz.t253 .nil))) 254 Tryz.t254 (.node (.node (.node (.node .nil 255 Tryz.t255 .nil) 256 Tryz.t256 .nil) 257 Tryz.t257 (.node .nil 258 Tryz.t258 .nil)) 259 Tryz.t259 (.node (.node .nil 260 Tryz.t260 .nil) 261 Tryz.t261 (.node .nil 262 Tryz.t262 .nil)))) 263 Tryz.t263 (.node (.node (.node (.node (.node .nil 264 Tryz.t264 .nil) 265 Tryz.t265 .nil) 266 Tryz.t266 (.node .nil 267 Tryz.t267 .nil)) 268 Tryz.t268 (.node (.node .nil 269 Tryz.t269 .nil) 270 Tryz.t270 (.node .nil 271 Tryz.t271 .nil))) 272 Tryz.t272 (.node (.node (.node .nil 273 Tryz.t273 .nil) 274 Tryz.t274 (.node .nil 275 Tryz.t275 .nil)) 276 Tryz.t276 (.node (.node .nil 277 Tryz.t277 .nil) 278 Tryz.t278 (.node .nil 279 Tryz.t279 .nil))))))))
noncomputable def FT:Tab Func:=(.node (.node (.node (.node (.node (.node (.node (.node .nil 0 Tryz.f0 .nil) 1 Tryz.f1 (.node .nil 2 Tryz.f2 .nil)) 3 Tryz.f3 (.node (.node .nil 4 Tryz.f4 .nil) 5 Tryz.f5 (.node .nil 6 Tryz.f6 .nil))) 7 Tryz.f7 (.node (.node (.node .nil 8 Tryz.f8 .nil) 9 Tryz.f9 (.node .nil 10 Tryz.f10 .nil)) 11 Tryz.f11 (.node (.node .nil 12 Tryz.f12 .nil) 13 Tryz.f13 .nil))) 14 Tryz.f14 (.node (.node (.node (.node .nil 15 Tryz.f15 .nil) 16 Tryz.f16 (.node .nil 17 Tryz.f17 .nil)) 18 Tryz.f18 (.node (.node .nil 19 Tryz.f19 .nil) 20 Tryz.f20 (.node .nil 21 Tryz.f21 .nil))) 22 Tryz.f22 (.node (.node (.node .nil 23 Tryz.f23 .nil) 24 Tryz.f24 (.node .nil 25 Tryz.f25 .nil)) 26 Tryz.f26 (.node (.node .nil 27 Tryz.f27 .nil) 28 Tryz.f28 .nil)))) 29 Tryz.f29 (.node (.node (.node (.node (.node .nil 30 Tryz.f30 .nil) 31 Tryz.f31 (.node .nil 32 Tryz.f32 .nil)) 33 Tryz.f33 (.node (.node .nil 34 Tryz.f34 .nil) 35 Tryz.f35 (.node .nil 36 Tryz.f36 .nil))) 37 Tryz.f37 (.node (.node (.node .nil 38 Tryz.f38 .nil) 39 Tryz.f39 (.node .nil 40 Tryz.f40 .nil)) 41 Tryz.f41 (.node (.node .nil 42 Tryz.f42 .nil) 43 Tryz.f43 .nil))) 44 Tryz.f44 (.node (.node (.node (.node .nil 45 Tryz.f45 .nil) 46 Tryz.f46 (.node .nil 47 Tryz.f47 .nil)) 48 Tryz.f48 (.node (.node .nil 49 Tryz.f49 .nil) 50 Tryz.f50 .nil)) 51 Tryz.f51 (.node (.node (.node .nil 52 Tryz.f52 .nil) 53 Tryz.f53 (.node .nil 54 Tryz.f54 .nil)) 55 Tryz.f55 (.node (.node .nil 56 Tryz.f56 .nil) 57 Tryz.f57 .nil))))) 58 Tryz.f58 (.node (.node (.node (.node (.node (.node .nil 59 Tryz.f59 .nil) 60 Tryz.f60 (.node .nil 61 Tryz.f61 .nil)) 62 Tryz.f62 (.node (.node .nil 63 Tryz.f63 .nil) 64 Tryz.f64 (.node .nil 65 Tryz.f65 .nil))) 66 Tryz.f66 (.node (.node (.node .nil 67 Tryz.f67 .nil) 68 Tryz.f68 (.node .nil 69 Tryz.f69 .nil)) 70 Tryz.f70 (.node (.node .nil 71 Tryz.f71 .nil) 72 Tryz.f72 .nil))) 73 Tryz.f73 (.node (.node (.node (.node .nil 74 Tryz.f74 .nil) 75 Tryz.f75 (.node .nil 76 Tryz.f76 .nil)) 77 Tryz.f77 (.node (.node .nil 78 Tryz.f78 .nil) 79 Tryz.f79 (.node .nil 80 Tryz.f80 .nil))) 81 Tryz.f81 (.node (.node (.node .nil 82 Tryz.f82 .nil) 83 Tryz.f83 (.node .nil 84 Tryz.f84 .nil)) 85 Tryz.f85 (.node (.node .nil 86 Tryz.f86 .nil) 87 Tryz.f87 .nil)))) 88 Tryz.f88 (.node (.node (.node (.node (.node .nil 89 Tryz.f89 .nil) 90 Tryz.f90 (.node .nil 91 Tryz.f91 .nil)) 92 Tryz.f92 (.node (.node .nil 93 Tryz.f93 .nil) 94 Tryz.f94 (.node .nil 95 Tryz.f95 .nil))) 96 Tryz.f96 (.node (.node (.node .nil 97 Tryz.f97 .nil) 98 Tryz.f98 (.node .nil 99 Tryz.f99 .nil)) 100 Tryz.f100 (.node (.node .nil 101 Tryz.f101 .nil) 102 Tryz.f102 .nil))) 103 Tryz.f103 (.node (.node (.node (.node .nil 104 Tryz.f104 .nil) 105 Tryz.f105 (.node .nil 106 Tryz.f106 .nil)) 107 Tryz.f107 (.node (.node .nil 108 Tryz.f108 .nil) 109 Tryz.f109 .nil)) 110 Tryz.f110 (.node (.node (.node .nil 111 Tryz.f111 .nil) 112 Tryz.f112 (.node .nil 113 Tryz.f113 .nil)) 114 Tryz.f114 (.node (.node .nil 115 Tryz.f115 .nil) 116 Tryz.f116 .nil)))))) 117 Tryz.f117 (.node (.node (.node (.node (.node (.node (.node .nil 118 Tryz.f118 .nil) 119 Tryz.f119 (.node .nil 120 Tryz.f120 .nil)) 121 Tryz.f121 (.node (.node .nil 122 Tryz.f122 .nil) 123 Tryz.f123 (.node .nil 124 Tryz.f124 .nil))) 125 Tryz.f125 (.node (.node (.node .nil 126 Tryz.f126 .nil) 127 Tryz.f127 (.node .nil 128 Tryz.f128 .nil)) 129 Tryz.f129 (.node (.node .nil 130 Tryz.f130 .nil) 131 Tryz.f131 .nil))) 132 Tryz.f132 (.node (.node (.node (.node .nil 133 Tryz.f133 .nil) 134 Tryz.f134 (.node .nil 135 Tryz.f135 .nil)) 136 Tryz.f136 (.node (.node .nil 137 Tryz.f137 .nil) 138 Tryz.f138 (.node .nil 139 Tryz.f139 .nil))) 140 Tryz.f140 (.node (.node (.node .nil 141 Tryz.f141 .nil) 142 Tryz.f142 (.node .nil 143 Tryz.f143 .nil)) 144 Tryz.f144 (.node (.node .nil 145 Tryz.f145 .nil) 146 Tryz.f146 .nil)))) 147 Tryz.f147 (.node (.node (.node (.node (.node .nil 148 Tryz.f148 .nil) 149 Tryz.f149 (.node .nil 150 Tryz.f150 .nil)) 151 Tryz.f151 (.node (.node .nil 152 Tryz.f152 .nil) 153 Tryz.f153 (.node .nil 154 Tryz.f154 .nil))) 155 Tryz.f155 (.node (.node (.node .nil 156 Tryz.f156 .nil) 157 Tryz.f157 (.node .nil 158 Tryz.f158 .nil)) 159 Tryz.f159 (.node (.node .nil 160 Tryz.f160 .nil) 161 Tryz.f161 .nil))) 162 Tryz.f162 (.node (.node (.node (.node .nil 163 Tryz.f163 .nil) 164 Tryz.f164 (.node .nil 165 Tryz.f165 .nil)) 166 Tryz.f166 (.node (.node .nil 167 Tryz.f167 .nil) 168 Tryz.f168 .nil)) 169 Tryz.f169 (.node (.node (.node .nil 170 Tryz.f170 .nil) 171 Tryz.f171 (.node .nil 172 Tryz.f172 .nil)) 173 Tryz.f173 (.node (.node .nil 174 Tryz.f174 .nil) 175 Tryz.f175 .nil))))) 176 Tryz.f176 (.node (.node (.node (.node (.node (.node .nil 177 Tryz.f177 .nil) 178 Tryz.f178 (.node .nil 179 Tryz.f179 .nil)) 180 Tryz.f180 (.node (.node .nil 181 Tryz.f181 .nil) 182 Tryz.f182 (.node .nil 183 Tryz.f183 .nil))) 184 Tryz.f184 (.node (.node (.node .nil 185 Tryz.f185 .nil) 186 Tryz.f186 (.node .nil 187 Tryz.f187 .nil)) 188 Tryz.f188 (.node (.node .nil 189 Tryz.f189 .nil) 190 Tryz.f190 .nil))) 191 Tryz.f191 (.node (.node (.node (.node .nil 192 Tryz.f192 .nil) 193 Tryz.f193 (.node .nil 194 Tryz.f194 .nil)) 195 Tryz.f195 (.node (.node .nil 196 Tryz.f196 .nil) 197 Tryz.f197 (.node .nil 198 Tryz.f198 .nil))) 199 Tryz.f199 (.node (.node (.node .nil 200 Tryz.f200 .nil) 201 Tryz.f201 (.node .nil 202 Tryz.f202 .nil)) 203 Tryz.f203 (.node (.node .nil 204 Tryz.f204 .nil) 205 Tryz.f205 .nil)))) 206 Tryz.f206 (.node (.node (.node (.node (.node .nil 207 Tryz.f207 .nil) 208 Tryz.f208 (.node .nil 209 Tryz.f209 .nil)) 210 Tryz.f210 (.node (.node .nil 211 Tryz.f211 .nil) 212 Tryz.f212 (.node .nil 213 Tryz.f213 .nil))) 214 Tryz.f214 (.node (.node (.node .nil 215 Tryz.f215 .nil) 216 Tryz.f216 (.node .nil 217 Tryz.f217 .nil)) 218 Tryz.f218 (.node (.node .nil 219 Tryz.f219 .nil) 220 Tryz.f220 .nil))) 221 Tryz.f221 (.node (.node (.node (.node .nil 222 Tryz.f222 .nil) 223 Tryz.f223 (.node .nil 224 Tryz.f224 .nil)) 225 Tryz.f225 (.node (.node .nil 226 Tryz.f226 .nil) 227 Tryz.f227 .nil)) 228 Tryz.f228 (.node (.node (.node .nil 229 Tryz.f229 .nil) 230 Tryz.f230 (.node .nil 231 Tryz.f231 .nil)) 232 Tryz.f232 (.node (.node .nil 233 Tryz.f233 .nil) 234 Tryz.f234 .nil)))))))
def KT:Tab (List (Nat×List Nat)):=(.node (.node (.node (.node (.node (.node (.node .nil 3 [(0,[1,2,7,8,9,1000000]),(2,[2,7,8,11,12,1000000]),(4,[7,8,11,13,16,18,20]),(6,[7,8,11,13,16,18,20,21,22]),(8,[7,8,11,13,16,18,20,25])] .nil) 4 [(0,[3,4,5,7,8]),(2,[3,4,5,7,9]),(5,[5,17,18]),(7,[5,17,18,19])] .nil) 5 [(0,[1,2]),(2,[1,2,3,4,5,1000000])] (.node (.node .nil 9 [(0,[4,5,6])] .nil) 10 [(0,[2,3,9,26,27,28]),(2,[2,3,9,10,11,26,27,28,33,34,35])] .nil)) 11 [(0,[0,19,20,21]),(2,[8,9,51,52,53]),(4,[8,9,101,102])] (.node (.node (.node .nil 13 [(0,[0,1,5])] .nil) 14 [(0,[0,1,5])] .nil) 15 [(0,[0,1,5])] (.node .nil 16 [(0,[1,3,4])] .nil))) 18 [(0,[1,5,9,10,11])] (.node (.node (.node (.node .nil 21 [(0,[2,5100000])] .nil) 22 [(0,[7,8,9,10])] .nil) 23 [(0,[7,8,9]),(2,[7,8,9,10,11,30,31,32]),(4,[7,8,9,10,11,12,14,30,31,32,38])] (.node (.node .nil 24 [(0,[1,7,30,31,32,1000000]),(2,[1,7,10,30,31,32,36,37,38]),(4,[1,13,14,15,65,66]),(6,[15,17,80,81])] .nil) 25 [(0,[7,16,17,18])] .nil)) 26 [(0,[5,6,7,9,11,13,15,16,17]),(2,[5,6,7,9,11,13,15,19,20,1000000]),(4,[5,6,7,9,11,13,15,19,20,21]),(6,[7,9,11,13,15,19,22])] (.node (.node (.node .nil 27 [(0,[5,6,7,9,11,12,1000000]),(2,[5,6,7,9,11,12,13,14]),(4,[5,6,7,9,11,15]),(6,[5,6,7,9,11,15,16,17,18]),(8,[5,6,7,9,11,15,16,17,18,19,20])] .nil) 28 [(0,[5,6,7,9,10,11,1000000]),(2,[5,6,7,9,10,11,12,13]),(4,[5,6,7,9,10,14,17]),(6,[5,6,7,9,10,14,17,18])] .nil) 30 [(0,[1,3,12,13,14]),(2,[3,24,25,26])] (.node .nil 31 [(0,[1,2,3,4]),(2,[1,2,3,5,6,7]),(4,[1,2,3,5,6,8]),(6,[1,2,3,5,6,9,10]),(8,[1,2,3,9,11]),(10,[1,2,3,9,12])] .nil)))) 34 [(1,[2,3,40,41,42]),(3,[3,56,57,58])] (.node (.node (.node (.node (.node .nil 36 [(0,[0,1,7,8])] .nil) 39 [(0,[2,4,7,22,23,24])] .nil) 40 [(0,[8,7000000])] (.node (.node .nil 45 [(0,[1,5,6,7,29,30,31]),(2,[1,5,6,7,10,11]),(4,[1,5,6,7,10,11,12,76,77,78])] .nil) 52 [(1,[1,21,22,23]),(3,[1,7,21,22,23,27,28,29])] .nil)) 53 [(0,[0,5,14,15]),(2,[5,23,24,25]),(4,[5,7,23,24,25,30,31,32])] (.node (.node (.node .nil 54 [(0,[3,7,8,9])] .nil) 55 [(0,[0,4,7])] .nil) 56 [(0,[0,2,3])] (.node .nil 65 [(0,[0,3]),(2,[0,3,4,5])] .nil))) 66 [(0,[0,6,7,8]),(2,[0,6,7,8,9,10])] (.node (.node (.node (.node .nil 67 [(0,[0,1,5])] .nil) 68 [(0,[0,1,5,6])] .nil) 69 [(0,[0,1,5])] (.node (.node .nil 70 [(0,[0,5,6,7,8]),(2,[0,5,6,7,8,9,10])] .nil) 73 [(0,[2,3,4,5,10300000])] .nil)) 76 [(0,[2,3,4,6,7,8,9,10,11,12])] (.node (.node (.node .nil 78 [(0,[1,2,3,4,9])] .nil) 79 [(0,[0,1,2,7,8])] .nil) 80 [(0,[1,2,5,6])] (.node .nil 85 [(0,[2,3,10,11,12])] .nil))))) 87 [(0,[4,9,10,40,41,42]),(2,[4,9,10,12,13,40,41,42,59,60,61])] (.node (.node (.node (.node (.node (.node .nil 89 [(0,[0,3,4,5,41,42,43]),(2,[0,3,4,5,60,61,62]),(4,[0,4,5,12,89,90,91]),(6,[0,4,5,16,143,144,145]),(8,[0,4,16,162,163,164])] .nil) 91 [(1,[1,36,37,38]),(3,[1,55,56,57])] .nil) 93 [(0,[3,4,18,19,20]),(2,[3,4,5,18,19,20,26,27,28]),(4,[3,51,52,53])] (.node (.node .nil 94 [(0,[0,1,7,8])] .nil) 95 [(0,[2,5,6]),(2,[2,5,6,45,46,47])] .nil)) 100 [(0,[0,1,7,8]),(2,[0,1,22,23])] (.node (.node (.node .nil 101 [(0,[0,1,7,8])] .nil) 102 [(0,[0,1,7,8])] .nil) 107 [(0,[0,1,2,3,8,9])] (.node .nil 110 [(0,[0,1,12,13])] .nil))) 111 [(0,[5,6,7,14100000])] (.node (.node (.node (.node .nil 117 [(0,[0,1,7,8])] .nil) 118 [(0,[0,3,9,10,11]),(2,[6,25,26,27])] .nil) 119 [(0,[4,6,21,22])] (.node (.node .nil 120 [(0,[2,3,10,11,12]),(2,[2,3,29,30,31])] .nil) 122 [(0,[1,2,3,12,13,14]),(2,[1,2,3,29,30,31])] .nil)) 130 [(0,[0,1,5,16,17,18])] (.node (.node (.node .nil 132 [(0,[0,1,5,11,12])] .nil) 134 [(0,[3,8,9,10])] .nil) 138 [(0,[0,1,7,8])] (.node .nil 139 [(0,[0,1,2,6]),(2,[0,1,2,6,7])] .nil)))) 140 [(0,[0,6,7,8,9]),(2,[0,6,7,10])] (.node (.node (.node (.node (.node .nil 141 [(0,[0,1,6,7,8,9])] .nil) 143 [(0,[0,6,7])] .nil) 144 [(0,[0,1,2,7,8]),(2,[0,1,2,7,8]),(4,[0,1,2,7,8,9]),(6,[0,1,2,7,8,10])] (.node (.node .nil 146 [(0,[0,1,9,10]),(2,[0,1,9,10]),(4,[0,1,9,10])] .nil) 147 [(0,[0,1,10,11]),(2,[0,1,10,11]),(4,[0,1,10,11]),(6,[0,1,10,11]),(8,[0,1,10,11])] .nil)) 150 [(0,[0,3,4])] (.node (.node (.node .nil 163 [(0,[3,6,7,8])] .nil) 177 [(0,[0,2,3,8])] .nil) 183 [(1,[0,1,5,6,7,8,9,10])] (.node .nil 185 [(0,[0,1,2,6,7,8]),(2,[0,1,2,6]),(4,[0,1,2,6,7,8])] .nil))) 187 [(0,[1,2,7,11,12,13])] (.node (.node (.node (.node .nil 198 [(0,[0,1,5,6,7,8,9]),(2,[0,1,5,6,7,8,10])] .nil) 199 [(0,[0,1,2,3,8]),(2,[0,1,2,3,8,9])] .nil) 200 [(0,[0,1,4,10,11]),(2,[0,10,13]),(4,[0,2,4,14,15]),(6,[0,14,17]),(8,[0,1,2,3,4,18,19,20,21,22])] (.node .nil 202 [(9,[175]),(1,[0,7,8,9]),(3,[0,7,8,9,12]),(5,[0,7,8,9,14,15]),(7,[0,7,8,9,14,15,16])] .nil)) 204 [(0,[0,4,5]),(2,[4,6,7,8])] (.node (.node (.node .nil 205 [(0,[0,2,4,10,11])] .nil) 206 [(0,[0,1,7,8])] .nil) 208 [(0,[1,2,10])] (.node .nil 209 [(0,[0,1,2,3,10])] .nil))))))
def EQ:Tab Bool:=(.node (.node (.node (.node (.node (.node .nil 2 true .nil) 3 true (.node .nil 4 true .nil)) 5 true (.node (.node .nil 6 true .nil) 7 true .nil)) 8 true (.node (.node (.node .nil 9 true .nil) 10 true (.node .nil 11 true .nil)) 12 true (.node (.node .nil 15 true .nil) 16 true .nil))) 17 true (.node (.node (.node (.node .nil 20 true .nil) 21 true (.node .nil 22 true .nil)) 23 true (.node (.node .nil 39 true .nil) 40 true .nil)) 41 true (.node (.node (.node .nil 42 true .nil) 43 true .nil) 44 true (.node (.node .nil 45 true .nil) 46 true .nil)))) 56 true (.node (.node (.node (.node (.node .nil 74 true .nil) 112 true (.node .nil 122 true .nil)) 134 true (.node (.node .nil 142 true .nil) 143 true .nil)) 144 true (.node (.node (.node .nil 159 true .nil) 182 true .nil) 184 true (.node (.node .nil 194 true .nil) 215 true .nil))) 216 true (.node (.node (.node (.node .nil 218 true .nil) 227 true (.node .nil 240 true .nil)) 244 true (.node (.node .nil 248 true .nil) 249 true .nil)) 255 true (.node (.node (.node .nil 269 true .nil) 273 true .nil) 274 true (.node (.node .nil 276 true .nil) 277 true .nil)))))
def GT(g:Nat):Option (List AV):=bif Nat.beq g 2 then some (a9s .i64 [0,0,0,0,0,0,1,1,1,1,2,16,2,16,2,16,2,16,2,16,2,16,3,3,2,2,1,16,1,1,0,0])else bif Nat.beq g 1 then some (a9s .u8 [0,1,56,2,57,49,28,3,61,58,42,50,38,29,17,4,62,47,59,36,45,43,51,22,53,39,33,30,24,18,12,5,63,55,48,27,60,41,37,16,46,35,44,21,52,32,23,11,54,26,40,15,34,20,31,10,25,14,19,9,13,8,7,6])else bif Nat.beq g 0 then some (a9s .u8 [0,1,28,2,29,14,24,3,30,22,20,15,25,17,4,8,31,27,13,23,21,19,16,7,26,12,18,6,11,5,10,9])else none
noncomputable def L:Laid:={ P:=Tryz.prog,T:=TT,F:=FT,keep:=KT,eqs:=EQ,G:=GT,thaw:=λg=>decide (g=154∨g=84∨g=54∨g=88∨g=126∨g=33∨g=79),ro:=λg=>decide (g=129∨g=130),ext:=λf=>Nat.beq f 184,lend:=λg=>false }
theorem d8p:∀i x,TT.get i=some x→Tryz.prog.types[i]?=some x:=b6k (n:=280) (l:=Tryz.types.toList) (by kernel_rfl) (by kernel_rfl)
theorem e0r:∀i x,FT.get i=some x→Tryz.prog.funcs[i]?=some x:=b6k (n:=235) (l:=Tryz.funcs.toList) (by kernel_rfl) (by kernel_rfl)
theorem laidOk:LaidOk L:={
 types:=d8p
 funcs:=e0r
 shape:=by kernel_rfl
 names:=by kernel_rfl
 eqs:=by kernel_rfl
 ext:=λf h=>by
  have h:Nat.beq f 184=true:=h;have:f=184:=by simpa using h
  subst this;exact⟨Tryz.f184,by kernel_rfl,by kernel_rfl,by kernel_rfl,by kernel_rfl,by kernel_rfl⟩
 mixed:=by kernel_rfl
 draws:=by kernel_rfl
 yid:=by kernel_rfl
 rf:=by kernel_rfl}
theorem ok:EnvOk L.env:=laidOk.envOk
theorem dr:DrOk L.env:=laidOk.drawn
@[go_sem] theorem f2i:L.env.G 2=some (a9s .i64 [0,0,0,0,0,0,1,1,1,1,2,16,2,16,2,16,2,16,2,16,2,16,3,3,2,2,1,16,1,1,0,0]):=by kernel_rfl
attribute [go_sem] a9s
end Go.QInst
/- Type facts (printed by AxTypes). -/
namespace Go.QInst
open Go.Proofs Go.Ax
@[go_sem] theorem roF(g:FuncId):L.env.ro g=decide (g=129∨g=130):=by rfl
@[go_sem] theorem f4d(g:FuncId):L.env.thaw g=decide (g=154∨g=84∨g=54∨g=88∨g=126∨g=33∨g=79):=by rfl
@[go_sem] theorem kp3_0:L.env.keep 3 0=[1,2,7,8,9,1000000]:=by kernel_rfl
@[go_sem] theorem kp3_2:L.env.keep 3 2=[2,7,8,11,12,1000000]:=by kernel_rfl
@[go_sem] theorem kp3_4:L.env.keep 3 4=[7,8,11,13,16,18,20]:=by kernel_rfl
@[go_sem] theorem kp3_6:L.env.keep 3 6=[7,8,11,13,16,18,20,21,22]:=by kernel_rfl
@[go_sem] theorem kp3_8:L.env.keep 3 8=[7,8,11,13,16,18,20,25]:=by kernel_rfl
@[go_sem] theorem kp9_0:L.env.keep 9 0=[4,5,6]:=by kernel_rfl
@[go_sem] theorem kp10_0:L.env.keep 10 0=[2,3,9,26,27,28]:=by kernel_rfl
@[go_sem] theorem kp10_2:L.env.keep 10 2=[2,3,9,10,11,26,27,28,33,34,35]:=by kernel_rfl
@[go_sem] theorem kp11_0:L.env.keep 11 0=[0,19,20,21]:=by kernel_rfl
@[go_sem] theorem kp11_2:L.env.keep 11 2=[8,9,51,52,53]:=by kernel_rfl
@[go_sem] theorem kp11_4:L.env.keep 11 4=[8,9,101,102]:=by kernel_rfl
@[go_sem] theorem kp13_0:L.env.keep 13 0=[0,1,5]:=by kernel_rfl
@[go_sem] theorem kp14_0:L.env.keep 14 0=[0,1,5]:=by kernel_rfl
@[go_sem] theorem kp15_0:L.env.keep 15 0=[0,1,5]:=by kernel_rfl
@[go_sem] theorem kp18_0:L.env.keep 18 0=[1,5,9,10,11]:=by kernel_rfl
@[go_sem] theorem kp21_0:L.env.keep 21 0=[2,5100000]:=by kernel_rfl
@[go_sem] theorem kp31_0:L.env.keep 31 0=[1,2,3,4]:=by kernel_rfl
@[go_sem] theorem kp31_2:L.env.keep 31 2=[1,2,3,5,6,7]:=by kernel_rfl
@[go_sem] theorem kp31_4:L.env.keep 31 4=[1,2,3,5,6,8]:=by kernel_rfl
@[go_sem] theorem kp31_6:L.env.keep 31 6=[1,2,3,5,6,9,10]:=by kernel_rfl
@[go_sem] theorem kp31_8:L.env.keep 31 8=[1,2,3,9,11]:=by kernel_rfl
@[go_sem] theorem kp31_10:L.env.keep 31 10=[1,2,3,9,12]:=by kernel_rfl
@[go_sem] theorem kp34_1:L.env.keep 34 1=[2,3,40,41,42]:=by kernel_rfl
@[go_sem] theorem kp34_3:L.env.keep 34 3=[3,56,57,58]:=by kernel_rfl
@[go_sem] theorem kp36_0:L.env.keep 36 0=[0,1,7,8]:=by kernel_rfl
@[go_sem] theorem kp39_0:L.env.keep 39 0=[2,4,7,22,23,24]:=by kernel_rfl
@[go_sem] theorem kp40_0:L.env.keep 40 0=[8,7000000]:=by kernel_rfl
@[go_sem] theorem kp45_0:L.env.keep 45 0=[1,5,6,7,29,30,31]:=by kernel_rfl
@[go_sem] theorem kp45_2:L.env.keep 45 2=[1,5,6,7,10,11]:=by kernel_rfl
@[go_sem] theorem kp45_4:L.env.keep 45 4=[1,5,6,7,10,11,12,76,77,78]:=by kernel_rfl
@[go_sem] theorem kp76_0:L.env.keep 76 0=[2,3,4,6,7,8,9,10,11,12]:=by kernel_rfl
@[go_sem] theorem kp78_0:L.env.keep 78 0=[1,2,3,4,9]:=by kernel_rfl
@[go_sem] theorem kp79_0:L.env.keep 79 0=[0,1,2,7,8]:=by kernel_rfl
@[go_sem] theorem kp80_0:L.env.keep 80 0=[1,2,5,6]:=by kernel_rfl
@[go_sem] theorem kp85_0:L.env.keep 85 0=[2,3,10,11,12]:=by kernel_rfl
@[go_sem] theorem kp87_0:L.env.keep 87 0=[4,9,10,40,41,42]:=by kernel_rfl
@[go_sem] theorem kp87_2:L.env.keep 87 2=[4,9,10,12,13,40,41,42,59,60,61]:=by kernel_rfl
@[go_sem] theorem kp89_0:L.env.keep 89 0=[0,3,4,5,41,42,43]:=by kernel_rfl
@[go_sem] theorem kp89_2:L.env.keep 89 2=[0,3,4,5,60,61,62]:=by kernel_rfl
@[go_sem] theorem kp89_4:L.env.keep 89 4=[0,4,5,12,89,90,91]:=by kernel_rfl
@[go_sem] theorem kp89_6:L.env.keep 89 6=[0,4,5,16,143,144,145]:=by kernel_rfl
@[go_sem] theorem kp89_8:L.env.keep 89 8=[0,4,16,162,163,164]:=by kernel_rfl
@[go_sem] theorem kp91_1:L.env.keep 91 1=[1,36,37,38]:=by kernel_rfl
@[go_sem] theorem kp91_3:L.env.keep 91 3=[1,55,56,57]:=by kernel_rfl
@[go_sem] theorem kp93_0:L.env.keep 93 0=[3,4,18,19,20]:=by kernel_rfl
@[go_sem] theorem kp93_2:L.env.keep 93 2=[3,4,5,18,19,20,26,27,28]:=by kernel_rfl
@[go_sem] theorem kp93_4:L.env.keep 93 4=[3,51,52,53]:=by kernel_rfl
@[go_sem] theorem kp94_0:L.env.keep 94 0=[0,1,7,8]:=by kernel_rfl
@[go_sem] theorem kp95_0:L.env.keep 95 0=[2,5,6]:=by kernel_rfl
@[go_sem] theorem kp95_2:L.env.keep 95 2=[2,5,6,45,46,47]:=by kernel_rfl
@[go_sem] theorem kp100_0:L.env.keep 100 0=[0,1,7,8]:=by kernel_rfl
@[go_sem] theorem kp100_2:L.env.keep 100 2=[0,1,22,23]:=by kernel_rfl
@[go_sem] theorem kp111_0:L.env.keep 111 0=[5,6,7,14100000]:=by kernel_rfl
@[go_sem] theorem kp117_0:L.env.keep 117 0=[0,1,7,8]:=by kernel_rfl
@[go_sem] theorem kp118_0:L.env.keep 118 0=[0,3,9,10,11]:=by kernel_rfl
@[go_sem] theorem kp118_2:L.env.keep 118 2=[6,25,26,27]:=by kernel_rfl
@[go_sem] theorem kp119_0:L.env.keep 119 0=[4,6,21,22]:=by kernel_rfl
@[go_sem] theorem kp120_0:L.env.keep 120 0=[2,3,10,11,12]:=by kernel_rfl
@[go_sem] theorem kp120_2:L.env.keep 120 2=[2,3,29,30,31]:=by kernel_rfl
@[go_sem] theorem kp122_0:L.env.keep 122 0=[1,2,3,12,13,14]:=by kernel_rfl
@[go_sem] theorem kp122_2:L.env.keep 122 2=[1,2,3,29,30,31]:=by kernel_rfl
@[go_sem] theorem kp130_0:L.env.keep 130 0=[0,1,5,16,17,18]:=by kernel_rfl
@[go_sem] theorem kp132_0:L.env.keep 132 0=[0,1,5,11,12]:=by kernel_rfl
@[go_sem] theorem kp134_0:L.env.keep 134 0=[3,8,9,10]:=by kernel_rfl
@[go_sem] theorem kp138_0:L.env.keep 138 0=[0,1,7,8]:=by kernel_rfl
@[go_sem] theorem kp163_0:L.env.keep 163 0=[3,6,7,8]:=by kernel_rfl
@[go_sem] theorem kp185_0:L.env.keep 185 0=[0,1,2,6,7,8]:=by kernel_rfl
@[go_sem] theorem kp185_2:L.env.keep 185 2=[0,1,2,6]:=by kernel_rfl
@[go_sem] theorem kp187_0:L.env.keep 187 0=[1,2,7,11,12,13]:=by kernel_rfl
@[go_sem] theorem kp199_0:L.env.keep 199 0=[0,1,2,3,8]:=by kernel_rfl
@[go_sem] theorem kp199_2:L.env.keep 199 2=[0,1,2,3,8,9]:=by kernel_rfl
@[go_sem] theorem kp206_0:L.env.keep 206 0=[0,1,7,8]:=by kernel_rfl
@[go_sem] theorem by3:L.env.bytes 3=8:=by kernel_rfl
@[go_sem] theorem by4:L.env.bytes 4=1:=by kernel_rfl
@[go_sem] theorem by9:L.env.bytes 9=16:=by kernel_rfl
@[go_sem] theorem f3s:L.env.bytes 34=24:=by kernel_rfl
@[go_sem] theorem f6g:L.env.bytes 41=16:=by kernel_rfl
@[go_sem] theorem f3r:L.env.bytes 42=1:=by kernel_rfl
@[go_sem] theorem f6f:L.env.bytes 44=40:=by kernel_rfl
@[go_sem] theorem f6e:L.env.bytes 51=48:=by kernel_rfl
@[go_sem] theorem f6d:L.env.bytes 85=48:=by kernel_rfl
@[go_sem] theorem f0v:L.env.bytes 171=24:=by kernel_rfl
@[go_sem] theorem un4:L.env.und 4=some .bool:=by kernel_rfl
@[go_sem] theorem in5:d55 L.env 5=some .u8:=by kernel_rfl
@[go_sem] theorem ar22:c59 L.env 22=some (2,5):=by kernel_rfl
@[go_sem] theorem ar23:c59 L.env 23=some (4,5):=by kernel_rfl
@[go_sem] theorem st24:slT L.env 24=some 144:=by kernel_rfl
@[go_sem] theorem st25:slT L.env 25=some 5:=by kernel_rfl
@[go_sem] theorem ag27:a7k L.env 27=some true:=by kernel_rfl
theorem ft27:b13 L.env 27=some [5,5,22,4,4,23,24,25]:=by kernel_rfl
@[go_sem] theorem ag28:a7k L.env 28=some false:=by kernel_rfl
@[go_sem] theorem st28:slT L.env 28=some 46:=by kernel_rfl
@[go_sem] theorem ag29:a7k L.env 29=some false:=by kernel_rfl
@[go_sem] theorem st29:slT L.env 29=some 54:=by kernel_rfl
@[go_sem] theorem f8o{k:Nat}(h:(k≤1000000000)=True):a2f L.env 85 k=true:=a71 (f6h h) (by rw[f6d];decide)
@[go_sem] theorem f8n{k:Nat}(h:(k≤1000000000)=True):a2f L.env 9 k=true:=a71 (f6h h) (by rw[by9];decide)
@[go_sem] theorem f8m{k:Nat}(h:(k≤1000000000)=True):a2f L.env 3 k=true:=a71 (f6h h) (by rw[by3];decide)
@[go_sem] theorem f8r{k:Nat}(h:(k≤1000000000)=True):c9p L.env 3 (k:Int) (k:Int)=true:=a8k (f6h h) (by rw[by3];decide)
@[go_sem] theorem is3:isT L.env 3=true∧L.env.sz 3=1∧a7k L.env 3=some false∧d55 L.env 3=some .i64∧L.env.zero 3=some [.int .i64 0]∧isT L.env 4=true∧L.env.sz 4=1∧a7k L.env 4=some false∧L.env.zero 4=some [.bool false]∧isT L.env 5=true∧L.env.sz 5=1∧a7k L.env 5=some false∧L.env.zero 5=some [.int .u8 0]∧isT L.env 9=true∧L.env.sz 9=1∧a7k L.env 9=some false∧L.env.zero 9=some [.str []]∧isT L.env 22=true∧isT L.env 24=true∧L.env.sz 24=1∧a7k L.env 24=some false∧isT L.env 25=true∧L.env.sz 25=1∧a7k L.env 25=some false∧byT L.env 25 9=true∧L.env.sz 27=12∧a68 L.env 27 0=some (0,5)∧a68 L.env 27 1=some (1,5)∧a68 L.env 27 2=some (2,22)∧a68 L.env 27 3=some (4,4)∧a68 L.env 27 4=some (5,4)∧a68 L.env 27 6=some (10,24)∧a68 L.env 27 7=some (11,25)∧isT L.env 31=true∧L.env.sz 31=1∧a7k L.env 31=some false∧slT L.env 31=some 85∧apT L.env 31 31=some 85∧isT L.env 32=true∧L.env.sz 32=1∧a7k L.env 32=some false∧slT L.env 32=some 9∧apT L.env 32 32=some 9∧isT L.env 33=true∧L.env.sz 33=1∧a7k L.env 33=some false∧slT L.env 33=some 146∧isT L.env 34=true∧L.env.sz 34=1∧a7k L.env 34=some false∧slT L.env 34=some 3∧apT L.env 34 34=some 3∧L.env.zero 34=some [.nilslice]∧isT L.env 36=true∧L.env.sz 36=4∧a7k L.env 36=some true∧a68 L.env 36 0=some (0,31)∧a68 L.env 36 1=some (1,32)∧a68 L.env 36 2=some (2,33)∧a68 L.env 36 3=some (3,34):=by refine⟨?_,?_,?_,?_,?_,?_,?_,?_,?_,?_,?_,?_,?_,?_,?_,?_,?_,?_,?_,?_,?_,?_,?_,?_,?_,?_,?_,?_,?_,?_,?_,?_,?_,?_,?_,?_,?_,?_,?_,?_,?_,?_,?_,?_,?_,?_,?_,?_,?_,?_,?_,?_,?_,?_,?_,?_,?_,?_,?_,?_⟩<;>kernel_rfl
@[go_sem] theorem f8l{k:Nat}(h:(k≤1000000000)=True):a2f L.env 44 k=true:=a71 (f6h h) (by rw[f6f];decide)
theorem ft46:b13 L.env 46=some [5,5,5,5,4]:=by kernel_rfl
@[go_sem] theorem f8k{k:Nat}(h:(k≤1000000000)=True):a2f L.env 51 k=true:=a71 (f6h h) (by rw[f6e];decide)
@[go_sem] theorem f8j{k:Nat}(h:(k≤1000000000)=True):a2f L.env 42 k=true:=a71 (f6h h) (by rw[f3r];decide)
@[go_sem] theorem f8q{k:Nat}(h:(k≤1000000000)=True):c9p L.env 42 (k:Int) (k:Int)=true:=a8k (f6h h) (by rw[f3r];decide)
theorem ft54:b13 L.env 54=some [25,25]:=by kernel_rfl
@[go_sem] theorem f7f:L.env.zero 36=some [.nilslice,.nilslice,.nilslice,.nilslice]∧slT L.env 38=some 44∧apT L.env 38 38=some 44∧isT L.env 39=true∧L.env.sz 39=1∧a7k L.env 39=some false∧isT L.env 41=true∧L.env.sz 41=2∧a7k L.env 41=some true∧d6h L.env 41=true∧a68 L.env 41 0=some (0,3)∧b9y L.env 41 0=some (0,1)∧a68 L.env 41 1=some (1,3)∧b9y L.env 41 1=some (1,1)∧L.env.zero 41=some [.int .i64 0,.int .i64 0]∧isT L.env 42=true∧L.env.sz 42=1∧a7k L.env 42=some false∧L.env.zero 42=some [.int .u8 0]∧isT L.env 44=true∧L.env.sz 44=5∧a7k L.env 44=some true∧d6h L.env 44=true∧a68 L.env 44 0=some (0,39)∧b9y L.env 44 0=some (0,1)∧a68 L.env 44 1=some (1,41)∧b9y L.env 44 1=some (1,2)∧a68 L.env 44 2=some (3,42)∧a68 L.env 44 3=some (4,3)∧L.env.zero 44=some [.int .u8 0,.int .i64 0,.int .i64 0,.int .u8 0,.int .i64 0]∧isT L.env 46=true∧L.env.sz 46=5∧a7k L.env 46=some true∧a68 L.env 46 0=some (0,5)∧a68 L.env 46 1=some (1,5)∧a68 L.env 46 2=some (2,5)∧a68 L.env 46 3=some (3,5)∧a68 L.env 46 4=some (4,4)∧slT L.env 48=some 51∧apT L.env 48 48=some 51∧isT L.env 49=true∧L.env.sz 49=1∧a7k L.env 49=some false∧slT L.env 49=some 42∧apT L.env 49 49=some 42∧L.env.zero 49=some [.nilslice]∧isT L.env 51=true∧L.env.sz 51=2∧a7k L.env 51=some true∧d6h L.env 51=true∧a68 L.env 51 0=some (0,49)∧b9y L.env 51 0=some (0,1)∧a68 L.env 51 1=some (1,49)∧b9y L.env 51 1=some (1,1)∧L.env.zero 51=some [.nilslice,.nilslice]∧isT L.env 54=true∧L.env.sz 54=2∧a7k L.env 54=some true∧a68 L.env 54 0=some (0,25)∧a68 L.env 54 1=some (1,25):=by refine⟨?_,?_,?_,?_,?_,?_,?_,?_,?_,?_,?_,?_,?_,?_,?_,?_,?_,?_,?_,?_,?_,?_,?_,?_,?_,?_,?_,?_,?_,?_,?_,?_,?_,?_,?_,?_,?_,?_,?_,?_,?_,?_,?_,?_,?_,?_,?_,?_,?_,?_,?_,?_,?_,?_,?_,?_,?_,?_,?_,?_⟩<;>kernel_rfl
@[go_sem] theorem f8i{k:Nat}(h:(k≤1000000000)=True):a2f L.env 34 k=true:=a71 (f6h h) (by rw[f3s];decide)
@[go_sem] theorem f8p{k:Nat}(h:(k≤1000000000)=True):c9p L.env 34 (k:Int) (k:Int)=true:=a8k (f6h h) (by rw[f3s];decide)
@[go_sem] theorem ar142:c59 L.env 142=some (3,5):=by kernel_rfl
theorem ft144:b13 L.env 144=some [5,142]:=by kernel_rfl
@[go_sem] theorem f5g{k:Nat}(h:(k≤1000000000)=True):c9p L.env 171 (k:Int) (k:Int)=true:=a8k (f6h h) (by rw[f0v];decide)
@[go_sem] theorem f4v{k:Nat}(h:(k≤1000000000)=True):a2f L.env 41 k=true:=a71 (f6h h) (by rw[f6g];decide)
@[go_sem] theorem f8a:slT L.env 55=some 34∧apT L.env 55 55=some 34∧isT L.env 56=true∧L.env.sz 56=1∧a7k L.env 56=some false∧L.env.zero 56=some [.int .i64 0]∧isT L.env 74=true∧L.env.sz 74=1∧a7k L.env 74=some false∧d55 L.env 74=some .u8∧L.env.zero 74=some [.int .u8 0]∧isT L.env 85=true∧L.env.sz 85=4∧a7k L.env 85=some true∧d6h L.env 85=true∧a68 L.env 85 0=some (0,74)∧b9y L.env 85 0=some (0,1)∧a68 L.env 85 1=some (1,34)∧b9y L.env 85 1=some (1,1)∧a68 L.env 85 2=some (2,3)∧a68 L.env 85 3=some (3,3)∧L.env.zero 85=some [.int .u8 0,.nilslice,.int .i64 0,.int .i64 0]∧isT L.env 101=true∧L.env.sz 101=2∧a7k L.env 101=some true∧d6h L.env 101=true∧a68 L.env 101 0=some (0,49)∧b9y L.env 101 0=some (0,1)∧a68 L.env 101 1=some (1,49)∧b9y L.env 101 1=some (1,1)∧L.env.zero 101=some [.nilslice,.nilslice]∧slT L.env 106=some 74∧isT L.env 142=true∧isT L.env 144=true∧L.env.sz 144=4∧a7k L.env 144=some true∧a68 L.env 144 0=some (0,5)∧a68 L.env 144 1=some (1,142)∧isT L.env 162=true∧L.env.sz 162=1∧a7k L.env 162=some false∧isT L.env 163=true∧L.env.sz 163=1∧a7k L.env 163=some false∧d6h L.env 165=true∧a68 L.env 165 0=some (0,36)∧b9y L.env 165 0=some (0,4)∧a68 L.env 165 1=some (4,49)∧a68 L.env 165 2=some (5,162)∧b9y L.env 165 2=some (5,1)∧a68 L.env 165 3=some (6,163)∧b9y L.env 165 3=some (6,1)∧L.env.zero 165=some [.nilslice,.nilslice,.nilslice,.nilslice,.nilslice,.nilfunc,.nilfunc]∧slT L.env 169=some 171∧isT L.env 171=true∧L.env.sz 171=1∧a7k L.env 171=some false∧slT L.env 171=some 41∧apT L.env 171 171=some 41∧L.env.zero 171=some [.nilslice]:=by refine⟨?_,?_,?_,?_,?_,?_,?_,?_,?_,?_,?_,?_,?_,?_,?_,?_,?_,?_,?_,?_,?_,?_,?_,?_,?_,?_,?_,?_,?_,?_,?_,?_,?_,?_,?_,?_,?_,?_,?_,?_,?_,?_,?_,?_,?_,?_,?_,?_,?_,?_,?_,?_,?_,?_,?_,?_,?_,?_,?_,?_⟩<;>kernel_rfl
@[go_sem] theorem f5f{k:Nat}(h:(k≤1000000000)=True):c9p L.env 4 (k:Int) (k:Int)=true:=a8k (f6h h) (by rw[by4];decide)
@[go_sem] theorem f4q:slT L.env 173=some 4∧L.env.sz 190=1∧a7k L.env 190=some false∧isT L.env 198=true∧L.env.sz 198=5∧a7k L.env 198=some true∧d6h L.env 198=true∧a68 L.env 198 0=some (0,36)∧b9y L.env 198 0=some (0,4)∧a68 L.env 198 1=some (4,49)∧b9y L.env 198 1=some (4,1)∧L.env.zero 198=some [.nilslice,.nilslice,.nilslice,.nilslice,.nilslice]∧L.env.sz 205=1∧a7k L.env 205=some false∧slT L.env 229=some 49∧b7b L.env 238=false∧isT L.env 248=true∧L.env.sz 248=2∧c59 L.env 248=some (2,3)∧c59 L.env 249=some (16,248):=by refine⟨?_,?_,?_,?_,?_,?_,?_,?_,?_,?_,?_,?_,?_,?_,?_,?_,?_,?_,?_,?_⟩<;>kernel_rfl
end Go.QInst
/- The facts that calls may use: the closed run of the chapter's examples; names of nodes. -/
namespace Go.QInst
open Go.Proofs Go.Ax
def Mf:List Fact:=[⟨6,[],.bool true⟩,⟨174,[.str [110,48,48]],.bool true⟩,⟨174,[.str [110,48,49]],.bool true⟩,⟨174,[.str [110,48,50]],.bool true⟩,⟨174,[.str [110,48,51]],.bool true⟩,⟨174,[.str [110,48,52]],.bool true⟩,⟨174,[.str [110,48,53]],.bool true⟩,⟨174,[.str [110,48,54]],.bool true⟩,⟨174,[.str [110,48,55]],.bool true⟩,⟨174,[.str [110,48,56]],.bool true⟩,⟨174,[.str [110,48,57]],.bool true⟩,⟨174,[.str [110,49,48]],.bool true⟩,⟨174,[.str [110,49,49]],.bool true⟩,⟨174,[.str [110,49,50]],.bool true⟩,⟨174,[.str [110,49,51]],.bool true⟩]
theorem no(g:Nat)(h:(Mf.all λy=>!Nat.beq y.g g)=true):∀y∈Mf,y.g≠g:=by intro y hy e;have:=f2u.1 h y hy;rw[e]at this;simp at this
theorem a5w:∀y∈Mf,y.v = .bool true:=by intro y hy;simp only[Mf,f2s,List.not_mem_nil,or_false]at hy;rcases hy with rfl|rfl|rfl|rfl|rfl|rfl|rfl|rfl|rfl|rfl|rfl|rfl|rfl|rfl|rfl<;>rfl
theorem d01:sem L.env Mf 6 [] []=some (.bool true,[]):=a23 a5w (x:=⟨6,[],.bool true⟩) (by simp[Mf])
theorem d51:sem L.env Mf 174 [.str [110,48,48]] []=some (.bool true,[]):=a23 a5w (x:=⟨174,[.str [110,48,48]],.bool true⟩) (by simp[Mf])
theorem d50:sem L.env Mf 174 [.str [110,48,49]] []=some (.bool true,[]):=a23 a5w (x:=⟨174,[.str [110,48,49]],.bool true⟩) (by simp[Mf])
theorem d4z:sem L.env Mf 174 [.str [110,48,50]] []=some (.bool true,[]):=a23 a5w (x:=⟨174,[.str [110,48,50]],.bool true⟩) (by simp[Mf])
theorem d4y:sem L.env Mf 174 [.str [110,48,51]] []=some (.bool true,[]):=a23 a5w (x:=⟨174,[.str [110,48,51]],.bool true⟩) (by simp[Mf])
theorem d4x:sem L.env Mf 174 [.str [110,48,52]] []=some (.bool true,[]):=a23 a5w (x:=⟨174,[.str [110,48,52]],.bool true⟩) (by simp[Mf])
theorem d4w:sem L.env Mf 174 [.str [110,48,53]] []=some (.bool true,[]):=a23 a5w (x:=⟨174,[.str [110,48,53]],.bool true⟩) (by simp[Mf])
theorem d4v:sem L.env Mf 174 [.str [110,48,54]] []=some (.bool true,[]):=a23 a5w (x:=⟨174,[.str [110,48,54]],.bool true⟩) (by simp[Mf])
theorem d4u:sem L.env Mf 174 [.str [110,48,55]] []=some (.bool true,[]):=a23 a5w (x:=⟨174,[.str [110,48,55]],.bool true⟩) (by simp[Mf])
theorem d4t:sem L.env Mf 174 [.str [110,48,56]] []=some (.bool true,[]):=a23 a5w (x:=⟨174,[.str [110,48,56]],.bool true⟩) (by simp[Mf])
theorem d4s:sem L.env Mf 174 [.str [110,48,57]] []=some (.bool true,[]):=a23 a5w (x:=⟨174,[.str [110,48,57]],.bool true⟩) (by simp[Mf])
theorem d0f:sem L.env Mf 174 [.str [110,49,48]] []=some (.bool true,[]):=a23 a5w (x:=⟨174,[.str [110,49,48]],.bool true⟩) (by simp[Mf])
theorem d0e:sem L.env Mf 174 [.str [110,49,49]] []=some (.bool true,[]):=a23 a5w (x:=⟨174,[.str [110,49,49]],.bool true⟩) (by simp[Mf])
theorem d0d:sem L.env Mf 174 [.str [110,49,50]] []=some (.bool true,[]):=a23 a5w (x:=⟨174,[.str [110,49,50]],.bool true⟩) (by simp[Mf])
theorem d0c:sem L.env Mf 174 [.str [110,49,51]] []=some (.bool true,[]):=a23 a5w (x:=⟨174,[.str [110,49,51]],.bool true⟩) (by simp[Mf])
open Go.Proofs Go.Ax Go.Pc
set_option maxRecDepth 100000
def a5x:List AV:=[.int .u8 0,.nilslice,.int .i64 0,.int .i64 0]
def dR(b:Nat):List AV:=[.int .u8 14,.slice b 0 1 (some 1),.int .i64 0,.int .i64 0]
def one(v:Nat):Option AObj:=some (.row 1 [[.int .i64 v]])
def xh(x:CX):Option AObj:=some (.row 12 [x.enc])
def rh:Option AObj:=some (.row 4 [[.nilslice,.nilslice,.nilslice,.nilslice]])
def nV:Nat→AV|0=>.nilslice|i+1=>.slice 3 0 (i+1) none
def nH:Nat→a02|0=>[]|i+1=>[some (.row 4 (List.replicate (i+1) a5x))]
theorem nV0:nV 0 = .nilslice:=by rfl
theorem nVs(i:Nat):nV (i+1) = .slice 3 0 (i+1) none:=by rfl
theorem nH0:nH 0=[]:=by rfl
theorem nHs(i:Nat):nH (i+1)=[some (.row 4 (List.replicate (i+1) a5x))]:=by rfl
theorem a5d{α:Type}(r:α)(n:Nat):List.replicate n r++[r]=List.replicate (n+1) r:=by rw[List.replicate_succ']
theorem a0h(l:List Nd):(l.map Nd.enc).flatMap a08=[]:=a0e (FlatR.map λx=>by simp only[Nd.enc,a08,a33,refs];rfl)
theorem a14(π:Nat→Option Nat)(l:List Nd):(l.map Nd.enc).map (λr=>r.map (ren π))=l.map Nd.enc:=a0b π (FlatR.map λx=>by simp only[Nd.enc,a08,a33,refs];rfl)
theorem d0z(b:Bool)(ks:List Nat):gN b ks []=[]:=by rfl
def slN(b:Nat):Nat→AV|0=>.nilslice|i+1=>.slice b 0 (i+1) none
theorem b4y(b:Nat):slN b 0 = .nilslice:=by rfl
theorem a9d(b i:Nat):slN b (i+1) = .slice b 0 (i+1) none:=by rfl
def nmR(j:Nat):List AV:=[.str (a3t j)]
def nmH:Nat→a02|0=>[]|i+1=>[some (.row 1 ((List.range (i+1)).map nmR))]
theorem d43:nmH 0=[]:=by rfl
theorem c7n(i:Nat):nmH (i+1)=[some (.row 1 ((List.range (i+1)).map nmR))]:=by rfl
theorem a2c(l:List Nat):(l.map nmR).flatMap a08=[]:=a0e (FlatR.map λ_=>rfl)
theorem a3p(π:Nat→Option Nat)(l:List Nat):(l.map nmR).map (λr=>r.map (ren π))=l.map nmR:=a0b π (FlatR.map λ_=>rfl)
theorem nm1:(List.range 1).map nmR=[[.str (a3t 0)]]:=by rfl
theorem c2a(i:Nat):(List.range (i+1+1)).map nmR=(List.range (i+1)).map nmR++[[.str (a3t (i+1))]]:=by rw[List.range_succ,f2o];rfl
def otR(n o:Nat):List AV:=[.int .i64 (o%n:Nat)]
def otH(x:CX):Nat→a02|0=>[]|i+1=>[some (.row 1 ((x.outs.take (i+1)).map (otR x.n)))]
theorem c7m(x:CX):otH x 0=[]:=by rfl
theorem b95(x:CX)(i:Nat):otH x (i+1)=[some (.row 1 ((x.outs.take (i+1)).map (otR x.n)))]:=by rfl
theorem b0z(n:Nat)(l:List Nat):(l.map (otR n)).flatMap a08=[]:=a0e (FlatR.map λ_=>rfl)
theorem b5r(n:Nat)(π:Nat→Option Nat)(l:List Nat):(l.map (otR n)).map (λr=>r.map (ren π))=l.map (otR n):=a0b π (FlatR.map λ_=>rfl)
theorem b0w{m:Nat}{d:AV→Option AV}{n:Nat}{r:List AV}(h:a08 r=[]):a8m m d (List.replicate n r)=some (List.replicate n r):=a1g m d (FlatR.replicate h)
theorem b6o{m:Nat}{d:AV→Option AV}(l:List Nd):a8m m d (l.map Nd.enc)=some (l.map Nd.enc):=a1g m d (c4p l)
theorem b6n{m:Nat}{d:AV→Option AV}(l:List Nat):a8m m d (l.map nmR)=some (l.map nmR):=a1g m d (FlatR.map λ_=>rfl)
theorem b6m{m:Nat}{d:AV→Option AV}(n:Nat)(l:List Nat):a8m m d (l.map (otR n))=some (l.map (otR n)):=a1g m d (FlatR.map λ_=>rfl)
theorem a8d{α:Type}{l:List α}{n:Nat}(h:(l.length≤n)=True):l.take n=l:=f0f (f6h h)
theorem b63(n:Nat)(l:List Nat):l.map (a0d∘λo=>o%n)=l.map (otR n):=by rfl
theorem b65(l:List Nat):l.map (a1s∘a3t)=l.map nmR:=by rfl
attribute [go_sem] a5x dR one xh rh nmR otR List.range_zero
theorem e03(i:Nat)(hi:i<100):sem L.env Mf 77 [.int .i64 i] []=some (.str (a3t i),[]):=by
 have a1:IntKind.i64.wrap ((i/10:Nat):Int)=((i/10:Nat):Int):=wI (by omega);have a2:IntKind.i64.wrap (48+((i/10:Nat):Int))=((48+i/10:Nat):Int):=by rw[w64 (by omega) (by omega)];omega
 have a3:IntKind.i64.wrap (48+((i%10:Nat):Int))=((48+i%10:Nat):Int):=by rw[w64 (by omega) (by omega)];omega
 have a4:IntKind.u8.wrap ((48+i/10:Nat):Int)=((48+i/10:Nat):Int):=wB (by omega);have a5:IntKind.u8.wrap ((48+i%10:Nat):Int)=((48+i%10:Nat):Int):=wB (by omega)
 (refine sv Tryz.f77 ?_;simp only[Tryz.f77,gS])
 (repeat first|simp only[ww]|(apply xa;simp+decide only[go_sem,a1,a2,a3,a4,a5];rfl;kernel_rfl))
 (apply fqb;simp+decide only[go_sem]<;>rfl)
theorem b39{d:Bool}(H:a02)(i:Nat)(hi:i<100):a09 L.env d (sem L.env Mf) (.func (.func 77) [] []) [.int .i64 i] H=some (.str (a3t i),H,[]):=a04 (by kernel_rfl) (by kernel_rfl) rfl rfl (e03 i hi) rfl
def trV(b:Nat)(l:List Nat):AV:=match l with|[]=>.nilslice|_::l=>.slice b 0 (l.length+1) none
def trH(l:List Nat):a02:=match l with|[]=>[]|y::l=>[some (.row 1 (a0d y::l.map a0d))]
theorem d8s(b:Nat):trV b [] = .nilslice:=by rfl
theorem d3a(b y:Nat)(l:List Nat):trV b (y::l) = .slice b 0 (l.length+1) none:=by rfl
theorem d8t:trH []=[]:=by rfl
theorem d3b(y:Nat)(l:List Nat):trH (y::l)=[some (.row 1 (a0d y::l.map a0d))]:=by rfl
theorem d17(l:List Nat):(l.map a0d).flatMap a08=[]:=a0e (FlatR.map λ_=>rfl)
theorem d3t(π:Nat→Option Nat)(l:List Nat):(l.map a0d).map (λr=>r.map (ren π))=l.map a0d:=a0b π (FlatR.map λ_=>rfl)
attribute [go_sem] d8s d3a d8t d3b d17 d3t
theorem c8p(t:Nat)(l:List Nat)(j:Nat)(h:j<l.length+1):([AV.int .i64 (t:Int)]::List.map a0d l)[j]?=some [.int .i64 (((t::l).getD j 0:Nat):Int)]:=by have e:([AV.int .i64 (t:Int)]::List.map a0d l)=(t::l).map a0d:=rfl;rw[e,f0d,z9e (by simpa using h)];simp[a0d,List.getD,z9e (show j<(t::l).length by simpa using h)]
set_option maxHeartbeats 200000000
theorem b8b(m m1 m2 m3:Nat)(B:List Nat)(X:a02)(hX:(m=1∧m1=2∧m2=3∧m3=4∧B=[]∧X=[])∨(m=2∧m1=3∧m2=4∧m3=5∧B=[1]∧X=[some (.row 1 [[.int .i64 0]])])∨(m=3∧m1=4∧m2=5∧m3=6∧B=[1,2]∧X=[some (.row 1 [[.int .i64 0]]),some (.row 1 [[.int .i64 0]])]))(x:CX)(g:GX)(hg:g.ok)(R:List (List AV))(ks:List Nat)(cap:Option Nat)(hk:KindRows R ks)(h0:0<ks.length)(hl:ks.length<1000)(hR:R.flatMap a08=B)(hI:FixR m R) :
 sem L.env Mf 76 [.agg x.enc,.agg g.enc,.slice 0 0 ks.length cap] (some (.row 4 R)::X)=some (.agg (a0j x.bus g ks).enc,(some (.row 4 R)::X)):=by
 rcases hX with ⟨hm,eg,eL,fw,hB,hX⟩|⟨hm,eg,eL,fw,hB,hX⟩|⟨hm,eg,eL,fw,hB,hX⟩
 all_goals
  obtain⟨r7,r6,uH,uG⟩:=hg;have w0:=wI (n:=g.i0) (by omega);have w1:=wI (n:=g.i1) (by omega);have w2:=wI (n:=g.i2) (by omega);have hn:¬(ks.length:Int)=0:=by omega
  have ia:∀σ,R.map (λr=>r.map (ren (b8a m σ)))=R:=λσ=>hI _ (λb hb=>by rw[d0w,f2x hb];rfl);have cS:R.map (λr=>r.map (ren (a1b m)))=R:=hI _ (λb hb=>by rw[b60,f2x hb];rfl);have w9:=wI (n:=g.kind%9) (by omega);have pd:=wI (n:=g.kind%13) (by omega);rw[hX]
  (refine sv Tryz.f76 ?_;simp only[Tryz.f76,gS])
  (repeat first|simp only[ww]|(apply xa;simp+decide only[go_sem,w0,w1,w2,hn];rfl;kernel_rfl))
  refine a2q (σ:=Nat) kp76_0
   (λi=>[(2,.slice 0 0 ks.length cap),(3,.ptr m 0 0),(4,.ptr m1 0 0),(6,.ptr m2 0 0),(7,.int .i64 ks.length),(8,.int .i64 (g.i0%ks.length:Nat)),(9,.int .i64 (g.i1%ks.length:Nat)),(10,.int .i64 (g.i2%ks.length:Nat)),(11,trV m3 (a5m ks i)),(12,.int .i64 i)])
   (λi=>(some (.row 4 R)::X)++[some (.row 12 [x.enc]),some (.row 4 [g.enc]),some (.row 4 [[.int .u8 0,.nilslice,.int .i64 0,.int .i64 0]])]++trH (a5m ks i)) (λi=>ks.length-i) (λi=>i≤ks.length) 0 ?_ (f0h _) ?_ ?_
  ·subst hm eg eL fw hB hX
   (simp+decide only[go_sem,a03,a00,hR,ia]<;>rfl)
  ·subst hm eg eL fw hB hX;intro i _;cases fK:a5m ks i with
   |nil=>((simp+decide only[go_sem,a03,a00,hR,ia]<;>rfl))
   |cons a l=>((simp+decide only[go_sem,a03,a00,hR,ia,fK]<;>rfl))
  ·subst hm eg eL fw hB hX;intro i hi;by_cases ag:i<ks.length
   ·obtain⟨k,rP⟩:∃k,ks[i]?=some k:=⟨_,z9e ag⟩
    obtain⟨v,y,z,hr⟩:=hk.2 i k rP;have hd:(i:Int)<ks.length:=by omega
    have hw:=wI1 (n:=i) (by omega);have ht:=c1r rP;have cU:=b9c ks i;by_cases nr:k=12
    ·subst nr;rw[f1r rfl]at ht;cases fK:a5m ks i with
     |nil=>
      rw[fK]at ht
      (repeat first|simp only[ww]|(apply xa;simp+decide only[go_sem,hd,ag,hr,hw];rfl;kernel_rfl))
      refine a4g (i+1) ?_ (by omega) (by omega)
      ((simp+decide only[go_sem,a03,a00,hR,ia,ht]<;>rfl))
     |cons a l=>
      rw[fK]at ht;rw[fK]at cU;simp only[e9m]at cU;have aO:l.length+1+1≤1000000000:=by omega
      (repeat first|simp only[ww]|(apply xa;simp+decide only[go_sem,hd,ag,hr,hw,aO];rfl;kernel_rfl))
      refine a4g (i+1) ?_ (by omega) (by omega)
      ((simp+decide only[go_sem,a03,a00,hR,ia,ht,f2o,List.flatMap_append]<;>rfl))
    ·rw[f0j nr]at ht;have gP:¬(k:Int)=12:=by omega
     (repeat first|simp only[ww]|(apply xa;simp+decide only[go_sem,hd,ag,hr,hw,gP];rfl;kernel_rfl))
     refine a4g (i+1) ?_ (by omega) (by omega);cases fK:a5m ks i with
     |nil=>
      rw[fK]at ht
      ((simp+decide only[go_sem,a03,a00,hR,ia,ht]<;>rfl))
     |cons a l=>
      rw[fK]at ht
      ((simp+decide only[go_sem,a03,a00,hR,ia,ht]<;>rfl))
   ·have eh:i=ks.length:=by omega
    subst eh;have hd:¬(ks.length:Int)<ks.length:=by omega
    rw[show a5m ks ks.length=a8t ks from rfl];have cU:(a8t ks).length≤ks.length:=b9c ks ks.length
    (repeat first|simp only[ww]|(apply xa;simp+decide only[go_sem,hd,w9,pd];rfl;kernel_rfl))
    rcases fK:a8t ks with _|⟨t,l⟩
    ·cases hb:x.bus with
     |true=>
      (repeat first|simp only[ww]|(apply xa;simp+decide only[go_sem,hb,pd];rfl;kernel_rfl))
      have wk:IntKind.u8.wrap (((g.kind%13):Nat):Int)=((g.kind%13):Nat):=wB (by omega);have eR:(g.kind%13)<6→IntKind.u8.wrap (5+(((g.kind%13):Nat):Int))=((5+(g.kind%13):Nat):Int):=λh=>by rw[IntWalk.u8_in _ ⟨by omega,by omega⟩];omega
      by_cases h6:(g.kind%13)<6
      ·have c6:(((g.kind%13):Nat):Int)<6:=by omega
       have eR:=eR h6;by_cases ek:128≤g.kind
       ·have da:(128:Int)≤g.kind:=by omega
        have e:a0j true g ks=⟨5+(g.kind%13),some none,[g.i0%ks.length,g.i1%ks.length,g.i2%ks.length],0,0⟩:=by simp[a0j,h6,ek]
        rw[e]
        (repeat first|simp only[ww]|(apply xa;simp+decide only[go_sem,c6,wk,eR,da];rfl;kernel_rfl))
        (apply fqb;simp+decide only[go_sem,cS,hR]<;>rfl)
       ·have da:¬(128:Int)≤g.kind:=by omega
        have e:a0j true g ks=⟨5+(g.kind%13),some (some 2),[g.i0%ks.length,g.i1%ks.length],0,0⟩:=by simp[a0j,h6,ek]
        rw[e]
        (repeat first|simp only[ww]|(apply xa;simp+decide only[go_sem,c6,wk,eR,da];rfl;kernel_rfl))
        (apply fqb;simp+decide only[go_sem,cS,hR]<;>rfl)
      have c6:¬(((g.kind%13):Nat):Int)<6:=by omega
      by_cases h7:(g.kind%13)=6
      ·have c7:(((g.kind%13):Nat):Int)=6:=by omega
       have e:a0j true g ks=⟨4,some (some 1),[g.i0%ks.length],0,0⟩:=by simp[a0j,h7]
       rw[e]
       (repeat first|simp only[ww]|(apply xa;simp+decide only[go_sem,c6,c7];rfl;kernel_rfl))
       (apply fqb;simp+decide only[go_sem,cS,hR]<;>rfl)
      have c7:¬(((g.kind%13):Nat):Int)=6:=by omega
      by_cases h8:(g.kind%13)=7
      ·have c8:(((g.kind%13):Nat):Int)=7:=by omega
       have e:a0j true g ks=⟨11,some (some 3),[g.i0%ks.length,g.i1%ks.length,g.i2%ks.length],0,0⟩:=by simp[a0j,h8]
       rw[e]
       (repeat first|simp only[ww]|(apply xa;simp+decide only[go_sem,c6,c7,c8];rfl;kernel_rfl))
       (apply fqb;simp+decide only[go_sem,cS,hR]<;>rfl)
      have c8:¬(((g.kind%13):Nat):Int)=7:=by omega
      by_cases h9:(g.kind%13)=9
      ·have c9:(((g.kind%13):Nat):Int)=9:=by omega
       have e:a0j true g ks=⟨12,some (some 2),[g.i0%ks.length,g.i1%ks.length],0,0⟩:=by simp[a0j,h9]
       rw[e]
       (repeat first|simp only[ww]|(apply xa;simp+decide only[go_sem,c6,c7,c8,c9];rfl;kernel_rfl))
       (apply fqb;simp+decide only[go_sem,cS,hR]<;>rfl)
      by_cases h10:(g.kind%13)=10
      ·have c9:¬(((g.kind%13):Nat):Int)=9:=by omega
       have e6:(((g.kind%13):Nat):Int)=10:=by omega
       have e:a0j true g ks=⟨12,some (some 2),[g.i0%ks.length,g.i1%ks.length],0,0⟩:=by simp[a0j,h10]
       rw[e]
       (repeat first|simp only[ww]|(apply xa;simp+decide only[go_sem,c6,c7,c8,c9,e6];rfl;kernel_rfl))
       (apply fqb;simp+decide only[go_sem,cS,hR]<;>rfl)
      have c9:¬(((g.kind%13):Nat):Int)=9:=by omega
      have e6:¬(((g.kind%13):Nat):Int)=10:=by omega
      by_cases h11:10<(g.kind%13)
      ·have fH:(10:Int)<(((g.kind%13):Nat):Int):=by omega
       by_cases dw:240<g.kind
       ·have cf:(240:Int)<g.kind:=by omega
        have u1:IntKind.u8.wrap (1+((g.i0%2:Nat):Int))=((1+g.i0%2:Nat):Int):=by rw[IntWalk.u8_in _ ⟨by omega,by omega⟩];omega
        have e:a0j true g ks=⟨1+g.i0%2,none,[],0,0⟩:=by simp[a0j,h6,h7,h8,h9,h10,dw,fK]
        rw[e]
        (repeat first|simp only[ww]|(apply xa;simp+decide only[go_sem,c6,c7,c8,c9,e6,cf,u1,fH];rfl;kernel_rfl))
        (apply fqb;simp+decide only[go_sem,cS,hR]<;>rfl)
       ·have cf:¬(240:Int)<g.kind:=by omega
        have e:a0j true g ks=⟨3,some (some 1),[g.i0%ks.length],0,0⟩:=by simp[a0j,h6,h7,h8,h9,h10,dw,fK]
        rw[e]
        (repeat first|simp only[ww]|(apply xa;simp+decide only[go_sem,c6,c7,c8,c9,e6,cf,fH];rfl;kernel_rfl))
        (apply fqb;simp+decide only[go_sem,cS,hR]<;>rfl)
      ·have fH:¬(10:Int)<(((g.kind%13):Nat):Int):=by omega
       by_cases dw:240<g.kind
       ·have cf:(240:Int)<g.kind:=by omega
        have u1:IntKind.u8.wrap (1+((g.i0%2:Nat):Int))=((1+g.i0%2:Nat):Int):=by rw[IntWalk.u8_in _ ⟨by omega,by omega⟩];omega
        have e:a0j true g ks=⟨1+g.i0%2,none,[],0,0⟩:=by simp[a0j,h6,h7,h8,h9,h10,dw,h11]
        rw[e]
        (repeat first|simp only[ww]|(apply xa;simp+decide only[go_sem,c6,c7,c8,c9,e6,cf,u1,fH];rfl;kernel_rfl))
        (apply fqb;simp+decide only[go_sem,cS,hR]<;>rfl)
       ·have cf:¬(240:Int)<g.kind:=by omega
        have e:a0j true g ks=⟨3,some (some 1),[g.i0%ks.length],0,0⟩:=by simp[a0j,h6,h7,h8,h9,h10,dw,h11]
        rw[e]
        (repeat first|simp only[ww]|(apply xa;simp+decide only[go_sem,c6,c7,c8,c9,e6,cf,fH];rfl;kernel_rfl))
        (apply fqb;simp+decide only[go_sem,cS,hR]<;>rfl)
     |false=>
      (repeat first|simp only[ww]|(apply xa;simp+decide only[go_sem,hb,w9];rfl;kernel_rfl))
      have wk:IntKind.u8.wrap (((g.kind%9):Nat):Int)=((g.kind%9):Nat):=wB (by omega);have eR:(g.kind%9)<6→IntKind.u8.wrap (5+(((g.kind%9):Nat):Int))=((5+(g.kind%9):Nat):Int):=λh=>by rw[IntWalk.u8_in _ ⟨by omega,by omega⟩];omega
      by_cases h6:(g.kind%9)<6
      ·have c6:(((g.kind%9):Nat):Int)<6:=by omega
       have eR:=eR h6;by_cases ek:128≤g.kind
       ·have da:(128:Int)≤g.kind:=by omega
        have e:a0j false g ks=⟨5+(g.kind%9),some none,[g.i0%ks.length,g.i1%ks.length,g.i2%ks.length],0,0⟩:=by simp[a0j,h6,ek]
        rw[e]
        (repeat first|simp only[ww]|(apply xa;simp+decide only[go_sem,c6,wk,eR,da];rfl;kernel_rfl))
        (apply fqb;simp+decide only[go_sem,cS,hR]<;>rfl)
       ·have da:¬(128:Int)≤g.kind:=by omega
        have e:a0j false g ks=⟨5+(g.kind%9),some (some 2),[g.i0%ks.length,g.i1%ks.length],0,0⟩:=by simp[a0j,h6,ek]
        rw[e]
        (repeat first|simp only[ww]|(apply xa;simp+decide only[go_sem,c6,wk,eR,da];rfl;kernel_rfl))
        (apply fqb;simp+decide only[go_sem,cS,hR]<;>rfl)
      have c6:¬(((g.kind%9):Nat):Int)<6:=by omega
      by_cases h7:(g.kind%9)=6
      ·have c7:(((g.kind%9):Nat):Int)=6:=by omega
       have e:a0j false g ks=⟨4,some (some 1),[g.i0%ks.length],0,0⟩:=by simp[a0j,h7]
       rw[e]
       (repeat first|simp only[ww]|(apply xa;simp+decide only[go_sem,c6,c7];rfl;kernel_rfl))
       (apply fqb;simp+decide only[go_sem,cS,hR]<;>rfl)
      have c7:¬(((g.kind%9):Nat):Int)=6:=by omega
      by_cases h8:(g.kind%9)=7
      ·have c8:(((g.kind%9):Nat):Int)=7:=by omega
       have e:a0j false g ks=⟨11,some (some 3),[g.i0%ks.length,g.i1%ks.length,g.i2%ks.length],0,0⟩:=by simp[a0j,h8]
       rw[e]
       (repeat first|simp only[ww]|(apply xa;simp+decide only[go_sem,c6,c7,c8];rfl;kernel_rfl))
       (apply fqb;simp+decide only[go_sem,cS,hR]<;>rfl)
      have c8:¬(((g.kind%9):Nat):Int)=7:=by omega
      have c9:¬(((g.kind%9):Nat):Int)=9:=by omega
      have e6:¬(((g.kind%9):Nat):Int)=10:=by omega
      have n9:¬(g.kind%9)=9:=by omega
      have mD:¬(g.kind%9)=10:=by omega
      have fH:¬(10:Int)<(((g.kind%9):Nat):Int):=by omega
      have mC:¬10<(g.kind%9):=by omega
      by_cases dw:240<g.kind
      ·have cf:(240:Int)<g.kind:=by omega
       have u1:IntKind.u8.wrap (1+((g.i0%2:Nat):Int))=((1+g.i0%2:Nat):Int):=by rw[IntWalk.u8_in _ ⟨by omega,by omega⟩];omega
       have e:a0j false g ks=⟨1+g.i0%2,none,[],0,0⟩:=by simp[a0j,h6,h7,h8,n9,mD,dw,mC]
       rw[e]
       (repeat first|simp only[ww]|(apply xa;simp+decide only[go_sem,c6,c7,c8,c9,e6,cf,u1,fH];rfl;kernel_rfl))
       (apply fqb;simp+decide only[go_sem,cS,hR]<;>rfl)
      ·have cf:¬(240:Int)<g.kind:=by omega
       have e:a0j false g ks=⟨3,some (some 1),[g.i0%ks.length],0,0⟩:=by simp[a0j,h6,h7,h8,n9,mD,dw,mC]
       rw[e]
       (repeat first|simp only[ww]|(apply xa;simp+decide only[go_sem,c6,c7,c8,c9,e6,cf,fH];rfl;kernel_rfl))
       (apply fqb;simp+decide only[go_sem,cS,hR]<;>rfl)
    ·cases hb:x.bus with
     |true=>
      (repeat first|simp only[ww]|(apply xa;simp+decide only[go_sem,hb,pd];rfl;kernel_rfl))
      have wk:IntKind.u8.wrap (((g.kind%13):Nat):Int)=((g.kind%13):Nat):=wB (by omega);have eR:(g.kind%13)<6→IntKind.u8.wrap (5+(((g.kind%13):Nat):Int))=((5+(g.kind%13):Nat):Int):=λh=>by rw[IntWalk.u8_in _ ⟨by omega,by omega⟩];omega
      by_cases h6:(g.kind%13)<6
      ·have c6:(((g.kind%13):Nat):Int)<6:=by omega
       have eR:=eR h6;by_cases ek:128≤g.kind
       ·have da:(128:Int)≤g.kind:=by omega
        have e:a0j true g ks=⟨5+(g.kind%13),some none,[g.i0%ks.length,g.i1%ks.length,g.i2%ks.length],0,0⟩:=by simp[a0j,h6,ek]
        rw[e]
        (repeat first|simp only[ww]|(apply xa;simp+decide only[go_sem,c6,wk,eR,da];rfl;kernel_rfl))
        (apply fqb;simp+decide only[go_sem,cS,hR]<;>rfl)
       ·have da:¬(128:Int)≤g.kind:=by omega
        have e:a0j true g ks=⟨5+(g.kind%13),some (some 2),[g.i0%ks.length,g.i1%ks.length],0,0⟩:=by simp[a0j,h6,ek]
        rw[e]
        (repeat first|simp only[ww]|(apply xa;simp+decide only[go_sem,c6,wk,eR,da];rfl;kernel_rfl))
        (apply fqb;simp+decide only[go_sem,cS,hR]<;>rfl)
      have c6:¬(((g.kind%13):Nat):Int)<6:=by omega
      by_cases h7:(g.kind%13)=6
      ·have c7:(((g.kind%13):Nat):Int)=6:=by omega
       have e:a0j true g ks=⟨4,some (some 1),[g.i0%ks.length],0,0⟩:=by simp[a0j,h7]
       rw[e]
       (repeat first|simp only[ww]|(apply xa;simp+decide only[go_sem,c6,c7];rfl;kernel_rfl))
       (apply fqb;simp+decide only[go_sem,cS,hR]<;>rfl)
      have c7:¬(((g.kind%13):Nat):Int)=6:=by omega
      by_cases h8:(g.kind%13)=7
      ·have c8:(((g.kind%13):Nat):Int)=7:=by omega
       have e:a0j true g ks=⟨11,some (some 3),[g.i0%ks.length,g.i1%ks.length,g.i2%ks.length],0,0⟩:=by simp[a0j,h8]
       rw[e]
       (repeat first|simp only[ww]|(apply xa;simp+decide only[go_sem,c6,c7,c8];rfl;kernel_rfl))
       (apply fqb;simp+decide only[go_sem,cS,hR]<;>rfl)
      have c8:¬(((g.kind%13):Nat):Int)=7:=by omega
      by_cases h9:(g.kind%13)=9
      ·have c9:(((g.kind%13):Nat):Int)=9:=by omega
       have e:a0j true g ks=⟨12,some (some 2),[g.i0%ks.length,g.i1%ks.length],0,0⟩:=by simp[a0j,h9]
       rw[e]
       (repeat first|simp only[ww]|(apply xa;simp+decide only[go_sem,c6,c7,c8,c9];rfl;kernel_rfl))
       (apply fqb;simp+decide only[go_sem,cS,hR]<;>rfl)
      by_cases h10:(g.kind%13)=10
      ·have c9:¬(((g.kind%13):Nat):Int)=9:=by omega
       have e6:(((g.kind%13):Nat):Int)=10:=by omega
       have e:a0j true g ks=⟨12,some (some 2),[g.i0%ks.length,g.i1%ks.length],0,0⟩:=by simp[a0j,h10]
       rw[e]
       (repeat first|simp only[ww]|(apply xa;simp+decide only[go_sem,c6,c7,c8,c9,e6];rfl;kernel_rfl))
       (apply fqb;simp+decide only[go_sem,cS,hR]<;>rfl)
      have c9:¬(((g.kind%13):Nat):Int)=9:=by omega
      have e6:¬(((g.kind%13):Nat):Int)=10:=by omega
      by_cases h11:10<(g.kind%13)
      ·have fH:(10:Int)<(((g.kind%13):Nat):Int):=by omega
       simp only[fK,e9m]at cU;have cp:(0:Int)<((l.length+1:Nat):Int):=by omega
       have nl:¬((l.length+1:Nat):Int)=0:=by omega
       have jl:g.i0%(l.length+1)<l.length+1:=f7h _ (by omega);have hj:([AV.int .i64 (t:Int)]::List.map a0d l)[g.i0%(l.length+1)]?=some [.int .i64 (((t::l).getD (g.i0%(l.length+1)) 0:Nat):Int)]:=c8p t l _ jl;by_cases h1:1<l.length+1
       ·have c1:(1:Int)<((l.length+1:Nat):Int):=by omega
        have kl:(g.i0%(l.length+1)+1)%(l.length+1)<l.length+1:=f7h _ (by omega);have dB:([AV.int .i64 (t:Int)]::List.map a0d l)[(g.i0%(l.length+1)+1)%(l.length+1)]?=some [.int .i64 (((t::l).getD ((g.i0%(l.length+1)+1)%(l.length+1)) 0:Nat):Int)]:=c8p t l _ kl;have wj:=wI1 (n:=g.i0%(l.length+1)) (by omega);have e:a0j true g ks=⟨13,some none,[(t::l).getD (g.i0%(l.length+1)) 0,(t::l).getD ((g.i0%(l.length+1)+1)%(l.length+1)) 0],0,0⟩:=by simp[a0j,h6,h7,h8,h9,h10,h11,fK,h1]
        rw[e]
        (repeat first|simp only[ww]|(apply xa;simp+decide only[go_sem,c6,c7,c8,c9,e6,fH,cp,nl,w0,jl,hj,c1,kl,dB,wj];rfl;kernel_rfl))
        (apply fqb;simp+decide only[go_sem,cS,hR]<;>rfl)
       ·have c1:¬(1:Int)<((l.length+1:Nat):Int):=by omega
        have e:a0j true g ks=⟨13,some (some 1),[(t::l).getD (g.i0%(l.length+1)) 0],0,0⟩:=by simp[a0j,h6,h7,h8,h9,h10,h11,fK,h1]
        rw[e]
        (repeat first|simp only[ww]|(apply xa;simp+decide only[go_sem,c6,c7,c8,c9,e6,fH,cp,nl,w0,jl,hj,c1];rfl;kernel_rfl))
        (apply fqb;simp+decide only[go_sem,cS,hR]<;>rfl)
      ·have fH:¬(10:Int)<(((g.kind%13):Nat):Int):=by omega
       by_cases dw:240<g.kind
       ·have cf:(240:Int)<g.kind:=by omega
        have u1:IntKind.u8.wrap (1+((g.i0%2:Nat):Int))=((1+g.i0%2:Nat):Int):=by rw[IntWalk.u8_in _ ⟨by omega,by omega⟩];omega
        have e:a0j true g ks=⟨1+g.i0%2,none,[],0,0⟩:=by simp[a0j,h6,h7,h8,h9,h10,dw,h11]
        rw[e]
        (repeat first|simp only[ww]|(apply xa;simp+decide only[go_sem,c6,c7,c8,c9,e6,cf,u1,fH];rfl;kernel_rfl))
        (apply fqb;simp+decide only[go_sem,cS,hR]<;>rfl)
       ·have cf:¬(240:Int)<g.kind:=by omega
        have e:a0j true g ks=⟨3,some (some 1),[g.i0%ks.length],0,0⟩:=by simp[a0j,h6,h7,h8,h9,h10,dw,h11]
        rw[e]
        (repeat first|simp only[ww]|(apply xa;simp+decide only[go_sem,c6,c7,c8,c9,e6,cf,fH];rfl;kernel_rfl))
        (apply fqb;simp+decide only[go_sem,cS,hR]<;>rfl)
     |false=>
      (repeat first|simp only[ww]|(apply xa;simp+decide only[go_sem,hb,w9];rfl;kernel_rfl))
      have wk:IntKind.u8.wrap (((g.kind%9):Nat):Int)=((g.kind%9):Nat):=wB (by omega);have eR:(g.kind%9)<6→IntKind.u8.wrap (5+(((g.kind%9):Nat):Int))=((5+(g.kind%9):Nat):Int):=λh=>by rw[IntWalk.u8_in _ ⟨by omega,by omega⟩];omega
      by_cases h6:(g.kind%9)<6
      ·have c6:(((g.kind%9):Nat):Int)<6:=by omega
       have eR:=eR h6;by_cases ek:128≤g.kind
       ·have da:(128:Int)≤g.kind:=by omega
        have e:a0j false g ks=⟨5+(g.kind%9),some none,[g.i0%ks.length,g.i1%ks.length,g.i2%ks.length],0,0⟩:=by simp[a0j,h6,ek]
        rw[e]
        (repeat first|simp only[ww]|(apply xa;simp+decide only[go_sem,c6,wk,eR,da];rfl;kernel_rfl))
        (apply fqb;simp+decide only[go_sem,cS,hR]<;>rfl)
       ·have da:¬(128:Int)≤g.kind:=by omega
        have e:a0j false g ks=⟨5+(g.kind%9),some (some 2),[g.i0%ks.length,g.i1%ks.length],0,0⟩:=by simp[a0j,h6,ek]
        rw[e]
        (repeat first|simp only[ww]|(apply xa;simp+decide only[go_sem,c6,wk,eR,da];rfl;kernel_rfl))
        (apply fqb;simp+decide only[go_sem,cS,hR]<;>rfl)
      have c6:¬(((g.kind%9):Nat):Int)<6:=by omega
      by_cases h7:(g.kind%9)=6
      ·have c7:(((g.kind%9):Nat):Int)=6:=by omega
       have e:a0j false g ks=⟨4,some (some 1),[g.i0%ks.length],0,0⟩:=by simp[a0j,h7]
       rw[e]
       (repeat first|simp only[ww]|(apply xa;simp+decide only[go_sem,c6,c7];rfl;kernel_rfl))
       (apply fqb;simp+decide only[go_sem,cS,hR]<;>rfl)
      have c7:¬(((g.kind%9):Nat):Int)=6:=by omega
      by_cases h8:(g.kind%9)=7
      ·have c8:(((g.kind%9):Nat):Int)=7:=by omega
       have e:a0j false g ks=⟨11,some (some 3),[g.i0%ks.length,g.i1%ks.length,g.i2%ks.length],0,0⟩:=by simp[a0j,h8]
       rw[e]
       (repeat first|simp only[ww]|(apply xa;simp+decide only[go_sem,c6,c7,c8];rfl;kernel_rfl))
       (apply fqb;simp+decide only[go_sem,cS,hR]<;>rfl)
      have c8:¬(((g.kind%9):Nat):Int)=7:=by omega
      have c9:¬(((g.kind%9):Nat):Int)=9:=by omega
      have e6:¬(((g.kind%9):Nat):Int)=10:=by omega
      have n9:¬(g.kind%9)=9:=by omega
      have mD:¬(g.kind%9)=10:=by omega
      have fH:¬(10:Int)<(((g.kind%9):Nat):Int):=by omega
      have mC:¬10<(g.kind%9):=by omega
      by_cases dw:240<g.kind
      ·have cf:(240:Int)<g.kind:=by omega
       have u1:IntKind.u8.wrap (1+((g.i0%2:Nat):Int))=((1+g.i0%2:Nat):Int):=by rw[IntWalk.u8_in _ ⟨by omega,by omega⟩];omega
       have e:a0j false g ks=⟨1+g.i0%2,none,[],0,0⟩:=by simp[a0j,h6,h7,h8,n9,mD,dw,mC]
       rw[e]
       (repeat first|simp only[ww]|(apply xa;simp+decide only[go_sem,c6,c7,c8,c9,e6,cf,u1,fH];rfl;kernel_rfl))
       (apply fqb;simp+decide only[go_sem,cS,hR]<;>rfl)
      ·have cf:¬(240:Int)<g.kind:=by omega
       have e:a0j false g ks=⟨3,some (some 1),[g.i0%ks.length],0,0⟩:=by simp[a0j,h6,h7,h8,n9,mD,dw,mC]
       rw[e]
       (repeat first|simp only[ww]|(apply xa;simp+decide only[go_sem,c6,c7,c8,c9,e6,cf,fH];rfl;kernel_rfl))
       (apply fqb;simp+decide only[go_sem,cS,hR]<;>rfl)
theorem d5e(x:CX)(g:GX)(hg:g.ok)(R:List (List AV))(ks:List Nat)(cap:Option Nat)(hk:KindRows R ks)(h0:0<ks.length)(hl:ks.length<1000)(hR:R.flatMap a08=[])(hI:FixR 1 R) :
 sem L.env Mf 76 [.agg x.enc,.agg g.enc,.slice 0 0 ks.length cap] [some (.row 4 R)]=some (.agg (a0j x.bus g ks).enc,[some (.row 4 R)]):=b8b 1 2 3 4 _ _ (.inl ⟨rfl,rfl,rfl,rfl,rfl,rfl⟩) x g hg R ks cap hk h0 hl hR hI
theorem d5d(x:CX)(g:GX)(hg:g.ok)(R:List (List AV))(ks:List Nat)(cap:Option Nat)(hk:KindRows R ks)(h0:0<ks.length)(hl:ks.length<1000)(hR:R.flatMap a08=[1])(hI:FixR 2 R) :
 sem L.env Mf 76 [.agg x.enc,.agg g.enc,.slice 0 0 ks.length cap] [some (.row 4 R),some (.row 1 [[.int .i64 0]])]=some (.agg (a0j x.bus g ks).enc,[some (.row 4 R),some (.row 1 [[.int .i64 0]])]):=b8b 2 3 4 5 _ _ (.inr (.inl ⟨rfl,rfl,rfl,rfl,rfl,rfl⟩)) x g hg R ks cap hk h0 hl hR hI
theorem d5c(x:CX)(g:GX)(hg:g.ok)(R:List (List AV))(ks:List Nat)(cap:Option Nat)(hk:KindRows R ks)(h0:0<ks.length)(hl:ks.length<1000)(hR:R.flatMap a08=[1,2])(hI:FixR 3 R) :
 sem L.env Mf 76 [.agg x.enc,.agg g.enc,.slice 0 0 ks.length cap] [some (.row 4 R),some (.row 1 [[.int .i64 0]]),some (.row 1 [[.int .i64 0]])]=some (.agg (a0j x.bus g ks).enc,[some (.row 4 R),some (.row 1 [[.int .i64 0]]),some (.row 1 [[.int .i64 0]])]):=b8b 3 4 5 6 _ _ (.inr (.inr ⟨rfl,rfl,rfl,rfl,rfl,rfl⟩)) x g hg R ks cap hk h0 hl hR hI
theorem c6l{d:Bool}(x:CX)(g:GX)(hg:g.ok)(gs:List Nd)(k n:Nat)(hk:0<k)(hn:n=k+0+gs.length)(hl:n<1000)(X0 X1 X2:Option AObj) :
 a09 L.env d (sem L.env Mf) (.func (.func 76) [] []) [.agg x.enc,.agg g.enc,.slice 3 0 n none] [X0,X1,X2,some (.row 4 (List.replicate k a5x++[]++gs.map Nd.enc))]=some (.agg (a0j x.bus g (List.replicate k 0++List.replicate 0 14++gs.map Nd.kind)).enc,[X0,X1,X2,some (.row 4 (List.replicate k a5x++[]++gs.map Nd.enc))],[3]):=by
 have np:KindRows (List.replicate k a5x++[]++gs.map Nd.enc) (List.replicate k 0++List.replicate 0 14++gs.map Nd.kind):=(((KindRows.rep k 0 _ _ _).append KindRows.nil).append (KindRows.nds gs))
 have ai:(List.replicate k 0++List.replicate 0 14++gs.map Nd.kind).length=n:=by simp;omega
 have hr:=d5e x g hg (List.replicate k a5x++[]++gs.map Nd.enc) (List.replicate k 0++List.replicate 0 14++gs.map Nd.kind) none np (by rw[ai];omega) (by rw[ai];exact hl) (by simp+decide only[go_sem,a0h]) ?_
 ·rw[ai]at hr;have hc:=a12 (sem L.env Mf 76) [.agg x.enc,.agg g.enc,.slice 3 0 n none] [X0,X1,X2,some (.row 4 (List.replicate k a5x++[]++gs.map Nd.enc))] (σ:=[3]) (by simp+decide only[go_sem,a0h]) (by decide) (by simp+decide only[go_sem]) (ap:=[.agg x.enc,.agg g.enc,.slice 0 0 n none]) (by simp+decide only[go_sem]) (H0:=[some (.row 4 (List.replicate k a5x++[]++gs.map Nd.enc))]) (by simp+decide only[go_sem,a0h,a14]) hr;refine a7g (by kernel_rfl) (by kernel_rfl) rfl (hc.trans ?_) rfl;simp+decide only[go_sem,a0h,a14]<;>rfl
 ·refine FixR.append (FixR.append (FixR.flat (FlatR.replicate rfl)) ?_) (FixR.flat (c4p gs));intro π hπ;simp+decide only[go_sem]
theorem c6k{d:Bool}(x:CX)(g:GX)(hg:g.ok)(gs:List Nd)(k n:Nat)(hk:0<k)(hn:n=k+1+gs.length)(hl:n<1000)(X0 X1 X2:Option AObj) :
 a09 L.env d (sem L.env Mf) (.func (.func 76) [] []) [.agg x.enc,.agg g.enc,.slice 3 0 n none] [X0,X1,X2,some (.row 4 (List.replicate k a5x++[dR 4]++gs.map Nd.enc)),one 0]=some (.agg (a0j x.bus g (List.replicate k 0++List.replicate 1 14++gs.map Nd.kind)).enc,[X0,X1,X2,some (.row 4 (List.replicate k a5x++[dR 4]++gs.map Nd.enc)),one 0],[3,4]):=by
 have np:KindRows (List.replicate k a5x++[dR 1]++gs.map Nd.enc) (List.replicate k 0++List.replicate 1 14++gs.map Nd.kind):=(((KindRows.rep k 0 _ _ _).append (KindRows.nil).cons).append (KindRows.nds gs))
 have ai:(List.replicate k 0++List.replicate 1 14++gs.map Nd.kind).length=n:=by simp;omega
 have hr:=d5d x g hg (List.replicate k a5x++[dR 1]++gs.map Nd.enc) (List.replicate k 0++List.replicate 1 14++gs.map Nd.kind) none np (by rw[ai];omega) (by rw[ai];exact hl) (by simp+decide only[go_sem,a0h]) ?_
 ·rw[ai]at hr;have hc:=a12 (sem L.env Mf 76) [.agg x.enc,.agg g.enc,.slice 3 0 n none] [X0,X1,X2,some (.row 4 (List.replicate k a5x++[dR 4]++gs.map Nd.enc)),one 0] (σ:=[3,4]) (by simp+decide only[go_sem,a0h]) (by decide) (by simp+decide only[go_sem]) (ap:=[.agg x.enc,.agg g.enc,.slice 0 0 n none]) (by simp+decide only[go_sem]) (H0:=[some (.row 4 (List.replicate k a5x++[dR 1]++gs.map Nd.enc)),one 0]) (by simp+decide only[go_sem,a0h,a14]) hr;refine a7g (by kernel_rfl) (by kernel_rfl) rfl (hc.trans ?_) rfl;simp+decide only[go_sem,a0h,a14]<;>rfl
 ·refine FixR.append (FixR.append (FixR.flat (FlatR.replicate rfl)) ?_) (FixR.flat (c4p gs));intro π hπ;simp+decide only[go_sem,hπ 1 (by omega)]
theorem c6j{d:Bool}(x:CX)(g:GX)(hg:g.ok)(gs:List Nd)(k n:Nat)(hk:0<k)(hn:n=k+2+gs.length)(hl:n<1000)(X0 X1 X2:Option AObj) :
 a09 L.env d (sem L.env Mf) (.func (.func 76) [] []) [.agg x.enc,.agg g.enc,.slice 3 0 n none] [X0,X1,X2,some (.row 4 (List.replicate k a5x++[dR 4,dR 5]++gs.map Nd.enc)),one 0,one 0]=some (.agg (a0j x.bus g (List.replicate k 0++List.replicate 2 14++gs.map Nd.kind)).enc,[X0,X1,X2,some (.row 4 (List.replicate k a5x++[dR 4,dR 5]++gs.map Nd.enc)),one 0,one 0],[3,4,5]):=by
 have np:KindRows (List.replicate k a5x++[dR 1,dR 2]++gs.map Nd.enc) (List.replicate k 0++List.replicate 2 14++gs.map Nd.kind):=(((KindRows.rep k 0 _ _ _).append ((KindRows.nil).cons).cons).append (KindRows.nds gs))
 have ai:(List.replicate k 0++List.replicate 2 14++gs.map Nd.kind).length=n:=by simp;omega
 have hr:=d5c x g hg (List.replicate k a5x++[dR 1,dR 2]++gs.map Nd.enc) (List.replicate k 0++List.replicate 2 14++gs.map Nd.kind) none np (by rw[ai];omega) (by rw[ai];exact hl) (by simp+decide only[go_sem,a0h]) ?_
 ·rw[ai]at hr;have hc:=a12 (sem L.env Mf 76) [.agg x.enc,.agg g.enc,.slice 3 0 n none] [X0,X1,X2,some (.row 4 (List.replicate k a5x++[dR 4,dR 5]++gs.map Nd.enc)),one 0,one 0] (σ:=[3,4,5]) (by simp+decide only[go_sem,a0h]) (by decide) (by simp+decide only[go_sem]) (ap:=[.agg x.enc,.agg g.enc,.slice 0 0 n none]) (by simp+decide only[go_sem]) (H0:=[some (.row 4 (List.replicate k a5x++[dR 1,dR 2]++gs.map Nd.enc)),one 0,one 0]) (by simp+decide only[go_sem,a0h,a14]) hr;refine a7g (by kernel_rfl) (by kernel_rfl) rfl (hc.trans ?_) rfl;simp+decide only[go_sem,a0h,a14]<;>rfl
 ·refine FixR.append (FixR.append (FixR.flat (FlatR.replicate rfl)) ?_) (FixR.flat (c4p gs));intro π hπ;simp+decide only[go_sem,hπ 1 (by omega),hπ 2 (by omega)]
theorem e4r(x:CX)(hx:x.ok)(hm:x.mem=false)(hd:x.d=0) :
 sem L.env Mf 31 [.agg x.enc] []=some (.agg x.cir.enc,[]):=by
 obtain⟨x1,x2,x3,x4,x5,x6⟩:=hx;have rR:x.inn%4+1=x.k:=rfl;have lz:x.dffs%3=0:=hd;have kk:x.k≤4:=by unfold CX.k;omega
 have kp:0<x.k:=by unfold CX.k;omega
 have gl:x.gs.length≤8:=by unfold CX.gs;rw[f3f];omega
 have w4:=wI (n:=x.inn%4) (by omega);have w3:=wI (n:=x.dffs%3) (by omega);obtain⟨k',gP⟩:∃k',x.k=k'+1:=⟨x.k-1,by omega⟩
 (refine sv Tryz.f31 ?_;simp only[Tryz.f31,gS])
 (repeat first|simp only[ww]|(apply xa;simp+decide only[go_sem];rfl;kernel_rfl))
 -- the inputs
 refine a2q (σ:=Nat) kp31_0 (λi=>[(1,.ptr 0 0 0),(2,.ptr 1 0 0),(3,.ptr 2 0 0),(4,.int .i64 i)])
  (λi=>[xh x,rh,some (.row 4 [[nV i,.nilslice,.nilslice,.nilslice]])]++nH i) (λi=>x.k-i) (λi=>i≤x.k) 0 ?_ (f0h _) ?_ ?_
 ·(simp+decide only[go_sem,a03,a00,nV0,nH0]<;>rfl)
 ·intro i _;cases i with
  |zero=>((simp+decide only[go_sem,a03,a00,nV0,nH0]<;>rfl))
  |succ i=>((simp+decide only[go_sem,a03,a00,nVs,nHs]<;>rfl))
 ·intro i hi;by_cases ag:i<x.k
  ·have c1:(i:Int)≤((x.inn%4:Nat):Int):=by omega
   have hw:=wI1 (n:=i) (by omega);cases i with
   |zero=>
    (repeat first|simp only[ww]|(apply xa;simp+decide only[go_sem,w4,c1,hw,nV0,nH0];rfl;kernel_rfl))
    refine a4g 1 ?_ (by omega) (by omega)
    ((simp+decide only[go_sem,a03,a00,nVs,nHs]<;>rfl))
   |succ i=>
    have aO:i+1+1≤1000000000:=by omega
    (repeat first|simp only[ww]|(apply xa;simp+decide only[go_sem,w4,c1,hw,nVs,nHs,aO,a5d];rfl;kernel_rfl))
    refine a4g (i+1+1) ?_ (by omega) (by omega)
    ((simp+decide only[go_sem,a03,a00,nVs,nHs,a5d]<;>rfl))
  have gh:i=x.k:=by omega
  subst gh;have c1:¬((x.k:Nat):Int)≤((x.inn%4:Nat):Int):=by omega
  have mA:nV x.k = .slice 3 0 x.k none:=by rw[gP];rfl
  have mB:nH x.k=[some (.row 4 (List.replicate x.k a5x))]:=by rw[gP];rfl
  rw[mA,mB]
  (repeat first|simp only[ww]|(apply xa;simp+decide only[go_sem,w4,w3,c1,lz];rfl;kernel_rfl))
  -- the flip-flops
  refine a2q (σ:=Nat) kp31_2 (λi=>[(1,.ptr 0 0 0),(2,.ptr 1 0 0),(3,.ptr 2 0 0),(5,.int .i64 x.k),(6,.int .i64 0),(7,.int .i64 i)])
   (λi=>match i with|_=>[xh x,rh,some (.row 4 [[.slice 3 0 (x.k+0) none,.nilslice,.nilslice,.nilslice]]),some (.row 4 (List.replicate x.k a5x++[]))]++[]) (λi=>0-i) (λi=>i≤0) 0 ?_ (f0h _) ?_ ?_
  ·(simp+decide only[go_sem,a03,a00]<;>rfl)
  ·intro i hi;obtain rfl:i=0:=by omega
   ((simp+decide only[go_sem,a03,a00]<;>rfl))
  ·intro i hi;obtain rfl:i=0:=by omega
   (repeat first|simp only[ww]|(apply xa;simp+decide only[go_sem,hm];rfl;kernel_rfl))
   -- the gates
   refine a2q (σ:=Nat) kp31_4 (λi=>[(1,.ptr 0 0 0),(2,.ptr 1 0 0),(3,.ptr 2 0 0),(5,.int .i64 x.k),(6,.int .i64 0),(8,.int .i64 i)])
    (λi=>[xh x,rh,some (.row 4 [[.slice 3 0 (x.k+0+i) none,.nilslice,.nilslice,.nilslice]]),some (.row 4 (List.replicate x.k a5x++[]++(gN x.bus x.base (x.gates.take i)).map Nd.enc))]++[]) (λi=>x.gs.length-i) (λi=>i≤x.gs.length) 0 ?_ (f0h _) ?_ ?_
   ·(simp+decide only[go_sem,a03,a00,hm,f2q,d0z,e9o]<;>rfl)
   ·intro i _
    (simp+decide only[go_sem,a03,a00,hm,a0h,a14,e9o]<;>rfl)
   ·intro i hi;have iP:x.gs.length=min 8 x.gates.length:=by unfold CX.gs;rw[f3f]
    by_cases ag:i<x.gs.length
    ·obtain⟨g,hg⟩:∃g,x.gates[i]?=some g:=⟨_,z9e (by omega)⟩
     have c1:(i:Int)<x.gates.length:=by omega
     have gG:i<x.gates.length:=by omega
     have c2:(i:Int)<8:=by omega
     have hw:=wI1 (n:=i) (by omega);have iO:g.ok:=x5 g (c10 hg);have gw:(gN x.bus x.base (x.gates.take i)).length=i:=by rw[a55,f3f];omega
     have hs:=b8c x.bus g (x.gates.take i) x.base;rw[←a1d hg]at hs;have ae:=c6l (d:=true) x g iO (gN x.bus x.base (x.gates.take i)) x.k (x.k+0+i) kp (by rw[gw]) (by omega) (xh x) rh (some (.row 4 [[.slice 3 0 (x.k+0+i) none,.nilslice,.nilslice,.nilslice]]));rw[show List.replicate x.k 0++List.replicate 0 14++(gN x.bus x.base (x.gates.take i)).map Nd.kind=x.base++(gN x.bus x.base (x.gates.take i)).map Nd.kind by unfold CX.base;rw[hd]]at ae;generalize a0j x.bus g (x.base++(gN x.bus x.base (x.gates.take i)).map Nd.kind)=nd at ae hs;simp+decide only[go_sem,hm,e9o]at ae;have aO:x.k+i+1≤1000000000:=by omega
     have ai:decide (x.k+i=x.k+(i))=true:=f2x (by omega)
     (repeat first|simp only[ww]|(apply xa;simp+decide only[go_sem,hm,c1,gG,c2,hw,hg,ae,aO,ai,e9o,gw];rfl;kernel_rfl))
     refine a4g (i+1) ?_ (by omega) (by omega);rw[hs]
     (simp+decide only[go_sem,a03,a00,hm,a0h,a14,e9o]<;>rfl)
    have eh:i=x.gs.length:=by omega
    subst eh;rw[x.gs_take];have gw:(gN x.bus x.base x.gs).length=x.gs.length:=a55 _ _ _;have dU:x.n=x.k+0+x.gs.length:=by unfold CX.n;rw[hd]
    rw[←dU];generalize hG:gN x.bus x.base x.gs=gg at gw;have rH:0<x.n:=by omega
    have ef:x.n≤14:=by omega
    have bY:¬(x.n:Int)=0:=by omega
    have jV:¬((x.gs.length:Int)<x.gates.length∧(x.gs.length:Int)<8):=by omega
    -- the guard of the loop's end is decided in either case
    have bD:∀F,F=[(1,AV.ptr 0 0 0),(2,.ptr 1 0 0),(3,.ptr 2 0 0),(5,.int .i64 x.k),(6,.int .i64 0),(8,.int .i64 x.gs.length)]→True:=λ_ _=>trivial;rcases f4i x.gs.length x.gates.length with g1|g1
    all_goals first
    |(have c1:(x.gs.length:Int)<x.gates.length:=(by omega);have c2:¬(x.gs.length:Int)<8:=(by omega);(repeat first|simp only[ww]|(apply xa;simp+decide only[go_sem,c1,c2,hm];rfl;kernel_rfl)))
    |(have c1:¬(x.gs.length:Int)<x.gates.length:=(by omega);(repeat first|simp only[ww]|(apply xa;simp+decide only[go_sem,c1,hm];rfl;kernel_rfl)))
    all_goals
     -- the flip-flops' data
     refine a2q (σ:=Nat) kp31_6 (λi=>[(1,.ptr 0 0 0),(2,.ptr 1 0 0),(3,.ptr 2 0 0),(5,.int .i64 x.k),(6,.int .i64 0),(9,.int .i64 x.n),(10,.int .i64 i)])
      (λi=>match i with|_=>[xh x,rh,some (.row 4 [[.slice 3 0 x.n none,.nilslice,.nilslice,.nilslice]]),some (.row 4 (List.replicate x.k a5x++[]++gg.map Nd.enc))]++[]) (λi=>0-i) (λi=>i≤0) 0 ?_ (f0h _) ?_ ?_
     ·(simp+decide only[go_sem,a03,a00,hm,a0h,a14,e9o]<;>rfl)
     ·intro i hi;obtain rfl:i=0:=by omega
      (simp+decide only[go_sem,a03,a00,hm,a0h,a14,e9o]<;>rfl)
     ·intro i hi;obtain rfl:i=0:=by omega
      (repeat first|simp only[ww]|(apply xa;simp+decide only[go_sem,hm];rfl;kernel_rfl))
      -- the names
      refine a2q (σ:=Nat) kp31_8 (λi=>[(1,.ptr 0 0 0),(2,.ptr 1 0 0),(3,.ptr 2 0 0),(9,.int .i64 x.n),(11,.int .i64 i)])
       (λi=>[xh x,rh,some (.row 4 [[.slice 3 0 x.n none,slN 4 i,.nilslice,.nilslice]]),some (.row 4 (List.replicate x.k a5x++[]++gg.map Nd.enc))]++[]++nmH i) (λi=>x.n-i) (λi=>i≤x.n) 0 ?_ (f0h _) ?_ ?_
      ·(simp+decide only[go_sem,a03,a00,hm,b4y,d43,a0h,a14,e9o]<;>rfl)
      ·intro i _;cases i with
       |zero=>(simp+decide only[go_sem,a03,a00,hm,b4y,d43,a0h,a14,e9o]<;>rfl)
       |succ i=>(simp+decide only[go_sem,a03,a00,hm,a9d,c7n,a0h,a14,a2c,a3p,e9o]<;>rfl)
      ·intro i hi;by_cases ag:i<x.n
       ·have c1:(i:Int)<x.n:=by omega
        have hw:=wI1 (n:=i) (by omega);have ae:=λH=>b39 (d:=true) H i (by omega);have aO:i+1≤1000000000:=by omega
        cases i with
        |zero=>
         (repeat first|simp only[ww]|(apply xa;simp+decide only[go_sem,hm,c1,hw,ae,b4y,d43];rfl;kernel_rfl))
         refine a4g 1 ?_ (by omega) (by omega)
         (simp+decide only[go_sem,a03,a00,hm,a9d,c7n,a0h,a14,nm1,e9o]<;>rfl)
        |succ i=>
         have aO:i+1+1≤1000000000:=by omega
         (repeat first|simp only[ww]|(apply xa;simp+decide only[go_sem,hm,c1,hw,ae,a9d,c7n,aO,f3b];rfl;kernel_rfl))
         refine a4g (i+1+1) ?_ (by omega) (by omega)
         (simp+decide only[go_sem,a03,a00,hm,a9d,c7n,a0h,a14,a2c,a3p,c2a,e9o]<;>rfl)
       have eh:i=x.n:=by omega
       subst eh;have c1:¬(x.n:Int)<x.n:=by omega
       obtain⟨n',gu⟩:∃n',x.n=n'+1:=⟨x.n-1,by omega⟩
       have e1:slN 4 x.n = .slice 4 0 x.n none:=by rw[gu];rfl
       have e2:nmH x.n=[some (.row 1 ((List.range x.n).map nmR))]:=by rw[gu];rfl
       rw[e1,e2]
       (repeat first|simp only[ww]|(apply xa;simp+decide only[go_sem,hm,c1];rfl;kernel_rfl))
       -- the outputs
       refine a2q (σ:=Nat) kp31_10 (λi=>[(1,.ptr 0 0 0),(2,.ptr 1 0 0),(3,.ptr 2 0 0),(9,.int .i64 x.n),(12,.int .i64 i)])
        (λi=>[xh x,rh,some (.row 4 [[.slice 3 0 x.n none,.slice 4 0 x.n none,.nilslice,slN 5 i]]),some (.row 4 (List.replicate x.k a5x++[]++gg.map Nd.enc))]++[]++[some (.row 1 ((List.range x.n).map nmR))]++otH x i) (λi=>3-i) (λi=>i≤3∧i≤x.outs.length) 0 ?_ ⟨by omega,by omega⟩ ?_ ?_
       ·(simp+decide only[go_sem,a03,a00,hm,b4y,c7m,a0h,a14,a2c,a3p,e9o]<;>rfl)
       ·intro i _;cases i with
        |zero=>(simp+decide only[go_sem,a03,a00,hm,b4y,c7m,a0h,a14,a2c,a3p,e9o]<;>rfl)
        |succ i=>(simp+decide only[go_sem,a03,a00,hm,a9d,b95,a0h,a14,a2c,a3p,b0z,b5r,e9o]<;>rfl)
       ·intro i hi;by_cases ag:i<3∧i<x.outs.length
        ·obtain⟨o,ho⟩:∃o,x.outs[i]?=some o:=⟨_,z9e ag.2⟩
         have dS:=x6 o (c10 ho);have wo:=wI (n:=o) (by omega);have c1:(i:Int)<x.outs.length:=by omega
         have gG:i<x.outs.length:=by omega
         have c2:(i:Int)<3:=by omega
         have hw:=wI1 (n:=i) (by omega);have ht:=a1d ho;have cU:(x.outs.take i).length=i:=by rw[f3f];omega
         cases i with
         |zero=>
          (repeat first|simp only[ww]|(apply xa;simp+decide only[go_sem,hm,c1,gG,c2,hw,ho,wo,bY,b4y,c7m];rfl;kernel_rfl))
          refine a4g 1 ?_ (by omega) ⟨by omega,by omega⟩
          (simp+decide only[go_sem,a03,a00,hm,a9d,b95,a0h,a14,a2c,a3p,ht,f2q,e9o]<;>rfl)
         |succ i=>
          have aO:i+1+1≤1000000000:=by omega
          (repeat first|simp only[ww]|(apply xa;simp+decide only[go_sem,hm,c1,gG,c2,hw,ho,wo,bY,a9d,b95,aO,cU];rfl;kernel_rfl))
          refine a4g (i+1+1) ?_ (by omega) ⟨by omega,by omega⟩
          (simp+decide only[go_sem,a03,a00,hm,a9d,b95,a0h,a14,a2c,a3p,b0z,b5r,ht,e9o]<;>rfl)
        have nu:x.outs.take i=x.outs.take 3:=by
         by_cases h3:i=3
         ·rw[h3]
         ·rw[f0f (by omega),f0f (by omega)]
        have cW:(x.outs.take i).length=i:=by rw[f3f];omega
        have il:IntKind.i64.wrap ((x.n:Int)-1)=((x.n-1:Nat):Int):=by rw[w64 (by omega) (by omega)];omega
        have ez:x.cir=⟨some none,List.replicate x.k c2q++[]++gg,some none,(List.range x.n).map a3t,some none,(x.outs.take i).map (·% x.n)++[x.n-1]⟩:=by rw[nu,←hG];simp[CX.cir,CX.nodes,CX.dn,CX.names,CX.outN,hd]
        rw[ez];have fx:x.n≤x.k+gg.length:=by omega
        have dX:x.k+gg.length≤x.n:=by omega
        cases i with
        |zero=>
         have c1:¬((0:Nat):Int)<x.outs.length:=by omega
         (repeat first|simp only[ww]|(apply xa;simp+decide only[go_sem,hm,c1,b4y,c7m,il,cW];rfl;kernel_rfl))
         (apply fqb;simp+decide only[go_sem,hm,b0w,b6o,b6n,b6m,a4s,List.map_map,cW,c2q,a99,b65,Cir.enc,a8d,fx,dX,f3b,f1u,b63,f2q]<;>rfl)
        |succ i=>
         have aO:i+1+1≤1000000000:=by omega
         rcases f4i (i+1) x.outs.length with g1|g1
         all_goals first
         |(have c1:((i+1:Nat):Int)<x.outs.length:=(by omega);have c2:¬((i+1:Nat):Int)<3:=(by omega);(repeat first|simp only[ww]|(apply xa;simp+decide only[go_sem,hm,c1,c2,a9d,b95,aO,il,cW];rfl;kernel_rfl)))
         |(have c1:¬((i+1:Nat):Int)<x.outs.length:=(by omega);(repeat first|simp only[ww]|(apply xa;simp+decide only[go_sem,hm,c1,a9d,b95,aO,il,cW];rfl;kernel_rfl)))
         all_goals (apply fqb;simp+decide only[go_sem,hm,b0w,b6o,b6n,b6m,a4s,List.map_map,cW,c2q,a99,b65,Cir.enc,a8d,fx,dX,f3b,f1u,b63]<;>rfl)
theorem e4q(x:CX)(hx:x.ok)(hm:x.mem=false)(hd:x.d=1) :
 sem L.env Mf 31 [.agg x.enc] []=some (.agg x.cir.enc,[]):=by
 obtain⟨x1,x2,x3,x4,x5,x6⟩:=hx;have rR:x.inn%4+1=x.k:=rfl;have lz:x.dffs%3=1:=hd;have kk:x.k≤4:=by unfold CX.k;omega
 have kp:0<x.k:=by unfold CX.k;omega
 have gl:x.gs.length≤8:=by unfold CX.gs;rw[f3f];omega
 have w4:=wI (n:=x.inn%4) (by omega);have w3:=wI (n:=x.dffs%3) (by omega);obtain⟨k',gP⟩:∃k',x.k=k'+1:=⟨x.k-1,by omega⟩
 (refine sv Tryz.f31 ?_;simp only[Tryz.f31,gS])
 (repeat first|simp only[ww]|(apply xa;simp+decide only[go_sem];rfl;kernel_rfl))
 -- the inputs
 refine a2q (σ:=Nat) kp31_0 (λi=>[(1,.ptr 0 0 0),(2,.ptr 1 0 0),(3,.ptr 2 0 0),(4,.int .i64 i)])
  (λi=>[xh x,rh,some (.row 4 [[nV i,.nilslice,.nilslice,.nilslice]])]++nH i) (λi=>x.k-i) (λi=>i≤x.k) 0 ?_ (f0h _) ?_ ?_
 ·(simp+decide only[go_sem,a03,a00,nV0,nH0]<;>rfl)
 ·intro i _;cases i with
  |zero=>((simp+decide only[go_sem,a03,a00,nV0,nH0]<;>rfl))
  |succ i=>((simp+decide only[go_sem,a03,a00,nVs,nHs]<;>rfl))
 ·intro i hi;by_cases ag:i<x.k
  ·have c1:(i:Int)≤((x.inn%4:Nat):Int):=by omega
   have hw:=wI1 (n:=i) (by omega);cases i with
   |zero=>
    (repeat first|simp only[ww]|(apply xa;simp+decide only[go_sem,w4,c1,hw,nV0,nH0];rfl;kernel_rfl))
    refine a4g 1 ?_ (by omega) (by omega)
    ((simp+decide only[go_sem,a03,a00,nVs,nHs]<;>rfl))
   |succ i=>
    have aO:i+1+1≤1000000000:=by omega
    (repeat first|simp only[ww]|(apply xa;simp+decide only[go_sem,w4,c1,hw,nVs,nHs,aO,a5d];rfl;kernel_rfl))
    refine a4g (i+1+1) ?_ (by omega) (by omega)
    ((simp+decide only[go_sem,a03,a00,nVs,nHs,a5d]<;>rfl))
  have gh:i=x.k:=by omega
  subst gh;have c1:¬((x.k:Nat):Int)≤((x.inn%4:Nat):Int):=by omega
  have mA:nV x.k = .slice 3 0 x.k none:=by rw[gP];rfl
  have mB:nH x.k=[some (.row 4 (List.replicate x.k a5x))]:=by rw[gP];rfl
  rw[mA,mB]
  (repeat first|simp only[ww]|(apply xa;simp+decide only[go_sem,w4,w3,c1,lz];rfl;kernel_rfl))
  -- the flip-flops
  refine a2q (σ:=Nat) kp31_2 (λi=>[(1,.ptr 0 0 0),(2,.ptr 1 0 0),(3,.ptr 2 0 0),(5,.int .i64 x.k),(6,.int .i64 1),(7,.int .i64 i)])
   (λi=>match i with|0=>[xh x,rh,some (.row 4 [[.slice 3 0 (x.k+0) none,.nilslice,.nilslice,.nilslice]]),some (.row 4 (List.replicate x.k a5x++[]))]++[]|_=>[xh x,rh,some (.row 4 [[.slice 3 0 (x.k+1) none,.nilslice,.nilslice,.nilslice]]),some (.row 4 (List.replicate x.k a5x++[dR 4]))]++[one 0]) (λi=>1-i) (λi=>i≤1) 0 ?_ (f0h _) ?_ ?_
  ·(simp+decide only[go_sem,a03,a00]<;>rfl)
  ·intro i hi;by_cases dN:i=0
   ·subst dN
    ((simp+decide only[go_sem,a03,a00]<;>rfl))
   obtain rfl:i=1:=by omega
   ((simp+decide only[go_sem,a03,a00]<;>rfl))
  ·intro i hi;by_cases dN:i=0
   ·subst dN;have aO:x.k+0+1≤1000000000:=by omega
    have hw:=wI1 (n:=0) (by omega)
    (repeat first|simp only[ww]|(apply xa;simp+decide only[go_sem,aO,a5d,hw];rfl;kernel_rfl))
    refine a4g 1 ?_ (by omega) (by omega)
    ((simp+decide only[go_sem,a03,a00,e9o]<;>rfl))
   obtain rfl:i=1:=by omega
   (repeat first|simp only[ww]|(apply xa;simp+decide only[go_sem,hm];rfl;kernel_rfl))
   -- the gates
   refine a2q (σ:=Nat) kp31_4 (λi=>[(1,.ptr 0 0 0),(2,.ptr 1 0 0),(3,.ptr 2 0 0),(5,.int .i64 x.k),(6,.int .i64 1),(8,.int .i64 i)])
    (λi=>[xh x,rh,some (.row 4 [[.slice 3 0 (x.k+1+i) none,.nilslice,.nilslice,.nilslice]]),some (.row 4 (List.replicate x.k a5x++[dR 4]++(gN x.bus x.base (x.gates.take i)).map Nd.enc))]++[one 0]) (λi=>x.gs.length-i) (λi=>i≤x.gs.length) 0 ?_ (f0h _) ?_ ?_
   ·(simp+decide only[go_sem,a03,a00,hm,f2q,d0z,e9o]<;>rfl)
   ·intro i _
    (simp+decide only[go_sem,a03,a00,hm,a0h,a14,e9o]<;>rfl)
   ·intro i hi;have iP:x.gs.length=min 8 x.gates.length:=by unfold CX.gs;rw[f3f]
    by_cases ag:i<x.gs.length
    ·obtain⟨g,hg⟩:∃g,x.gates[i]?=some g:=⟨_,z9e (by omega)⟩
     have c1:(i:Int)<x.gates.length:=by omega
     have gG:i<x.gates.length:=by omega
     have c2:(i:Int)<8:=by omega
     have hw:=wI1 (n:=i) (by omega);have iO:g.ok:=x5 g (c10 hg);have gw:(gN x.bus x.base (x.gates.take i)).length=i:=by rw[a55,f3f];omega
     have hs:=b8c x.bus g (x.gates.take i) x.base;rw[←a1d hg]at hs;have ae:=c6k (d:=true) x g iO (gN x.bus x.base (x.gates.take i)) x.k (x.k+1+i) kp (by rw[gw]) (by omega) (xh x) rh (some (.row 4 [[.slice 3 0 (x.k+1+i) none,.nilslice,.nilslice,.nilslice]]));rw[show List.replicate x.k 0++List.replicate 1 14++(gN x.bus x.base (x.gates.take i)).map Nd.kind=x.base++(gN x.bus x.base (x.gates.take i)).map Nd.kind by unfold CX.base;rw[hd]]at ae;generalize a0j x.bus g (x.base++(gN x.bus x.base (x.gates.take i)).map Nd.kind)=nd at ae hs;simp+decide only[go_sem,hm,e9o]at ae;have aO:x.k+1+i+1≤1000000000:=by omega
     have ai:decide (x.k+1+i=x.k+(i+1))=true:=f2x (by omega)
     (repeat first|simp only[ww]|(apply xa;simp+decide only[go_sem,hm,c1,gG,c2,hw,hg,ae,aO,ai,e9o,gw];rfl;kernel_rfl))
     refine a4g (i+1) ?_ (by omega) (by omega);rw[hs]
     (simp+decide only[go_sem,a03,a00,hm,a0h,a14,e9o]<;>rfl)
    have eh:i=x.gs.length:=by omega
    subst eh;rw[x.gs_take];have gw:(gN x.bus x.base x.gs).length=x.gs.length:=a55 _ _ _;have dU:x.n=x.k+1+x.gs.length:=by unfold CX.n;rw[hd]
    rw[←dU];generalize hG:gN x.bus x.base x.gs=gg at gw;have rH:0<x.n:=by omega
    have ef:x.n≤14:=by omega
    have bY:¬(x.n:Int)=0:=by omega
    have jV:¬((x.gs.length:Int)<x.gates.length∧(x.gs.length:Int)<8):=by omega
    -- the guard of the loop's end is decided in either case
    have bD:∀F,F=[(1,AV.ptr 0 0 0),(2,.ptr 1 0 0),(3,.ptr 2 0 0),(5,.int .i64 x.k),(6,.int .i64 1),(8,.int .i64 x.gs.length)]→True:=λ_ _=>trivial;rcases f4i x.gs.length x.gates.length with g1|g1
    all_goals first
    |(have c1:(x.gs.length:Int)<x.gates.length:=(by omega);have c2:¬(x.gs.length:Int)<8:=(by omega);(repeat first|simp only[ww]|(apply xa;simp+decide only[go_sem,c1,c2,hm];rfl;kernel_rfl)))
    |(have c1:¬(x.gs.length:Int)<x.gates.length:=(by omega);(repeat first|simp only[ww]|(apply xa;simp+decide only[go_sem,c1,hm];rfl;kernel_rfl)))
    all_goals
     -- the flip-flops' data
     refine a2q (σ:=Nat) kp31_6 (λi=>[(1,.ptr 0 0 0),(2,.ptr 1 0 0),(3,.ptr 2 0 0),(5,.int .i64 x.k),(6,.int .i64 1),(9,.int .i64 x.n),(10,.int .i64 i)])
      (λi=>match i with|0=>[xh x,rh,some (.row 4 [[.slice 3 0 x.n none,.nilslice,.nilslice,.nilslice]]),some (.row 4 (List.replicate x.k a5x++[dR 4]++gg.map Nd.enc))]++[one 0]|_=>[xh x,rh,some (.row 4 [[.slice 3 0 x.n none,.nilslice,.nilslice,.nilslice]]),some (.row 4 (List.replicate x.k a5x++[dR 4]++gg.map Nd.enc))]++[one (x.d0%x.n)]) (λi=>1-i) (λi=>i≤1) 0 ?_ (f0h _) ?_ ?_
     ·(simp+decide only[go_sem,a03,a00,hm,a0h,a14,e9o]<;>rfl)
     ·intro i hi;by_cases dN:i=0
      ·subst dN
       (simp+decide only[go_sem,a03,a00,hm,a0h,a14,e9o]<;>rfl)
      obtain rfl:i=1:=by omega
      (simp+decide only[go_sem,a03,a00,hm,a0h,a14,e9o]<;>rfl)
     ·intro i hi;by_cases dN:i=0
      ·subst dN;have hw:=wI1 (n:=0) (by omega);have mL:IntKind.i64.wrap ((x.k:Int)+(((0:Nat)):Int))=((x.k+0:Nat):Int):=by rw[w64 (by omega) (by omega)];omega
       have im:IntKind.i64.wrap ((x.k:Int)+0)=((x.k+0:Nat):Int):=by rw[w64 (by omega) (by omega)];omega
       have wd:=wI (n:=x.d0) (by omega);have dG:x.k+0<x.n:=by omega
       have fB:x.k<x.n:=by omega
       (repeat first|simp only[ww]|(apply xa;simp+decide only[go_sem,hm,hw,mL,im,wd,bY,dG,fB,c2r,b89,c1x,b7f,e9o];rfl;kernel_rfl))
       refine a4g 1 ?_ (by omega) (by omega)
       (simp+decide only[go_sem,a03,a00,hm,a0h,a14,e9o]<;>rfl)
      obtain rfl:i=1:=by omega
      (repeat first|simp only[ww]|(apply xa;simp+decide only[go_sem,hm];rfl;kernel_rfl))
      -- the names
      refine a2q (σ:=Nat) kp31_8 (λi=>[(1,.ptr 0 0 0),(2,.ptr 1 0 0),(3,.ptr 2 0 0),(9,.int .i64 x.n),(11,.int .i64 i)])
       (λi=>[xh x,rh,some (.row 4 [[.slice 3 0 x.n none,slN 5 i,.nilslice,.nilslice]]),some (.row 4 (List.replicate x.k a5x++[dR 4]++gg.map Nd.enc))]++[one (x.d0%x.n)]++nmH i) (λi=>x.n-i) (λi=>i≤x.n) 0 ?_ (f0h _) ?_ ?_
      ·(simp+decide only[go_sem,a03,a00,hm,b4y,d43,a0h,a14,e9o]<;>rfl)
      ·intro i _;cases i with
       |zero=>(simp+decide only[go_sem,a03,a00,hm,b4y,d43,a0h,a14,e9o]<;>rfl)
       |succ i=>(simp+decide only[go_sem,a03,a00,hm,a9d,c7n,a0h,a14,a2c,a3p,e9o]<;>rfl)
      ·intro i hi;by_cases ag:i<x.n
       ·have c1:(i:Int)<x.n:=by omega
        have hw:=wI1 (n:=i) (by omega);have ae:=λH=>b39 (d:=true) H i (by omega);have aO:i+1≤1000000000:=by omega
        cases i with
        |zero=>
         (repeat first|simp only[ww]|(apply xa;simp+decide only[go_sem,hm,c1,hw,ae,b4y,d43];rfl;kernel_rfl))
         refine a4g 1 ?_ (by omega) (by omega)
         (simp+decide only[go_sem,a03,a00,hm,a9d,c7n,a0h,a14,nm1,e9o]<;>rfl)
        |succ i=>
         have aO:i+1+1≤1000000000:=by omega
         (repeat first|simp only[ww]|(apply xa;simp+decide only[go_sem,hm,c1,hw,ae,a9d,c7n,aO,f3b];rfl;kernel_rfl))
         refine a4g (i+1+1) ?_ (by omega) (by omega)
         (simp+decide only[go_sem,a03,a00,hm,a9d,c7n,a0h,a14,a2c,a3p,c2a,e9o]<;>rfl)
       have eh:i=x.n:=by omega
       subst eh;have c1:¬(x.n:Int)<x.n:=by omega
       obtain⟨n',gu⟩:∃n',x.n=n'+1:=⟨x.n-1,by omega⟩
       have e1:slN 5 x.n = .slice 5 0 x.n none:=by rw[gu];rfl
       have e2:nmH x.n=[some (.row 1 ((List.range x.n).map nmR))]:=by rw[gu];rfl
       rw[e1,e2]
       (repeat first|simp only[ww]|(apply xa;simp+decide only[go_sem,hm,c1];rfl;kernel_rfl))
       -- the outputs
       refine a2q (σ:=Nat) kp31_10 (λi=>[(1,.ptr 0 0 0),(2,.ptr 1 0 0),(3,.ptr 2 0 0),(9,.int .i64 x.n),(12,.int .i64 i)])
        (λi=>[xh x,rh,some (.row 4 [[.slice 3 0 x.n none,.slice 5 0 x.n none,.nilslice,slN 6 i]]),some (.row 4 (List.replicate x.k a5x++[dR 4]++gg.map Nd.enc))]++[one (x.d0%x.n)]++[some (.row 1 ((List.range x.n).map nmR))]++otH x i) (λi=>3-i) (λi=>i≤3∧i≤x.outs.length) 0 ?_ ⟨by omega,by omega⟩ ?_ ?_
       ·(simp+decide only[go_sem,a03,a00,hm,b4y,c7m,a0h,a14,a2c,a3p,e9o]<;>rfl)
       ·intro i _;cases i with
        |zero=>(simp+decide only[go_sem,a03,a00,hm,b4y,c7m,a0h,a14,a2c,a3p,e9o]<;>rfl)
        |succ i=>(simp+decide only[go_sem,a03,a00,hm,a9d,b95,a0h,a14,a2c,a3p,b0z,b5r,e9o]<;>rfl)
       ·intro i hi;by_cases ag:i<3∧i<x.outs.length
        ·obtain⟨o,ho⟩:∃o,x.outs[i]?=some o:=⟨_,z9e ag.2⟩
         have dS:=x6 o (c10 ho);have wo:=wI (n:=o) (by omega);have c1:(i:Int)<x.outs.length:=by omega
         have gG:i<x.outs.length:=by omega
         have c2:(i:Int)<3:=by omega
         have hw:=wI1 (n:=i) (by omega);have ht:=a1d ho;have cU:(x.outs.take i).length=i:=by rw[f3f];omega
         cases i with
         |zero=>
          (repeat first|simp only[ww]|(apply xa;simp+decide only[go_sem,hm,c1,gG,c2,hw,ho,wo,bY,b4y,c7m];rfl;kernel_rfl))
          refine a4g 1 ?_ (by omega) ⟨by omega,by omega⟩
          (simp+decide only[go_sem,a03,a00,hm,a9d,b95,a0h,a14,a2c,a3p,ht,f2q,e9o]<;>rfl)
         |succ i=>
          have aO:i+1+1≤1000000000:=by omega
          (repeat first|simp only[ww]|(apply xa;simp+decide only[go_sem,hm,c1,gG,c2,hw,ho,wo,bY,a9d,b95,aO,cU];rfl;kernel_rfl))
          refine a4g (i+1+1) ?_ (by omega) ⟨by omega,by omega⟩
          (simp+decide only[go_sem,a03,a00,hm,a9d,b95,a0h,a14,a2c,a3p,b0z,b5r,ht,e9o]<;>rfl)
        have nu:x.outs.take i=x.outs.take 3:=by
         by_cases h3:i=3
         ·rw[h3]
         ·rw[f0f (by omega),f0f (by omega)]
        have cW:(x.outs.take i).length=i:=by rw[f3f];omega
        have il:IntKind.i64.wrap ((x.n:Int)-1)=((x.n-1:Nat):Int):=by rw[w64 (by omega) (by omega)];omega
        have ez:x.cir=⟨some none,List.replicate x.k c2q++[a99 (x.d0%x.n)]++gg,some none,(List.range x.n).map a3t,some none,(x.outs.take i).map (·% x.n)++[x.n-1]⟩:=by rw[nu,←hG];simp[CX.cir,CX.nodes,CX.dn,CX.names,CX.outN,hd]
        rw[ez];have fx:x.n≤x.k+1+gg.length:=by omega
        have dX:x.k+1+gg.length≤x.n:=by omega
        cases i with
        |zero=>
         have c1:¬((0:Nat):Int)<x.outs.length:=by omega
         (repeat first|simp only[ww]|(apply xa;simp+decide only[go_sem,hm,c1,b4y,c7m,il,cW];rfl;kernel_rfl))
         (apply fqb;simp+decide only[go_sem,hm,b0w,b6o,b6n,b6m,a4s,List.map_map,cW,c2q,a99,b65,Cir.enc,a8d,fx,dX,f3b,f1u,b63,f2q]<;>rfl)
        |succ i=>
         have aO:i+1+1≤1000000000:=by omega
         rcases f4i (i+1) x.outs.length with g1|g1
         all_goals first
         |(have c1:((i+1:Nat):Int)<x.outs.length:=(by omega);have c2:¬((i+1:Nat):Int)<3:=(by omega);(repeat first|simp only[ww]|(apply xa;simp+decide only[go_sem,hm,c1,c2,a9d,b95,aO,il,cW];rfl;kernel_rfl)))
         |(have c1:¬((i+1:Nat):Int)<x.outs.length:=(by omega);(repeat first|simp only[ww]|(apply xa;simp+decide only[go_sem,hm,c1,a9d,b95,aO,il,cW];rfl;kernel_rfl)))
         all_goals (apply fqb;simp+decide only[go_sem,hm,b0w,b6o,b6n,b6m,a4s,List.map_map,cW,c2q,a99,b65,Cir.enc,a8d,fx,dX,f3b,f1u,b63]<;>rfl)
theorem e4p(x:CX)(hx:x.ok)(hm:x.mem=false)(hd:x.d=2) :
 sem L.env Mf 31 [.agg x.enc] []=some (.agg x.cir.enc,[]):=by
 obtain⟨x1,x2,x3,x4,x5,x6⟩:=hx;have rR:x.inn%4+1=x.k:=rfl;have lz:x.dffs%3=2:=hd;have kk:x.k≤4:=by unfold CX.k;omega
 have kp:0<x.k:=by unfold CX.k;omega
 have gl:x.gs.length≤8:=by unfold CX.gs;rw[f3f];omega
 have w4:=wI (n:=x.inn%4) (by omega);have w3:=wI (n:=x.dffs%3) (by omega);obtain⟨k',gP⟩:∃k',x.k=k'+1:=⟨x.k-1,by omega⟩
 (refine sv Tryz.f31 ?_;simp only[Tryz.f31,gS])
 (repeat first|simp only[ww]|(apply xa;simp+decide only[go_sem];rfl;kernel_rfl))
 -- the inputs
 refine a2q (σ:=Nat) kp31_0 (λi=>[(1,.ptr 0 0 0),(2,.ptr 1 0 0),(3,.ptr 2 0 0),(4,.int .i64 i)])
  (λi=>[xh x,rh,some (.row 4 [[nV i,.nilslice,.nilslice,.nilslice]])]++nH i) (λi=>x.k-i) (λi=>i≤x.k) 0 ?_ (f0h _) ?_ ?_
 ·(simp+decide only[go_sem,a03,a00,nV0,nH0]<;>rfl)
 ·intro i _;cases i with
  |zero=>((simp+decide only[go_sem,a03,a00,nV0,nH0]<;>rfl))
  |succ i=>((simp+decide only[go_sem,a03,a00,nVs,nHs]<;>rfl))
 ·intro i hi;by_cases ag:i<x.k
  ·have c1:(i:Int)≤((x.inn%4:Nat):Int):=by omega
   have hw:=wI1 (n:=i) (by omega);cases i with
   |zero=>
    (repeat first|simp only[ww]|(apply xa;simp+decide only[go_sem,w4,c1,hw,nV0,nH0];rfl;kernel_rfl))
    refine a4g 1 ?_ (by omega) (by omega)
    ((simp+decide only[go_sem,a03,a00,nVs,nHs]<;>rfl))
   |succ i=>
    have aO:i+1+1≤1000000000:=by omega
    (repeat first|simp only[ww]|(apply xa;simp+decide only[go_sem,w4,c1,hw,nVs,nHs,aO,a5d];rfl;kernel_rfl))
    refine a4g (i+1+1) ?_ (by omega) (by omega)
    ((simp+decide only[go_sem,a03,a00,nVs,nHs,a5d]<;>rfl))
  have gh:i=x.k:=by omega
  subst gh;have c1:¬((x.k:Nat):Int)≤((x.inn%4:Nat):Int):=by omega
  have mA:nV x.k = .slice 3 0 x.k none:=by rw[gP];rfl
  have mB:nH x.k=[some (.row 4 (List.replicate x.k a5x))]:=by rw[gP];rfl
  rw[mA,mB]
  (repeat first|simp only[ww]|(apply xa;simp+decide only[go_sem,w4,w3,c1,lz];rfl;kernel_rfl))
  -- the flip-flops
  refine a2q (σ:=Nat) kp31_2 (λi=>[(1,.ptr 0 0 0),(2,.ptr 1 0 0),(3,.ptr 2 0 0),(5,.int .i64 x.k),(6,.int .i64 2),(7,.int .i64 i)])
   (λi=>match i with|0=>[xh x,rh,some (.row 4 [[.slice 3 0 (x.k+0) none,.nilslice,.nilslice,.nilslice]]),some (.row 4 (List.replicate x.k a5x++[]))]++[]|1=>[xh x,rh,some (.row 4 [[.slice 3 0 (x.k+1) none,.nilslice,.nilslice,.nilslice]]),some (.row 4 (List.replicate x.k a5x++[dR 4]))]++[one 0]|_=>[xh x,rh,some (.row 4 [[.slice 3 0 (x.k+2) none,.nilslice,.nilslice,.nilslice]]),some (.row 4 (List.replicate x.k a5x++[dR 4,dR 5]))]++[one 0,one 0]) (λi=>2-i) (λi=>i≤2) 0 ?_ (f0h _) ?_ ?_
  ·(simp+decide only[go_sem,a03,a00]<;>rfl)
  ·intro i hi;by_cases dN:i=0
   ·subst dN
    ((simp+decide only[go_sem,a03,a00]<;>rfl))
   by_cases iK:i=1
   ·subst iK
    ((simp+decide only[go_sem,a03,a00]<;>rfl))
   obtain rfl:i=2:=by omega
   ((simp+decide only[go_sem,a03,a00]<;>rfl))
  ·intro i hi;by_cases dN:i=0
   ·subst dN;have aO:x.k+0+1≤1000000000:=by omega
    have hw:=wI1 (n:=0) (by omega)
    (repeat first|simp only[ww]|(apply xa;simp+decide only[go_sem,aO,a5d,hw];rfl;kernel_rfl))
    refine a4g 1 ?_ (by omega) (by omega)
    ((simp+decide only[go_sem,a03,a00,e9o]<;>rfl))
   by_cases iK:i=1
   ·subst iK;have aO:x.k+1+1≤1000000000:=by omega
    have hw:=wI1 (n:=1) (by omega)
    (repeat first|simp only[ww]|(apply xa;simp+decide only[go_sem,aO,a5d,hw];rfl;kernel_rfl))
    refine a4g 2 ?_ (by omega) (by omega)
    ((simp+decide only[go_sem,a03,a00,e9o]<;>rfl))
   obtain rfl:i=2:=by omega
   (repeat first|simp only[ww]|(apply xa;simp+decide only[go_sem,hm];rfl;kernel_rfl))
   -- the gates
   refine a2q (σ:=Nat) kp31_4 (λi=>[(1,.ptr 0 0 0),(2,.ptr 1 0 0),(3,.ptr 2 0 0),(5,.int .i64 x.k),(6,.int .i64 2),(8,.int .i64 i)])
    (λi=>[xh x,rh,some (.row 4 [[.slice 3 0 (x.k+2+i) none,.nilslice,.nilslice,.nilslice]]),some (.row 4 (List.replicate x.k a5x++[dR 4,dR 5]++(gN x.bus x.base (x.gates.take i)).map Nd.enc))]++[one 0,one 0]) (λi=>x.gs.length-i) (λi=>i≤x.gs.length) 0 ?_ (f0h _) ?_ ?_
   ·(simp+decide only[go_sem,a03,a00,hm,f2q,d0z,e9o]<;>rfl)
   ·intro i _
    (simp+decide only[go_sem,a03,a00,hm,a0h,a14,e9o]<;>rfl)
   ·intro i hi;have iP:x.gs.length=min 8 x.gates.length:=by unfold CX.gs;rw[f3f]
    by_cases ag:i<x.gs.length
    ·obtain⟨g,hg⟩:∃g,x.gates[i]?=some g:=⟨_,z9e (by omega)⟩
     have c1:(i:Int)<x.gates.length:=by omega
     have gG:i<x.gates.length:=by omega
     have c2:(i:Int)<8:=by omega
     have hw:=wI1 (n:=i) (by omega);have iO:g.ok:=x5 g (c10 hg);have gw:(gN x.bus x.base (x.gates.take i)).length=i:=by rw[a55,f3f];omega
     have hs:=b8c x.bus g (x.gates.take i) x.base;rw[←a1d hg]at hs;have ae:=c6j (d:=true) x g iO (gN x.bus x.base (x.gates.take i)) x.k (x.k+2+i) kp (by rw[gw]) (by omega) (xh x) rh (some (.row 4 [[.slice 3 0 (x.k+2+i) none,.nilslice,.nilslice,.nilslice]]));rw[show List.replicate x.k 0++List.replicate 2 14++(gN x.bus x.base (x.gates.take i)).map Nd.kind=x.base++(gN x.bus x.base (x.gates.take i)).map Nd.kind by unfold CX.base;rw[hd]]at ae;generalize a0j x.bus g (x.base++(gN x.bus x.base (x.gates.take i)).map Nd.kind)=nd at ae hs;simp+decide only[go_sem,hm,e9o]at ae;have aO:x.k+2+i+1≤1000000000:=by omega
     have ai:decide (x.k+2+i=x.k+(i+1+1))=true:=f2x (by omega)
     (repeat first|simp only[ww]|(apply xa;simp+decide only[go_sem,hm,c1,gG,c2,hw,hg,ae,aO,ai,e9o,gw];rfl;kernel_rfl))
     refine a4g (i+1) ?_ (by omega) (by omega);rw[hs]
     (simp+decide only[go_sem,a03,a00,hm,a0h,a14,e9o]<;>rfl)
    have eh:i=x.gs.length:=by omega
    subst eh;rw[x.gs_take];have gw:(gN x.bus x.base x.gs).length=x.gs.length:=a55 _ _ _;have dU:x.n=x.k+2+x.gs.length:=by unfold CX.n;rw[hd]
    rw[←dU];generalize hG:gN x.bus x.base x.gs=gg at gw;have rH:0<x.n:=by omega
    have ef:x.n≤14:=by omega
    have bY:¬(x.n:Int)=0:=by omega
    have jV:¬((x.gs.length:Int)<x.gates.length∧(x.gs.length:Int)<8):=by omega
    -- the guard of the loop's end is decided in either case
    have bD:∀F,F=[(1,AV.ptr 0 0 0),(2,.ptr 1 0 0),(3,.ptr 2 0 0),(5,.int .i64 x.k),(6,.int .i64 2),(8,.int .i64 x.gs.length)]→True:=λ_ _=>trivial;rcases f4i x.gs.length x.gates.length with g1|g1
    all_goals first
    |(have c1:(x.gs.length:Int)<x.gates.length:=(by omega);have c2:¬(x.gs.length:Int)<8:=(by omega);(repeat first|simp only[ww]|(apply xa;simp+decide only[go_sem,c1,c2,hm];rfl;kernel_rfl)))
    |(have c1:¬(x.gs.length:Int)<x.gates.length:=(by omega);(repeat first|simp only[ww]|(apply xa;simp+decide only[go_sem,c1,hm];rfl;kernel_rfl)))
    all_goals
     -- the flip-flops' data
     refine a2q (σ:=Nat) kp31_6 (λi=>[(1,.ptr 0 0 0),(2,.ptr 1 0 0),(3,.ptr 2 0 0),(5,.int .i64 x.k),(6,.int .i64 2),(9,.int .i64 x.n),(10,.int .i64 i)])
      (λi=>match i with|0=>[xh x,rh,some (.row 4 [[.slice 3 0 x.n none,.nilslice,.nilslice,.nilslice]]),some (.row 4 (List.replicate x.k a5x++[dR 4,dR 5]++gg.map Nd.enc))]++[one 0,one 0]|1=>[xh x,rh,some (.row 4 [[.slice 3 0 x.n none,.nilslice,.nilslice,.nilslice]]),some (.row 4 (List.replicate x.k a5x++[dR 4,dR 5]++gg.map Nd.enc))]++[one (x.d0%x.n),one 0]|_=>[xh x,rh,some (.row 4 [[.slice 3 0 x.n none,.nilslice,.nilslice,.nilslice]]),some (.row 4 (List.replicate x.k a5x++[dR 4,dR 5]++gg.map Nd.enc))]++[one (x.d0%x.n),one (x.d1%x.n)]) (λi=>2-i) (λi=>i≤2) 0 ?_ (f0h _) ?_ ?_
     ·(simp+decide only[go_sem,a03,a00,hm,a0h,a14,e9o]<;>rfl)
     ·intro i hi;by_cases dN:i=0
      ·subst dN
       (simp+decide only[go_sem,a03,a00,hm,a0h,a14,e9o]<;>rfl)
      by_cases iK:i=1
      ·subst iK
       (simp+decide only[go_sem,a03,a00,hm,a0h,a14,e9o]<;>rfl)
      obtain rfl:i=2:=by omega
      (simp+decide only[go_sem,a03,a00,hm,a0h,a14,e9o]<;>rfl)
     ·intro i hi;by_cases dN:i=0
      ·subst dN;have hw:=wI1 (n:=0) (by omega);have mL:IntKind.i64.wrap ((x.k:Int)+(((0:Nat)):Int))=((x.k+0:Nat):Int):=by rw[w64 (by omega) (by omega)];omega
       have im:IntKind.i64.wrap ((x.k:Int)+0)=((x.k+0:Nat):Int):=by rw[w64 (by omega) (by omega)];omega
       have wd:=wI (n:=x.d0) (by omega);have dG:x.k+0<x.n:=by omega
       have fB:x.k<x.n:=by omega
       (repeat first|simp only[ww]|(apply xa;simp+decide only[go_sem,hm,hw,mL,im,wd,bY,dG,fB,c2r,b89,c1x,b7f,e9o];rfl;kernel_rfl))
       refine a4g 1 ?_ (by omega) (by omega)
       (simp+decide only[go_sem,a03,a00,hm,a0h,a14,e9o]<;>rfl)
      by_cases iK:i=1
      ·subst iK;have hw:=wI1 (n:=1) (by omega);have mL:IntKind.i64.wrap ((x.k:Int)+(((1:Nat)):Int))=((x.k+1:Nat):Int):=by rw[w64 (by omega) (by omega)];omega
       have im:IntKind.i64.wrap ((x.k:Int)+1)=((x.k+1:Nat):Int):=by rw[w64 (by omega) (by omega)];omega
       have wd:=wI (n:=x.d1) (by omega);have dG:x.k+1<x.n:=by omega
       have fB:x.k<x.n:=by omega
       (repeat first|simp only[ww]|(apply xa;simp+decide only[go_sem,hm,hw,mL,im,wd,bY,dG,fB,c2r,b89,c1x,b7f,e9o];rfl;kernel_rfl))
       refine a4g 2 ?_ (by omega) (by omega)
       (simp+decide only[go_sem,a03,a00,hm,a0h,a14,e9o]<;>rfl)
      obtain rfl:i=2:=by omega
      (repeat first|simp only[ww]|(apply xa;simp+decide only[go_sem,hm];rfl;kernel_rfl))
      -- the names
      refine a2q (σ:=Nat) kp31_8 (λi=>[(1,.ptr 0 0 0),(2,.ptr 1 0 0),(3,.ptr 2 0 0),(9,.int .i64 x.n),(11,.int .i64 i)])
       (λi=>[xh x,rh,some (.row 4 [[.slice 3 0 x.n none,slN 6 i,.nilslice,.nilslice]]),some (.row 4 (List.replicate x.k a5x++[dR 4,dR 5]++gg.map Nd.enc))]++[one (x.d0%x.n),one (x.d1%x.n)]++nmH i) (λi=>x.n-i) (λi=>i≤x.n) 0 ?_ (f0h _) ?_ ?_
      ·(simp+decide only[go_sem,a03,a00,hm,b4y,d43,a0h,a14,e9o]<;>rfl)
      ·intro i _;cases i with
       |zero=>(simp+decide only[go_sem,a03,a00,hm,b4y,d43,a0h,a14,e9o]<;>rfl)
       |succ i=>(simp+decide only[go_sem,a03,a00,hm,a9d,c7n,a0h,a14,a2c,a3p,e9o]<;>rfl)
      ·intro i hi;by_cases ag:i<x.n
       ·have c1:(i:Int)<x.n:=by omega
        have hw:=wI1 (n:=i) (by omega);have ae:=λH=>b39 (d:=true) H i (by omega);have aO:i+1≤1000000000:=by omega
        cases i with
        |zero=>
         (repeat first|simp only[ww]|(apply xa;simp+decide only[go_sem,hm,c1,hw,ae,b4y,d43];rfl;kernel_rfl))
         refine a4g 1 ?_ (by omega) (by omega)
         (simp+decide only[go_sem,a03,a00,hm,a9d,c7n,a0h,a14,nm1,e9o]<;>rfl)
        |succ i=>
         have aO:i+1+1≤1000000000:=by omega
         (repeat first|simp only[ww]|(apply xa;simp+decide only[go_sem,hm,c1,hw,ae,a9d,c7n,aO,f3b];rfl;kernel_rfl))
         refine a4g (i+1+1) ?_ (by omega) (by omega)
         (simp+decide only[go_sem,a03,a00,hm,a9d,c7n,a0h,a14,a2c,a3p,c2a,e9o]<;>rfl)
       have eh:i=x.n:=by omega
       subst eh;have c1:¬(x.n:Int)<x.n:=by omega
       obtain⟨n',gu⟩:∃n',x.n=n'+1:=⟨x.n-1,by omega⟩
       have e1:slN 6 x.n = .slice 6 0 x.n none:=by rw[gu];rfl
       have e2:nmH x.n=[some (.row 1 ((List.range x.n).map nmR))]:=by rw[gu];rfl
       rw[e1,e2]
       (repeat first|simp only[ww]|(apply xa;simp+decide only[go_sem,hm,c1];rfl;kernel_rfl))
       -- the outputs
       refine a2q (σ:=Nat) kp31_10 (λi=>[(1,.ptr 0 0 0),(2,.ptr 1 0 0),(3,.ptr 2 0 0),(9,.int .i64 x.n),(12,.int .i64 i)])
        (λi=>[xh x,rh,some (.row 4 [[.slice 3 0 x.n none,.slice 6 0 x.n none,.nilslice,slN 7 i]]),some (.row 4 (List.replicate x.k a5x++[dR 4,dR 5]++gg.map Nd.enc))]++[one (x.d0%x.n),one (x.d1%x.n)]++[some (.row 1 ((List.range x.n).map nmR))]++otH x i) (λi=>3-i) (λi=>i≤3∧i≤x.outs.length) 0 ?_ ⟨by omega,by omega⟩ ?_ ?_
       ·(simp+decide only[go_sem,a03,a00,hm,b4y,c7m,a0h,a14,a2c,a3p,e9o]<;>rfl)
       ·intro i _;cases i with
        |zero=>(simp+decide only[go_sem,a03,a00,hm,b4y,c7m,a0h,a14,a2c,a3p,e9o]<;>rfl)
        |succ i=>(simp+decide only[go_sem,a03,a00,hm,a9d,b95,a0h,a14,a2c,a3p,b0z,b5r,e9o]<;>rfl)
       ·intro i hi;by_cases ag:i<3∧i<x.outs.length
        ·obtain⟨o,ho⟩:∃o,x.outs[i]?=some o:=⟨_,z9e ag.2⟩
         have dS:=x6 o (c10 ho);have wo:=wI (n:=o) (by omega);have c1:(i:Int)<x.outs.length:=by omega
         have gG:i<x.outs.length:=by omega
         have c2:(i:Int)<3:=by omega
         have hw:=wI1 (n:=i) (by omega);have ht:=a1d ho;have cU:(x.outs.take i).length=i:=by rw[f3f];omega
         cases i with
         |zero=>
          (repeat first|simp only[ww]|(apply xa;simp+decide only[go_sem,hm,c1,gG,c2,hw,ho,wo,bY,b4y,c7m];rfl;kernel_rfl))
          refine a4g 1 ?_ (by omega) ⟨by omega,by omega⟩
          (simp+decide only[go_sem,a03,a00,hm,a9d,b95,a0h,a14,a2c,a3p,ht,f2q,e9o]<;>rfl)
         |succ i=>
          have aO:i+1+1≤1000000000:=by omega
          (repeat first|simp only[ww]|(apply xa;simp+decide only[go_sem,hm,c1,gG,c2,hw,ho,wo,bY,a9d,b95,aO,cU];rfl;kernel_rfl))
          refine a4g (i+1+1) ?_ (by omega) ⟨by omega,by omega⟩
          (simp+decide only[go_sem,a03,a00,hm,a9d,b95,a0h,a14,a2c,a3p,b0z,b5r,ht,e9o]<;>rfl)
        have nu:x.outs.take i=x.outs.take 3:=by
         by_cases h3:i=3
         ·rw[h3]
         ·rw[f0f (by omega),f0f (by omega)]
        have cW:(x.outs.take i).length=i:=by rw[f3f];omega
        have il:IntKind.i64.wrap ((x.n:Int)-1)=((x.n-1:Nat):Int):=by rw[w64 (by omega) (by omega)];omega
        have ez:x.cir=⟨some none,List.replicate x.k c2q++[a99 (x.d0%x.n),a99 (x.d1%x.n)]++gg,some none,(List.range x.n).map a3t,some none,(x.outs.take i).map (·% x.n)++[x.n-1]⟩:=by rw[nu,←hG];simp[CX.cir,CX.nodes,CX.dn,CX.names,CX.outN,hd]
        rw[ez];have fx:x.n≤x.k+2+gg.length:=by omega
        have dX:x.k+2+gg.length≤x.n:=by omega
        cases i with
        |zero=>
         have c1:¬((0:Nat):Int)<x.outs.length:=by omega
         (repeat first|simp only[ww]|(apply xa;simp+decide only[go_sem,hm,c1,b4y,c7m,il,cW];rfl;kernel_rfl))
         (apply fqb;simp+decide only[go_sem,hm,b0w,b6o,b6n,b6m,a4s,List.map_map,cW,c2q,a99,b65,Cir.enc,a8d,fx,dX,f3b,f1u,b63,f2q]<;>rfl)
        |succ i=>
         have aO:i+1+1≤1000000000:=by omega
         rcases f4i (i+1) x.outs.length with g1|g1
         all_goals first
         |(have c1:((i+1:Nat):Int)<x.outs.length:=(by omega);have c2:¬((i+1:Nat):Int)<3:=(by omega);(repeat first|simp only[ww]|(apply xa;simp+decide only[go_sem,hm,c1,c2,a9d,b95,aO,il,cW];rfl;kernel_rfl)))
         |(have c1:¬((i+1:Nat):Int)<x.outs.length:=(by omega);(repeat first|simp only[ww]|(apply xa;simp+decide only[go_sem,hm,c1,a9d,b95,aO,il,cW];rfl;kernel_rfl)))
         all_goals (apply fqb;simp+decide only[go_sem,hm,b0w,b6o,b6n,b6m,a4s,List.map_map,cW,c2q,a99,b65,Cir.enc,a8d,fx,dX,f3b,f1u,b63]<;>rfl)
theorem e9v(x:CX)(hx:x.ok)(hm:x.mem=false):sem L.env Mf 31 [.agg x.enc] []=some (.agg x.cir.enc,[]):=by
 have h3:x.d<3:=f7h _ (by omega);have h:x.d=0∨x.d=1∨x.d=2:=by omega
 rcases h with h|h|h
 ·exact e4r x hx hm h
 ·exact e4q x hx hm h
 ·exact e4p x hx hm h
theorem a9i(c:Cir):a08 c.enc=[]:=by simp only[go_sem,Cir.enc]
theorem d9x{d:Bool}(H:a02)(x:CX)(hx:x.ok)(hm:x.mem=false):a09 L.env d (sem L.env Mf) (.func (.func 31) [] []) [.agg x.enc] H=some (.agg x.cir.enc,H,[]):=a04 (by kernel_rfl) (by kernel_rfl) rfl (by simp only[go_sem]) (e9v x hx hm) (a9i _)
def b51(x:CX):CX:={ x with mem:=false }
theorem c75(x:CX)(hx:x.ok):sem L.env Mf 7 [.agg x.enc] []=some (.agg (b51 x).cir.enc,[]):=by
 have fU:(b51 x).ok:=⟨hx.1,hx.2,hx.3,hx.4,hx.5,hx.6⟩
 have hc:=λH=>d9x (d:=false) H (b51 x) fU rfl;generalize(b51 x).cir=c at hc;simp only[go_sem,b51]at hc;simp only[Cir.enc]at hc;have bD:∀l:List AV,a08 l=[]→l.length=4→a10 false 0 (.agg l) []=some (.agg l,[]):=λl h _=>a42 h
 (refine sv Tryz.f7 ?_;simp only[Tryz.f7,gS])
 (repeat first|simp only[ww]|(apply xa;simp+decide only[go_sem,hc];rfl;kernel_rfl))
 (apply fqb;simp+decide only[go_sem,Cir.enc]<;>rfl)
theorem c18{d:Bool}(H:a02)(x:CX)(hx:x.ok):a09 L.env d (sem L.env Mf) (.func (.func 7) [] []) [.agg x.enc] H=some (.agg (b51 x).cir.enc,H,[]):=a04 (by kernel_rfl) (by kernel_rfl) rfl (by simp only[go_sem]) (c75 x hx) (a9i _)
end Go.QInst
