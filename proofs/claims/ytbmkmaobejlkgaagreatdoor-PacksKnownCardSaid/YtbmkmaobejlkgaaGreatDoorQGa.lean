/- The evaluator's tables for this program (printed by mkinst.py). -/
import Derived.Test.YtbmkmaobejlkgaaGreatDoorAxC
import Derived.Test.YtbmkmaobejlkgaaGreatDoorChecked
import Derived.KernelRfl
import Derived.Test.YtbmkmaobejlkgaaGreatDoorAxD
set_option linter.unusedSimpArgs false
set_option linter.unusedVariables false
namespace Go.QInst
open Go.Proofs Go.Ax
set_option maxRecDepth 100000
def b1l(k:IntKind)(l:List Int):List AV:=l.map (.int k)
noncomputable def TT:Tab TypeInfo:=(.node (.node (.node (.node (.node (.node (.node (.node (.node .nil 0 Tryz.t0 .nil) 1 Tryz.t1 .nil) 2 Tryz.t2 (.node .nil 3 Tryz.t3 .nil)) 4 Tryz.t4 (.node (.node .nil 5 Tryz.t5 .nil) 6 Tryz.t6 (.node .nil 7 Tryz.t7 .nil))) 8 Tryz.t8 (.node (.node (.node (.node .nil 9 Tryz.t9 .nil) 10 Tryz.t10 .nil) 11 Tryz.t11 (.node .nil 12 Tryz.t12 .nil)) 13 Tryz.t13 (.node (.node .nil 14 Tryz.t14 .nil) 15 Tryz.t15 (.node .nil 16 Tryz.t16 .nil)))) 17 Tryz.t17 (.node (.node (.node (.node (.node .nil 18 Tryz.t18 .nil) 19 Tryz.t19 .nil) 20 Tryz.t20 (.node .nil 21 Tryz.t21 .nil)) 22 Tryz.t22 (.node (.node .nil 23 Tryz.t23 .nil) 24 Tryz.t24 (.node .nil 25 Tryz.t25 .nil))) 26 Tryz.t26 (.node (.node (.node (.node .nil 27 Tryz.t27 .nil) 28 Tryz.t28 .nil) 29 Tryz.t29 (.node .nil 30 Tryz.t30 .nil)) 31 Tryz.t31 (.node (.node .nil 32 Tryz.t32 .nil) 33 Tryz.t33 (.node .nil 34 Tryz.t34 .nil))))) 35 Tryz.t35 (.node (.node (.node (.node (.node (.node .nil 36 Tryz.t36 .nil) 37 Tryz.t37 .nil) 38 Tryz.t38 (.node .nil 39 Tryz.t39 .nil)) 40 Tryz.t40 (.node (.node .nil 41 Tryz.t41 .nil) 42 Tryz.t42 (.node .nil 43 Tryz.t43 .nil))) 44 Tryz.t44 (.node (.node (.node (.node .nil 45 Tryz.t45 .nil) 46 Tryz.t46 .nil) 47 Tryz.t47 (.node .nil 48 Tryz.t48 .nil)) 49 Tryz.t49 (.node (.node .nil 50 Tryz.t50 .nil) 51 Tryz.t51 (.node .nil 52 Tryz.t52 .nil)))) 53 Tryz.t53 (.node (.node (.node (.node (.node .nil 54 Tryz.t54 .nil) 55 Tryz.t55 .nil) 56 Tryz.t56 (.node .nil 57 Tryz.t57 .nil)) 58 Tryz.t58 (.node (.node .nil 59 Tryz.t59 .nil) 60 Tryz.t60 (.node .nil 61 Tryz.t61 .nil))) 62 Tryz.t62 (.node (.node (.node .nil 63 Tryz.t63 .nil) 64 Tryz.t64 (.node .nil 65 Tryz.t65 .nil)) 66 Tryz.t66 (.node (.node .nil 67 Tryz.t67 .nil) 68 Tryz.t68 (.node .nil 69 Tryz.t69 .nil)))))) 70 Tryz.t70 (.node (.node (.node (.node (.node (.node (.node .nil 71 Tryz.t71 .nil) 72 Tryz.t72 .nil) 73 Tryz.t73 (.node .nil 74 Tryz.t74 .nil)) 75 Tryz.t75 (.node (.node .nil 76 Tryz.t76 .nil) 77 Tryz.t77 (.node .nil 78 Tryz.t78 .nil))) 79 Tryz.t79 (.node (.node (.node (.node .nil 80 Tryz.t80 .nil) 81 Tryz.t81 .nil) 82 Tryz.t82 (.node .nil 83 Tryz.t83 .nil)) 84 Tryz.t84 (.node (.node .nil 85 Tryz.t85 .nil) 86 Tryz.t86 (.node .nil 87 Tryz.t87 .nil)))) 88 Tryz.t88 (.node (.node (.node (.node (.node .nil 89 Tryz.t89 .nil) 90 Tryz.t90 .nil) 91 Tryz.t91 (.node .nil 92 Tryz.t92 .nil)) 93 Tryz.t93 (.node (.node .nil 94 Tryz.t94 .nil) 95 Tryz.t95 (.node .nil 96 Tryz.t96 .nil))) 97 Tryz.t97 (.node (.node (.node .nil 98 Tryz.t98 .nil) 99 Tryz.t99 (.node .nil 100 Tryz.t100 .nil)) 101 Tryz.t101 (.node (.node .nil 102 Tryz.t102 .nil) 103 Tryz.t103 (.node .nil 104 Tryz.t104 .nil))))) 105 Tryz.t105 (.node (.node (.node (.node (.node (.node .nil 106 Tryz.t106 .nil) 107 Tryz.t107 .nil) 108 Tryz.t108 (.node .nil 109 Tryz.t109 .nil)) 110 Tryz.t110 (.node (.node .nil 111 Tryz.t111 .nil) 112 Tryz.t112 (.node .nil 113 Tryz.t113 .nil))) 114 Tryz.t114 (.node (.node (.node (.node .nil 115 Tryz.t115 .nil) 116 Tryz.t116 .nil) 117 Tryz.t117 (.node .nil 118 Tryz.t118 .nil)) 119 Tryz.t119 (.node (.node .nil 120 Tryz.t120 .nil) 121 Tryz.t121 (.node .nil 122 Tryz.t122 .nil)))) 123 Tryz.t123 (.node (.node (.node (.node (.node .nil 124 Tryz.t124 .nil) 125 Tryz.t125 .nil) 126 Tryz.t126 (.node .nil 127 Tryz.t127 .nil)) 128 Tryz.t128 (.node (.node .nil 129 Tryz.t129 .nil) 130 Tryz.t130 (.node .nil 131 Tryz.t131 .nil))) 132 Tryz.t132 (.node (.node (.node .nil 133 Tryz.t133 .nil) 134 Tryz.t134 (.node .nil 135 Tryz.t135 .nil)) 136 Tryz.t136 (.node (.node .nil 137 Tryz.t137 .nil) 138 Tryz.t138 (.node .nil 139 Tryz.t139 .nil))))))) 140 Tryz.t140 (.node (.node (.node (.node (.node (.node (.node (.node .nil 141 Tryz.t141 .nil) 142 Tryz.t142 .nil) 143 Tryz.t143 (.node .nil 144 Tryz.t144 .nil)) 145 Tryz.t145 (.node (.node .nil 146 Tryz.t146 .nil) 147 Tryz.t147 (.node .nil 148 Tryz.t148 .nil))) 149 Tryz.t149 (.node (.node (.node (.node .nil 150 Tryz.t150 .nil) 151 Tryz.t151 .nil) 152 Tryz.t152 (.node .nil 153 Tryz.t153 .nil)) 154 Tryz.t154 (.node (.node .nil 155 Tryz.t155 .nil) 156 Tryz.t156 (.node .nil 157 Tryz.t157 .nil)))) 158 Tryz.t158 (.node (.node (.node (.node (.node .nil 159 Tryz.t159 .nil) 160 Tryz.t160 .nil) 161 Tryz.t161 (.node .nil 162 Tryz.t162 .nil)) 163 Tryz.t163 (.node (.node .nil 164 Tryz.t164 .nil) 165 Tryz.t165 (.node .nil 166 Tryz.t166 .nil))) 167 Tryz.t167 (.node (.node (.node .nil 168 Tryz.t168 .nil) 169 Tryz.t169 (.node .nil 170 Tryz.t170 .nil)) 171 Tryz.t171 (.node (.node .nil 172 Tryz.t172 .nil) 173 Tryz.t173 (.node .nil 174 Tryz.t174 .nil))))) 175 Tryz.t175 (.node (.node (.node (.node (.node (.node .nil 176 Tryz.t176 .nil) 177 Tryz.t177 .nil) 178 Tryz.t178 (.node .nil 179 Tryz.t179 .nil)) 180 Tryz.t180 (.node (.node .nil 181 Tryz.t181 .nil) 182 Tryz.t182 (.node .nil 183 Tryz.t183 .nil))) 184 Tryz.t184 (.node (.node (.node (.node .nil 185 Tryz.t185 .nil) 186 Tryz.t186 .nil) 187 Tryz.t187 (.node .nil 188 Tryz.t188 .nil)) 189 Tryz.t189 (.node (.node .nil 190 Tryz.t190 .nil) 191 Tryz.t191 (.node .nil 192 Tryz.t192 .nil)))) 193 Tryz.t193 (.node (.node (.node (.node (.node .nil 194 Tryz.t194 .nil) 195 Tryz.t195 .nil) 196 Tryz.t196 (.node .nil 197 Tryz.t197 .nil)) 198 Tryz.t198 (.node (.node .nil 199 Tryz.t199 .nil) 200 Tryz.t200 (.node .nil 201 Tryz.t201 .nil))) 202 Tryz.t202 (.node (.node (.node .nil 203 Tryz.t203 .nil) 204 Tryz.t204 (.node .nil 205 Tryz.t205 .nil)) 206 Tryz.t206 (.node (.node .nil 207 Tryz.t207 .nil) 208 Tryz.t208 (.node .nil 209 Tryz.t209 .nil)))))) 210 Tryz.t210 (.node (.node (.node (.node (.node (.node (.node .nil 211 Tryz.t211 .nil) 212 Tryz.t212 .nil) 213 Tryz.t213 (.node .nil 214 Tryz.t214 .nil)) 215 Tryz.t215 (.node (.node .nil 216 Tryz.t216 .nil) 217 Tryz.t217 (.node .nil 218 Tryz.t218 .nil))) 219 Tryz.t219 (.node (.node (.node (.node .nil 220 Tryz.t220 .nil) 221 Tryz.t221 .nil) 222 Tryz.t222 (.node .nil 223 Tryz.t223 .nil)) 224 Tryz.t224 (.node (.node .nil 225 Tryz.t225 .nil) 226 Tryz.t226 (.node .nil 227 Tryz.t227 .nil)))) 228 Tryz.t228 (.node (.node (.node (.node (.node .nil 229 Tryz.t229 .nil) 230 Tryz.t230 .nil) 231 Tryz.t231 (.node .nil 232 Tryz.t232 .nil)) 233 Tryz.t233 (.node (.node .nil 234 Tryz.t234 .nil) 235 Tryz.t235 (.node .nil 236 Tryz.t236 .nil))) 237 Tryz.t237 (.node (.node (.node .nil 238 Tryz.t238 .nil) 239 Tryz.t239 (.node .nil 240 Tryz.t240 .nil)) 241 Tryz.t241 (.node (.node .nil 242 Tryz.t242 .nil) 243 Tryz.t243 (.node .nil 244 Tryz.t244 .nil))))) 245 Tryz.t245 (.node (.node (.node (.node (.node (.node .nil 246 Tryz.t246 .nil) 247 Tryz.t247 .nil) 248 Tryz.t248 (.node .nil 249 Tryz.t249 .nil)) 250 Tryz.t250 (.node (.node .nil 251 Tryz.t251 .nil) 252 Tryz.t252 (.node .nil 253 Tryz.t253 .nil))) 254 Tryz.t254 (.node (.node (.node (.node .nil 255 Tryz.t255 .nil) 256 Tryz.t256 .nil) 257 Tryz.t257 (.node .nil 258 Tryz.t258 .nil)) 259 Tryz.t259 (.node (.node .nil 260 Tryz.t260 .nil) 261 Tryz.t261 (.node .nil 262 Tryz.t262 .nil)))) 263 Tryz.t263 (.node (.node (.node (.node (.node .nil 264 Tryz.t264 .nil) 265 Tryz.t265 .nil) 266 Tryz.t266 (.node .nil 267 Tryz.t267 .nil)) 268 Tryz.t268 (.node (.node .nil 269 Tryz.t269 .nil) 270 Tryz.t270 (.node .nil 271 Tryz.t271 .nil))) 272 Tryz.t272 (.node (.node (.node .nil 273 Tryz.t273 .nil) 274 Tryz.t274 (.node .nil 275 Tryz.t275 .nil)) 276 Tryz.t276 (.node (.node .nil 277 Tryz.t277 .nil) 278 Tryz.t278 (.node .nil 279 Tryz.t279 .nil))))))))
noncomputable def FT:Tab Func:=(.node (.node (.node (.node (.node (.node (.node (.node .nil 0 Tryz.f0 .nil) 1 Tryz.f1 (.node .nil 2 Tryz.f2 .nil)) 3 Tryz.f3 (.node (.node .nil 4 Tryz.f4 .nil) 5 Tryz.f5 (.node .nil 6 Tryz.f6 .nil))) 7 Tryz.f7 (.node (.node (.node .nil 8 Tryz.f8 .nil) 9 Tryz.f9 (.node .nil 10 Tryz.f10 .nil)) 11 Tryz.f11 (.node (.node .nil 12 Tryz.f12 .nil) 13 Tryz.f13 .nil))) 14 Tryz.f14 (.node (.node (.node (.node .nil 15 Tryz.f15 .nil) 16 Tryz.f16 (.node .nil 17 Tryz.f17 .nil)) 18 Tryz.f18 (.node (.node .nil 19 Tryz.f19 .nil) 20 Tryz.f20 (.node .nil 21 Tryz.f21 .nil))) 22 Tryz.f22 (.node (.node (.node .nil 23 Tryz.f23 .nil) 24 Tryz.f24 (.node .nil 25 Tryz.f25 .nil)) 26 Tryz.f26 (.node (.node .nil 27 Tryz.f27 .nil) 28 Tryz.f28 .nil)))) 29 Tryz.f29 (.node (.node (.node (.node (.node .nil 30 Tryz.f30 .nil) 31 Tryz.f31 (.node .nil 32 Tryz.f32 .nil)) 33 Tryz.f33 (.node (.node .nil 34 Tryz.f34 .nil) 35 Tryz.f35 (.node .nil 36 Tryz.f36 .nil))) 37 Tryz.f37 (.node (.node (.node .nil 38 Tryz.f38 .nil) 39 Tryz.f39 (.node .nil 40 Tryz.f40 .nil)) 41 Tryz.f41 (.node (.node .nil 42 Tryz.f42 .nil) 43 Tryz.f43 .nil))) 44 Tryz.f44 (.node (.node (.node (.node .nil 45 Tryz.f45 .nil) 46 Tryz.f46 (.node .nil 47 Tryz.f47 .nil)) 48 Tryz.f48 (.node (.node .nil 49 Tryz.f49 .nil) 50 Tryz.f50 .nil)) 51 Tryz.f51 (.node (.node (.node .nil 52 Tryz.f52 .nil) 53 Tryz.f53 (.node .nil 54 Tryz.f54 .nil)) 55 Tryz.f55 (.node (.node .nil 56 Tryz.f56 .nil) 57 Tryz.f57 .nil))))) 58 Tryz.f58 (.node (.node (.node (.node (.node (.node .nil 59 Tryz.f59 .nil) 60 Tryz.f60 (.node .nil 61 Tryz.f61 .nil)) 62 Tryz.f62 (.node (.node .nil 63 Tryz.f63 .nil) 64 Tryz.f64 (.node .nil 65 Tryz.f65 .nil))) 66 Tryz.f66 (.node (.node (.node .nil 67 Tryz.f67 .nil) 68 Tryz.f68 (.node .nil 69 Tryz.f69 .nil)) 70 Tryz.f70 (.node (.node .nil 71 Tryz.f71 .nil) 72 Tryz.f72 .nil))) 73 Tryz.f73 (.node (.node (.node (.node .nil 74 Tryz.f74 .nil) 75 Tryz.f75 (.node .nil 76 Tryz.f76 .nil)) 77 Tryz.f77 (.node (.node .nil 78 Tryz.f78 .nil) 79 Tryz.f79 (.node .nil 80 Tryz.f80 .nil))) 81 Tryz.f81 (.node (.node (.node .nil 82 Tryz.f82 .nil) 83 Tryz.f83 (.node .nil 84 Tryz.f84 .nil)) 85 Tryz.f85 (.node (.node .nil 86 Tryz.f86 .nil) 87 Tryz.f87 .nil)))) 88 Tryz.f88 (.node (.node (.node (.node (.node .nil 89 Tryz.f89 .nil) 90 Tryz.f90 (.node .nil 91 Tryz.f91 .nil)) 92 Tryz.f92 (.node (.node .nil 93 Tryz.f93 .nil) 94 Tryz.f94 (.node .nil 95 Tryz.f95 .nil))) 96 Tryz.f96 (.node (.node (.node .nil 97 Tryz.f97 .nil) 98 Tryz.f98 (.node .nil 99 Tryz.f99 .nil)) 100 Tryz.f100 (.node (.node .nil 101 Tryz.f101 .nil) 102 Tryz.f102 .nil))) 103 Tryz.f103 (.node (.node (.node (.node .nil 104 Tryz.f104 .nil) 105 Tryz.f105 (.node .nil 106 Tryz.f106 .nil)) 107 Tryz.f107 (.node (.node .nil 108 Tryz.f108 .nil) 109 Tryz.f109 .nil)) 110 Tryz.f110 (.node (.node (.node .nil 111 Tryz.f111 .nil) 112 Tryz.f112 (.node .nil 113 Tryz.f113 .nil)) 114 Tryz.f114 (.node (.node .nil 115 Tryz.f115 .nil) 116 Tryz.f116 .nil)))))) 117 Tryz.f117 (.node (.node (.node (.node (.node (.node (.node .nil 118 Tryz.f118 .nil) 119 Tryz.f119 (.node .nil 120 Tryz.f120 .nil)) 121 Tryz.f121 (.node (.node .nil 122 Tryz.f122 .nil) 123 Tryz.f123 (.node .nil 124 Tryz.f124 .nil))) 125 Tryz.f125 (.node (.node (.node .nil 126 Tryz.f126 .nil) 127 Tryz.f127 (.node .nil 128 Tryz.f128 .nil)) 129 Tryz.f129 (.node (.node .nil 130 Tryz.f130 .nil) 131 Tryz.f131 .nil))) 132 Tryz.f132 (.node (.node (.node (.node .nil 133 Tryz.f133 .nil) 134 Tryz.f134 (.node .nil 135 Tryz.f135 .nil)) 136 Tryz.f136 (.node (.node .nil 137 Tryz.f137 .nil) 138 Tryz.f138 (.node .nil 139 Tryz.f139 .nil))) 140 Tryz.f140 (.node (.node (.node .nil 141 Tryz.f141 .nil) 142 Tryz.f142 (.node .nil 143 Tryz.f143 .nil)) 144 Tryz.f144 (.node (.node .nil 145 Tryz.f145 .nil) 146 Tryz.f146 .nil)))) 147 Tryz.f147 (.node (.node (.node (.node (.node .nil 148 Tryz.f148 .nil) 149 Tryz.f149 (.node .nil 150 Tryz.f150 .nil)) 151 Tryz.f151 (.node (.node .nil 152 Tryz.f152 .nil) 153 Tryz.f153 (.node .nil 154 Tryz.f154 .nil))) 155 Tryz.f155 (.node (.node (.node .nil 156 Tryz.f156 .nil) 157 Tryz.f157 (.node .nil 158 Tryz.f158 .nil)) 159 Tryz.f159 (.node (.node .nil 160 Tryz.f160 .nil) 161 Tryz.f161 .nil))) 162 Tryz.f162 (.node (.node (.node (.node .nil 163 Tryz.f163 .nil) 164 Tryz.f164 (.node .nil 165 Tryz.f165 .nil)) 166 Tryz.f166 (.node (.node .nil 167 Tryz.f167 .nil) 168 Tryz.f168 .nil)) 169 Tryz.f169 (.node (.node (.node .nil 170 Tryz.f170 .nil) 171 Tryz.f171 (.node .nil 172 Tryz.f172 .nil)) 173 Tryz.f173 (.node (.node .nil 174 Tryz.f174 .nil) 175 Tryz.f175 .nil))))) 176 Tryz.f176 (.node (.node (.node (.node (.node (.node .nil 177 Tryz.f177 .nil) 178 Tryz.f178 (.node .nil 179 Tryz.f179 .nil)) 180 Tryz.f180 (.node (.node .nil 181 Tryz.f181 .nil) 182 Tryz.f182 (.node .nil 183 Tryz.f183 .nil))) 184 Tryz.f184 (.node (.node (.node .nil 185 Tryz.f185 .nil) 186 Tryz.f186 (.node .nil 187 Tryz.f187 .nil)) 188 Tryz.f188 (.node (.node .nil 189 Tryz.f189 .nil) 190 Tryz.f190 .nil))) 191 Tryz.f191 (.node (.node (.node (.node .nil 192 Tryz.f192 .nil) 193 Tryz.f193 (.node .nil 194 Tryz.f194 .nil)) 195 Tryz.f195 (.node (.node .nil 196 Tryz.f196 .nil) 197 Tryz.f197 (.node .nil 198 Tryz.f198 .nil))) 199 Tryz.f199 (.node (.node (.node .nil 200 Tryz.f200 .nil) 201 Tryz.f201 (.node .nil 202 Tryz.f202 .nil)) 203 Tryz.f203 (.node (.node .nil 204 Tryz.f204 .nil) 205 Tryz.f205 .nil)))) 206 Tryz.f206 (.node (.node (.node (.node (.node .nil 207 Tryz.f207 .nil) 208 Tryz.f208 (.node .nil 209 Tryz.f209 .nil)) 210 Tryz.f210 (.node (.node .nil 211 Tryz.f211 .nil) 212 Tryz.f212 (.node .nil 213 Tryz.f213 .nil))) 214 Tryz.f214 (.node (.node (.node .nil 215 Tryz.f215 .nil) 216 Tryz.f216 (.node .nil 217 Tryz.f217 .nil)) 218 Tryz.f218 (.node (.node .nil 219 Tryz.f219 .nil) 220 Tryz.f220 .nil))) 221 Tryz.f221 (.node (.node (.node (.node .nil 222 Tryz.f222 .nil) 223 Tryz.f223 (.node .nil 224 Tryz.f224 .nil)) 225 Tryz.f225 (.node (.node .nil 226 Tryz.f226 .nil) 227 Tryz.f227 .nil)) 228 Tryz.f228 (.node (.node (.node .nil 229 Tryz.f229 .nil) 230 Tryz.f230 (.node .nil 231 Tryz.f231 .nil)) 232 Tryz.f232 (.node (.node .nil 233 Tryz.f233 .nil) 234 Tryz.f234 .nil)))))))
def KT:Tab (List (Nat×List Nat)):=(.node (.node (.node (.node (.node (.node (.node .nil 3 [(0,[1,2,7,8,9,1000000]),(2,[2,7,8,11,12,1000000]),(4,[7,8,11,13,16,18,20]),(6,[7,8,11,13,16,18,20,21,22]),(8,[7,8,11,13,16,18,20,25])] .nil) 4 [(0,[3,4,5,7,8]),(2,[3,4,5,7,9]),(5,[5,17,18]),(7,[5,17,18,19])] .nil) 5 [(0,[1,2]),(2,[1,2,3,4,5,1000000])] (.node (.node .nil 9 [(0,[4,5,6])] .nil) 10 [(0,[2,3,9,26,27,28]),(2,[2,3,9,10,11,26,27,28,33,34,35])] .nil)) 11 [(0,[0,19,20,21]),(2,[8,9,51,52,53]),(4,[8,9,101,102])] (.node (.node (.node .nil 13 [(0,[0,1,5])] .nil) 14 [(0,[0,1,5])] .nil) 15 [(0,[0,1,5])] (.node .nil 16 [(0,[1,3,4])] .nil))) 18 [(0,[1,5,9,10,11])] (.node (.node (.node (.node .nil 21 [(0,[2,5100000])] .nil) 22 [(0,[7,8,9,10])] .nil) 23 [(0,[7,8,9]),(2,[7,8,9,10,11,30,31,32]),(4,[7,8,9,10,11,12,14,30,31,32,38])] (.node (.node .nil 24 [(0,[1,7,30,31,32,1000000]),(2,[1,7,10,30,31,32,36,37,38]),(4,[1,13,14,15,65,66]),(6,[15,17,80,81])] .nil) 25 [(0,[7,16,17,18])] .nil)) 26 [(0,[5,6,7,9,11,13,15,16,17]),(2,[5,6,7,9,11,13,15,19,20,1000000]),(4,[5,6,7,9,11,13,15,19,20,21]),(6,[7,9,11,13,15,19,22])] (.node (.node (.node .nil 27 [(0,[5,6,7,9,11,12,1000000]),(2,[5,6,7,9,11,12,13,14]),(4,[5,6,7,9,11,15]),(6,[5,6,7,9,11,15,16,17,18]),(8,[5,6,7,9,11,15,16,17,18,19,20])] .nil) 28 [(0,[5,6,7,9,10,11,1000000]),(2,[5,6,7,9,10,11,12,13]),(4,[5,6,7,9,10,14,17]),(6,[5,6,7,9,10,14,17,18])] .nil) 30 [(0,[1,3,12,13,14]),(2,[3,24,25,26])] (.node .nil 31 [(0,[1,2,3,4]),(2,[1,2,3,5,6,7]),(4,[1,2,3,5,6,8]),(6,[1,2,3,5,6,9,10]),(8,[1,2,3,9,11]),(10,[1,2,3,9,12])] .nil)))) 34 [(1,[2,3,40,41,42]),(3,[3,56,57,58])] (.node (.node (.node (.node (.node .nil 36 [(0,[0,1,7,8])] .nil) 39 [(0,[2,4,7,22,23,24])] .nil) 40 [(0,[8,7000000])] (.node (.node .nil 45 [(0,[1,5,6,7,29,30,31]),(2,[1,5,6,7,10,11]),(4,[1,5,6,7,10,11,12,76,77,78])] .nil) 52 [(1,[1,21,22,23]),(3,[1,7,21,22,23,27,28,29])] .nil)) 53 [(0,[0,5,14,15]),(2,[5,23,24,25]),(4,[5,7,23,24,25,30,31,32])] (.node (.node (.node .nil 54 [(0,[3,7,8,9])] .nil) 55 [(0,[0,4,7])] .nil) 56 [(0,[0,2,3])] (.node .nil 65 [(0,[0,3]),(2,[0,3,4,5])] .nil))) 66 [(0,[0,6,7,8]),(2,[0,6,7,8,9,10])] (.node (.node (.node (.node .nil 67 [(0,[0,1,5])] .nil) 68 [(0,[0,1,5,6])] .nil) 69 [(0,[0,1,5])] (.node (.node .nil 70 [(0,[0,5,6,7,8]),(2,[0,5,6,7,8,9,10])] .nil) 73 [(0,[2,3,4,5,10300000])] .nil)) 76 [(0,[2,3,4,6,7,8,9,10,11,12])] (.node (.node (.node .nil 78 [(0,[1,2,3,4,9])] .nil) 79 [(0,[0,1,2,7,8])] .nil) 80 [(0,[1,2,5,6])] (.node .nil 85 [(0,[2,3,10,11,12])] .nil))))) 87 [(0,[4,9,10,40,41,42]),(2,[4,9,10,12,13,40,41,42,59,60,61])] (.node (.node (.node (.node (.node (.node .nil 89 [(0,[0,3,4,5,41,42,43]),(2,[0,3,4,5,60,61,62]),(4,[0,4,5,12,89,90,91]),(6,[0,4,5,16,143,144,145]),(8,[0,4,16,162,163,164])] .nil) 91 [(1,[1,36,37,38]),(3,[1,55,56,57])] .nil) 93 [(0,[3,4,18,19,20]),(2,[3,4,5,18,19,20,26,27,28]),(4,[3,51,52,53])] (.node (.node .nil 94 [(0,[0,1,7,8])] .nil) 95 [(0,[2,5,6]),(2,[2,5,6,45,46,47])] .nil)) 100 [(0,[0,1,7,8]),(2,[0,1,22,23])] (.node (.node (.node .nil 101 [(0,[0,1,7,8])] .nil) 102 [(0,[0,1,7,8])] .nil) 107 [(0,[0,1,2,3,8,9])] (.node .nil 110 [(0,[0,1,12,13])] .nil))) 111 [(0,[5,6,7,14100000])] (.node (.node (.node (.node .nil 117 [(0,[0,1,7,8])] .nil) 118 [(0,[0,3,9,10,11]),(2,[6,25,26,27])] .nil) 119 [(0,[4,6,21,22])] (.node (.node .nil 120 [(0,[2,3,10,11,12]),(2,[2,3,29,30,31])] .nil) 122 [(0,[1,2,3,12,13,14]),(2,[1,2,3,29,30,31])] .nil)) 130 [(0,[0,1,5,16,17,18])] (.node (.node (.node .nil 132 [(0,[0,1,5,11,12])] .nil) 134 [(0,[3,8,9,10])] .nil) 138 [(0,[0,1,7,8])] (.node .nil 139 [(0,[0,1,2,6]),(2,[0,1,2,6,7])] .nil)))) 140 [(0,[0,6,7,8,9]),(2,[0,6,7,10])] (.node (.node (.node (.node (.node .nil 141 [(0,[0,1,6,7,8,9])] .nil) 143 [(0,[0,6,7])] .nil) 144 [(0,[0,1,2,7,8]),(2,[0,1,2,7,8]),(4,[0,1,2,7,8,9]),(6,[0,1,2,7,8,10])] (.node (.node .nil 146 [(0,[0,1,9,10]),(2,[0,1,9,10]),(4,[0,1,9,10])] .nil) 147 [(0,[0,1,10,11]),(2,[0,1,10,11]),(4,[0,1,10,11]),(6,[0,1,10,11]),(8,[0,1,10,11])] .nil)) 150 [(0,[0,3,4])] (.node (.node (.node .nil 163 [(0,[3,6,7,8])] .nil) 177 [(0,[0,2,3,8])] .nil) 183 [(1,[0,1,5,6,7,8,9,10])] (.node .nil 185 [(0,[0,1,2,6,7,8]),(2,[0,1,2,6]),(4,[0,1,2,6,7,8])] .nil))) 187 [(0,[1,2,7,11,12,13])] (.node (.node (.node (.node .nil 198 [(0,[0,1,5,6,7,8,9]),(2,[0,1,5,6,7,8,10])] .nil) 199 [(0,[0,1,2,3,8]),(2,[0,1,2,3,8,9])] .nil) 200 [(0,[0,1,4,10,11]),(2,[0,10,13]),(4,[0,2,4,14,15]),(6,[0,14,17]),(8,[0,1,2,3,4,18,19,20,21,22])] (.node .nil 202 [(9,[175]),(1,[0,7,8,9]),(3,[0,7,8,9,12]),(5,[0,7,8,9,14,15]),(7,[0,7,8,9,14,15,16])] .nil)) 204 [(0,[0,4,5]),(2,[4,6,7,8])] (.node (.node (.node .nil 205 [(0,[0,2,4,10,11])] .nil) 206 [(0,[0,1,7,8])] .nil) 208 [(0,[1,2,10])] (.node .nil 209 [(0,[0,1,2,3,10])] .nil))))))
def EQ:Tab Bool:=(.node (.node (.node (.node (.node (.node .nil 2 true .nil) 3 true (.node .nil 4 true .nil)) 5 true (.node (.node .nil 6 true .nil) 7 true .nil)) 8 true (.node (.node (.node .nil 9 true .nil) 10 true (.node .nil 11 true .nil)) 12 true (.node (.node .nil 15 true .nil) 16 true .nil))) 17 true (.node (.node (.node (.node .nil 20 true .nil) 21 true (.node .nil 22 true .nil)) 23 true (.node (.node .nil 39 true .nil) 40 true .nil)) 41 true (.node (.node (.node .nil 42 true .nil) 43 true .nil) 44 true (.node (.node .nil 45 true .nil) 46 true .nil)))) 56 true (.node (.node (.node (.node (.node .nil 74 true .nil) 112 true (.node .nil 122 true .nil)) 134 true (.node (.node .nil 142 true .nil) 143 true .nil)) 144 true (.node (.node (.node .nil 159 true .nil) 182 true .nil) 184 true (.node (.node .nil 194 true .nil) 215 true .nil))) 216 true (.node (.node (.node (.node .nil 218 true .nil) 227 true (.node .nil 240 true .nil)) 244 true (.node (.node .nil 248 true .nil) 249 true .nil)) 255 true (.node (.node (.node .nil 269 true .nil) 273 true .nil) 274 true (.node (.node .nil 276 true .nil) 277 true .nil)))))
def GT(g:Nat):Option (List AV):=bif Nat.beq g 2 then some (b1l .i64 [0,0,0,0,0,0,1,1,1,1,2,16,2,16,2,16,2,16,2,16,2,16,3,3,2,2,1,16,1,1,0,0])else bif Nat.beq g 1 then some (b1l .u8 [0,1,56,2,57,49,28,3,61,58,42,50,38,29,17,4,62,47,59,36,45,43,51,22,53,39,33,30,24,18,12,5,63,55,48,27,60,41,37,16,46,35,44,21,52,32,23,11,54,26,40,15,34,20,31,10,25,14,19,9,13,8,7,6])else bif Nat.beq g 0 then some (b1l .u8 [0,1,28,2,29,14,24,3,30,22,20,15,25,17,4,8,31,27,13,23,21,19,16,7,26,12,18,6,11,5,10,9])else none
noncomputable def L:Laid:={ P:=Tryz.prog,T:=TT,F:=FT,keep:=KT,eqs:=EQ,G:=GT,thaw:=λg=>decide (g=154∨g=84∨g=54∨g=88∨g=126∨g=33∨g=79),ro:=λg=>decide (g=129∨g=130),ext:=λf=>Nat.beq f 184,lend:=λg=>false }
theorem d4k:∀i x,TT.get i=some x→Tryz.prog.types[i]?=some x:=b5f (n:=280) (l:=Tryz.types.toList) (by kernel_rfl) (by kernel_rfl)
theorem d6i:∀i x,FT.get i=some x→Tryz.prog.funcs[i]?=some x:=b5f (n:=235) (l:=Tryz.funcs.toList) (by kernel_rfl) (by kernel_rfl)
theorem laidOk:LaidOk L:={
 types:=d4k
 funcs:=d6i
 shape:=by kernel_rfl
 names:=by kernel_rfl
 eqs:=by kernel_rfl
 ext:=λf h=>by
  have h:Nat.beq f 184=true:=h;have:f=184:=by simpa using h
  subst this;exact⟨Tryz.f184,by kernel_rfl,by kernel_rfl,by kernel_rfl,by kernel_rfl,by kernel_rfl⟩
 mixed:=by kernel_rfl
 draws:=by kernel_rfl
 yid:=by kernel_rfl
 rf:=by kernel_rfl}
theorem ok:EnvOk L.env:=laidOk.envOk
theorem dr:DrOk L.env:=laidOk.drawn
attribute [go_sem] b1l
end Go.QInst
/- Type facts (printed by AxTypes). -/
namespace Go.QInst
open Go.Proofs Go.Ax
@[go_sem] theorem roF(g:FuncId):L.env.ro g=decide (g=129∨g=130):=by rfl
@[go_sem] theorem f0g(g:FuncId):L.env.thaw g=decide (g=154∨g=84∨g=54∨g=88∨g=126∨g=33∨g=79):=by rfl
@[go_sem] theorem kp5_0:L.env.keep 5 0=[1,2]:=by kernel_rfl
@[go_sem] theorem kp5_2:L.env.keep 5 2=[1,2,3,4,5,1000000]:=by kernel_rfl
@[go_sem] theorem kp11_0:L.env.keep 11 0=[0,19,20,21]:=by kernel_rfl
@[go_sem] theorem kp11_2:L.env.keep 11 2=[8,9,51,52,53]:=by kernel_rfl
@[go_sem] theorem kp11_4:L.env.keep 11 4=[8,9,101,102]:=by kernel_rfl
@[go_sem] theorem kp13_0:L.env.keep 13 0=[0,1,5]:=by kernel_rfl
@[go_sem] theorem kp14_0:L.env.keep 14 0=[0,1,5]:=by kernel_rfl
@[go_sem] theorem kp15_0:L.env.keep 15 0=[0,1,5]:=by kernel_rfl
@[go_sem] theorem kp21_0:L.env.keep 21 0=[2,5100000]:=by kernel_rfl
@[go_sem] theorem kp22_0:L.env.keep 22 0=[7,8,9,10]:=by kernel_rfl
@[go_sem] theorem kp23_0:L.env.keep 23 0=[7,8,9]:=by kernel_rfl
@[go_sem] theorem kp23_2:L.env.keep 23 2=[7,8,9,10,11,30,31,32]:=by kernel_rfl
@[go_sem] theorem kp23_4:L.env.keep 23 4=[7,8,9,10,11,12,14,30,31,32,38]:=by kernel_rfl
@[go_sem] theorem kp24_0:L.env.keep 24 0=[1,7,30,31,32,1000000]:=by kernel_rfl
@[go_sem] theorem kp24_2:L.env.keep 24 2=[1,7,10,30,31,32,36,37,38]:=by kernel_rfl
@[go_sem] theorem kp24_4:L.env.keep 24 4=[1,13,14,15,65,66]:=by kernel_rfl
@[go_sem] theorem kp24_6:L.env.keep 24 6=[15,17,80,81]:=by kernel_rfl
@[go_sem] theorem kp25_0:L.env.keep 25 0=[7,16,17,18]:=by kernel_rfl
@[go_sem] theorem kp26_0:L.env.keep 26 0=[5,6,7,9,11,13,15,16,17]:=by kernel_rfl
@[go_sem] theorem kp26_2:L.env.keep 26 2=[5,6,7,9,11,13,15,19,20,1000000]:=by kernel_rfl
@[go_sem] theorem kp26_4:L.env.keep 26 4=[5,6,7,9,11,13,15,19,20,21]:=by kernel_rfl
@[go_sem] theorem kp26_6:L.env.keep 26 6=[7,9,11,13,15,19,22]:=by kernel_rfl
@[go_sem] theorem kp27_0:L.env.keep 27 0=[5,6,7,9,11,12,1000000]:=by kernel_rfl
@[go_sem] theorem kp27_2:L.env.keep 27 2=[5,6,7,9,11,12,13,14]:=by kernel_rfl
@[go_sem] theorem kp27_4:L.env.keep 27 4=[5,6,7,9,11,15]:=by kernel_rfl
@[go_sem] theorem kp27_6:L.env.keep 27 6=[5,6,7,9,11,15,16,17,18]:=by kernel_rfl
@[go_sem] theorem kp27_8:L.env.keep 27 8=[5,6,7,9,11,15,16,17,18,19,20]:=by kernel_rfl
@[go_sem] theorem kp28_0:L.env.keep 28 0=[5,6,7,9,10,11,1000000]:=by kernel_rfl
@[go_sem] theorem kp28_2:L.env.keep 28 2=[5,6,7,9,10,11,12,13]:=by kernel_rfl
@[go_sem] theorem kp28_4:L.env.keep 28 4=[5,6,7,9,10,14,17]:=by kernel_rfl
@[go_sem] theorem kp28_6:L.env.keep 28 6=[5,6,7,9,10,14,17,18]:=by kernel_rfl
@[go_sem] theorem kp36_0:L.env.keep 36 0=[0,1,7,8]:=by kernel_rfl
@[go_sem] theorem kp39_0:L.env.keep 39 0=[2,4,7,22,23,24]:=by kernel_rfl
@[go_sem] theorem kp40_0:L.env.keep 40 0=[8,7000000]:=by kernel_rfl
@[go_sem] theorem kp52_1:L.env.keep 52 1=[1,21,22,23]:=by kernel_rfl
@[go_sem] theorem kp52_3:L.env.keep 52 3=[1,7,21,22,23,27,28,29]:=by kernel_rfl
@[go_sem] theorem kp53_0:L.env.keep 53 0=[0,5,14,15]:=by kernel_rfl
@[go_sem] theorem kp53_2:L.env.keep 53 2=[5,23,24,25]:=by kernel_rfl
@[go_sem] theorem kp53_4:L.env.keep 53 4=[5,7,23,24,25,30,31,32]:=by kernel_rfl
@[go_sem] theorem kp54_0:L.env.keep 54 0=[3,7,8,9]:=by kernel_rfl
@[go_sem] theorem kp55_0:L.env.keep 55 0=[0,4,7]:=by kernel_rfl
@[go_sem] theorem kp56_0:L.env.keep 56 0=[0,2,3]:=by kernel_rfl
@[go_sem] theorem kp65_0:L.env.keep 65 0=[0,3]:=by kernel_rfl
@[go_sem] theorem kp65_2:L.env.keep 65 2=[0,3,4,5]:=by kernel_rfl
@[go_sem] theorem kp66_0:L.env.keep 66 0=[0,6,7,8]:=by kernel_rfl
@[go_sem] theorem kp66_2:L.env.keep 66 2=[0,6,7,8,9,10]:=by kernel_rfl
@[go_sem] theorem kp67_0:L.env.keep 67 0=[0,1,5]:=by kernel_rfl
@[go_sem] theorem kp68_0:L.env.keep 68 0=[0,1,5,6]:=by kernel_rfl
@[go_sem] theorem kp69_0:L.env.keep 69 0=[0,1,5]:=by kernel_rfl
@[go_sem] theorem kp70_0:L.env.keep 70 0=[0,5,6,7,8]:=by kernel_rfl
@[go_sem] theorem kp70_2:L.env.keep 70 2=[0,5,6,7,8,9,10]:=by kernel_rfl
@[go_sem] theorem kp85_0:L.env.keep 85 0=[2,3,10,11,12]:=by kernel_rfl
@[go_sem] theorem kp100_0:L.env.keep 100 0=[0,1,7,8]:=by kernel_rfl
@[go_sem] theorem kp100_2:L.env.keep 100 2=[0,1,22,23]:=by kernel_rfl
@[go_sem] theorem kp101_0:L.env.keep 101 0=[0,1,7,8]:=by kernel_rfl
@[go_sem] theorem kp102_0:L.env.keep 102 0=[0,1,7,8]:=by kernel_rfl
@[go_sem] theorem kp107_0:L.env.keep 107 0=[0,1,2,3,8,9]:=by kernel_rfl
@[go_sem] theorem kp110_0:L.env.keep 110 0=[0,1,12,13]:=by kernel_rfl
@[go_sem] theorem kp111_0:L.env.keep 111 0=[5,6,7,14100000]:=by kernel_rfl
@[go_sem] theorem kp117_0:L.env.keep 117 0=[0,1,7,8]:=by kernel_rfl
@[go_sem] theorem kp118_0:L.env.keep 118 0=[0,3,9,10,11]:=by kernel_rfl
@[go_sem] theorem kp118_2:L.env.keep 118 2=[6,25,26,27]:=by kernel_rfl
@[go_sem] theorem kp139_0:L.env.keep 139 0=[0,1,2,6]:=by kernel_rfl
@[go_sem] theorem kp139_2:L.env.keep 139 2=[0,1,2,6,7]:=by kernel_rfl
@[go_sem] theorem kp140_0:L.env.keep 140 0=[0,6,7,8,9]:=by kernel_rfl
@[go_sem] theorem kp140_2:L.env.keep 140 2=[0,6,7,10]:=by kernel_rfl
@[go_sem] theorem kp141_0:L.env.keep 141 0=[0,1,6,7,8,9]:=by kernel_rfl
@[go_sem] theorem kp143_0:L.env.keep 143 0=[0,6,7]:=by kernel_rfl
@[go_sem] theorem kp144_0:L.env.keep 144 0=[0,1,2,7,8]:=by kernel_rfl
@[go_sem] theorem kp144_2:L.env.keep 144 2=[0,1,2,7,8]:=by kernel_rfl
@[go_sem] theorem kp144_4:L.env.keep 144 4=[0,1,2,7,8,9]:=by kernel_rfl
@[go_sem] theorem kp144_6:L.env.keep 144 6=[0,1,2,7,8,10]:=by kernel_rfl
@[go_sem] theorem kp146_0:L.env.keep 146 0=[0,1,9,10]:=by kernel_rfl
@[go_sem] theorem kp146_2:L.env.keep 146 2=[0,1,9,10]:=by kernel_rfl
@[go_sem] theorem kp146_4:L.env.keep 146 4=[0,1,9,10]:=by kernel_rfl
@[go_sem] theorem kp147_0:L.env.keep 147 0=[0,1,10,11]:=by kernel_rfl
@[go_sem] theorem kp147_2:L.env.keep 147 2=[0,1,10,11]:=by kernel_rfl
@[go_sem] theorem kp147_4:L.env.keep 147 4=[0,1,10,11]:=by kernel_rfl
@[go_sem] theorem kp147_6:L.env.keep 147 6=[0,1,10,11]:=by kernel_rfl
@[go_sem] theorem kp147_8:L.env.keep 147 8=[0,1,10,11]:=by kernel_rfl
@[go_sem] theorem kp150_0:L.env.keep 150 0=[0,3,4]:=by kernel_rfl
@[go_sem] theorem kp177_0:L.env.keep 177 0=[0,2,3,8]:=by kernel_rfl
@[go_sem] theorem by3:L.env.bytes 3=8:=by kernel_rfl
@[go_sem] theorem by5:L.env.bytes 5=1:=by kernel_rfl
@[go_sem] theorem f2a:L.env.bytes 25=24:=by kernel_rfl
@[go_sem] theorem f1z:L.env.bytes 34=24:=by kernel_rfl
@[go_sem] theorem f1y:L.env.bytes 42=1:=by kernel_rfl
@[go_sem] theorem f1x:L.env.bytes 51=48:=by kernel_rfl
@[go_sem] theorem e80:L.env.bytes 117=8:=by kernel_rfl
@[go_sem] theorem e7z:L.env.bytes 122=8:=by kernel_rfl
@[go_sem] theorem is3:isT L.env 3=true:=by kernel_rfl
@[go_sem] theorem sz3:L.env.sz 3=1:=by kernel_rfl
@[go_sem] theorem ag3:b7s L.env 3=some false:=by kernel_rfl
@[go_sem] theorem in3:d0x L.env 3=some .i64:=by kernel_rfl
@[go_sem] theorem ze3:L.env.zero 3=some [.int .i64 0]:=by kernel_rfl
@[go_sem] theorem is5:isT L.env 5=true:=by kernel_rfl
@[go_sem] theorem sz5:L.env.sz 5=1:=by kernel_rfl
@[go_sem] theorem ag5:b7s L.env 5=some false:=by kernel_rfl
@[go_sem] theorem in5:d0x L.env 5=some .u8:=by kernel_rfl
@[go_sem] theorem ze5:L.env.zero 5=some [.int .u8 0]:=by kernel_rfl
@[go_sem] theorem ze9:L.env.zero 9=some [.str []]:=by kernel_rfl
@[go_sem] theorem f4b:isT L.env 25=true:=by kernel_rfl
@[go_sem] theorem f3d:L.env.sz 25=1:=by kernel_rfl
@[go_sem] theorem f4x:b7s L.env 25=some false:=by kernel_rfl
@[go_sem] theorem f3n:slT L.env 25=some 5:=by kernel_rfl
@[go_sem] theorem f4p:apT L.env 25 25=some 5:=by kernel_rfl
@[go_sem] theorem f3t{k:Nat}(h:(k≤1000000000)=True):a26 L.env 5 k=true:=a6u (of_eq_true h) (by rw[by5];decide)
@[go_sem] theorem f2v:L.env.zero 25=some [.nilslice]:=by kernel_rfl
@[go_sem] theorem f3m:slT L.env 31=some 85:=by kernel_rfl
@[go_sem] theorem f3l:slT L.env 32=some 9:=by kernel_rfl
@[go_sem] theorem f4a:isT L.env 33=true:=by kernel_rfl
@[go_sem] theorem f3c:L.env.sz 33=1:=by kernel_rfl
@[go_sem] theorem f4w:b7s L.env 33=some false:=by kernel_rfl
@[go_sem] theorem f3k:slT L.env 33=some 146:=by kernel_rfl
@[go_sem] theorem f3z:isT L.env 34=true:=by kernel_rfl
@[go_sem] theorem f3b:L.env.sz 34=1:=by kernel_rfl
@[go_sem] theorem f4v:b7s L.env 34=some false:=by kernel_rfl
@[go_sem] theorem f3j:slT L.env 34=some 3:=by kernel_rfl
@[go_sem] theorem f4o:apT L.env 34 34=some 3:=by kernel_rfl
@[go_sem] theorem f3s{k:Nat}(h:(k≤1000000000)=True):a26 L.env 3 k=true:=a6u (of_eq_true h) (by rw[by3];decide)
@[go_sem] theorem f2u:L.env.zero 34=some [.nilslice]:=by kernel_rfl
@[go_sem] theorem f3y:isT L.env 36=true:=by kernel_rfl
@[go_sem] theorem f3a:L.env.sz 36=4:=by kernel_rfl
@[go_sem] theorem f4u:b7s L.env 36=some true:=by kernel_rfl
@[go_sem] theorem f4j:d7d L.env 36=true:=by kernel_rfl
@[go_sem] theorem e94:c9h L.env 36 0=some (0,1):=by kernel_rfl
@[go_sem] theorem e93:c9h L.env 36 1=some (1,1):=by kernel_rfl
@[go_sem] theorem e9z:d6m L.env 36 2=some (2,33):=by kernel_rfl
@[go_sem] theorem e92:c9h L.env 36 3=some (3,1):=by kernel_rfl
@[go_sem] theorem f2t:L.env.zero 36=some [.nilslice,.nilslice,.nilslice,.nilslice]:=by kernel_rfl
@[go_sem] theorem f3i:slT L.env 38=some 44:=by kernel_rfl
@[go_sem] theorem f4i:d7d L.env 41=true:=by kernel_rfl
@[go_sem] theorem e91:c9h L.env 41 0=some (0,1):=by kernel_rfl
@[go_sem] theorem f2s:L.env.zero 41=some [.int .i64 0,.int .i64 0]:=by kernel_rfl
@[go_sem] theorem f3x:isT L.env 42=true:=by kernel_rfl
@[go_sem] theorem f2z:L.env.sz 42=1:=by kernel_rfl
@[go_sem] theorem f4t:b7s L.env 42=some false:=by kernel_rfl
@[go_sem] theorem f2r:L.env.zero 42=some [.int .u8 0]:=by kernel_rfl
@[go_sem] theorem f4h:d7d L.env 44=true:=by kernel_rfl
@[go_sem] theorem e90:c9h L.env 44 1=some (1,2):=by kernel_rfl
@[go_sem] theorem f2q:L.env.zero 44=some [.int .u8 0,.int .i64 0,.int .i64 0,.int .u8 0,.int .i64 0]:=by kernel_rfl
@[go_sem] theorem f3h:slT L.env 48=some 51:=by kernel_rfl
@[go_sem] theorem f4n:apT L.env 48 48=some 51:=by kernel_rfl
@[go_sem] theorem f3r{k:Nat}(h:(k≤1000000000)=True):a26 L.env 51 k=true:=a6u (of_eq_true h) (by rw[f1x];decide)
@[go_sem] theorem f3w:isT L.env 49=true:=by kernel_rfl
@[go_sem] theorem f2y:L.env.sz 49=1:=by kernel_rfl
@[go_sem] theorem f4s:b7s L.env 49=some false:=by kernel_rfl
@[go_sem] theorem f3g:slT L.env 49=some 42:=by kernel_rfl
@[go_sem] theorem f4m:apT L.env 49 49=some 42:=by kernel_rfl
@[go_sem] theorem f3q{k:Nat}(h:(k≤1000000000)=True):a26 L.env 42 k=true:=a6u (of_eq_true h) (by rw[f1y];decide)
@[go_sem] theorem f2p:L.env.zero 49=some [.nilslice]:=by kernel_rfl
@[go_sem] theorem f3v:isT L.env 51=true:=by kernel_rfl
@[go_sem] theorem f2x:L.env.sz 51=2:=by kernel_rfl
@[go_sem] theorem f4r:b7s L.env 51=some true:=by kernel_rfl
@[go_sem] theorem f4g:d7d L.env 51=true:=by kernel_rfl
@[go_sem] theorem e9y:d6m L.env 51 0=some (0,49):=by kernel_rfl
@[go_sem] theorem e8z:c9h L.env 51 0=some (0,1):=by kernel_rfl
@[go_sem] theorem e9x:d6m L.env 51 1=some (1,49):=by kernel_rfl
@[go_sem] theorem e8y:c9h L.env 51 1=some (1,1):=by kernel_rfl
@[go_sem] theorem f2o:L.env.zero 51=some [.nilslice,.nilslice]:=by kernel_rfl
@[go_sem] theorem f3f:slT L.env 55=some 34:=by kernel_rfl
@[go_sem] theorem f4l:apT L.env 55 55=some 34:=by kernel_rfl
@[go_sem] theorem f3p{k:Nat}(h:(k≤1000000000)=True):a26 L.env 34 k=true:=a6u (of_eq_true h) (by rw[f1z];decide)
@[go_sem] theorem f3u:isT L.env 56=true:=by kernel_rfl
@[go_sem] theorem f2w:L.env.sz 56=1:=by kernel_rfl
@[go_sem] theorem f4q:b7s L.env 56=some false:=by kernel_rfl
@[go_sem] theorem f2n:L.env.zero 56=some [.int .i64 0]:=by kernel_rfl
@[go_sem] theorem f2m:L.env.zero 74=some [.int .u8 0]:=by kernel_rfl
@[go_sem] theorem f3e:slT L.env 81=some 25:=by kernel_rfl
@[go_sem] theorem f4k:apT L.env 81 81=some 25:=by kernel_rfl
@[go_sem] theorem f3o{k:Nat}(h:(k≤1000000000)=True):a26 L.env 25 k=true:=a6u (of_eq_true h) (by rw[f2a];decide)
@[go_sem] theorem f4f:d7d L.env 85=true:=by kernel_rfl
@[go_sem] theorem e8x:c9h L.env 85 0=some (0,1):=by kernel_rfl
@[go_sem] theorem f2l:L.env.zero 85=some [.int .u8 0,.nilslice,.int .i64 0,.int .i64 0]:=by kernel_rfl
@[go_sem] theorem f0r:slT L.env 106=some 74:=by kernel_rfl
@[go_sem] theorem f0q:slT L.env 114=some 117:=by kernel_rfl
@[go_sem] theorem f1f{k:Nat}(h:(k≤1000000000)=True):c4e L.env 117 (k:Int) (k:Int)=true:=b6p (of_eq_true h) (by rw[e80];decide)
@[go_sem] theorem f1o:isT L.env 117=true:=by kernel_rfl
@[go_sem] theorem f0m:L.env.sz 117=1:=by kernel_rfl
@[go_sem] theorem f2i:b7s L.env 117=some false:=by kernel_rfl
@[go_sem] theorem f0e:L.env.und 117=some (.map 3 4):=by kernel_rfl
@[go_sem] theorem f0d:a7w L.env 117=true:=by kernel_rfl
@[go_sem] theorem f0c:L.env.zero 117=some [.nilmap]:=by kernel_rfl
@[go_sem] theorem f1n:isT L.env 121=true:=by kernel_rfl
@[go_sem] theorem f0l:L.env.sz 121=1:=by kernel_rfl
@[go_sem] theorem f2h:b7s L.env 121=some false:=by kernel_rfl
@[go_sem] theorem f0p:slT L.env 121=some 122:=by kernel_rfl
@[go_sem] theorem f2c:apT L.env 121 121=some 122:=by kernel_rfl
@[go_sem] theorem f0t{k:Nat}(h:(k≤1000000000)=True):a26 L.env 122 k=true:=a6u (of_eq_true h) (by rw[e7z];decide)
@[go_sem] theorem f0b:L.env.zero 121=some [.nilslice]:=by kernel_rfl
@[go_sem] theorem f1m:isT L.env 122=true:=by kernel_rfl
@[go_sem] theorem f0k:L.env.sz 122=1:=by kernel_rfl
@[go_sem] theorem f2g:b7s L.env 122=some false:=by kernel_rfl
@[go_sem] theorem f1t:d0x L.env 122=some .u64:=by kernel_rfl
@[go_sem] theorem f0a:L.env.zero 122=some [.int .u64 0]:=by kernel_rfl
@[go_sem] theorem f1l:isT L.env 184=true:=by kernel_rfl
@[go_sem] theorem f0j:L.env.sz 186=2:=by kernel_rfl
@[go_sem] theorem f2f:b7s L.env 186=some true:=by kernel_rfl
@[go_sem] theorem e7e:d6m L.env 186 0=some (0,25):=by kernel_rfl
@[go_sem] theorem e7d:d6m L.env 186 1=some (1,25):=by kernel_rfl
@[go_sem] theorem f09:L.env.zero 186=some [.nilslice,.nilslice]:=by kernel_rfl
@[go_sem] theorem f0i:L.env.sz 190=1:=by kernel_rfl
@[go_sem] theorem f2e:b7s L.env 190=some false:=by kernel_rfl
@[go_sem] theorem f0o:slT L.env 229=some 49:=by kernel_rfl
@[go_sem] theorem f1k:isT L.env 240=true:=by kernel_rfl
@[go_sem] theorem f0h:L.env.sz 240=1:=by kernel_rfl
@[go_sem] theorem f2d:b7s L.env 240=some false:=by kernel_rfl
@[go_sem] theorem f1s:d0x L.env 240=some .u64:=by kernel_rfl
@[go_sem] theorem f08:L.env.zero 240=some [.int .u64 0]:=by kernel_rfl
end Go.QInst
/- The facts that calls may use: the closed run of the chapter's examples; names of nodes. -/
namespace Go.QInst
open Go.Proofs Go.Ax
def Mf:List Fact:=[⟨6,[],.bool true⟩,⟨174,[.str [110,48,48]],.bool true⟩,⟨174,[.str [110,48,49]],.bool true⟩,⟨174,[.str [110,48,50]],.bool true⟩,⟨174,[.str [110,48,51]],.bool true⟩,⟨174,[.str [110,48,52]],.bool true⟩,⟨174,[.str [110,48,53]],.bool true⟩,⟨174,[.str [110,48,54]],.bool true⟩,⟨174,[.str [110,48,55]],.bool true⟩,⟨174,[.str [110,48,56]],.bool true⟩,⟨174,[.str [110,48,57]],.bool true⟩,⟨174,[.str [110,49,48]],.bool true⟩,⟨174,[.str [110,49,49]],.bool true⟩,⟨174,[.str [110,49,50]],.bool true⟩,⟨174,[.str [110,49,51]],.bool true⟩]
theorem no(g:Nat)(h:(Mf.all λy=>!Nat.beq y.g g)=true):∀y∈Mf,y.g≠g:=by intro y hy e;have:=List.all_eq_true.1 h y hy;rw[e]at this;simp at this
theorem factsT:∀y∈Mf,y.v = .bool true:=by intro y hy;simp only[Mf,List.mem_cons,List.not_mem_nil,or_false]at hy;rcases hy with rfl|rfl|rfl|rfl|rfl|rfl|rfl|rfl|rfl|rfl|rfl|rfl|rfl|rfl|rfl<;>rfl
theorem b8u:sem L.env Mf 6 [] []=some (.bool true,[]):=b8a factsT (x:=⟨6,[],.bool true⟩) (by simp[Mf])
end Go.QInst
