/- The evaluator's tables for this program (printed by mkinst.py). -/
import Derived.Test.YtlldffjabagdbaaGreatDoorAxC
import Derived.Test.YtlldffjabagdbaaGreatDoorAxPrim
import Derived.Test.YtlldffjabagdbaaGreatDoorChecked
import Derived.KernelRfl
import Derived.Test.YtlldffjabagdbaaGreatDoorAxD
import Derived.Test.YtlldffjabagdbaaGreatDoorPcP
set_option linter.unusedSimpArgs false
set_option linter.unusedVariables false
namespace Go.TInst
open Go.Proofs Go.Ax
set_option maxRecDepth 100000
def b21(k:IntKind)(l:List Int):List AV:=l.map (.int k)
noncomputable def TT:Tab TypeInfo:=(.node (.node (.node (.node (.node (.node (.node (.node (.node .nil 0 Tryz.t0 .nil) 1 Tryz.t1 .nil) 2 Tryz.t2 (.node .nil 3 Tryz.t3 .nil)) 4 Tryz.t4 (.node (.node .nil 5 Tryz.t5 .nil) 6 Tryz.t6 (.node .nil 7 Tryz.t7 .nil))) 8 Tryz.t8 (.node (.node (.node .nil 9 Tryz.t9 .nil) 10 Tryz.t10 (.node .nil 11 Tryz.t11 .nil)) 12 Tryz.t12 (.node (.node .nil 13 Tryz.t13 .nil) 14 Tryz.t14 (.node .nil 15 Tryz.t15 .nil)))) 16 Tryz.t16 (.node (.node (.node (.node (.node .nil 17 Tryz.t17 .nil) 18 Tryz.t18 .nil) 19 Tryz.t19 (.node .nil 20 Tryz.t20 .nil)) 21 Tryz.t21 (.node (.node .nil 22 Tryz.t22 .nil) 23 Tryz.t23 (.node .nil 24 Tryz.t24 .nil))) 25 Tryz.t25 (.node (.node (.node .nil 26 Tryz.t26 .nil) 27 Tryz.t27 (.node .nil 28 Tryz.t28 .nil)) 29 Tryz.t29 (.node (.node .nil 30 Tryz.t30 .nil) 31 Tryz.t31 (.node .nil 32 Tryz.t32 .nil))))) 33 Tryz.t33 (.node (.node (.node (.node (.node (.node .nil 34 Tryz.t34 .nil) 35 Tryz.t35 .nil) 36 Tryz.t36 (.node .nil 37 Tryz.t37 .nil)) 38 Tryz.t38 (.node (.node .nil 39 Tryz.t39 .nil) 40 Tryz.t40 (.node .nil 41 Tryz.t41 .nil))) 42 Tryz.t42 (.node (.node (.node .nil 43 Tryz.t43 .nil) 44 Tryz.t44 (.node .nil 45 Tryz.t45 .nil)) 46 Tryz.t46 (.node (.node .nil 47 Tryz.t47 .nil) 48 Tryz.t48 (.node .nil 49 Tryz.t49 .nil)))) 50 Tryz.t50 (.node (.node (.node (.node .nil 51 Tryz.t51 .nil) 52 Tryz.t52 (.node .nil 53 Tryz.t53 .nil)) 54 Tryz.t54 (.node (.node .nil 55 Tryz.t55 .nil) 56 Tryz.t56 (.node .nil 57 Tryz.t57 .nil))) 58 Tryz.t58 (.node (.node (.node .nil 59 Tryz.t59 .nil) 60 Tryz.t60 (.node .nil 61 Tryz.t61 .nil)) 62 Tryz.t62 (.node (.node .nil 63 Tryz.t63 .nil) 64 Tryz.t64 (.node .nil 65 Tryz.t65 .nil)))))) 66 Tryz.t66 (.node (.node (.node (.node (.node (.node (.node .nil 67 Tryz.t67 .nil) 68 Tryz.t68 .nil) 69 Tryz.t69 (.node .nil 70 Tryz.t70 .nil)) 71 Tryz.t71 (.node (.node .nil 72 Tryz.t72 .nil) 73 Tryz.t73 (.node .nil 74 Tryz.t74 .nil))) 75 Tryz.t75 (.node (.node (.node .nil 76 Tryz.t76 .nil) 77 Tryz.t77 (.node .nil 78 Tryz.t78 .nil)) 79 Tryz.t79 (.node (.node .nil 80 Tryz.t80 .nil) 81 Tryz.t81 (.node .nil 82 Tryz.t82 .nil)))) 83 Tryz.t83 (.node (.node (.node (.node .nil 84 Tryz.t84 .nil) 85 Tryz.t85 (.node .nil 86 Tryz.t86 .nil)) 87 Tryz.t87 (.node (.node .nil 88 Tryz.t88 .nil) 89 Tryz.t89 (.node .nil 90 Tryz.t90 .nil))) 91 Tryz.t91 (.node (.node (.node .nil 92 Tryz.t92 .nil) 93 Tryz.t93 (.node .nil 94 Tryz.t94 .nil)) 95 Tryz.t95 (.node (.node .nil 96 Tryz.t96 .nil) 97 Tryz.t97 (.node .nil 98 Tryz.t98 .nil))))) 99 Tryz.t99 (.node (.node (.node (.node (.node (.node .nil 100 Tryz.t100 .nil) 101 Tryz.t101 .nil) 102 Tryz.t102 (.node .nil 103 Tryz.t103 .nil)) 104 Tryz.t104 (.node (.node .nil 105 Tryz.t105 .nil) 106 Tryz.t106 (.node .nil 107 Tryz.t107 .nil))) 108 Tryz.t108 (.node (.node (.node .nil 109 Tryz.t109 .nil) 110 Tryz.t110 (.node .nil 111 Tryz.t111 .nil)) 112 Tryz.t112 (.node (.node .nil 113 Tryz.t113 .nil) 114 Tryz.t114 (.node .nil 115 Tryz.t115 .nil)))) 116 Tryz.t116 (.node (.node (.node (.node .nil 117 Tryz.t117 .nil) 118 Tryz.t118 (.node .nil 119 Tryz.t119 .nil)) 120 Tryz.t120 (.node (.node .nil 121 Tryz.t121 .nil) 122 Tryz.t122 (.node .nil 123 Tryz.t123 .nil))) 124 Tryz.t124 (.node (.node (.node .nil 125 Tryz.t125 .nil) 126 Tryz.t126 (.node .nil 127 Tryz.t127 .nil)) 128 Tryz.t128 (.node (.node .nil 129 Tryz.t129 .nil) 130 Tryz.t130 (.node .nil 131 Tryz.t131 .nil))))))) 132 Tryz.t132 (.node (.node (.node (.node (.node (.node (.node (.node .nil 133 Tryz.t133 .nil) 134 Tryz.t134 .nil) 135 Tryz.t135 (.node .nil 136 Tryz.t136 .nil)) 137 Tryz.t137 (.node (.node .nil 138 Tryz.t138 .nil) 139 Tryz.t139 (.node .nil 140 Tryz.t140 .nil))) 141 Tryz.t141 (.node (.node (.node .nil 142 Tryz.t142 .nil) 143 Tryz.t143 (.node .nil 144 Tryz.t144 .nil)) 145 Tryz.t145 (.node (.node .nil 146 Tryz.t146 .nil) 147 Tryz.t147 (.node .nil 148 Tryz.t148 .nil)))) 149 Tryz.t149 (.node (.node (.node (.node (.node .nil 150 Tryz.t150 .nil) 151 Tryz.t151 .nil) 152 Tryz.t152 (.node .nil 153 Tryz.t153 .nil)) 154 Tryz.t154 (.node (.node .nil 155 Tryz.t155 .nil) 156 Tryz.t156 (.node .nil 157 Tryz.t157 .nil))) 158 Tryz.t158 (.node (.node (.node .nil 159 Tryz.t159 .nil) 160 Tryz.t160 (.node .nil 161 Tryz.t161 .nil)) 162 Tryz.t162 (.node (.node .nil 163 Tryz.t163 .nil) 164 Tryz.t164 (.node .nil 165 Tryz.t165 .nil))))) 166 Tryz.t166 (.node (.node (.node (.node (.node (.node .nil 167 Tryz.t167 .nil) 168 Tryz.t168 .nil) 169 Tryz.t169 (.node .nil 170 Tryz.t170 .nil)) 171 Tryz.t171 (.node (.node .nil 172 Tryz.t172 .nil) 173 Tryz.t173 (.node .nil 174 Tryz.t174 .nil))) 175 Tryz.t175 (.node (.node (.node .nil 176 Tryz.t176 .nil) 177 Tryz.t177 (.node .nil 178 Tryz.t178 .nil)) 179 Tryz.t179 (.node (.node .nil 180 Tryz.t180 .nil) 181 Tryz.t181 (.node .nil 182 Tryz.t182 .nil)))) 183 Tryz.t183 (.node (.node (.node (.node .nil 184 Tryz.t184 .nil) 185 Tryz.t185 (.node .nil 186 Tryz.t186 .nil)) 187 Tryz.t187 (.node (.node .nil 188 Tryz.t188 .nil) 189 Tryz.t189 (.node .nil 190 Tryz.t190 .nil))) 191 Tryz.t191 (.node (.node (.node .nil 192 Tryz.t192 .nil) 193 Tryz.t193 (.node .nil 194 Tryz.t194 .nil)) 195 Tryz.t195 (.node (.node .nil 196 Tryz.t196 .nil) 197 Tryz.t197 (.node .nil 198 Tryz.t198 .nil)))))) 199 Tryz.t199 (.node (.node (.node (.node (.node (.node (.node .nil 200 Tryz.t200 .nil) 201 Tryz.t201 .nil) 202 Tryz.t202 (.node .nil 203 Tryz.t203 .nil)) 204 Tryz.t204 (.node (.node .nil 205 Tryz.t205 .nil) 206 Tryz.t206 (.node .nil 207 Tryz.t207 .nil))) 208 Tryz.t208 (.node (.node (.node .nil 209 Tryz.t209 .nil) 210 Tryz.t210 (.node .nil 211 Tryz.t211 .nil)) 212 Tryz.t212 (.node (.node .nil 213 Tryz.t213 .nil) 214 Tryz.t214 (.node .nil 215 Tryz.t215 .nil)))) 216 Tryz.t216 (.node (.node (.node (.node .nil 217 Tryz.t217 .nil) 218 Tryz.t218 (.node .nil 219 Tryz.t219 .nil)) 220 Tryz.t220 (.node (.node .nil 221 Tryz.t221 .nil) 222 Tryz.t222 (.node .nil 223 Tryz.t223 .nil))) 224 Tryz.t224 (.node (.node (.node .nil 225 Tryz.t225 .nil) 226 Tryz.t226 (.node .nil 227 Tryz.t227 .nil)) 228 Tryz.t228 (.node (.node .nil 229 Tryz.t229 .nil) 230 Tryz.t230 (.node .nil 231 Tryz.t231 .nil))))) 232 Tryz.t232 (.node (.node (.node (.node (.node (.node .nil 233 Tryz.t233 .nil) 234 Tryz.t234 .nil) 235 Tryz.t235 (.node .nil 236 Tryz.t236 .nil)) 237 Tryz.t237 (.node (.node .nil 238 Tryz.t238 .nil) 239 Tryz.t239 (.node .nil 240 Tryz.t240 .nil))) 241 Tryz.t241 (.node (.node (.node .nil 242 Tryz.t242 .nil) 243 Tryz.t243 (.node .nil 244 Tryz.t244 .nil)) 245 Tryz.t245 (.node (.node .nil 246 Tryz.t246 .nil) 247 Tryz.t247 (.node .nil 248 Tryz.t248 .nil)))) 249 Tryz.t249 (.node (.node (.node (.node .nil 250 Tryz.t250 .nil) 251 Tryz.t251 (.node .nil 252 Tryz.t252 .nil)) 253 Tryz.t253 (.node (.node .nil 254 Tryz.t254 .nil) 255 Tryz.t255 (.node .nil 256 Tryz.t256 .nil))) 257 Tryz.t257 (.node (.node (.node .nil 258 Tryz.t258 .nil) 259 Tryz.t259 (.node .nil 260 Tryz.t260 .nil)) 261 Tryz.t261 (.node (.node .nil 262 Tryz.t262 .nil) 263 Tryz.t263 (.node .nil 264 Tryz.t264 .nil))))))))
noncomputable def FT:Tab Func:=(.node (.node (.node (.node (.node (.node (.node (.node .nil 0 Tryz.f0 .nil) 1 Tryz.f1 (.node .nil 2 Tryz.f2 .nil)) 3 Tryz.f3 (.node (.node .nil 4 Tryz.f4 .nil) 5 Tryz.f5 .nil)) 6 Tryz.f6 (.node (.node (.node .nil 7 Tryz.f7 .nil) 8 Tryz.f8 (.node .nil 9 Tryz.f9 .nil)) 10 Tryz.f10 (.node (.node .nil 11 Tryz.f11 .nil) 12 Tryz.f12 .nil))) 13 Tryz.f13 (.node (.node (.node (.node .nil 14 Tryz.f14 .nil) 15 Tryz.f15 (.node .nil 16 Tryz.f16 .nil)) 17 Tryz.f17 (.node (.node .nil 18 Tryz.f18 .nil) 19 Tryz.f19 .nil)) 20 Tryz.f20 (.node (.node (.node .nil 21 Tryz.f21 .nil) 22 Tryz.f22 .nil) 23 Tryz.f23 (.node (.node .nil 24 Tryz.f24 .nil) 25 Tryz.f25 .nil)))) 26 Tryz.f26 (.node (.node (.node (.node (.node .nil 27 Tryz.f27 .nil) 28 Tryz.f28 (.node .nil 29 Tryz.f29 .nil)) 30 Tryz.f30 (.node (.node .nil 31 Tryz.f31 .nil) 32 Tryz.f32 .nil)) 33 Tryz.f33 (.node (.node (.node .nil 34 Tryz.f34 .nil) 35 Tryz.f35 .nil) 36 Tryz.f36 (.node (.node .nil 37 Tryz.f37 .nil) 38 Tryz.f38 .nil))) 39 Tryz.f39 (.node (.node (.node (.node .nil 40 Tryz.f40 .nil) 41 Tryz.f41 (.node .nil 42 Tryz.f42 .nil)) 43 Tryz.f43 (.node (.node .nil 44 Tryz.f44 .nil) 45 Tryz.f45 .nil)) 46 Tryz.f46 (.node (.node (.node .nil 47 Tryz.f47 .nil) 48 Tryz.f48 .nil) 49 Tryz.f49 (.node (.node .nil 50 Tryz.f50 .nil) 51 Tryz.f51 .nil))))) 52 Tryz.f52 (.node (.node (.node (.node (.node (.node .nil 53 Tryz.f53 .nil) 54 Tryz.f54 (.node .nil 55 Tryz.f55 .nil)) 56 Tryz.f56 (.node (.node .nil 57 Tryz.f57 .nil) 58 Tryz.f58 .nil)) 59 Tryz.f59 (.node (.node (.node .nil 60 Tryz.f60 .nil) 61 Tryz.f61 (.node .nil 62 Tryz.f62 .nil)) 63 Tryz.f63 (.node (.node .nil 64 Tryz.f64 .nil) 65 Tryz.f65 .nil))) 66 Tryz.f66 (.node (.node (.node (.node .nil 67 Tryz.f67 .nil) 68 Tryz.f68 (.node .nil 69 Tryz.f69 .nil)) 70 Tryz.f70 (.node (.node .nil 71 Tryz.f71 .nil) 72 Tryz.f72 .nil)) 73 Tryz.f73 (.node (.node (.node .nil 74 Tryz.f74 .nil) 75 Tryz.f75 .nil) 76 Tryz.f76 (.node (.node .nil 77 Tryz.f77 .nil) 78 Tryz.f78 .nil)))) 79 Tryz.f79 (.node (.node (.node (.node (.node .nil 80 Tryz.f80 .nil) 81 Tryz.f81 (.node .nil 82 Tryz.f82 .nil)) 83 Tryz.f83 (.node (.node .nil 84 Tryz.f84 .nil) 85 Tryz.f85 .nil)) 86 Tryz.f86 (.node (.node (.node .nil 87 Tryz.f87 .nil) 88 Tryz.f88 .nil) 89 Tryz.f89 (.node (.node .nil 90 Tryz.f90 .nil) 91 Tryz.f91 .nil))) 92 Tryz.f92 (.node (.node (.node (.node .nil 93 Tryz.f93 .nil) 94 Tryz.f94 (.node .nil 95 Tryz.f95 .nil)) 96 Tryz.f96 (.node (.node .nil 97 Tryz.f97 .nil) 98 Tryz.f98 .nil)) 99 Tryz.f99 (.node (.node (.node .nil 100 Tryz.f100 .nil) 101 Tryz.f101 .nil) 102 Tryz.f102 (.node (.node .nil 103 Tryz.f103 .nil) 104 Tryz.f104 .nil)))))) 105 Tryz.f105 (.node (.node (.node (.node (.node (.node (.node .nil 106 Tryz.f106 .nil) 107 Tryz.f107 (.node .nil 108 Tryz.f108 .nil)) 109 Tryz.f109 (.node (.node .nil 110 Tryz.f110 .nil) 111 Tryz.f111 .nil)) 112 Tryz.f112 (.node (.node (.node .nil 113 Tryz.f113 .nil) 114 Tryz.f114 (.node .nil 115 Tryz.f115 .nil)) 116 Tryz.f116 (.node (.node .nil 117 Tryz.f117 .nil) 118 Tryz.f118 .nil))) 119 Tryz.f119 (.node (.node (.node (.node .nil 120 Tryz.f120 .nil) 121 Tryz.f121 (.node .nil 122 Tryz.f122 .nil)) 123 Tryz.f123 (.node (.node .nil 124 Tryz.f124 .nil) 125 Tryz.f125 .nil)) 126 Tryz.f126 (.node (.node (.node .nil 127 Tryz.f127 .nil) 128 Tryz.f128 .nil) 129 Tryz.f129 (.node (.node .nil 130 Tryz.f130 .nil) 131 Tryz.f131 .nil)))) 132 Tryz.f132 (.node (.node (.node (.node (.node .nil 133 Tryz.f133 .nil) 134 Tryz.f134 (.node .nil 135 Tryz.f135 .nil)) 136 Tryz.f136 (.node (.node .nil 137 Tryz.f137 .nil) 138 Tryz.f138 .nil)) 139 Tryz.f139 (.node (.node (.node .nil 140 Tryz.f140 .nil) 141 Tryz.f141 .nil) 142 Tryz.f142 (.node (.node .nil 143 Tryz.f143 .nil) 144 Tryz.f144 .nil))) 145 Tryz.f145 (.node (.node (.node (.node .nil 146 Tryz.f146 .nil) 147 Tryz.f147 (.node .nil 148 Tryz.f148 .nil)) 149 Tryz.f149 (.node (.node .nil 150 Tryz.f150 .nil) 151 Tryz.f151 .nil)) 152 Tryz.f152 (.node (.node (.node .nil 153 Tryz.f153 .nil) 154 Tryz.f154 .nil) 155 Tryz.f155 (.node (.node .nil 156 Tryz.f156 .nil) 157 Tryz.f157 .nil))))) 158 Tryz.f158 (.node (.node (.node (.node (.node (.node .nil 159 Tryz.f159 .nil) 160 Tryz.f160 (.node .nil 161 Tryz.f161 .nil)) 162 Tryz.f162 (.node (.node .nil 163 Tryz.f163 .nil) 164 Tryz.f164 .nil)) 165 Tryz.f165 (.node (.node (.node .nil 166 Tryz.f166 .nil) 167 Tryz.f167 (.node .nil 168 Tryz.f168 .nil)) 169 Tryz.f169 (.node (.node .nil 170 Tryz.f170 .nil) 171 Tryz.f171 .nil))) 172 Tryz.f172 (.node (.node (.node (.node .nil 173 Tryz.f173 .nil) 174 Tryz.f174 (.node .nil 175 Tryz.f175 .nil)) 176 Tryz.f176 (.node (.node .nil 177 Tryz.f177 .nil) 178 Tryz.f178 .nil)) 179 Tryz.f179 (.node (.node (.node .nil 180 Tryz.f180 .nil) 181 Tryz.f181 .nil) 182 Tryz.f182 (.node (.node .nil 183 Tryz.f183 .nil) 184 Tryz.f184 .nil)))) 185 Tryz.f185 (.node (.node (.node (.node (.node .nil 186 Tryz.f186 .nil) 187 Tryz.f187 (.node .nil 188 Tryz.f188 .nil)) 189 Tryz.f189 (.node (.node .nil 190 Tryz.f190 .nil) 191 Tryz.f191 .nil)) 192 Tryz.f192 (.node (.node (.node .nil 193 Tryz.f193 .nil) 194 Tryz.f194 .nil) 195 Tryz.f195 (.node (.node .nil 196 Tryz.f196 .nil) 197 Tryz.f197 .nil))) 198 Tryz.f198 (.node (.node (.node (.node .nil 199 Tryz.f199 .nil) 200 Tryz.f200 (.node .nil 201 Tryz.f201 .nil)) 202 Tryz.f202 (.node (.node .nil 203 Tryz.f203 .nil) 204 Tryz.f204 .nil)) 205 Tryz.f205 (.node (.node (.node .nil 206 Tryz.f206 .nil) 207 Tryz.f207 .nil) 208 Tryz.f208 (.node (.node .nil 209 Tryz.f209 .nil) 210 Tryz.f210 .nil)))))))
def KT:Tab (List (Nat×List Nat)):=(.node (.node (.node (.node (.node (.node (.node .nil 3 [(0,[5,6,8,10,12,13,14,1000000]),(2,[8,13,16,20,22]),(4,[8,13,16,20,22,23,24])] .nil) 4 [(0,[2,7,8,9,10,11,1000000]),(2,[8,12,13,15,17,19]),(4,[8,12,13,15,17,19,20,21,22]),(6,[8,12,13,15,17,19,20,21,23])] .nil) 5 [(0,[7,8,9,10,13,15,16]),(2,[7,8,9,10,13,15,16,18,20]),(4,[10,15,21])] (.node .nil 6 [(0,[7,8,9,10,12,14,15])] .nil)) 8 [(0,[1,2,4,5,6,7]),(2,[1,2,4,5,6,8])] (.node (.node (.node .nil 9 [(0,[4,9,10,40,41,42]),(2,[4,9,10,12,13,40,41,42,59,60,61])] .nil) 10 [(0,[5,15,16,17]),(2,[5,6,15,16,17,25,26])] .nil) 12 [(0,[10,32,33,34])] (.node .nil 13 [(0,[3,8,10,28,29,30]),(2,[8,10,45,46,47]),(4,[8,10,14,45,46,47,54])] .nil))) 15 [(0,[1,4,6,7,8])] (.node (.node (.node (.node .nil 16 [(0,[0,1,5])] .nil) 18 [(0,[1,9,10,11,12,13,14,15]),(2,[1,9,10,11,12,13,14,15,19,75,76])] .nil) 21 [(0,[4,6,21,22])] (.node .nil 23 [(0,[2,3,10,11,12]),(2,[2,3,29,30,31])] .nil)) 26 [(0,[1,2,3,12,13,14]),(2,[1,2,3,29,30,31])] (.node (.node .nil 30 [(0,[3,12,46,47,48]),(2,[12,71,72,73])] .nil) 32 [(0,[0,7])] (.node .nil 34 [(0,[0,1,5,19,20,21]),(2,[0,1,5,19,20,21,42,43,44])] .nil)))) 36 [(1,[4,5,8,6600001])] (.node (.node (.node (.node (.node .nil 40 [(0,[2,3,31,32,33]),(2,[3,47,48,49])] .nil) 42 [(0,[3,6,7,8])] .nil) 43 [(0,[1,2,3,6,7,25,26,27]),(2,[2,3,6,7,41,42,43]),(4,[3,6,7,57,58,59]),(6,[3,6,7,99,100,101]),(8,[3,6,7,114,115,116])] (.node .nil 44 [(0,[3,4,5,6,7,8,14,15,16])] .nil)) 45 [(0,[0,1,4,9,10])] (.node (.node .nil 47 [(0,[1,2,3,4]),(2,[1,2,3,5,6,7]),(4,[1,2,3,5,6,8]),(6,[1,2,3,5,6,9,10]),(8,[1,2,3,9,11]),(10,[1,2,3,9,12])] .nil) 48 [(0,[1,5,6,7,29,30,31]),(2,[1,5,6,7,10,11]),(4,[1,5,6,7,10,11,12,76,77,78])] (.node .nil 52 [(0,[1,5,9,10,11])] .nil))) 60 [(0,[3,6,7,8])] (.node (.node (.node (.node .nil 67 [(0,[3,5,36,37,38])] .nil) 68 [(0,[2,3,5,7,31]),(2,[2,3,5,55,56,57])] .nil) 77 [(0,[0,3,4,5,41,42,43]),(2,[0,3,4,5,60,61,62]),(4,[0,4,5,12,89,90,91]),(6,[0,4,5,16,143,144,145]),(8,[0,4,16,162,163,164])] (.node .nil 82 [(0,[0,4,7,33,34,35])] .nil)) 83 [(0,[1,2,3,7,16,17,18])] (.node (.node .nil 84 [(0,[2,3,4,6,10,11,12])] .nil) 86 [(0,[5,24])] (.node .nil 91 [(0,[2,3,4,6,7,8,9,10,11,12])] .nil))))) 93 [(1,[1,36,37,38]),(3,[1,55,56,57])] (.node (.node (.node (.node (.node (.node .nil 94 [(0,[3,4,18,19,20]),(2,[3,4,5,18,19,20,26,27,28]),(4,[3,51,52,53])] .nil) 95 [(0,[0,1,2,6,7,8]),(2,[0,1,2,6]),(4,[0,1,2,6,7,8])] .nil) 98 [(0,[0,1,7,8])] (.node .nil 99 [(0,[1,2,7,11,12,13])] .nil)) 106 [(0,[0,1,2,3,6,18,19,20])] (.node (.node (.node .nil 109 [(0,[0,5])] .nil) 110 [(0,[1,4,12,13,14]),(2,[1,4,14000002])] .nil) 112 [(0,[1,2,3,4,9])] (.node .nil 122 [(0,[0,1,5,16,17,18])] .nil))) 123 [(0,[2,3,4,5,8,9,10])] (.node (.node (.node (.node .nil 126 [(0,[2,3,7,8,9])] .nil) 127 [(0,[2,3,7,8,9])] .nil) 128 [(0,[2,3,7,8,9])] (.node .nil 131 [(0,[0,1,5,11,12])] .nil)) 133 [(0,[3,8,9,10])] (.node (.node .nil 137 [(0,[0,1,2,3,8]),(2,[0,1,2,3,8,9])] .nil) 138 [(0,[0,1,4,10,11]),(2,[0,10,13]),(4,[0,2,4,14,15]),(6,[0,14,17]),(8,[0,1,2,3,4,18,19,20,21,22])] (.node .nil 139 [(0,[0,1,7,8])] .nil)))) 142 [(0,[2,17200000])] (.node (.node (.node (.node (.node .nil 143 [(0,[0,1,2,3,8,9])] .nil) 145 [(0,[0,1,3,14,15]),(2,[0,1,3,26,27,28]),(4,[0,1,3,5,6,26,27,28,34,35,36])] .nil) 146 [(0,[2,5,6]),(2,[2,5,6,45,46,47])] (.node .nil 155 [(0,[0,1,7,8])] .nil)) 157 [(0,[0,2,4,10,11])] (.node (.node .nil 158 [(0,[0,1,7,8])] .nil) 159 [(0,[0,1,2,6]),(2,[0,1,2,6,7])] (.node .nil 160 [(0,[0,6,7,8,9]),(2,[0,6,7,10])] .nil))) 161 [(0,[0,1,6,7,8,9])] (.node (.node (.node (.node .nil 163 [(0,[0,6,7])] .nil) 164 [(0,[0,1,2,7,8]),(2,[0,1,2,7,8]),(4,[0,1,2,7,8,9]),(6,[0,1,2,7,8,10])] .nil) 166 [(0,[0,1,9,10]),(2,[0,1,9,10]),(4,[0,1,9,10])] (.node .nil 167 [(0,[0,1,10,11]),(2,[0,1,10,11]),(4,[0,1,10,11]),(6,[0,1,10,11]),(8,[0,1,10,11])] .nil)) 173 [(0,[0,1,2,3,10])] (.node (.node .nil 174 [(0,[0,2,3,8])] .nil) 179 [(9,[175]),(1,[0,7,8,9]),(3,[0,7,8,9,12]),(5,[0,7,8,9,14,15]),(7,[0,7,8,9,14,15,16])] (.node .nil 186 [(0,[1,2,10])] .nil))))))
def EQ:Tab Bool:=(.node (.node (.node (.node (.node (.node .nil 2 true .nil) 3 true (.node .nil 4 true .nil)) 5 true (.node (.node .nil 6 true .nil) 7 true .nil)) 8 true (.node (.node (.node .nil 9 true .nil) 10 true (.node .nil 11 true .nil)) 12 true (.node (.node .nil 15 true .nil) 16 true .nil))) 17 true (.node (.node (.node (.node .nil 20 true .nil) 21 true (.node .nil 22 true .nil)) 23 true (.node (.node .nil 28 true .nil) 42 true .nil)) 49 true (.node (.node (.node .nil 50 true .nil) 51 true .nil) 54 true (.node (.node .nil 55 true .nil) 56 true .nil)))) 57 true (.node (.node (.node (.node (.node .nil 69 true .nil) 89 true (.node .nil 106 true .nil)) 107 true (.node (.node .nil 147 true .nil) 154 true .nil)) 155 true (.node (.node (.node .nil 166 true .nil) 167 true .nil) 168 true (.node (.node .nil 179 true .nil) 180 true .nil))) 195 true (.node (.node (.node (.node .nil 222 true .nil) 230 true (.node .nil 235 true .nil)) 239 true (.node (.node .nil 243 true .nil) 252 true .nil)) 256 true (.node (.node (.node .nil 257 true .nil) 259 true .nil) 260 true (.node (.node .nil 261 true .nil) 264 true .nil)))))
def GT(g:Nat):Option (List AV):=bif Nat.beq g 1 then some (b21 .u64 [0,1,1,0,0,0,1,1])else bif Nat.beq g 0 then some (b21 .i64 [0,0,0,0,0,0,1,1,1,1,2,16,2,16,2,16,2,16,2,16,2,16,3,3,2,2,1,16,1,1,0,0])else none
noncomputable def L:Laid:={ P:=Tryz.prog,T:=TT,F:=FT,keep:=KT,eqs:=EQ,G:=GT,thaw:=λg=>decide (g=68∨g=76∨g=118∨g=110∨g=77),ro:=λg=>decide (g=121∨g=122∨g=68∨g=106),ext:=λf=>Nat.beq f 188,lend:=λg=>decide (g=68∨g=31),prim:=λf a=>bif Nat.beq f 31 then a9k a else none,zf:=λf=>Nat.beq f 14 }
theorem e29:∀i x,TT.get i=some x→Tryz.prog.types[i]?=some x:=b9a (n:=265) (l:=Tryz.types.toList) (by kernel_rfl) (by kernel_rfl)
theorem e4g:∀i x,FT.get i=some x→Tryz.prog.funcs[i]?=some x:=b9a (n:=211) (l:=Tryz.funcs.toList) (by kernel_rfl) (by kernel_rfl)
theorem laidOk:LaidOk L where
 types:=e29
 funcs:=e4g
 shape:=by kernel_rfl
 names:=by kernel_rfl
 eqs:=by kernel_rfl
 ext:=λf h=>by
  have h:Nat.beq f 188=true:=h;have:f=188:=by simpa using h
  subst this;exact⟨Tryz.f188,by kernel_rfl,by kernel_rfl,by kernel_rfl,by kernel_rfl,by kernel_rfl⟩
 mixed:=by kernel_rfl
 draws:=by kernel_rfl
 yid:=by kernel_rfl
 rf:=by kernel_rfl
theorem ok:EnvOk L.env:=laidOk.envOk
@[go_sem] theorem f9c:L.env.G 0=some (b21 .i64 [0,0,0,0,0,0,1,1,1,1,2,16,2,16,2,16,2,16,2,16,2,16,3,3,2,2,1,16,1,1,0,0]):=by kernel_rfl
@[go_sem] theorem f9b:L.env.G 1=some (b21 .u64 [0,1,1,0,0,0,1,1]):=by kernel_rfl
attribute [go_sem] b21
end Go.TInst
/- Type facts (printed by AxTypes). -/
namespace Go.TInst
open Go.Proofs Go.Ax
@[go_sem] theorem roF(g:FuncId):L.env.ro g=decide (g=121∨g=122∨g=68∨g=106):=by rfl
@[go_sem] theorem g0p(g:FuncId):L.env.thaw g=decide (g=68∨g=76∨g=118∨g=110∨g=77):=by rfl
@[go_sem] theorem kp6_0:L.env.keep 6 0=[7,8,9,10,12,14,15]:=by kernel_rfl
@[go_sem] theorem kp8_0:L.env.keep 8 0=[1,2,4,5,6,7]:=by kernel_rfl
@[go_sem] theorem kp8_2:L.env.keep 8 2=[1,2,4,5,6,8]:=by kernel_rfl
@[go_sem] theorem kp9_0:L.env.keep 9 0=[4,9,10,40,41,42]:=by kernel_rfl
@[go_sem] theorem kp9_2:L.env.keep 9 2=[4,9,10,12,13,40,41,42,59,60,61]:=by kernel_rfl
@[go_sem] theorem kp10_0:L.env.keep 10 0=[5,15,16,17]:=by kernel_rfl
@[go_sem] theorem kp10_2:L.env.keep 10 2=[5,6,15,16,17,25,26]:=by kernel_rfl
@[go_sem] theorem kp12_0:L.env.keep 12 0=[10,32,33,34]:=by kernel_rfl
@[go_sem] theorem kp13_0:L.env.keep 13 0=[3,8,10,28,29,30]:=by kernel_rfl
@[go_sem] theorem kp13_2:L.env.keep 13 2=[8,10,45,46,47]:=by kernel_rfl
@[go_sem] theorem kp13_4:L.env.keep 13 4=[8,10,14,45,46,47,54]:=by kernel_rfl
@[go_sem] theorem kp15_0:L.env.keep 15 0=[1,4,6,7,8]:=by kernel_rfl
@[go_sem] theorem kp16_0:L.env.keep 16 0=[0,1,5]:=by kernel_rfl
@[go_sem] theorem kp18_0:L.env.keep 18 0=[1,9,10,11,12,13,14,15]:=by kernel_rfl
@[go_sem] theorem kp18_2:L.env.keep 18 2=[1,9,10,11,12,13,14,15,19,75,76]:=by kernel_rfl
@[go_sem] theorem kp21_0:L.env.keep 21 0=[4,6,21,22]:=by kernel_rfl
@[go_sem] theorem kp23_0:L.env.keep 23 0=[2,3,10,11,12]:=by kernel_rfl
@[go_sem] theorem kp23_2:L.env.keep 23 2=[2,3,29,30,31]:=by kernel_rfl
@[go_sem] theorem kp26_0:L.env.keep 26 0=[1,2,3,12,13,14]:=by kernel_rfl
@[go_sem] theorem kp26_2:L.env.keep 26 2=[1,2,3,29,30,31]:=by kernel_rfl
@[go_sem] theorem kp30_0:L.env.keep 30 0=[3,12,46,47,48]:=by kernel_rfl
@[go_sem] theorem kp30_2:L.env.keep 30 2=[12,71,72,73]:=by kernel_rfl
@[go_sem] theorem kp32_0:L.env.keep 32 0=[0,7]:=by kernel_rfl
@[go_sem] theorem kp34_0:L.env.keep 34 0=[0,1,5,19,20,21]:=by kernel_rfl
@[go_sem] theorem kp34_2:L.env.keep 34 2=[0,1,5,19,20,21,42,43,44]:=by kernel_rfl
@[go_sem] theorem kp40_0:L.env.keep 40 0=[2,3,31,32,33]:=by kernel_rfl
@[go_sem] theorem kp40_2:L.env.keep 40 2=[3,47,48,49]:=by kernel_rfl
@[go_sem] theorem kp42_0:L.env.keep 42 0=[3,6,7,8]:=by kernel_rfl
@[go_sem] theorem kp43_0:L.env.keep 43 0=[1,2,3,6,7,25,26,27]:=by kernel_rfl
@[go_sem] theorem kp43_2:L.env.keep 43 2=[2,3,6,7,41,42,43]:=by kernel_rfl
@[go_sem] theorem kp43_4:L.env.keep 43 4=[3,6,7,57,58,59]:=by kernel_rfl
@[go_sem] theorem kp43_6:L.env.keep 43 6=[3,6,7,99,100,101]:=by kernel_rfl
@[go_sem] theorem kp43_8:L.env.keep 43 8=[3,6,7,114,115,116]:=by kernel_rfl
@[go_sem] theorem kp44_0:L.env.keep 44 0=[3,4,5,6,7,8,14,15,16]:=by kernel_rfl
@[go_sem] theorem kp45_0:L.env.keep 45 0=[0,1,4,9,10]:=by kernel_rfl
@[go_sem] theorem kp47_0:L.env.keep 47 0=[1,2,3,4]:=by kernel_rfl
@[go_sem] theorem kp47_2:L.env.keep 47 2=[1,2,3,5,6,7]:=by kernel_rfl
@[go_sem] theorem kp47_4:L.env.keep 47 4=[1,2,3,5,6,8]:=by kernel_rfl
@[go_sem] theorem kp47_6:L.env.keep 47 6=[1,2,3,5,6,9,10]:=by kernel_rfl
@[go_sem] theorem kp47_8:L.env.keep 47 8=[1,2,3,9,11]:=by kernel_rfl
@[go_sem] theorem kp47_10:L.env.keep 47 10=[1,2,3,9,12]:=by kernel_rfl
@[go_sem] theorem kp48_0:L.env.keep 48 0=[1,5,6,7,29,30,31]:=by kernel_rfl
@[go_sem] theorem kp48_2:L.env.keep 48 2=[1,5,6,7,10,11]:=by kernel_rfl
@[go_sem] theorem kp48_4:L.env.keep 48 4=[1,5,6,7,10,11,12,76,77,78]:=by kernel_rfl
@[go_sem] theorem kp52_0:L.env.keep 52 0=[1,5,9,10,11]:=by kernel_rfl
@[go_sem] theorem kp60_0:L.env.keep 60 0=[3,6,7,8]:=by kernel_rfl
@[go_sem] theorem kp67_0:L.env.keep 67 0=[3,5,36,37,38]:=by kernel_rfl
@[go_sem] theorem kp68_0:L.env.keep 68 0=[2,3,5,7,31]:=by kernel_rfl
@[go_sem] theorem kp68_2:L.env.keep 68 2=[2,3,5,55,56,57]:=by kernel_rfl
@[go_sem] theorem kp77_0:L.env.keep 77 0=[0,3,4,5,41,42,43]:=by kernel_rfl
@[go_sem] theorem kp77_2:L.env.keep 77 2=[0,3,4,5,60,61,62]:=by kernel_rfl
@[go_sem] theorem kp77_4:L.env.keep 77 4=[0,4,5,12,89,90,91]:=by kernel_rfl
@[go_sem] theorem kp77_6:L.env.keep 77 6=[0,4,5,16,143,144,145]:=by kernel_rfl
@[go_sem] theorem kp77_8:L.env.keep 77 8=[0,4,16,162,163,164]:=by kernel_rfl
@[go_sem] theorem kp82_0:L.env.keep 82 0=[0,4,7,33,34,35]:=by kernel_rfl
@[go_sem] theorem kp83_0:L.env.keep 83 0=[1,2,3,7,16,17,18]:=by kernel_rfl
@[go_sem] theorem kp84_0:L.env.keep 84 0=[2,3,4,6,10,11,12]:=by kernel_rfl
@[go_sem] theorem kp86_0:L.env.keep 86 0=[5,24]:=by kernel_rfl
@[go_sem] theorem kp91_0:L.env.keep 91 0=[2,3,4,6,7,8,9,10,11,12]:=by kernel_rfl
@[go_sem] theorem kp93_1:L.env.keep 93 1=[1,36,37,38]:=by kernel_rfl
@[go_sem] theorem kp93_3:L.env.keep 93 3=[1,55,56,57]:=by kernel_rfl
@[go_sem] theorem kp94_0:L.env.keep 94 0=[3,4,18,19,20]:=by kernel_rfl
@[go_sem] theorem kp94_2:L.env.keep 94 2=[3,4,5,18,19,20,26,27,28]:=by kernel_rfl
@[go_sem] theorem kp94_4:L.env.keep 94 4=[3,51,52,53]:=by kernel_rfl
@[go_sem] theorem kp95_0:L.env.keep 95 0=[0,1,2,6,7,8]:=by kernel_rfl
@[go_sem] theorem kp95_2:L.env.keep 95 2=[0,1,2,6]:=by kernel_rfl
@[go_sem] theorem kp98_0:L.env.keep 98 0=[0,1,7,8]:=by kernel_rfl
@[go_sem] theorem kp99_0:L.env.keep 99 0=[1,2,7,11,12,13]:=by kernel_rfl
@[go_sem] theorem kp106_0:L.env.keep 106 0=[0,1,2,3,6,18,19,20]:=by kernel_rfl
@[go_sem] theorem kp122_0:L.env.keep 122 0=[0,1,5,16,17,18]:=by kernel_rfl
@[go_sem] theorem kp123_0:L.env.keep 123 0=[2,3,4,5,8,9,10]:=by kernel_rfl
@[go_sem] theorem kp126_0:L.env.keep 126 0=[2,3,7,8,9]:=by kernel_rfl
@[go_sem] theorem kp127_0:L.env.keep 127 0=[2,3,7,8,9]:=by kernel_rfl
@[go_sem] theorem kp128_0:L.env.keep 128 0=[2,3,7,8,9]:=by kernel_rfl
@[go_sem] theorem kp131_0:L.env.keep 131 0=[0,1,5,11,12]:=by kernel_rfl
@[go_sem] theorem kp133_0:L.env.keep 133 0=[3,8,9,10]:=by kernel_rfl
@[go_sem] theorem kp137_0:L.env.keep 137 0=[0,1,2,3,8]:=by kernel_rfl
@[go_sem] theorem kp137_2:L.env.keep 137 2=[0,1,2,3,8,9]:=by kernel_rfl
@[go_sem] theorem kp139_0:L.env.keep 139 0=[0,1,7,8]:=by kernel_rfl
@[go_sem] theorem kp146_0:L.env.keep 146 0=[2,5,6]:=by kernel_rfl
@[go_sem] theorem kp146_2:L.env.keep 146 2=[2,5,6,45,46,47]:=by kernel_rfl
@[go_sem] theorem kp155_0:L.env.keep 155 0=[0,1,7,8]:=by kernel_rfl
@[go_sem] theorem kp158_0:L.env.keep 158 0=[0,1,7,8]:=by kernel_rfl
@[go_sem] theorem by3:L.env.bytes 3=8:=by kernel_rfl
@[go_sem] theorem by4:L.env.bytes 4=1:=by kernel_rfl
@[go_sem] theorem by9:L.env.bytes 9=16:=by kernel_rfl
@[go_sem] theorem g2c:L.env.bytes 32=24:=by kernel_rfl
@[go_sem] theorem g2b:L.env.bytes 45=24:=by kernel_rfl
@[go_sem] theorem g2a:L.env.bytes 50=16:=by kernel_rfl
@[go_sem] theorem g29:L.env.bytes 53=48:=by kernel_rfl
@[go_sem] theorem g0c:L.env.bytes 54=1:=by kernel_rfl
@[go_sem] theorem g28:L.env.bytes 57=40:=by kernel_rfl
@[go_sem] theorem g27:L.env.bytes 97=8:=by kernel_rfl
@[go_sem] theorem e9x:L.env.bytes 155=16:=by kernel_rfl
@[go_sem] theorem un4:L.env.und 4=some .bool:=by kernel_rfl
@[go_sem] theorem in5:c9q L.env 5=some .u8:=by kernel_rfl
@[go_sem] theorem ar22:c6k L.env 22=some (2,5):=by kernel_rfl
@[go_sem] theorem ar23:c6k L.env 23=some (4,5):=by kernel_rfl
@[go_sem] theorem st24:slT L.env 24=some 168:=by kernel_rfl
@[go_sem] theorem st25:slT L.env 25=some 5:=by kernel_rfl
@[go_sem] theorem ag27:a6w L.env 27=some true:=by kernel_rfl
theorem ft27:b70 L.env 27=some [5,5,22,4,4,23,24,25]:=by kernel_rfl
@[go_sem] theorem ag28:a6w L.env 28=some false:=by kernel_rfl
@[go_sem] theorem in28:c9q L.env 28=some .u64:=by kernel_rfl
@[go_sem] theorem g4m{k:Nat}(h:(k≤1000000000)=True):a3d L.env 53 k=true:=b0z (g06 h) (by rw[g29];decide)
@[go_sem] theorem g4l{k:Nat}(h:(k≤1000000000)=True):a3d L.env 9 k=true:=b0z (g06 h) (by rw[by9];decide)
@[go_sem] theorem g4k{k:Nat}(h:(k≤1000000000)=True):a3d L.env 3 k=true:=b0z (g06 h) (by rw[by3];decide)
@[go_sem] theorem g4r{k:Nat}(h:(k≤1000000000)=True):d2q L.env 3 (k:Int) (k:Int)=true:=a8t (g06 h) (by rw[by3];decide)
@[go_sem] theorem is3:isT L.env 3=true∧L.env.sz 3=1∧a6w L.env 3=some false∧c9q L.env 3=some .i64∧L.env.zero 3=some [.int .i64 0]∧isT L.env 4=true∧L.env.sz 4=1∧a6w L.env 4=some false∧L.env.zero 4=some [.bool false]∧isT L.env 5=true∧L.env.sz 5=1∧a6w L.env 5=some false∧L.env.zero 5=some [.int .u8 0]∧isT L.env 9=true∧L.env.sz 9=1∧a6w L.env 9=some false∧L.env.zero 9=some [.str []]∧isT L.env 22=true∧isT L.env 24=true∧L.env.sz 24=1∧a6w L.env 24=some false∧isT L.env 25=true∧L.env.sz 25=1∧a6w L.env 25=some false∧byT L.env 25 9=true∧L.env.sz 27=12∧a6l L.env 27 0=some (0,5)∧a6l L.env 27 1=some (1,5)∧a6l L.env 27 2=some (2,22)∧a6l L.env 27 3=some (4,4)∧a6l L.env 27 4=some (5,4)∧a6l L.env 27 6=some (10,24)∧a6l L.env 27 7=some (11,25)∧isT L.env 28=true∧L.env.sz 28=1∧isT L.env 29=true∧L.env.sz 29=1∧a6w L.env 29=some false∧slT L.env 29=some 53∧apT L.env 29 29=some 53∧isT L.env 30=true∧L.env.sz 30=1∧a6w L.env 30=some false∧slT L.env 30=some 9∧apT L.env 30 30=some 9∧isT L.env 31=true∧L.env.sz 31=1∧a6w L.env 31=some false∧slT L.env 31=some 170∧isT L.env 32=true∧L.env.sz 32=1∧a6w L.env 32=some false∧slT L.env 32=some 3∧apT L.env 32 32=some 3∧L.env.zero 32=some [.nilslice]∧isT L.env 34=true∧L.env.sz 34=4∧a6w L.env 34=some true∧a6l L.env 34 0=some (0,29)∧a6l L.env 34 1=some (1,30):=by refine⟨?_,?_,?_,?_,?_,?_,?_,?_,?_,?_,?_,?_,?_,?_,?_,?_,?_,?_,?_,?_,?_,?_,?_,?_,?_,?_,?_,?_,?_,?_,?_,?_,?_,?_,?_,?_,?_,?_,?_,?_,?_,?_,?_,?_,?_,?_,?_,?_,?_,?_,?_,?_,?_,?_,?_,?_,?_,?_,?_,?_⟩<;>kernel_rfl
@[go_sem] theorem g4j{k:Nat}(h:(k≤1000000000)=True):a3d L.env 54 k=true:=b0z (g06 h) (by rw[g0c];decide)
@[go_sem] theorem g4q{k:Nat}(h:(k≤1000000000)=True):d2q L.env 54 (k:Int) (k:Int)=true:=a8t (g06 h) (by rw[g0c];decide)
@[go_sem] theorem g4i{k:Nat}(h:(k≤1000000000)=True):a3d L.env 50 k=true:=b0z (g06 h) (by rw[g2a];decide)
@[go_sem] theorem g4h{k:Nat}(h:(k≤1000000000)=True):a3d L.env 57 k=true:=b0z (g06 h) (by rw[g28];decide)
@[go_sem] theorem f9z:a6l L.env 34 2=some (2,31)∧a6l L.env 34 3=some (3,32)∧L.env.zero 34=some [.nilslice,.nilslice,.nilslice,.nilslice]∧isT L.env 36=true∧L.env.sz 36=1∧a6w L.env 36=some false∧slT L.env 36=some 54∧apT L.env 36 36=some 54∧isT L.env 38=true∧L.env.sz 38=2∧a6w L.env 38=some true∧a6l L.env 38 0=some (0,36)∧a6l L.env 38 1=some (1,36)∧L.env.zero 38=some [.nilslice,.nilslice]∧isT L.env 41=true∧L.env.sz 41=2∧a6w L.env 41=some true∧d58 L.env 41=true∧a6l L.env 41 0=some (0,36)∧b2p L.env 41 0=some (0,1)∧a6l L.env 41 1=some (1,36)∧b2p L.env 41 1=some (1,1)∧L.env.zero 41=some [.nilslice,.nilslice]∧isT L.env 45=true∧L.env.sz 45=1∧a6w L.env 45=some false∧slT L.env 45=some 50∧apT L.env 45 45=some 50∧L.env.zero 45=some [.nilslice]∧isT L.env 48=true∧L.env.sz 48=1∧a6w L.env 48=some false∧slT L.env 48=some 57∧apT L.env 48 48=some 57∧isT L.env 50=true∧L.env.sz 50=2∧a6w L.env 50=some true∧d58 L.env 50=true∧a6l L.env 50 0=some (0,3)∧b2p L.env 50 0=some (0,1)∧a6l L.env 50 1=some (1,3)∧b2p L.env 50 1=some (1,1)∧L.env.zero 50=some [.int .i64 0,.int .i64 0]∧isT L.env 51=true∧L.env.sz 51=1∧a6w L.env 51=some false∧c9q L.env 51=some .u8∧L.env.zero 51=some [.int .u8 0]∧isT L.env 53=true∧L.env.sz 53=4∧a6w L.env 53=some true∧d58 L.env 53=true∧a6l L.env 53 0=some (0,51)∧b2p L.env 53 0=some (0,1)∧a6l L.env 53 1=some (1,32)∧b2p L.env 53 1=some (1,1)∧a6l L.env 53 2=some (2,3)∧a6l L.env 53 3=some (3,3)∧L.env.zero 53=some [.int .u8 0,.nilslice,.int .i64 0,.int .i64 0]∧isT L.env 54=true:=by refine⟨?_,?_,?_,?_,?_,?_,?_,?_,?_,?_,?_,?_,?_,?_,?_,?_,?_,?_,?_,?_,?_,?_,?_,?_,?_,?_,?_,?_,?_,?_,?_,?_,?_,?_,?_,?_,?_,?_,?_,?_,?_,?_,?_,?_,?_,?_,?_,?_,?_,?_,?_,?_,?_,?_,?_,?_,?_,?_,?_,?_⟩<;>kernel_rfl
@[go_sem] theorem g4p{k:Nat}(h:(k≤1000000000)=True):d2q L.env 32 (k:Int) (k:Int)=true:=a8t (g06 h) (by rw[g2c];decide)
@[go_sem] theorem ag66:a6w L.env 66=some false:=by kernel_rfl
@[go_sem] theorem st66:slT L.env 66=some 107:=by kernel_rfl
@[go_sem] theorem g4o{k:Nat}(h:(k≤1000000000)=True):d2q L.env 4 (k:Int) (k:Int)=true:=a8t (g06 h) (by rw[by4];decide)
@[go_sem] theorem g4n{k:Nat}(h:(k≤1000000000)=True):d2q L.env 97 (k:Int) (k:Int)=true:=a8t (g06 h) (by rw[g27];decide)
@[go_sem] theorem g3m:L.env.sz 54=1∧a6w L.env 54=some false∧c9q L.env 54=some .u8∧L.env.zero 54=some [.int .u8 0]∧isT L.env 55=true∧L.env.sz 55=1∧a6w L.env 55=some false∧isT L.env 57=true∧L.env.sz 57=5∧a6w L.env 57=some true∧d58 L.env 57=true∧a6l L.env 57 0=some (0,55)∧b2p L.env 57 0=some (0,1)∧a6l L.env 57 1=some (1,50)∧b2p L.env 57 1=some (1,2)∧a6l L.env 57 2=some (3,54)∧a6l L.env 57 3=some (4,3)∧L.env.zero 57=some [.int .u8 0,.int .i64 0,.int .i64 0,.int .u8 0,.int .i64 0]∧L.env.sz 58=1∧a6w L.env 58=some false∧slT L.env 59=some 32∧slT L.env 73=some 4∧isT L.env 81=true∧L.env.sz 81=5∧a6w L.env 81=some true∧d58 L.env 81=true∧a6l L.env 81 0=some (0,34)∧b2p L.env 81 0=some (0,4)∧a6l L.env 81 1=some (4,36)∧b2p L.env 81 1=some (4,1)∧L.env.zero 81=some [.nilslice,.nilslice,.nilslice,.nilslice,.nilslice]∧L.env.sz 89=1∧a6w L.env 89=some false∧isT L.env 92=true∧L.env.sz 92=1∧a6w L.env 92=some false∧slT L.env 92=some 97∧isT L.env 93=true∧L.env.sz 93=1∧a6w L.env 93=some false∧a9f L.env 93=false∧L.env.zero 93=some [.nilmap]∧d58 L.env 95=true∧a6l L.env 95 0=some (0,34)∧b2p L.env 95 0=some (0,4)∧a6l L.env 95 1=some (4,48)∧b2p L.env 95 1=some (4,1)∧a6l L.env 95 2=some (5,36)∧b2p L.env 95 2=some (5,1)∧a6l L.env 95 3=some (6,92)∧b2p L.env 95 3=some (6,1)∧a6l L.env 95 4=some (7,93)∧b2p L.env 95 4=some (7,1)∧L.env.zero 95=some [.nilslice,.nilslice,.nilslice,.nilslice,.nilslice,.nilslice,.nilslice,.nilmap]∧isT L.env 97=true∧L.env.sz 97=1∧a6w L.env 97=some false∧L.env.und 97=some (.map 3 4)∧a9f L.env 97=true∧L.env.zero 97=some [.nilmap]:=by refine⟨?_,?_,?_,?_,?_,?_,?_,?_,?_,?_,?_,?_,?_,?_,?_,?_,?_,?_,?_,?_,?_,?_,?_,?_,?_,?_,?_,?_,?_,?_,?_,?_,?_,?_,?_,?_,?_,?_,?_,?_,?_,?_,?_,?_,?_,?_,?_,?_,?_,?_,?_,?_,?_,?_,?_,?_,?_,?_,?_,?_⟩<;>kernel_rfl
theorem ft107:b70 L.env 107=some [5,5,5,5,4]:=by kernel_rfl
@[go_sem] theorem g19{k:Nat}(h:(k≤1000000000)=True):a3d L.env 155 k=true:=b0z (g06 h) (by rw[e9x];decide)
@[go_sem] theorem g1k{k:Nat}(h:(k≤1000000000)=True):d2q L.env 155 (k:Int) (k:Int)=true:=a8t (g06 h) (by rw[e9x];decide)
@[go_sem] theorem g1y:isT L.env 107=true∧L.env.sz 107=5∧a6w L.env 107=some true∧a6l L.env 107 0=some (0,5)∧a6l L.env 107 1=some (1,5)∧a6l L.env 107 2=some (2,5)∧a6l L.env 107 4=some (4,4)∧L.env.zero 107=some [.int .u8 0,.int .u8 0,.int .u8 0,.int .u8 0,.bool false]∧slT L.env 112=some 38∧isT L.env 113=true∧L.env.sz 113=1∧a6w L.env 113=some false∧isT L.env 114=true∧L.env.sz 114=1∧a6w L.env 114=some false∧isT L.env 116=true∧L.env.sz 116=9∧a6w L.env 116=some true∧d58 L.env 116=true∧a6l L.env 116 0=some (0,34)∧b2p L.env 116 0=some (0,4)∧a6l L.env 116 1=some (4,32)∧b2p L.env 116 1=some (4,1)∧a6l L.env 116 2=some (5,32)∧b2p L.env 116 2=some (5,1)∧a6l L.env 116 3=some (6,32)∧b2p L.env 116 3=some (6,1)∧a6l L.env 116 4=some (7,113)∧b2p L.env 116 4=some (7,1)∧a6l L.env 116 5=some (8,114)∧b2p L.env 116 5=some (8,1)∧L.env.zero 116=some [.nilslice,.nilslice,.nilslice,.nilslice,.nilslice,.nilslice,.nilslice,.nilfunc,.nilfunc]∧L.env.sz 118=1∧a6w L.env 118=some false∧slT L.env 118=some 155∧apT L.env 118 118=some 155∧isT L.env 150=true∧L.env.sz 150=1∧a6w L.env 150=some false∧isT L.env 151=true∧L.env.sz 151=1∧a6w L.env 151=some false∧d58 L.env 153=true∧a6l L.env 153 0=some (0,34)∧b2p L.env 153 0=some (0,4)∧a6l L.env 153 1=some (4,36)∧a6l L.env 153 2=some (5,150)∧b2p L.env 153 2=some (5,1)∧a6l L.env 153 3=some (6,151)∧b2p L.env 153 3=some (6,1)∧L.env.zero 153=some [.nilslice,.nilslice,.nilslice,.nilslice,.nilslice,.nilfunc,.nilfunc]∧isT L.env 155=true∧L.env.sz 155=2∧a6w L.env 155=some true∧d58 L.env 155=true∧a6l L.env 155 0=some (0,28)∧b2p L.env 155 0=some (0,1)∧a6l L.env 155 1=some (1,28)∧b2p L.env 155 1=some (1,1)∧L.env.zero 155=some [.int .u64 0,.int .u64 0]:=by refine⟨?_,?_,?_,?_,?_,?_,?_,?_,?_,?_,?_,?_,?_,?_,?_,?_,?_,?_,?_,?_,?_,?_,?_,?_,?_,?_,?_,?_,?_,?_,?_,?_,?_,?_,?_,?_,?_,?_,?_,?_,?_,?_,?_,?_,?_,?_,?_,?_,?_,?_,?_,?_,?_,?_,?_,?_,?_,?_,?_,?_⟩<;>kernel_rfl
@[go_sem] theorem ar166:c6k L.env 166=some (3,5):=by kernel_rfl
theorem ft168:b70 L.env 168=some [5,166]:=by kernel_rfl
@[go_sem] theorem g1j{k:Nat}(h:(k≤1000000000)=True):d2q L.env 45 (k:Int) (k:Int)=true:=a8t (g06 h) (by rw[g2b];decide)
@[go_sem] theorem g1r:isT L.env 159=true∧L.env.sz 159=1∧a6w L.env 159=some false∧a9f L.env 159=false∧L.env.zero 159=some [.nilmap]∧isT L.env 162=true∧L.env.sz 162=1∧a6w L.env 162=some false∧L.env.zero 162=some [.nilfunc]∧isT L.env 166=true∧isT L.env 168=true∧L.env.sz 168=4∧a6w L.env 168=some true∧a6l L.env 168 0=some (0,5)∧a6l L.env 168 1=some (1,166)∧slT L.env 172=some 45∧slT L.env 176=some 51∧isT L.env 179=true∧L.env.sz 179=2∧c6k L.env 179=some (2,3)∧c6k L.env 180=some (16,179)∧c6k L.env 195=some (4,155)∧a9f L.env 216=false:=by refine⟨?_,?_,?_,?_,?_,?_,?_,?_,?_,?_,?_,?_,?_,?_,?_,?_,?_,?_,?_,?_,?_,?_,?_⟩<;>kernel_rfl
end Go.TInst
/- No fact is given; names of nodes. -/
namespace Go.TInst
open Go.Proofs Go.Ax
set_option maxRecDepth 100000
def Mf:List Fact:=[]
theorem no(g:Nat)(h:(Mf.all λy=>!Nat.beq y.g g)=true):∀y∈Mf,y.g≠g:=by intro y hy;cases hy
theorem d8f:sem L.env Mf 153 [.str [110,48,48]] []=some (.bool true,[]):=a0u (E:=L.env) a3f 60 (by kernel_rfl)
theorem d8e:sem L.env Mf 153 [.str [110,48,49]] []=some (.bool true,[]):=a0u (E:=L.env) a3f 60 (by kernel_rfl)
theorem d8d:sem L.env Mf 153 [.str [110,48,50]] []=some (.bool true,[]):=a0u (E:=L.env) a3f 60 (by kernel_rfl)
theorem d8c:sem L.env Mf 153 [.str [110,48,51]] []=some (.bool true,[]):=a0u (E:=L.env) a3f 60 (by kernel_rfl)
theorem d8b:sem L.env Mf 153 [.str [110,48,52]] []=some (.bool true,[]):=a0u (E:=L.env) a3f 60 (by kernel_rfl)
theorem d8a:sem L.env Mf 153 [.str [110,48,53]] []=some (.bool true,[]):=a0u (E:=L.env) a3f 60 (by kernel_rfl)
theorem d89:sem L.env Mf 153 [.str [110,48,54]] []=some (.bool true,[]):=a0u (E:=L.env) a3f 60 (by kernel_rfl)
theorem d88:sem L.env Mf 153 [.str [110,48,55]] []=some (.bool true,[]):=a0u (E:=L.env) a3f 60 (by kernel_rfl)
theorem d87:sem L.env Mf 153 [.str [110,48,56]] []=some (.bool true,[]):=a0u (E:=L.env) a3f 60 (by kernel_rfl)
theorem d86:sem L.env Mf 153 [.str [110,48,57]] []=some (.bool true,[]):=a0u (E:=L.env) a3f 60 (by kernel_rfl)
theorem d3j:sem L.env Mf 153 [.str [110,49,48]] []=some (.bool true,[]):=a0u (E:=L.env) a3f 60 (by kernel_rfl)
theorem d3i:sem L.env Mf 153 [.str [110,49,49]] []=some (.bool true,[]):=a0u (E:=L.env) a3f 60 (by kernel_rfl)
theorem d3h:sem L.env Mf 153 [.str [110,49,50]] []=some (.bool true,[]):=a0u (E:=L.env) a3f 60 (by kernel_rfl)
theorem d3g:sem L.env Mf 153 [.str [110,49,51]] []=some (.bool true,[]):=a0u (E:=L.env) a3f 60 (by kernel_rfl)
open Go.Proofs Go.Ax Go.Pc
def a7i:List AV:=[.int .u8 0,.nilslice,.int .i64 0,.int .i64 0]
def dR(b:Nat):List AV:=[.int .u8 14,.slice b 0 1 (some 1),.int .i64 0,.int .i64 0]
def one(v:Nat):Option AObj:=some (.row 1 [[.int .i64 v]])
def xh(x:CX):Option AObj:=some (.row 12 [x.enc])
def rh:Option AObj:=some (.row 4 [[.nilslice,.nilslice,.nilslice,.nilslice]])
def nV:Nat→AV|0=>.nilslice|i+1=>.slice 3 0 (i+1) none
def nH:Nat→a03|0=>[]|i+1=>[some (.row 4 (List.replicate (i+1) a7i))]
theorem nV0:nV 0 = .nilslice:=by rfl
theorem nVs(i:Nat):nV (i+1) = .slice 3 0 (i+1) none:=by rfl
theorem nH0:nH 0=[]:=by rfl
theorem nHs(i:Nat):nH (i+1)=[some (.row 4 (List.replicate (i+1) a7i))]:=by rfl
theorem a6o{α:Type}(r:α)(n:Nat):List.replicate n r++[r]=List.replicate (n+1) r:=by rw[List.replicate_succ']
theorem a0s(l:List Nd):(l.map Nd.enc).flatMap a0l=[]:=a0f (FlatR.map λx=>by simp only[Nd.enc,a0l,a2w,refs];rfl)
theorem a17(π:Nat→Option Nat)(l:List Nd):(l.map Nd.enc).map (λr=>r.map (ren π))=l.map Nd.enc:=a0c π (FlatR.map λx=>by simp only[Nd.enc,a0l,a2w,refs];rfl)
theorem d3z(b:Bool)(ks:List Nat):gN b ks []=[]:=by rfl
def slN(b:Nat):Nat→AV|0=>.nilslice|i+1=>.slice b 0 (i+1) none
theorem b7u(b:Nat):slN b 0 = .nilslice:=by rfl
theorem b1h(b i:Nat):slN b (i+1) = .slice b 0 (i+1) none:=by rfl
def nmR(j:Nat):List AV:=[.str (a4o j)]
def nmH:Nat→a03|0=>[]|i+1=>[some (.row 1 ((List.range (i+1)).map nmR))]
theorem d7d:nmH 0=[]:=by rfl
theorem d10(i:Nat):nmH (i+1)=[some (.row 1 ((List.range (i+1)).map nmR))]:=by rfl
theorem a2y(l:List Nat):(l.map nmR).flatMap a0l=[]:=a0f (FlatR.map λ_=>rfl)
theorem a4m(π:Nat→Option Nat)(l:List Nat):(l.map nmR).map (λr=>r.map (ren π))=l.map nmR:=a0c π (FlatR.map λ_=>rfl)
theorem nm1:(List.range 1).map nmR=[[.str (a4o 0)]]:=by rfl
theorem c5l(i:Nat):(List.range (i+1+1)).map nmR=(List.range (i+1)).map nmR++[[.str (a4o (i+1))]]:=by rw[f9k,f6c];rfl
def otR(n o:Nat):List AV:=[.int .i64 (o%n:Nat)]
def otH(x:CX):Nat→a03|0=>[]|i+1=>[some (.row 1 ((x.outs.take (i+1)).map (otR x.n)))]
theorem d0y(x:CX):otH x 0=[]:=by rfl
theorem c24(x:CX)(i:Nat):otH x (i+1)=[some (.row 1 ((x.outs.take (i+1)).map (otR x.n)))]:=by rfl
theorem b3h(n:Nat)(l:List Nat):(l.map (otR n)).flatMap a0l=[]:=a0f (FlatR.map λ_=>rfl)
theorem b8i(n:Nat)(π:Nat→Option Nat)(l:List Nat):(l.map (otR n)).map (λr=>r.map (ren π))=l.map (otR n):=a0c π (FlatR.map λ_=>rfl)
theorem b3f{m:Nat}{d:AV→Option AV}{n:Nat}{r:List AV}(h:a0l r=[]):a9g m d (List.replicate n r)=some (List.replicate n r):=a12 m d (FlatR.replicate h)
theorem b9e{m:Nat}{d:AV→Option AV}(l:List Nd):a9g m d (l.map Nd.enc)=some (l.map Nd.enc):=a12 m d (c82 l)
theorem b9d{m:Nat}{d:AV→Option AV}(l:List Nat):a9g m d (l.map nmR)=some (l.map nmR):=a12 m d (FlatR.map λ_=>rfl)
theorem b9c{m:Nat}{d:AV→Option AV}(n:Nat)(l:List Nat):a9g m d (l.map (otR n))=some (l.map (otR n)):=a12 m d (FlatR.map λ_=>rfl)
theorem b0a{α:Type}{l:List α}{n:Nat}(h:(l.length≤n)=True):l.take n=l:=f4l (g06 h)
theorem b8q(n:Nat)(l:List Nat):l.map (a0a∘λo=>o%n)=l.map (otR n):=by rfl
theorem b8s(l:List Nat):l.map (a13∘a4o)=l.map nmR:=by rfl
attribute [go_sem] a7i dR one xh rh nmR otR List.range_zero
theorem e3o(i:Nat)(hi:i<100):sem L.env Mf 92 [.int .i64 i] []=some (.str (a4o i),[]):=by
 have a1:IntKind.i64.wrap ((i/10:Nat):Int)=((i/10:Nat):Int):=wI (by omega);have a2:IntKind.i64.wrap (48+((i/10:Nat):Int))=((48+i/10:Nat):Int):=by rw[w64 (by omega) (by omega)];omega
 have a3:IntKind.i64.wrap (48+((i%10:Nat):Int))=((48+i%10:Nat):Int):=by rw[w64 (by omega) (by omega)];omega
 have a4:IntKind.u8.wrap ((48+i/10:Nat):Int)=((48+i/10:Nat):Int):=wB (by omega);have a5:IntKind.u8.wrap ((48+i%10:Nat):Int)=((48+i%10:Nat):Int):=wB (by omega)
 (refine sv Tryz.f92 ?_;simp only[Tryz.f92,gS])
 (repeat first|simp only[ww]|(apply xa;simp+decide only[go_sem,a1,a2,a3,a4,a5];rfl;kernel_rfl))
 (apply fqb;simp+decide only[go_sem]<;>rfl)
theorem b62{d:Bool}(H:a03)(i:Nat)(hi:i<100):a0b L.env d (sem L.env Mf) (.func (.func 92) [] []) [.int .i64 i] H=some (.str (a4o i),H,[]):=a04 (by kernel_rfl) (by kernel_rfl) rfl rfl (e3o i hi) rfl
def trV(b:Nat)(l:List Nat):AV:=match l with|[]=>.nilslice|_::l=>.slice b 0 (l.length+1) none
def trH(l:List Nat):a03:=match l with|[]=>[]|y::l=>[some (.row 1 (a0a y::l.map a0a))]
theorem e2c(b:Nat):trV b [] = .nilslice:=by rfl
theorem d6g(b y:Nat)(l:List Nat):trV b (y::l) = .slice b 0 (l.length+1) none:=by rfl
theorem e2d:trH []=[]:=by rfl
theorem d6h(y:Nat)(l:List Nat):trH (y::l)=[some (.row 1 (a0a y::l.map a0a))]:=by rfl
theorem d4a(l:List Nat):(l.map a0a).flatMap a0l=[]:=a0f (FlatR.map λ_=>rfl)
theorem d6z(π:Nat→Option Nat)(l:List Nat):(l.map a0a).map (λr=>r.map (ren π))=l.map a0a:=a0c π (FlatR.map λ_=>rfl)
attribute [go_sem] e2c d6g e2d d6h d4a d6z
theorem d1v(t:Nat)(l:List Nat)(j:Nat)(h:j<l.length+1):([AV.int .i64 (t:Int)]::List.map a0a l)[j]?=some [.int .i64 (((t::l).getD j 0:Nat):Int)]:=by have e:([AV.int .i64 (t:Int)]::List.map a0a l)=(t::l).map a0a:=rfl;rw[e,f4q,z9e (by simpa using h)];simp[a0a,List.getD,z9e (show j<(t::l).length by simpa using h)]
set_option maxHeartbeats 200000000
theorem c1c(m m1 m2 m3:Nat)(B:List Nat)(X:a03)(hX:(m=1∧m1=2∧m2=3∧m3=4∧B=[]∧X=[])∨(m=2∧m1=3∧m2=4∧m3=5∧B=[1]∧X=[some (.row 1 [[.int .i64 0]])])∨(m=3∧m1=4∧m2=5∧m3=6∧B=[1,2]∧X=[some (.row 1 [[.int .i64 0]]),some (.row 1 [[.int .i64 0]])]))(x:CX)(g:GX)(hg:g.ok)(R:List (List AV))(ks:List Nat)(cap:Option Nat)(hk:KindRows R ks)(h0:0<ks.length)(hl:ks.length<1000)(hR:R.flatMap a0l=B)(hI:FixR m R) :
 sem L.env Mf 91 [.agg x.enc,.agg g.enc,.slice 0 0 ks.length cap] (some (.row 4 R)::X)=some (.agg (a0p x.bus g ks).enc,(some (.row 4 R)::X)):=by
 rcases hX with ⟨hm,iz,mj,mi,hB,hX⟩|⟨hm,iz,mj,mi,hB,hX⟩|⟨hm,iz,mj,mi,hB,hX⟩
 all_goals
  obtain⟨pK,ng,wu,wt⟩:=hg;have w0:=wI (n:=g.i0) (by omega);have w1:=wI (n:=g.i1) (by omega);have w2:=wI (n:=g.i2) (by omega);have hn:¬(ks.length:Int)=0:=by omega
  have jp:∀σ,R.map (λr=>r.map (ren (c1b m σ)))=R:=λσ=>hI _ (λb hb=>by rw[d3w,f8b hb];rfl);have dA:R.map (λr=>r.map (ren (a1z m)))=R:=hI _ (λb hb=>by rw[b8o,f8b hb];rfl);have w9:=wI (n:=g.kind%9) (by omega);have qd:=wI (n:=g.kind%13) (by omega);rw[hX]
  (refine sv Tryz.f91 ?_;simp only[Tryz.f91,gS])
  (repeat first|simp only[ww]|(apply xa;simp+decide only[go_sem,w0,w1,w2,hn];rfl;kernel_rfl))
  refine a29 (σ:=Nat) kp91_0
   (λi=>[(2,.slice 0 0 ks.length cap),(3,.ptr m 0 0),(4,.ptr m1 0 0),(6,.ptr m2 0 0),(7,.int .i64 ks.length),(8,.int .i64 (g.i0%ks.length:Nat)),(9,.int .i64 (g.i1%ks.length:Nat)),(10,.int .i64 (g.i2%ks.length:Nat)),(11,trV m3 (a6y ks i)),(12,.int .i64 i)])
   (λi=>(some (.row 4 R)::X)++[some (.row 12 [x.enc]),some (.row 4 [g.enc]),some (.row 4 [[.int .u8 0,.nilslice,.int .i64 0,.int .i64 0]])]++trH (a6y ks i)) (λi=>ks.length-i) (λi=>i≤ks.length) 0 ?_ (f4m _) ?_ ?_
  ·subst hm iz mj mi hB hX
   (simp+decide only[go_sem,a02,a00,hR,jp]<;>rfl)
  ·subst hm iz mj mi hB hX;intro i _;cases eV:a6y ks i with
   |nil=>((simp+decide only[go_sem,a02,a00,hR,jp]<;>rfl))
   |cons a l=>((simp+decide only[go_sem,a02,a00,hR,jp,eV]<;>rfl))
  ·subst hm iz mj mi hB hX;intro i hi;by_cases ah:i<ks.length
   ·obtain⟨k,qW⟩:∃k,ks[i]?=some k:=⟨_,z9e ah⟩
    obtain⟨v,y,z,hr⟩:=hk.2 i k qW;have hd:(i:Int)<ks.length:=by omega
    have hw:=wI1 (n:=i) (by omega);have ht:=c53 qW;have bJ:=c2b ks i;by_cases oH:k=12
    ·subst oH;rw[f6e rfl]at ht;cases eV:a6y ks i with
     |nil=>
      rw[eV]at ht
      (repeat first|simp only[ww]|(apply xa;simp+decide only[go_sem,hd,ah,hr,hw];rfl;kernel_rfl))
      refine a21 (i+1) ?_ (by omega) (by omega)
      ((simp+decide only[go_sem,a02,a00,hR,jp,ht]<;>rfl))
     |cons a l=>
      rw[eV]at ht;rw[eV]at bJ;simp only[e12]at bJ;have aE:l.length+1+1≤1000000000:=by omega
      (repeat first|simp only[ww]|(apply xa;simp+decide only[go_sem,hd,ah,hr,hw,aE];rfl;kernel_rfl))
      refine a21 (i+1) ?_ (by omega) (by omega)
      ((simp+decide only[go_sem,a02,a00,hR,jp,ht,f6c,List.flatMap_append]<;>rfl))
    ·rw[f4n oH]at ht;have dE:¬(k:Int)=12:=by omega
     (repeat first|simp only[ww]|(apply xa;simp+decide only[go_sem,hd,ah,hr,hw,dE];rfl;kernel_rfl))
     refine a21 (i+1) ?_ (by omega) (by omega);cases eV:a6y ks i with
     |nil=>
      rw[eV]at ht
      ((simp+decide only[go_sem,a02,a00,hR,jp,ht]<;>rfl))
     |cons a l=>
      rw[eV]at ht
      ((simp+decide only[go_sem,a02,a00,hR,jp,ht]<;>rfl))
   ·have cY:i=ks.length:=by omega
    subst cY;have hd:¬(ks.length:Int)<ks.length:=by omega
    rw[show a6y ks ks.length=b0o ks from rfl];have bJ:(b0o ks).length≤ks.length:=c2b ks ks.length
    (repeat first|simp only[ww]|(apply xa;simp+decide only[go_sem,hd,w9,qd];rfl;kernel_rfl))
    rcases eV:b0o ks with _|⟨t,l⟩
    ·cases hb:x.bus with
     |true=>
      (repeat first|simp only[ww]|(apply xa;simp+decide only[go_sem,hb,qd];rfl;kernel_rfl))
      have wk:IntKind.u8.wrap (((g.kind%13):Nat):Int)=((g.kind%13):Nat):=wB (by omega);have fA:(g.kind%13)<6→IntKind.u8.wrap (5+(((g.kind%13):Nat):Int))=((5+(g.kind%13):Nat):Int):=λh=>by rw[IntWalk.u8_in _ ⟨by omega,by omega⟩];omega
      by_cases h6:(g.kind%13)<6
      ·have c6:(((g.kind%13):Nat):Int)<6:=by omega
       have fA:=fA h6;by_cases eT:128≤g.kind
       ·have dI:(128:Int)≤g.kind:=by omega
        have e:a0p true g ks=⟨5+(g.kind%13),some none,[g.i0%ks.length,g.i1%ks.length,g.i2%ks.length],0,0⟩:=by simp[a0p,h6,eT]
        rw[e]
        (repeat first|simp only[ww]|(apply xa;simp+decide only[go_sem,c6,wk,fA,dI];rfl;kernel_rfl))
        (apply fqb;simp+decide only[go_sem,dA,hR]<;>rfl)
       ·have dI:¬(128:Int)≤g.kind:=by omega
        have e:a0p true g ks=⟨5+(g.kind%13),some (some 2),[g.i0%ks.length,g.i1%ks.length],0,0⟩:=by simp[a0p,h6,eT]
        rw[e]
        (repeat first|simp only[ww]|(apply xa;simp+decide only[go_sem,c6,wk,fA,dI];rfl;kernel_rfl))
        (apply fqb;simp+decide only[go_sem,dA,hR]<;>rfl)
      have c6:¬(((g.kind%13):Nat):Int)<6:=by omega
      by_cases h7:(g.kind%13)=6
      ·have c7:(((g.kind%13):Nat):Int)=6:=by omega
       have e:a0p true g ks=⟨4,some (some 1),[g.i0%ks.length],0,0⟩:=by simp[a0p,h7]
       rw[e]
       (repeat first|simp only[ww]|(apply xa;simp+decide only[go_sem,c6,c7];rfl;kernel_rfl))
       (apply fqb;simp+decide only[go_sem,dA,hR]<;>rfl)
      have c7:¬(((g.kind%13):Nat):Int)=6:=by omega
      by_cases h8:(g.kind%13)=7
      ·have c8:(((g.kind%13):Nat):Int)=7:=by omega
       have e:a0p true g ks=⟨11,some (some 3),[g.i0%ks.length,g.i1%ks.length,g.i2%ks.length],0,0⟩:=by simp[a0p,h8]
       rw[e]
       (repeat first|simp only[ww]|(apply xa;simp+decide only[go_sem,c6,c7,c8];rfl;kernel_rfl))
       (apply fqb;simp+decide only[go_sem,dA,hR]<;>rfl)
      have c8:¬(((g.kind%13):Nat):Int)=7:=by omega
      by_cases h9:(g.kind%13)=9
      ·have c9:(((g.kind%13):Nat):Int)=9:=by omega
       have e:a0p true g ks=⟨12,some (some 2),[g.i0%ks.length,g.i1%ks.length],0,0⟩:=by simp[a0p,h9]
       rw[e]
       (repeat first|simp only[ww]|(apply xa;simp+decide only[go_sem,c6,c7,c8,c9];rfl;kernel_rfl))
       (apply fqb;simp+decide only[go_sem,dA,hR]<;>rfl)
      by_cases h10:(g.kind%13)=10
      ·have c9:¬(((g.kind%13):Nat):Int)=9:=by omega
       have fQ:(((g.kind%13):Nat):Int)=10:=by omega
       have e:a0p true g ks=⟨12,some (some 2),[g.i0%ks.length,g.i1%ks.length],0,0⟩:=by simp[a0p,h10]
       rw[e]
       (repeat first|simp only[ww]|(apply xa;simp+decide only[go_sem,c6,c7,c8,c9,fQ];rfl;kernel_rfl))
       (apply fqb;simp+decide only[go_sem,dA,hR]<;>rfl)
      have c9:¬(((g.kind%13):Nat):Int)=9:=by omega
      have fQ:¬(((g.kind%13):Nat):Int)=10:=by omega
      by_cases h11:10<(g.kind%13)
      ·have gG:(10:Int)<(((g.kind%13):Nat):Int):=by omega
       by_cases dV:240<g.kind
       ·have cO:(240:Int)<g.kind:=by omega
        have u1:IntKind.u8.wrap (1+((g.i0%2:Nat):Int))=((1+g.i0%2:Nat):Int):=by rw[IntWalk.u8_in _ ⟨by omega,by omega⟩];omega
        have e:a0p true g ks=⟨1+g.i0%2,none,[],0,0⟩:=by simp[a0p,h6,h7,h8,h9,h10,dV,eV]
        rw[e]
        (repeat first|simp only[ww]|(apply xa;simp+decide only[go_sem,c6,c7,c8,c9,fQ,cO,u1,gG];rfl;kernel_rfl))
        (apply fqb;simp+decide only[go_sem,dA,hR]<;>rfl)
       ·have cO:¬(240:Int)<g.kind:=by omega
        have e:a0p true g ks=⟨3,some (some 1),[g.i0%ks.length],0,0⟩:=by simp[a0p,h6,h7,h8,h9,h10,dV,eV]
        rw[e]
        (repeat first|simp only[ww]|(apply xa;simp+decide only[go_sem,c6,c7,c8,c9,fQ,cO,gG];rfl;kernel_rfl))
        (apply fqb;simp+decide only[go_sem,dA,hR]<;>rfl)
      ·have gG:¬(10:Int)<(((g.kind%13):Nat):Int):=by omega
       by_cases dV:240<g.kind
       ·have cO:(240:Int)<g.kind:=by omega
        have u1:IntKind.u8.wrap (1+((g.i0%2:Nat):Int))=((1+g.i0%2:Nat):Int):=by rw[IntWalk.u8_in _ ⟨by omega,by omega⟩];omega
        have e:a0p true g ks=⟨1+g.i0%2,none,[],0,0⟩:=by simp[a0p,h6,h7,h8,h9,h10,dV,h11]
        rw[e]
        (repeat first|simp only[ww]|(apply xa;simp+decide only[go_sem,c6,c7,c8,c9,fQ,cO,u1,gG];rfl;kernel_rfl))
        (apply fqb;simp+decide only[go_sem,dA,hR]<;>rfl)
       ·have cO:¬(240:Int)<g.kind:=by omega
        have e:a0p true g ks=⟨3,some (some 1),[g.i0%ks.length],0,0⟩:=by simp[a0p,h6,h7,h8,h9,h10,dV,h11]
        rw[e]
        (repeat first|simp only[ww]|(apply xa;simp+decide only[go_sem,c6,c7,c8,c9,fQ,cO,gG];rfl;kernel_rfl))
        (apply fqb;simp+decide only[go_sem,dA,hR]<;>rfl)
     |false=>
      (repeat first|simp only[ww]|(apply xa;simp+decide only[go_sem,hb,w9];rfl;kernel_rfl))
      have wk:IntKind.u8.wrap (((g.kind%9):Nat):Int)=((g.kind%9):Nat):=wB (by omega);have fA:(g.kind%9)<6→IntKind.u8.wrap (5+(((g.kind%9):Nat):Int))=((5+(g.kind%9):Nat):Int):=λh=>by rw[IntWalk.u8_in _ ⟨by omega,by omega⟩];omega
      by_cases h6:(g.kind%9)<6
      ·have c6:(((g.kind%9):Nat):Int)<6:=by omega
       have fA:=fA h6;by_cases eT:128≤g.kind
       ·have dI:(128:Int)≤g.kind:=by omega
        have e:a0p false g ks=⟨5+(g.kind%9),some none,[g.i0%ks.length,g.i1%ks.length,g.i2%ks.length],0,0⟩:=by simp[a0p,h6,eT]
        rw[e]
        (repeat first|simp only[ww]|(apply xa;simp+decide only[go_sem,c6,wk,fA,dI];rfl;kernel_rfl))
        (apply fqb;simp+decide only[go_sem,dA,hR]<;>rfl)
       ·have dI:¬(128:Int)≤g.kind:=by omega
        have e:a0p false g ks=⟨5+(g.kind%9),some (some 2),[g.i0%ks.length,g.i1%ks.length],0,0⟩:=by simp[a0p,h6,eT]
        rw[e]
        (repeat first|simp only[ww]|(apply xa;simp+decide only[go_sem,c6,wk,fA,dI];rfl;kernel_rfl))
        (apply fqb;simp+decide only[go_sem,dA,hR]<;>rfl)
      have c6:¬(((g.kind%9):Nat):Int)<6:=by omega
      by_cases h7:(g.kind%9)=6
      ·have c7:(((g.kind%9):Nat):Int)=6:=by omega
       have e:a0p false g ks=⟨4,some (some 1),[g.i0%ks.length],0,0⟩:=by simp[a0p,h7]
       rw[e]
       (repeat first|simp only[ww]|(apply xa;simp+decide only[go_sem,c6,c7];rfl;kernel_rfl))
       (apply fqb;simp+decide only[go_sem,dA,hR]<;>rfl)
      have c7:¬(((g.kind%9):Nat):Int)=6:=by omega
      by_cases h8:(g.kind%9)=7
      ·have c8:(((g.kind%9):Nat):Int)=7:=by omega
       have e:a0p false g ks=⟨11,some (some 3),[g.i0%ks.length,g.i1%ks.length,g.i2%ks.length],0,0⟩:=by simp[a0p,h8]
       rw[e]
       (repeat first|simp only[ww]|(apply xa;simp+decide only[go_sem,c6,c7,c8];rfl;kernel_rfl))
       (apply fqb;simp+decide only[go_sem,dA,hR]<;>rfl)
      have c8:¬(((g.kind%9):Nat):Int)=7:=by omega
      have c9:¬(((g.kind%9):Nat):Int)=9:=by omega
      have fQ:¬(((g.kind%9):Nat):Int)=10:=by omega
      have n9:¬(g.kind%9)=9:=by omega
      have nL:¬(g.kind%9)=10:=by omega
      have gG:¬(10:Int)<(((g.kind%9):Nat):Int):=by omega
      have nK:¬10<(g.kind%9):=by omega
      by_cases dV:240<g.kind
      ·have cO:(240:Int)<g.kind:=by omega
       have u1:IntKind.u8.wrap (1+((g.i0%2:Nat):Int))=((1+g.i0%2:Nat):Int):=by rw[IntWalk.u8_in _ ⟨by omega,by omega⟩];omega
       have e:a0p false g ks=⟨1+g.i0%2,none,[],0,0⟩:=by simp[a0p,h6,h7,h8,n9,nL,dV,nK]
       rw[e]
       (repeat first|simp only[ww]|(apply xa;simp+decide only[go_sem,c6,c7,c8,c9,fQ,cO,u1,gG];rfl;kernel_rfl))
       (apply fqb;simp+decide only[go_sem,dA,hR]<;>rfl)
      ·have cO:¬(240:Int)<g.kind:=by omega
       have e:a0p false g ks=⟨3,some (some 1),[g.i0%ks.length],0,0⟩:=by simp[a0p,h6,h7,h8,n9,nL,dV,nK]
       rw[e]
       (repeat first|simp only[ww]|(apply xa;simp+decide only[go_sem,c6,c7,c8,c9,fQ,cO,gG];rfl;kernel_rfl))
       (apply fqb;simp+decide only[go_sem,dA,hR]<;>rfl)
    ·cases hb:x.bus with
     |true=>
      (repeat first|simp only[ww]|(apply xa;simp+decide only[go_sem,hb,qd];rfl;kernel_rfl))
      have wk:IntKind.u8.wrap (((g.kind%13):Nat):Int)=((g.kind%13):Nat):=wB (by omega);have fA:(g.kind%13)<6→IntKind.u8.wrap (5+(((g.kind%13):Nat):Int))=((5+(g.kind%13):Nat):Int):=λh=>by rw[IntWalk.u8_in _ ⟨by omega,by omega⟩];omega
      by_cases h6:(g.kind%13)<6
      ·have c6:(((g.kind%13):Nat):Int)<6:=by omega
       have fA:=fA h6;by_cases eT:128≤g.kind
       ·have dI:(128:Int)≤g.kind:=by omega
        have e:a0p true g ks=⟨5+(g.kind%13),some none,[g.i0%ks.length,g.i1%ks.length,g.i2%ks.length],0,0⟩:=by simp[a0p,h6,eT]
        rw[e]
        (repeat first|simp only[ww]|(apply xa;simp+decide only[go_sem,c6,wk,fA,dI];rfl;kernel_rfl))
        (apply fqb;simp+decide only[go_sem,dA,hR]<;>rfl)
       ·have dI:¬(128:Int)≤g.kind:=by omega
        have e:a0p true g ks=⟨5+(g.kind%13),some (some 2),[g.i0%ks.length,g.i1%ks.length],0,0⟩:=by simp[a0p,h6,eT]
        rw[e]
        (repeat first|simp only[ww]|(apply xa;simp+decide only[go_sem,c6,wk,fA,dI];rfl;kernel_rfl))
        (apply fqb;simp+decide only[go_sem,dA,hR]<;>rfl)
      have c6:¬(((g.kind%13):Nat):Int)<6:=by omega
      by_cases h7:(g.kind%13)=6
      ·have c7:(((g.kind%13):Nat):Int)=6:=by omega
       have e:a0p true g ks=⟨4,some (some 1),[g.i0%ks.length],0,0⟩:=by simp[a0p,h7]
       rw[e]
       (repeat first|simp only[ww]|(apply xa;simp+decide only[go_sem,c6,c7];rfl;kernel_rfl))
       (apply fqb;simp+decide only[go_sem,dA,hR]<;>rfl)
      have c7:¬(((g.kind%13):Nat):Int)=6:=by omega
      by_cases h8:(g.kind%13)=7
      ·have c8:(((g.kind%13):Nat):Int)=7:=by omega
       have e:a0p true g ks=⟨11,some (some 3),[g.i0%ks.length,g.i1%ks.length,g.i2%ks.length],0,0⟩:=by simp[a0p,h8]
       rw[e]
       (repeat first|simp only[ww]|(apply xa;simp+decide only[go_sem,c6,c7,c8];rfl;kernel_rfl))
       (apply fqb;simp+decide only[go_sem,dA,hR]<;>rfl)
      have c8:¬(((g.kind%13):Nat):Int)=7:=by omega
      by_cases h9:(g.kind%13)=9
      ·have c9:(((g.kind%13):Nat):Int)=9:=by omega
       have e:a0p true g ks=⟨12,some (some 2),[g.i0%ks.length,g.i1%ks.length],0,0⟩:=by simp[a0p,h9]
       rw[e]
       (repeat first|simp only[ww]|(apply xa;simp+decide only[go_sem,c6,c7,c8,c9];rfl;kernel_rfl))
       (apply fqb;simp+decide only[go_sem,dA,hR]<;>rfl)
      by_cases h10:(g.kind%13)=10
      ·have c9:¬(((g.kind%13):Nat):Int)=9:=by omega
       have fQ:(((g.kind%13):Nat):Int)=10:=by omega
       have e:a0p true g ks=⟨12,some (some 2),[g.i0%ks.length,g.i1%ks.length],0,0⟩:=by simp[a0p,h10]
       rw[e]
       (repeat first|simp only[ww]|(apply xa;simp+decide only[go_sem,c6,c7,c8,c9,fQ];rfl;kernel_rfl))
       (apply fqb;simp+decide only[go_sem,dA,hR]<;>rfl)
      have c9:¬(((g.kind%13):Nat):Int)=9:=by omega
      have fQ:¬(((g.kind%13):Nat):Int)=10:=by omega
      by_cases h11:10<(g.kind%13)
      ·have gG:(10:Int)<(((g.kind%13):Nat):Int):=by omega
       simp only[eV,e12]at bJ;have cp:(0:Int)<((l.length+1:Nat):Int):=by omega
       have nl:¬((l.length+1:Nat):Int)=0:=by omega
       have jl:g.i0%(l.length+1)<l.length+1:=Nat.mod_lt _ (by omega);have hj:([AV.int .i64 (t:Int)]::List.map a0a l)[g.i0%(l.length+1)]?=some [.int .i64 (((t::l).getD (g.i0%(l.length+1)) 0:Nat):Int)]:=d1v t l _ jl;by_cases h1:1<l.length+1
       ·have c1:(1:Int)<((l.length+1:Nat):Int):=by omega
        have kl:(g.i0%(l.length+1)+1)%(l.length+1)<l.length+1:=Nat.mod_lt _ (by omega);have mr:([AV.int .i64 (t:Int)]::List.map a0a l)[(g.i0%(l.length+1)+1)%(l.length+1)]?=some [.int .i64 (((t::l).getD ((g.i0%(l.length+1)+1)%(l.length+1)) 0:Nat):Int)]:=d1v t l _ kl;have wj:=wI1 (n:=g.i0%(l.length+1)) (by omega);have e:a0p true g ks=⟨13,some none,[(t::l).getD (g.i0%(l.length+1)) 0,(t::l).getD ((g.i0%(l.length+1)+1)%(l.length+1)) 0],0,0⟩:=by simp[a0p,h6,h7,h8,h9,h10,h11,eV,h1]
        rw[e]
        (repeat first|simp only[ww]|(apply xa;simp+decide only[go_sem,c6,c7,c8,c9,fQ,gG,cp,nl,w0,jl,hj,c1,kl,mr,wj];rfl;kernel_rfl))
        (apply fqb;simp+decide only[go_sem,dA,hR]<;>rfl)
       ·have c1:¬(1:Int)<((l.length+1:Nat):Int):=by omega
        have e:a0p true g ks=⟨13,some (some 1),[(t::l).getD (g.i0%(l.length+1)) 0],0,0⟩:=by simp[a0p,h6,h7,h8,h9,h10,h11,eV,h1]
        rw[e]
        (repeat first|simp only[ww]|(apply xa;simp+decide only[go_sem,c6,c7,c8,c9,fQ,gG,cp,nl,w0,jl,hj,c1];rfl;kernel_rfl))
        (apply fqb;simp+decide only[go_sem,dA,hR]<;>rfl)
      ·have gG:¬(10:Int)<(((g.kind%13):Nat):Int):=by omega
       by_cases dV:240<g.kind
       ·have cO:(240:Int)<g.kind:=by omega
        have u1:IntKind.u8.wrap (1+((g.i0%2:Nat):Int))=((1+g.i0%2:Nat):Int):=by rw[IntWalk.u8_in _ ⟨by omega,by omega⟩];omega
        have e:a0p true g ks=⟨1+g.i0%2,none,[],0,0⟩:=by simp[a0p,h6,h7,h8,h9,h10,dV,h11]
        rw[e]
        (repeat first|simp only[ww]|(apply xa;simp+decide only[go_sem,c6,c7,c8,c9,fQ,cO,u1,gG];rfl;kernel_rfl))
        (apply fqb;simp+decide only[go_sem,dA,hR]<;>rfl)
       ·have cO:¬(240:Int)<g.kind:=by omega
        have e:a0p true g ks=⟨3,some (some 1),[g.i0%ks.length],0,0⟩:=by simp[a0p,h6,h7,h8,h9,h10,dV,h11]
        rw[e]
        (repeat first|simp only[ww]|(apply xa;simp+decide only[go_sem,c6,c7,c8,c9,fQ,cO,gG];rfl;kernel_rfl))
        (apply fqb;simp+decide only[go_sem,dA,hR]<;>rfl)
     |false=>
      (repeat first|simp only[ww]|(apply xa;simp+decide only[go_sem,hb,w9];rfl;kernel_rfl))
      have wk:IntKind.u8.wrap (((g.kind%9):Nat):Int)=((g.kind%9):Nat):=wB (by omega);have fA:(g.kind%9)<6→IntKind.u8.wrap (5+(((g.kind%9):Nat):Int))=((5+(g.kind%9):Nat):Int):=λh=>by rw[IntWalk.u8_in _ ⟨by omega,by omega⟩];omega
      by_cases h6:(g.kind%9)<6
      ·have c6:(((g.kind%9):Nat):Int)<6:=by omega
       have fA:=fA h6;by_cases eT:128≤g.kind
       ·have dI:(128:Int)≤g.kind:=by omega
        have e:a0p false g ks=⟨5+(g.kind%9),some none,[g.i0%ks.length,g.i1%ks.length,g.i2%ks.length],0,0⟩:=by simp[a0p,h6,eT]
        rw[e]
        (repeat first|simp only[ww]|(apply xa;simp+decide only[go_sem,c6,wk,fA,dI];rfl;kernel_rfl))
        (apply fqb;simp+decide only[go_sem,dA,hR]<;>rfl)
       ·have dI:¬(128:Int)≤g.kind:=by omega
        have e:a0p false g ks=⟨5+(g.kind%9),some (some 2),[g.i0%ks.length,g.i1%ks.length],0,0⟩:=by simp[a0p,h6,eT]
        rw[e]
        (repeat first|simp only[ww]|(apply xa;simp+decide only[go_sem,c6,wk,fA,dI];rfl;kernel_rfl))
        (apply fqb;simp+decide only[go_sem,dA,hR]<;>rfl)
      have c6:¬(((g.kind%9):Nat):Int)<6:=by omega
      by_cases h7:(g.kind%9)=6
      ·have c7:(((g.kind%9):Nat):Int)=6:=by omega
       have e:a0p false g ks=⟨4,some (some 1),[g.i0%ks.length],0,0⟩:=by simp[a0p,h7]
       rw[e]
       (repeat first|simp only[ww]|(apply xa;simp+decide only[go_sem,c6,c7];rfl;kernel_rfl))
       (apply fqb;simp+decide only[go_sem,dA,hR]<;>rfl)
      have c7:¬(((g.kind%9):Nat):Int)=6:=by omega
      by_cases h8:(g.kind%9)=7
      ·have c8:(((g.kind%9):Nat):Int)=7:=by omega
       have e:a0p false g ks=⟨11,some (some 3),[g.i0%ks.length,g.i1%ks.length,g.i2%ks.length],0,0⟩:=by simp[a0p,h8]
       rw[e]
       (repeat first|simp only[ww]|(apply xa;simp+decide only[go_sem,c6,c7,c8];rfl;kernel_rfl))
       (apply fqb;simp+decide only[go_sem,dA,hR]<;>rfl)
      have c8:¬(((g.kind%9):Nat):Int)=7:=by omega
      have c9:¬(((g.kind%9):Nat):Int)=9:=by omega
      have fQ:¬(((g.kind%9):Nat):Int)=10:=by omega
      have n9:¬(g.kind%9)=9:=by omega
      have nL:¬(g.kind%9)=10:=by omega
      have gG:¬(10:Int)<(((g.kind%9):Nat):Int):=by omega
      have nK:¬10<(g.kind%9):=by omega
      by_cases dV:240<g.kind
      ·have cO:(240:Int)<g.kind:=by omega
       have u1:IntKind.u8.wrap (1+((g.i0%2:Nat):Int))=((1+g.i0%2:Nat):Int):=by rw[IntWalk.u8_in _ ⟨by omega,by omega⟩];omega
       have e:a0p false g ks=⟨1+g.i0%2,none,[],0,0⟩:=by simp[a0p,h6,h7,h8,n9,nL,dV,nK]
       rw[e]
       (repeat first|simp only[ww]|(apply xa;simp+decide only[go_sem,c6,c7,c8,c9,fQ,cO,u1,gG];rfl;kernel_rfl))
       (apply fqb;simp+decide only[go_sem,dA,hR]<;>rfl)
      ·have cO:¬(240:Int)<g.kind:=by omega
       have e:a0p false g ks=⟨3,some (some 1),[g.i0%ks.length],0,0⟩:=by simp[a0p,h6,h7,h8,n9,nL,dV,nK]
       rw[e]
       (repeat first|simp only[ww]|(apply xa;simp+decide only[go_sem,c6,c7,c8,c9,fQ,cO,gG];rfl;kernel_rfl))
       (apply fqb;simp+decide only[go_sem,dA,hR]<;>rfl)
theorem d8p(x:CX)(g:GX)(hg:g.ok)(R:List (List AV))(ks:List Nat)(cap:Option Nat)(hk:KindRows R ks)(h0:0<ks.length)(hl:ks.length<1000)(hR:R.flatMap a0l=[])(hI:FixR 1 R) :
 sem L.env Mf 91 [.agg x.enc,.agg g.enc,.slice 0 0 ks.length cap] [some (.row 4 R)]=some (.agg (a0p x.bus g ks).enc,[some (.row 4 R)]):=c1c 1 2 3 4 _ _ (.inl ⟨rfl,rfl,rfl,rfl,rfl,rfl⟩) x g hg R ks cap hk h0 hl hR hI
theorem d8o(x:CX)(g:GX)(hg:g.ok)(R:List (List AV))(ks:List Nat)(cap:Option Nat)(hk:KindRows R ks)(h0:0<ks.length)(hl:ks.length<1000)(hR:R.flatMap a0l=[1])(hI:FixR 2 R) :
 sem L.env Mf 91 [.agg x.enc,.agg g.enc,.slice 0 0 ks.length cap] [some (.row 4 R),some (.row 1 [[.int .i64 0]])]=some (.agg (a0p x.bus g ks).enc,[some (.row 4 R),some (.row 1 [[.int .i64 0]])]):=c1c 2 3 4 5 _ _ (.inr (.inl ⟨rfl,rfl,rfl,rfl,rfl,rfl⟩)) x g hg R ks cap hk h0 hl hR hI
theorem d8n(x:CX)(g:GX)(hg:g.ok)(R:List (List AV))(ks:List Nat)(cap:Option Nat)(hk:KindRows R ks)(h0:0<ks.length)(hl:ks.length<1000)(hR:R.flatMap a0l=[1,2])(hI:FixR 3 R) :
 sem L.env Mf 91 [.agg x.enc,.agg g.enc,.slice 0 0 ks.length cap] [some (.row 4 R),some (.row 1 [[.int .i64 0]]),some (.row 1 [[.int .i64 0]])]=some (.agg (a0p x.bus g ks).enc,[some (.row 4 R),some (.row 1 [[.int .i64 0]]),some (.row 1 [[.int .i64 0]])]):=c1c 3 4 5 6 _ _ (.inr (.inr ⟨rfl,rfl,rfl,rfl,rfl,rfl⟩)) x g hg R ks cap hk h0 hl hR hI
theorem c9v{d:Bool}(x:CX)(g:GX)(hg:g.ok)(gs:List Nd)(k n:Nat)(hk:0<k)(hn:n=k+0+gs.length)(hl:n<1000)(X0 X1 X2:Option AObj) :
 a0b L.env d (sem L.env Mf) (.func (.func 91) [] []) [.agg x.enc,.agg g.enc,.slice 3 0 n none] [X0,X1,X2,some (.row 4 (List.replicate k a7i++[]++gs.map Nd.enc))]=some (.agg (a0p x.bus g (List.replicate k 0++List.replicate 0 14++gs.map Nd.kind)).enc,[X0,X1,X2,some (.row 4 (List.replicate k a7i++[]++gs.map Nd.enc))],[3]):=by
 have oF:KindRows (List.replicate k a7i++[]++gs.map Nd.enc) (List.replicate k 0++List.replicate 0 14++gs.map Nd.kind):=(((KindRows.rep k 0 _ _ _).append KindRows.nil).append (KindRows.nds gs))
 have ai:(List.replicate k 0++List.replicate 0 14++gs.map Nd.kind).length=n:=by simp;omega
 have hr:=d8p x g hg (List.replicate k a7i++[]++gs.map Nd.enc) (List.replicate k 0++List.replicate 0 14++gs.map Nd.kind) none oF (by rw[ai];omega) (by rw[ai];exact hl) (by simp+decide only[go_sem,a0s]) ?_
 ·rw[ai]at hr;have hc:=a2m (sem L.env Mf 91) [.agg x.enc,.agg g.enc,.slice 3 0 n none] [X0,X1,X2,some (.row 4 (List.replicate k a7i++[]++gs.map Nd.enc))] (σ:=[3]) (by simp+decide only[go_sem,a0s]) (by decide) (by simp+decide only[go_sem]) (au:=[.agg x.enc,.agg g.enc,.slice 0 0 n none]) (by simp+decide only[go_sem]) (H0:=[some (.row 4 (List.replicate k a7i++[]++gs.map Nd.enc))]) (by simp+decide only[go_sem,a0s,a17]) hr;refine a95 (by kernel_rfl) (by kernel_rfl) rfl (hc.trans ?_) rfl;simp+decide only[go_sem,a0s,a17]<;>rfl
 ·refine FixR.append (FixR.append (FixR.flat (FlatR.replicate rfl)) ?_) (FixR.flat (c82 gs));intro π hπ;simp+decide only[go_sem]
theorem c9u{d:Bool}(x:CX)(g:GX)(hg:g.ok)(gs:List Nd)(k n:Nat)(hk:0<k)(hn:n=k+1+gs.length)(hl:n<1000)(X0 X1 X2:Option AObj) :
 a0b L.env d (sem L.env Mf) (.func (.func 91) [] []) [.agg x.enc,.agg g.enc,.slice 3 0 n none] [X0,X1,X2,some (.row 4 (List.replicate k a7i++[dR 4]++gs.map Nd.enc)),one 0]=some (.agg (a0p x.bus g (List.replicate k 0++List.replicate 1 14++gs.map Nd.kind)).enc,[X0,X1,X2,some (.row 4 (List.replicate k a7i++[dR 4]++gs.map Nd.enc)),one 0],[3,4]):=by
 have oF:KindRows (List.replicate k a7i++[dR 1]++gs.map Nd.enc) (List.replicate k 0++List.replicate 1 14++gs.map Nd.kind):=(((KindRows.rep k 0 _ _ _).append (KindRows.nil).cons).append (KindRows.nds gs))
 have ai:(List.replicate k 0++List.replicate 1 14++gs.map Nd.kind).length=n:=by simp;omega
 have hr:=d8o x g hg (List.replicate k a7i++[dR 1]++gs.map Nd.enc) (List.replicate k 0++List.replicate 1 14++gs.map Nd.kind) none oF (by rw[ai];omega) (by rw[ai];exact hl) (by simp+decide only[go_sem,a0s]) ?_
 ·rw[ai]at hr;have hc:=a2m (sem L.env Mf 91) [.agg x.enc,.agg g.enc,.slice 3 0 n none] [X0,X1,X2,some (.row 4 (List.replicate k a7i++[dR 4]++gs.map Nd.enc)),one 0] (σ:=[3,4]) (by simp+decide only[go_sem,a0s]) (by decide) (by simp+decide only[go_sem]) (au:=[.agg x.enc,.agg g.enc,.slice 0 0 n none]) (by simp+decide only[go_sem]) (H0:=[some (.row 4 (List.replicate k a7i++[dR 1]++gs.map Nd.enc)),one 0]) (by simp+decide only[go_sem,a0s,a17]) hr;refine a95 (by kernel_rfl) (by kernel_rfl) rfl (hc.trans ?_) rfl;simp+decide only[go_sem,a0s,a17]<;>rfl
 ·refine FixR.append (FixR.append (FixR.flat (FlatR.replicate rfl)) ?_) (FixR.flat (c82 gs));intro π hπ;simp+decide only[go_sem,hπ 1 (by omega)]
theorem c9t{d:Bool}(x:CX)(g:GX)(hg:g.ok)(gs:List Nd)(k n:Nat)(hk:0<k)(hn:n=k+2+gs.length)(hl:n<1000)(X0 X1 X2:Option AObj) :
 a0b L.env d (sem L.env Mf) (.func (.func 91) [] []) [.agg x.enc,.agg g.enc,.slice 3 0 n none] [X0,X1,X2,some (.row 4 (List.replicate k a7i++[dR 4,dR 5]++gs.map Nd.enc)),one 0,one 0]=some (.agg (a0p x.bus g (List.replicate k 0++List.replicate 2 14++gs.map Nd.kind)).enc,[X0,X1,X2,some (.row 4 (List.replicate k a7i++[dR 4,dR 5]++gs.map Nd.enc)),one 0,one 0],[3,4,5]):=by
 have oF:KindRows (List.replicate k a7i++[dR 1,dR 2]++gs.map Nd.enc) (List.replicate k 0++List.replicate 2 14++gs.map Nd.kind):=(((KindRows.rep k 0 _ _ _).append ((KindRows.nil).cons).cons).append (KindRows.nds gs))
 have ai:(List.replicate k 0++List.replicate 2 14++gs.map Nd.kind).length=n:=by simp;omega
 have hr:=d8n x g hg (List.replicate k a7i++[dR 1,dR 2]++gs.map Nd.enc) (List.replicate k 0++List.replicate 2 14++gs.map Nd.kind) none oF (by rw[ai];omega) (by rw[ai];exact hl) (by simp+decide only[go_sem,a0s]) ?_
 ·rw[ai]at hr;have hc:=a2m (sem L.env Mf 91) [.agg x.enc,.agg g.enc,.slice 3 0 n none] [X0,X1,X2,some (.row 4 (List.replicate k a7i++[dR 4,dR 5]++gs.map Nd.enc)),one 0,one 0] (σ:=[3,4,5]) (by simp+decide only[go_sem,a0s]) (by decide) (by simp+decide only[go_sem]) (au:=[.agg x.enc,.agg g.enc,.slice 0 0 n none]) (by simp+decide only[go_sem]) (H0:=[some (.row 4 (List.replicate k a7i++[dR 1,dR 2]++gs.map Nd.enc)),one 0,one 0]) (by simp+decide only[go_sem,a0s,a17]) hr;refine a95 (by kernel_rfl) (by kernel_rfl) rfl (hc.trans ?_) rfl;simp+decide only[go_sem,a0s,a17]<;>rfl
 ·refine FixR.append (FixR.append (FixR.flat (FlatR.replicate rfl)) ?_) (FixR.flat (c82 gs));intro π hπ;simp+decide only[go_sem,hπ 1 (by omega),hπ 2 (by omega)]
theorem e8r(x:CX)(hx:x.ok)(hm:x.mem=false)(hd:x.d=0) :
 sem L.env Mf 47 [.agg x.enc] []=some (.agg x.cir.enc,[]):=by
 obtain⟨x1,x2,x3,x4,x5,x6⟩:=hx;have mu:x.inn%4+1=x.k:=rfl;have fY:x.dffs%3=0:=hd;have kk:x.k≤4:=by unfold CX.k;omega
 have kp:0<x.k:=by unfold CX.k;omega
 have gl:x.gs.length≤8:=by unfold CX.gs;rw[f9f];omega
 have w4:=wI (n:=x.inn%4) (by omega);have w3:=wI (n:=x.dffs%3) (by omega);obtain⟨k',dE⟩:∃k',x.k=k'+1:=⟨x.k-1,by omega⟩
 (refine sv Tryz.f47 ?_;simp only[Tryz.f47,gS])
 (repeat first|simp only[ww]|(apply xa;simp+decide only[go_sem];rfl;kernel_rfl))
 -- the inputs
 refine a29 (σ:=Nat) kp47_0 (λi=>[(1,.ptr 0 0 0),(2,.ptr 1 0 0),(3,.ptr 2 0 0),(4,.int .i64 i)])
  (λi=>[xh x,rh,some (.row 4 [[nV i,.nilslice,.nilslice,.nilslice]])]++nH i) (λi=>x.k-i) (λi=>i≤x.k) 0 ?_ (f4m _) ?_ ?_
 ·(simp+decide only[go_sem,a02,a00,nV0,nH0]<;>rfl)
 ·intro i _;cases i with
  |zero=>((simp+decide only[go_sem,a02,a00,nV0,nH0]<;>rfl))
  |succ i=>((simp+decide only[go_sem,a02,a00,nVs,nHs]<;>rfl))
 ·intro i hi;by_cases ah:i<x.k
  ·have c1:(i:Int)≤((x.inn%4:Nat):Int):=by omega
   have hw:=wI1 (n:=i) (by omega);cases i with
   |zero=>
    (repeat first|simp only[ww]|(apply xa;simp+decide only[go_sem,w4,c1,hw,nV0,nH0];rfl;kernel_rfl))
    refine a21 1 ?_ (by omega) (by omega)
    ((simp+decide only[go_sem,a02,a00,nVs,nHs]<;>rfl))
   |succ i=>
    have aE:i+1+1≤1000000000:=by omega
    (repeat first|simp only[ww]|(apply xa;simp+decide only[go_sem,w4,c1,hw,nVs,nHs,aE,a6o];rfl;kernel_rfl))
    refine a21 (i+1+1) ?_ (by omega) (by omega)
    ((simp+decide only[go_sem,a02,a00,nVs,nHs,a6o]<;>rfl))
  have kj:i=x.k:=by omega
  subst kj;have c1:¬((x.k:Nat):Int)≤((x.inn%4:Nat):Int):=by omega
  have nG:nV x.k = .slice 3 0 x.k none:=by rw[dE];rfl
  have nJ:nH x.k=[some (.row 4 (List.replicate x.k a7i))]:=by rw[dE];rfl
  rw[nG,nJ]
  (repeat first|simp only[ww]|(apply xa;simp+decide only[go_sem,w4,w3,c1,fY];rfl;kernel_rfl))
  -- the flip-flops
  refine a29 (σ:=Nat) kp47_2 (λi=>[(1,.ptr 0 0 0),(2,.ptr 1 0 0),(3,.ptr 2 0 0),(5,.int .i64 x.k),(6,.int .i64 0),(7,.int .i64 i)])
   (λi=>match i with|_=>[xh x,rh,some (.row 4 [[.slice 3 0 (x.k+0) none,.nilslice,.nilslice,.nilslice]]),some (.row 4 (List.replicate x.k a7i++[]))]++[]) (λi=>0-i) (λi=>i≤0) 0 ?_ (f4m _) ?_ ?_
  ·(simp+decide only[go_sem,a02,a00]<;>rfl)
  ·intro i hi;obtain rfl:i=0:=by omega
   ((simp+decide only[go_sem,a02,a00]<;>rfl))
  ·intro i hi;obtain rfl:i=0:=by omega
   (repeat first|simp only[ww]|(apply xa;simp+decide only[go_sem,hm];rfl;kernel_rfl))
   -- the gates
   refine a29 (σ:=Nat) kp47_4 (λi=>[(1,.ptr 0 0 0),(2,.ptr 1 0 0),(3,.ptr 2 0 0),(5,.int .i64 x.k),(6,.int .i64 0),(8,.int .i64 i)])
    (λi=>[xh x,rh,some (.row 4 [[.slice 3 0 (x.k+0+i) none,.nilslice,.nilslice,.nilslice]]),some (.row 4 (List.replicate x.k a7i++[]++(gN x.bus x.base (x.gates.take i)).map Nd.enc))]++[]) (λi=>x.gs.length-i) (λi=>i≤x.gs.length) 0 ?_ (f4m _) ?_ ?_
   ·(simp+decide only[go_sem,a02,a00,hm,f6b,d3z,f4i]<;>rfl)
   ·intro i _
    (simp+decide only[go_sem,a02,a00,hm,a0s,a17,f4i]<;>rfl)
   ·intro i hi;have gI:x.gs.length=min 8 x.gates.length:=by unfold CX.gs;rw[f9f]
    by_cases ah:i<x.gs.length
    ·obtain⟨g,hg⟩:∃g,x.gates[i]?=some g:=⟨_,z9e (by omega)⟩
     have c1:(i:Int)<x.gates.length:=by omega
     have iO:i<x.gates.length:=by omega
     have c2:(i:Int)<8:=by omega
     have hw:=wI1 (n:=i) (by omega);have jT:g.ok:=x5 g (c11 hg);have gw:(gN x.bus x.base (x.gates.take i)).length=i:=by rw[a6i,f9f];omega
     have hs:=c1d x.bus g (x.gates.take i) x.base;rw[←a0v hg]at hs;have ak:=c9v (d:=true) x g jT (gN x.bus x.base (x.gates.take i)) x.k (x.k+0+i) kp (by rw[gw]) (by omega) (xh x) rh (some (.row 4 [[.slice 3 0 (x.k+0+i) none,.nilslice,.nilslice,.nilslice]]));rw[show List.replicate x.k 0++List.replicate 0 14++(gN x.bus x.base (x.gates.take i)).map Nd.kind=x.base++(gN x.bus x.base (x.gates.take i)).map Nd.kind by unfold CX.base;rw[hd]]at ak;generalize a0p x.bus g (x.base++(gN x.bus x.base (x.gates.take i)).map Nd.kind)=nd at ak hs;simp+decide only[go_sem,hm,f4i]at ak;have aE:x.k+i+1≤1000000000:=by omega
     have ai:decide (x.k+i=x.k+(i))=true:=f8b (by omega)
     (repeat first|simp only[ww]|(apply xa;simp+decide only[go_sem,hm,c1,iO,c2,hw,hg,ak,aE,ai,f4i,gw];rfl;kernel_rfl))
     refine a21 (i+1) ?_ (by omega) (by omega);rw[hs]
     (simp+decide only[go_sem,a02,a00,hm,a0s,a17,f4i]<;>rfl)
    have cY:i=x.gs.length:=by omega
    subst cY;rw[x.gs_take];have gw:(gN x.bus x.base x.gs).length=x.gs.length:=a6i _ _ _;have bp:x.n=x.k+0+x.gs.length:=by unfold CX.n;rw[hd]
    rw[←bp];generalize hG:gN x.bus x.base x.gs=gg at gw;have sV:0<x.n:=by omega
    have cG:x.n≤14:=by omega
    have dc:¬(x.n:Int)=0:=by omega
    have lj:¬((x.gs.length:Int)<x.gates.length∧(x.gs.length:Int)<8):=by omega
    -- the guard of the loop's end is decided in either case
    have bh:∀F,F=[(1,AV.ptr 0 0 0),(2,.ptr 1 0 0),(3,.ptr 2 0 0),(5,.int .i64 x.k),(6,.int .i64 0),(8,.int .i64 x.gs.length)]→True:=λ_ _=>trivial;rcases g04 x.gs.length x.gates.length with g1|g1
    all_goals first
    |(have c1:(x.gs.length:Int)<x.gates.length:=(by omega);have c2:¬(x.gs.length:Int)<8:=(by omega);(repeat first|simp only[ww]|(apply xa;simp+decide only[go_sem,c1,c2,hm];rfl;kernel_rfl)))
    |(have c1:¬(x.gs.length:Int)<x.gates.length:=(by omega);(repeat first|simp only[ww]|(apply xa;simp+decide only[go_sem,c1,hm];rfl;kernel_rfl)))
    all_goals
     -- the flip-flops' data
     refine a29 (σ:=Nat) kp47_6 (λi=>[(1,.ptr 0 0 0),(2,.ptr 1 0 0),(3,.ptr 2 0 0),(5,.int .i64 x.k),(6,.int .i64 0),(9,.int .i64 x.n),(10,.int .i64 i)])
      (λi=>match i with|_=>[xh x,rh,some (.row 4 [[.slice 3 0 x.n none,.nilslice,.nilslice,.nilslice]]),some (.row 4 (List.replicate x.k a7i++[]++gg.map Nd.enc))]++[]) (λi=>0-i) (λi=>i≤0) 0 ?_ (f4m _) ?_ ?_
     ·(simp+decide only[go_sem,a02,a00,hm,a0s,a17,f4i]<;>rfl)
     ·intro i hi;obtain rfl:i=0:=by omega
      (simp+decide only[go_sem,a02,a00,hm,a0s,a17,f4i]<;>rfl)
     ·intro i hi;obtain rfl:i=0:=by omega
      (repeat first|simp only[ww]|(apply xa;simp+decide only[go_sem,hm];rfl;kernel_rfl))
      -- the names
      refine a29 (σ:=Nat) kp47_8 (λi=>[(1,.ptr 0 0 0),(2,.ptr 1 0 0),(3,.ptr 2 0 0),(9,.int .i64 x.n),(11,.int .i64 i)])
       (λi=>[xh x,rh,some (.row 4 [[.slice 3 0 x.n none,slN 4 i,.nilslice,.nilslice]]),some (.row 4 (List.replicate x.k a7i++[]++gg.map Nd.enc))]++[]++nmH i) (λi=>x.n-i) (λi=>i≤x.n) 0 ?_ (f4m _) ?_ ?_
      ·(simp+decide only[go_sem,a02,a00,hm,b7u,d7d,a0s,a17,f4i]<;>rfl)
      ·intro i _;cases i with
       |zero=>(simp+decide only[go_sem,a02,a00,hm,b7u,d7d,a0s,a17,f4i]<;>rfl)
       |succ i=>(simp+decide only[go_sem,a02,a00,hm,b1h,d10,a0s,a17,a2y,a4m,f4i]<;>rfl)
      ·intro i hi;by_cases ah:i<x.n
       ·have c1:(i:Int)<x.n:=by omega
        have hw:=wI1 (n:=i) (by omega);have ak:=λH=>b62 (d:=true) H i (by omega);have aE:i+1≤1000000000:=by omega
        cases i with
        |zero=>
         (repeat first|simp only[ww]|(apply xa;simp+decide only[go_sem,hm,c1,hw,ak,b7u,d7d];rfl;kernel_rfl))
         refine a21 1 ?_ (by omega) (by omega)
         (simp+decide only[go_sem,a02,a00,hm,b1h,d10,a0s,a17,nm1,f4i]<;>rfl)
        |succ i=>
         have aE:i+1+1≤1000000000:=by omega
         (repeat first|simp only[ww]|(apply xa;simp+decide only[go_sem,hm,c1,hw,ak,b1h,d10,aE,f8g];rfl;kernel_rfl))
         refine a21 (i+1+1) ?_ (by omega) (by omega)
         (simp+decide only[go_sem,a02,a00,hm,b1h,d10,a0s,a17,a2y,a4m,c5l,f4i]<;>rfl)
       have cY:i=x.n:=by omega
       subst cY;have c1:¬(x.n:Int)<x.n:=by omega
       obtain⟨n',iy⟩:∃n',x.n=n'+1:=⟨x.n-1,by omega⟩
       have e1:slN 4 x.n = .slice 4 0 x.n none:=by rw[iy];rfl
       have e2:nmH x.n=[some (.row 1 ((List.range x.n).map nmR))]:=by rw[iy];rfl
       rw[e1,e2]
       (repeat first|simp only[ww]|(apply xa;simp+decide only[go_sem,hm,c1];rfl;kernel_rfl))
       -- the outputs
       refine a29 (σ:=Nat) kp47_10 (λi=>[(1,.ptr 0 0 0),(2,.ptr 1 0 0),(3,.ptr 2 0 0),(9,.int .i64 x.n),(12,.int .i64 i)])
        (λi=>[xh x,rh,some (.row 4 [[.slice 3 0 x.n none,.slice 4 0 x.n none,.nilslice,slN 5 i]]),some (.row 4 (List.replicate x.k a7i++[]++gg.map Nd.enc))]++[]++[some (.row 1 ((List.range x.n).map nmR))]++otH x i) (λi=>3-i) (λi=>i≤3∧i≤x.outs.length) 0 ?_ ⟨by omega,by omega⟩ ?_ ?_
       ·(simp+decide only[go_sem,a02,a00,hm,b7u,d0y,a0s,a17,a2y,a4m,f4i]<;>rfl)
       ·intro i _;cases i with
        |zero=>(simp+decide only[go_sem,a02,a00,hm,b7u,d0y,a0s,a17,a2y,a4m,f4i]<;>rfl)
        |succ i=>(simp+decide only[go_sem,a02,a00,hm,b1h,c24,a0s,a17,a2y,a4m,b3h,b8i,f4i]<;>rfl)
       ·intro i hi;by_cases ah:i<3∧i<x.outs.length
        ·obtain⟨o,ho⟩:∃o,x.outs[i]?=some o:=⟨_,z9e ah.2⟩
         have bW:=x6 o (c11 ho);have wo:=wI (n:=o) (by omega);have c1:(i:Int)<x.outs.length:=by omega
         have iO:i<x.outs.length:=by omega
         have c2:(i:Int)<3:=by omega
         have hw:=wI1 (n:=i) (by omega);have ht:=a0v ho;have bJ:(x.outs.take i).length=i:=by rw[f9f];omega
         cases i with
         |zero=>
          (repeat first|simp only[ww]|(apply xa;simp+decide only[go_sem,hm,c1,iO,c2,hw,ho,wo,dc,b7u,d0y];rfl;kernel_rfl))
          refine a21 1 ?_ (by omega) ⟨by omega,by omega⟩
          (simp+decide only[go_sem,a02,a00,hm,b1h,c24,a0s,a17,a2y,a4m,ht,f6b,f4i]<;>rfl)
         |succ i=>
          have aE:i+1+1≤1000000000:=by omega
          (repeat first|simp only[ww]|(apply xa;simp+decide only[go_sem,hm,c1,iO,c2,hw,ho,wo,dc,b1h,c24,aE,bJ];rfl;kernel_rfl))
          refine a21 (i+1+1) ?_ (by omega) ⟨by omega,by omega⟩
          (simp+decide only[go_sem,a02,a00,hm,b1h,c24,a0s,a17,a2y,a4m,b3h,b8i,ht,f4i]<;>rfl)
        have oI:x.outs.take i=x.outs.take 3:=by
         by_cases h3:i=3
         ·rw[h3]
         ·rw[f4l (by omega),f4l (by omega)]
        have cM:(x.outs.take i).length=i:=by rw[f9f];omega
        have jx:IntKind.i64.wrap ((x.n:Int)-1)=((x.n-1:Nat):Int):=by rw[w64 (by omega) (by omega)];omega
        have e7:x.cir=⟨some none,List.replicate x.k c60++[]++gg,some none,(List.range x.n).map a4o,some none,(x.outs.take i).map (·% x.n)++[x.n-1]⟩:=by rw[oI,←hG];simp[CX.cir,CX.nodes,CX.dn,CX.names,CX.outN,hd]
        rw[e7];have go:x.n≤x.k+gg.length:=by omega
        have fa:x.k+gg.length≤x.n:=by omega
        cases i with
        |zero=>
         have c1:¬((0:Nat):Int)<x.outs.length:=by omega
         (repeat first|simp only[ww]|(apply xa;simp+decide only[go_sem,hm,c1,b7u,d0y,jx,cM];rfl;kernel_rfl))
         (apply fqb;simp+decide only[go_sem,hm,b3f,b9e,b9d,b9c,a5y,g1o,cM,c60,b1c,b8s,Cir.enc,b0a,go,fa,f8g,f6l,b8q,f6b]<;>rfl)
        |succ i=>
         have aE:i+1+1≤1000000000:=by omega
         rcases g04 (i+1) x.outs.length with g1|g1
         all_goals first
         |(have c1:((i+1:Nat):Int)<x.outs.length:=(by omega);have c2:¬((i+1:Nat):Int)<3:=(by omega);(repeat first|simp only[ww]|(apply xa;simp+decide only[go_sem,hm,c1,c2,b1h,c24,aE,jx,cM];rfl;kernel_rfl)))
         |(have c1:¬((i+1:Nat):Int)<x.outs.length:=(by omega);(repeat first|simp only[ww]|(apply xa;simp+decide only[go_sem,hm,c1,b1h,c24,aE,jx,cM];rfl;kernel_rfl)))
         all_goals (apply fqb;simp+decide only[go_sem,hm,b3f,b9e,b9d,b9c,a5y,g1o,cM,c60,b1c,b8s,Cir.enc,b0a,go,fa,f8g,f6l,b8q]<;>rfl)
theorem e8q(x:CX)(hx:x.ok)(hm:x.mem=false)(hd:x.d=1) :
 sem L.env Mf 47 [.agg x.enc] []=some (.agg x.cir.enc,[]):=by
 obtain⟨x1,x2,x3,x4,x5,x6⟩:=hx;have mu:x.inn%4+1=x.k:=rfl;have fY:x.dffs%3=1:=hd;have kk:x.k≤4:=by unfold CX.k;omega
 have kp:0<x.k:=by unfold CX.k;omega
 have gl:x.gs.length≤8:=by unfold CX.gs;rw[f9f];omega
 have w4:=wI (n:=x.inn%4) (by omega);have w3:=wI (n:=x.dffs%3) (by omega);obtain⟨k',dE⟩:∃k',x.k=k'+1:=⟨x.k-1,by omega⟩
 (refine sv Tryz.f47 ?_;simp only[Tryz.f47,gS])
 (repeat first|simp only[ww]|(apply xa;simp+decide only[go_sem];rfl;kernel_rfl))
 -- the inputs
 refine a29 (σ:=Nat) kp47_0 (λi=>[(1,.ptr 0 0 0),(2,.ptr 1 0 0),(3,.ptr 2 0 0),(4,.int .i64 i)])
  (λi=>[xh x,rh,some (.row 4 [[nV i,.nilslice,.nilslice,.nilslice]])]++nH i) (λi=>x.k-i) (λi=>i≤x.k) 0 ?_ (f4m _) ?_ ?_
 ·(simp+decide only[go_sem,a02,a00,nV0,nH0]<;>rfl)
 ·intro i _;cases i with
  |zero=>((simp+decide only[go_sem,a02,a00,nV0,nH0]<;>rfl))
  |succ i=>((simp+decide only[go_sem,a02,a00,nVs,nHs]<;>rfl))
 ·intro i hi;by_cases ah:i<x.k
  ·have c1:(i:Int)≤((x.inn%4:Nat):Int):=by omega
   have hw:=wI1 (n:=i) (by omega);cases i with
   |zero=>
    (repeat first|simp only[ww]|(apply xa;simp+decide only[go_sem,w4,c1,hw,nV0,nH0];rfl;kernel_rfl))
    refine a21 1 ?_ (by omega) (by omega)
    ((simp+decide only[go_sem,a02,a00,nVs,nHs]<;>rfl))
   |succ i=>
    have aE:i+1+1≤1000000000:=by omega
    (repeat first|simp only[ww]|(apply xa;simp+decide only[go_sem,w4,c1,hw,nVs,nHs,aE,a6o];rfl;kernel_rfl))
    refine a21 (i+1+1) ?_ (by omega) (by omega)
    ((simp+decide only[go_sem,a02,a00,nVs,nHs,a6o]<;>rfl))
  have kj:i=x.k:=by omega
  subst kj;have c1:¬((x.k:Nat):Int)≤((x.inn%4:Nat):Int):=by omega
  have nG:nV x.k = .slice 3 0 x.k none:=by rw[dE];rfl
  have nJ:nH x.k=[some (.row 4 (List.replicate x.k a7i))]:=by rw[dE];rfl
  rw[nG,nJ]
  (repeat first|simp only[ww]|(apply xa;simp+decide only[go_sem,w4,w3,c1,fY];rfl;kernel_rfl))
  -- the flip-flops
  refine a29 (σ:=Nat) kp47_2 (λi=>[(1,.ptr 0 0 0),(2,.ptr 1 0 0),(3,.ptr 2 0 0),(5,.int .i64 x.k),(6,.int .i64 1),(7,.int .i64 i)])
   (λi=>match i with|0=>[xh x,rh,some (.row 4 [[.slice 3 0 (x.k+0) none,.nilslice,.nilslice,.nilslice]]),some (.row 4 (List.replicate x.k a7i++[]))]++[]|_=>[xh x,rh,some (.row 4 [[.slice 3 0 (x.k+1) none,.nilslice,.nilslice,.nilslice]]),some (.row 4 (List.replicate x.k a7i++[dR 4]))]++[one 0]) (λi=>1-i) (λi=>i≤1) 0 ?_ (f4m _) ?_ ?_
  ·(simp+decide only[go_sem,a02,a00]<;>rfl)
  ·intro i hi;by_cases dQ:i=0
   ·subst dQ
    ((simp+decide only[go_sem,a02,a00]<;>rfl))
   obtain rfl:i=1:=by omega
   ((simp+decide only[go_sem,a02,a00]<;>rfl))
  ·intro i hi;by_cases dQ:i=0
   ·subst dQ;have aE:x.k+0+1≤1000000000:=by omega
    have hw:=wI1 (n:=0) (by omega)
    (repeat first|simp only[ww]|(apply xa;simp+decide only[go_sem,aE,a6o,hw];rfl;kernel_rfl))
    refine a21 1 ?_ (by omega) (by omega)
    ((simp+decide only[go_sem,a02,a00,f4i]<;>rfl))
   obtain rfl:i=1:=by omega
   (repeat first|simp only[ww]|(apply xa;simp+decide only[go_sem,hm];rfl;kernel_rfl))
   -- the gates
   refine a29 (σ:=Nat) kp47_4 (λi=>[(1,.ptr 0 0 0),(2,.ptr 1 0 0),(3,.ptr 2 0 0),(5,.int .i64 x.k),(6,.int .i64 1),(8,.int .i64 i)])
    (λi=>[xh x,rh,some (.row 4 [[.slice 3 0 (x.k+1+i) none,.nilslice,.nilslice,.nilslice]]),some (.row 4 (List.replicate x.k a7i++[dR 4]++(gN x.bus x.base (x.gates.take i)).map Nd.enc))]++[one 0]) (λi=>x.gs.length-i) (λi=>i≤x.gs.length) 0 ?_ (f4m _) ?_ ?_
   ·(simp+decide only[go_sem,a02,a00,hm,f6b,d3z,f4i]<;>rfl)
   ·intro i _
    (simp+decide only[go_sem,a02,a00,hm,a0s,a17,f4i]<;>rfl)
   ·intro i hi;have gI:x.gs.length=min 8 x.gates.length:=by unfold CX.gs;rw[f9f]
    by_cases ah:i<x.gs.length
    ·obtain⟨g,hg⟩:∃g,x.gates[i]?=some g:=⟨_,z9e (by omega)⟩
     have c1:(i:Int)<x.gates.length:=by omega
     have iO:i<x.gates.length:=by omega
     have c2:(i:Int)<8:=by omega
     have hw:=wI1 (n:=i) (by omega);have jT:g.ok:=x5 g (c11 hg);have gw:(gN x.bus x.base (x.gates.take i)).length=i:=by rw[a6i,f9f];omega
     have hs:=c1d x.bus g (x.gates.take i) x.base;rw[←a0v hg]at hs;have ak:=c9u (d:=true) x g jT (gN x.bus x.base (x.gates.take i)) x.k (x.k+1+i) kp (by rw[gw]) (by omega) (xh x) rh (some (.row 4 [[.slice 3 0 (x.k+1+i) none,.nilslice,.nilslice,.nilslice]]));rw[show List.replicate x.k 0++List.replicate 1 14++(gN x.bus x.base (x.gates.take i)).map Nd.kind=x.base++(gN x.bus x.base (x.gates.take i)).map Nd.kind by unfold CX.base;rw[hd]]at ak;generalize a0p x.bus g (x.base++(gN x.bus x.base (x.gates.take i)).map Nd.kind)=nd at ak hs;simp+decide only[go_sem,hm,f4i]at ak;have aE:x.k+1+i+1≤1000000000:=by omega
     have ai:decide (x.k+1+i=x.k+(i+1))=true:=f8b (by omega)
     (repeat first|simp only[ww]|(apply xa;simp+decide only[go_sem,hm,c1,iO,c2,hw,hg,ak,aE,ai,f4i,gw];rfl;kernel_rfl))
     refine a21 (i+1) ?_ (by omega) (by omega);rw[hs]
     (simp+decide only[go_sem,a02,a00,hm,a0s,a17,f4i]<;>rfl)
    have cY:i=x.gs.length:=by omega
    subst cY;rw[x.gs_take];have gw:(gN x.bus x.base x.gs).length=x.gs.length:=a6i _ _ _;have bp:x.n=x.k+1+x.gs.length:=by unfold CX.n;rw[hd]
    rw[←bp];generalize hG:gN x.bus x.base x.gs=gg at gw;have sV:0<x.n:=by omega
    have cG:x.n≤14:=by omega
    have dc:¬(x.n:Int)=0:=by omega
    have lj:¬((x.gs.length:Int)<x.gates.length∧(x.gs.length:Int)<8):=by omega
    -- the guard of the loop's end is decided in either case
    have bh:∀F,F=[(1,AV.ptr 0 0 0),(2,.ptr 1 0 0),(3,.ptr 2 0 0),(5,.int .i64 x.k),(6,.int .i64 1),(8,.int .i64 x.gs.length)]→True:=λ_ _=>trivial;rcases g04 x.gs.length x.gates.length with g1|g1
    all_goals first
    |(have c1:(x.gs.length:Int)<x.gates.length:=(by omega);have c2:¬(x.gs.length:Int)<8:=(by omega);(repeat first|simp only[ww]|(apply xa;simp+decide only[go_sem,c1,c2,hm];rfl;kernel_rfl)))
    |(have c1:¬(x.gs.length:Int)<x.gates.length:=(by omega);(repeat first|simp only[ww]|(apply xa;simp+decide only[go_sem,c1,hm];rfl;kernel_rfl)))
    all_goals
     -- the flip-flops' data
     refine a29 (σ:=Nat) kp47_6 (λi=>[(1,.ptr 0 0 0),(2,.ptr 1 0 0),(3,.ptr 2 0 0),(5,.int .i64 x.k),(6,.int .i64 1),(9,.int .i64 x.n),(10,.int .i64 i)])
      (λi=>match i with|0=>[xh x,rh,some (.row 4 [[.slice 3 0 x.n none,.nilslice,.nilslice,.nilslice]]),some (.row 4 (List.replicate x.k a7i++[dR 4]++gg.map Nd.enc))]++[one 0]|_=>[xh x,rh,some (.row 4 [[.slice 3 0 x.n none,.nilslice,.nilslice,.nilslice]]),some (.row 4 (List.replicate x.k a7i++[dR 4]++gg.map Nd.enc))]++[one (x.d0%x.n)]) (λi=>1-i) (λi=>i≤1) 0 ?_ (f4m _) ?_ ?_
     ·(simp+decide only[go_sem,a02,a00,hm,a0s,a17,f4i]<;>rfl)
     ·intro i hi;by_cases dQ:i=0
      ·subst dQ
       (simp+decide only[go_sem,a02,a00,hm,a0s,a17,f4i]<;>rfl)
      obtain rfl:i=1:=by omega
      (simp+decide only[go_sem,a02,a00,hm,a0s,a17,f4i]<;>rfl)
     ·intro i hi;by_cases dQ:i=0
      ·subst dQ;have hw:=wI1 (n:=0) (by omega);have nS:IntKind.i64.wrap ((x.k:Int)+(((0:Nat)):Int))=((x.k+0:Nat):Int):=by rw[w64 (by omega) (by omega)];omega
       have jy:IntKind.i64.wrap ((x.k:Int)+0)=((x.k+0:Nat):Int):=by rw[w64 (by omega) (by omega)];omega
       have wd:=wI (n:=x.d0) (by omega);have dS:x.k+0<x.n:=by omega
       have gv:x.k<x.n:=by omega
       (repeat first|simp only[ww]|(apply xa;simp+decide only[go_sem,hm,hw,nS,jy,wd,dc,dS,gv,c63,c1a,c59,c05,f4i];rfl;kernel_rfl))
       refine a21 1 ?_ (by omega) (by omega)
       (simp+decide only[go_sem,a02,a00,hm,a0s,a17,f4i]<;>rfl)
      obtain rfl:i=1:=by omega
      (repeat first|simp only[ww]|(apply xa;simp+decide only[go_sem,hm];rfl;kernel_rfl))
      -- the names
      refine a29 (σ:=Nat) kp47_8 (λi=>[(1,.ptr 0 0 0),(2,.ptr 1 0 0),(3,.ptr 2 0 0),(9,.int .i64 x.n),(11,.int .i64 i)])
       (λi=>[xh x,rh,some (.row 4 [[.slice 3 0 x.n none,slN 5 i,.nilslice,.nilslice]]),some (.row 4 (List.replicate x.k a7i++[dR 4]++gg.map Nd.enc))]++[one (x.d0%x.n)]++nmH i) (λi=>x.n-i) (λi=>i≤x.n) 0 ?_ (f4m _) ?_ ?_
      ·(simp+decide only[go_sem,a02,a00,hm,b7u,d7d,a0s,a17,f4i]<;>rfl)
      ·intro i _;cases i with
       |zero=>(simp+decide only[go_sem,a02,a00,hm,b7u,d7d,a0s,a17,f4i]<;>rfl)
       |succ i=>(simp+decide only[go_sem,a02,a00,hm,b1h,d10,a0s,a17,a2y,a4m,f4i]<;>rfl)
      ·intro i hi;by_cases ah:i<x.n
       ·have c1:(i:Int)<x.n:=by omega
        have hw:=wI1 (n:=i) (by omega);have ak:=λH=>b62 (d:=true) H i (by omega);have aE:i+1≤1000000000:=by omega
        cases i with
        |zero=>
         (repeat first|simp only[ww]|(apply xa;simp+decide only[go_sem,hm,c1,hw,ak,b7u,d7d];rfl;kernel_rfl))
         refine a21 1 ?_ (by omega) (by omega)
         (simp+decide only[go_sem,a02,a00,hm,b1h,d10,a0s,a17,nm1,f4i]<;>rfl)
        |succ i=>
         have aE:i+1+1≤1000000000:=by omega
         (repeat first|simp only[ww]|(apply xa;simp+decide only[go_sem,hm,c1,hw,ak,b1h,d10,aE,f8g];rfl;kernel_rfl))
         refine a21 (i+1+1) ?_ (by omega) (by omega)
         (simp+decide only[go_sem,a02,a00,hm,b1h,d10,a0s,a17,a2y,a4m,c5l,f4i]<;>rfl)
       have cY:i=x.n:=by omega
       subst cY;have c1:¬(x.n:Int)<x.n:=by omega
       obtain⟨n',iy⟩:∃n',x.n=n'+1:=⟨x.n-1,by omega⟩
       have e1:slN 5 x.n = .slice 5 0 x.n none:=by rw[iy];rfl
       have e2:nmH x.n=[some (.row 1 ((List.range x.n).map nmR))]:=by rw[iy];rfl
       rw[e1,e2]
       (repeat first|simp only[ww]|(apply xa;simp+decide only[go_sem,hm,c1];rfl;kernel_rfl))
       -- the outputs
       refine a29 (σ:=Nat) kp47_10 (λi=>[(1,.ptr 0 0 0),(2,.ptr 1 0 0),(3,.ptr 2 0 0),(9,.int .i64 x.n),(12,.int .i64 i)])
        (λi=>[xh x,rh,some (.row 4 [[.slice 3 0 x.n none,.slice 5 0 x.n none,.nilslice,slN 6 i]]),some (.row 4 (List.replicate x.k a7i++[dR 4]++gg.map Nd.enc))]++[one (x.d0%x.n)]++[some (.row 1 ((List.range x.n).map nmR))]++otH x i) (λi=>3-i) (λi=>i≤3∧i≤x.outs.length) 0 ?_ ⟨by omega,by omega⟩ ?_ ?_
       ·(simp+decide only[go_sem,a02,a00,hm,b7u,d0y,a0s,a17,a2y,a4m,f4i]<;>rfl)
       ·intro i _;cases i with
        |zero=>(simp+decide only[go_sem,a02,a00,hm,b7u,d0y,a0s,a17,a2y,a4m,f4i]<;>rfl)
        |succ i=>(simp+decide only[go_sem,a02,a00,hm,b1h,c24,a0s,a17,a2y,a4m,b3h,b8i,f4i]<;>rfl)
       ·intro i hi;by_cases ah:i<3∧i<x.outs.length
        ·obtain⟨o,ho⟩:∃o,x.outs[i]?=some o:=⟨_,z9e ah.2⟩
         have bW:=x6 o (c11 ho);have wo:=wI (n:=o) (by omega);have c1:(i:Int)<x.outs.length:=by omega
         have iO:i<x.outs.length:=by omega
         have c2:(i:Int)<3:=by omega
         have hw:=wI1 (n:=i) (by omega);have ht:=a0v ho;have bJ:(x.outs.take i).length=i:=by rw[f9f];omega
         cases i with
         |zero=>
          (repeat first|simp only[ww]|(apply xa;simp+decide only[go_sem,hm,c1,iO,c2,hw,ho,wo,dc,b7u,d0y];rfl;kernel_rfl))
          refine a21 1 ?_ (by omega) ⟨by omega,by omega⟩
          (simp+decide only[go_sem,a02,a00,hm,b1h,c24,a0s,a17,a2y,a4m,ht,f6b,f4i]<;>rfl)
         |succ i=>
          have aE:i+1+1≤1000000000:=by omega
          (repeat first|simp only[ww]|(apply xa;simp+decide only[go_sem,hm,c1,iO,c2,hw,ho,wo,dc,b1h,c24,aE,bJ];rfl;kernel_rfl))
          refine a21 (i+1+1) ?_ (by omega) ⟨by omega,by omega⟩
          (simp+decide only[go_sem,a02,a00,hm,b1h,c24,a0s,a17,a2y,a4m,b3h,b8i,ht,f4i]<;>rfl)
        have oI:x.outs.take i=x.outs.take 3:=by
         by_cases h3:i=3
         ·rw[h3]
         ·rw[f4l (by omega),f4l (by omega)]
        have cM:(x.outs.take i).length=i:=by rw[f9f];omega
        have jx:IntKind.i64.wrap ((x.n:Int)-1)=((x.n-1:Nat):Int):=by rw[w64 (by omega) (by omega)];omega
        have e7:x.cir=⟨some none,List.replicate x.k c60++[b1c (x.d0%x.n)]++gg,some none,(List.range x.n).map a4o,some none,(x.outs.take i).map (·% x.n)++[x.n-1]⟩:=by rw[oI,←hG];simp[CX.cir,CX.nodes,CX.dn,CX.names,CX.outN,hd]
        rw[e7];have go:x.n≤x.k+1+gg.length:=by omega
        have fa:x.k+1+gg.length≤x.n:=by omega
        cases i with
        |zero=>
         have c1:¬((0:Nat):Int)<x.outs.length:=by omega
         (repeat first|simp only[ww]|(apply xa;simp+decide only[go_sem,hm,c1,b7u,d0y,jx,cM];rfl;kernel_rfl))
         (apply fqb;simp+decide only[go_sem,hm,b3f,b9e,b9d,b9c,a5y,g1o,cM,c60,b1c,b8s,Cir.enc,b0a,go,fa,f8g,f6l,b8q,f6b]<;>rfl)
        |succ i=>
         have aE:i+1+1≤1000000000:=by omega
         rcases g04 (i+1) x.outs.length with g1|g1
         all_goals first
         |(have c1:((i+1:Nat):Int)<x.outs.length:=(by omega);have c2:¬((i+1:Nat):Int)<3:=(by omega);(repeat first|simp only[ww]|(apply xa;simp+decide only[go_sem,hm,c1,c2,b1h,c24,aE,jx,cM];rfl;kernel_rfl)))
         |(have c1:¬((i+1:Nat):Int)<x.outs.length:=(by omega);(repeat first|simp only[ww]|(apply xa;simp+decide only[go_sem,hm,c1,b1h,c24,aE,jx,cM];rfl;kernel_rfl)))
         all_goals (apply fqb;simp+decide only[go_sem,hm,b3f,b9e,b9d,b9c,a5y,g1o,cM,c60,b1c,b8s,Cir.enc,b0a,go,fa,f8g,f6l,b8q]<;>rfl)
theorem e8p(x:CX)(hx:x.ok)(hm:x.mem=false)(hd:x.d=2) :
 sem L.env Mf 47 [.agg x.enc] []=some (.agg x.cir.enc,[]):=by
 obtain⟨x1,x2,x3,x4,x5,x6⟩:=hx;have mu:x.inn%4+1=x.k:=rfl;have fY:x.dffs%3=2:=hd;have kk:x.k≤4:=by unfold CX.k;omega
 have kp:0<x.k:=by unfold CX.k;omega
 have gl:x.gs.length≤8:=by unfold CX.gs;rw[f9f];omega
 have w4:=wI (n:=x.inn%4) (by omega);have w3:=wI (n:=x.dffs%3) (by omega);obtain⟨k',dE⟩:∃k',x.k=k'+1:=⟨x.k-1,by omega⟩
 (refine sv Tryz.f47 ?_;simp only[Tryz.f47,gS])
 (repeat first|simp only[ww]|(apply xa;simp+decide only[go_sem];rfl;kernel_rfl))
 -- the inputs
 refine a29 (σ:=Nat) kp47_0 (λi=>[(1,.ptr 0 0 0),(2,.ptr 1 0 0),(3,.ptr 2 0 0),(4,.int .i64 i)])
  (λi=>[xh x,rh,some (.row 4 [[nV i,.nilslice,.nilslice,.nilslice]])]++nH i) (λi=>x.k-i) (λi=>i≤x.k) 0 ?_ (f4m _) ?_ ?_
 ·(simp+decide only[go_sem,a02,a00,nV0,nH0]<;>rfl)
 ·intro i _;cases i with
  |zero=>((simp+decide only[go_sem,a02,a00,nV0,nH0]<;>rfl))
  |succ i=>((simp+decide only[go_sem,a02,a00,nVs,nHs]<;>rfl))
 ·intro i hi;by_cases ah:i<x.k
  ·have c1:(i:Int)≤((x.inn%4:Nat):Int):=by omega
   have hw:=wI1 (n:=i) (by omega);cases i with
   |zero=>
    (repeat first|simp only[ww]|(apply xa;simp+decide only[go_sem,w4,c1,hw,nV0,nH0];rfl;kernel_rfl))
    refine a21 1 ?_ (by omega) (by omega)
    ((simp+decide only[go_sem,a02,a00,nVs,nHs]<;>rfl))
   |succ i=>
    have aE:i+1+1≤1000000000:=by omega
    (repeat first|simp only[ww]|(apply xa;simp+decide only[go_sem,w4,c1,hw,nVs,nHs,aE,a6o];rfl;kernel_rfl))
    refine a21 (i+1+1) ?_ (by omega) (by omega)
    ((simp+decide only[go_sem,a02,a00,nVs,nHs,a6o]<;>rfl))
  have kj:i=x.k:=by omega
  subst kj;have c1:¬((x.k:Nat):Int)≤((x.inn%4:Nat):Int):=by omega
  have nG:nV x.k = .slice 3 0 x.k none:=by rw[dE];rfl
  have nJ:nH x.k=[some (.row 4 (List.replicate x.k a7i))]:=by rw[dE];rfl
  rw[nG,nJ]
  (repeat first|simp only[ww]|(apply xa;simp+decide only[go_sem,w4,w3,c1,fY];rfl;kernel_rfl))
  -- the flip-flops
  refine a29 (σ:=Nat) kp47_2 (λi=>[(1,.ptr 0 0 0),(2,.ptr 1 0 0),(3,.ptr 2 0 0),(5,.int .i64 x.k),(6,.int .i64 2),(7,.int .i64 i)])
   (λi=>match i with|0=>[xh x,rh,some (.row 4 [[.slice 3 0 (x.k+0) none,.nilslice,.nilslice,.nilslice]]),some (.row 4 (List.replicate x.k a7i++[]))]++[]|1=>[xh x,rh,some (.row 4 [[.slice 3 0 (x.k+1) none,.nilslice,.nilslice,.nilslice]]),some (.row 4 (List.replicate x.k a7i++[dR 4]))]++[one 0]|_=>[xh x,rh,some (.row 4 [[.slice 3 0 (x.k+2) none,.nilslice,.nilslice,.nilslice]]),some (.row 4 (List.replicate x.k a7i++[dR 4,dR 5]))]++[one 0,one 0]) (λi=>2-i) (λi=>i≤2) 0 ?_ (f4m _) ?_ ?_
  ·(simp+decide only[go_sem,a02,a00]<;>rfl)
  ·intro i hi;by_cases dQ:i=0
   ·subst dQ
    ((simp+decide only[go_sem,a02,a00]<;>rfl))
   by_cases gr:i=1
   ·subst gr
    ((simp+decide only[go_sem,a02,a00]<;>rfl))
   obtain rfl:i=2:=by omega
   ((simp+decide only[go_sem,a02,a00]<;>rfl))
  ·intro i hi;by_cases dQ:i=0
   ·subst dQ;have aE:x.k+0+1≤1000000000:=by omega
    have hw:=wI1 (n:=0) (by omega)
    (repeat first|simp only[ww]|(apply xa;simp+decide only[go_sem,aE,a6o,hw];rfl;kernel_rfl))
    refine a21 1 ?_ (by omega) (by omega)
    ((simp+decide only[go_sem,a02,a00,f4i]<;>rfl))
   by_cases gr:i=1
   ·subst gr;have aE:x.k+1+1≤1000000000:=by omega
    have hw:=wI1 (n:=1) (by omega)
    (repeat first|simp only[ww]|(apply xa;simp+decide only[go_sem,aE,a6o,hw];rfl;kernel_rfl))
    refine a21 2 ?_ (by omega) (by omega)
    ((simp+decide only[go_sem,a02,a00,f4i]<;>rfl))
   obtain rfl:i=2:=by omega
   (repeat first|simp only[ww]|(apply xa;simp+decide only[go_sem,hm];rfl;kernel_rfl))
   -- the gates
   refine a29 (σ:=Nat) kp47_4 (λi=>[(1,.ptr 0 0 0),(2,.ptr 1 0 0),(3,.ptr 2 0 0),(5,.int .i64 x.k),(6,.int .i64 2),(8,.int .i64 i)])
    (λi=>[xh x,rh,some (.row 4 [[.slice 3 0 (x.k+2+i) none,.nilslice,.nilslice,.nilslice]]),some (.row 4 (List.replicate x.k a7i++[dR 4,dR 5]++(gN x.bus x.base (x.gates.take i)).map Nd.enc))]++[one 0,one 0]) (λi=>x.gs.length-i) (λi=>i≤x.gs.length) 0 ?_ (f4m _) ?_ ?_
   ·(simp+decide only[go_sem,a02,a00,hm,f6b,d3z,f4i]<;>rfl)
   ·intro i _
    (simp+decide only[go_sem,a02,a00,hm,a0s,a17,f4i]<;>rfl)
   ·intro i hi;have gI:x.gs.length=min 8 x.gates.length:=by unfold CX.gs;rw[f9f]
    by_cases ah:i<x.gs.length
    ·obtain⟨g,hg⟩:∃g,x.gates[i]?=some g:=⟨_,z9e (by omega)⟩
     have c1:(i:Int)<x.gates.length:=by omega
     have iO:i<x.gates.length:=by omega
     have c2:(i:Int)<8:=by omega
     have hw:=wI1 (n:=i) (by omega);have jT:g.ok:=x5 g (c11 hg);have gw:(gN x.bus x.base (x.gates.take i)).length=i:=by rw[a6i,f9f];omega
     have hs:=c1d x.bus g (x.gates.take i) x.base;rw[←a0v hg]at hs;have ak:=c9t (d:=true) x g jT (gN x.bus x.base (x.gates.take i)) x.k (x.k+2+i) kp (by rw[gw]) (by omega) (xh x) rh (some (.row 4 [[.slice 3 0 (x.k+2+i) none,.nilslice,.nilslice,.nilslice]]));rw[show List.replicate x.k 0++List.replicate 2 14++(gN x.bus x.base (x.gates.take i)).map Nd.kind=x.base++(gN x.bus x.base (x.gates.take i)).map Nd.kind by unfold CX.base;rw[hd]]at ak;generalize a0p x.bus g (x.base++(gN x.bus x.base (x.gates.take i)).map Nd.kind)=nd at ak hs;simp+decide only[go_sem,hm,f4i]at ak;have aE:x.k+2+i+1≤1000000000:=by omega
     have ai:decide (x.k+2+i=x.k+(i+1+1))=true:=f8b (by omega)
     (repeat first|simp only[ww]|(apply xa;simp+decide only[go_sem,hm,c1,iO,c2,hw,hg,ak,aE,ai,f4i,gw];rfl;kernel_rfl))
     refine a21 (i+1) ?_ (by omega) (by omega);rw[hs]
     (simp+decide only[go_sem,a02,a00,hm,a0s,a17,f4i]<;>rfl)
    have cY:i=x.gs.length:=by omega
    subst cY;rw[x.gs_take];have gw:(gN x.bus x.base x.gs).length=x.gs.length:=a6i _ _ _;have bp:x.n=x.k+2+x.gs.length:=by unfold CX.n;rw[hd]
    rw[←bp];generalize hG:gN x.bus x.base x.gs=gg at gw;have sV:0<x.n:=by omega
    have cG:x.n≤14:=by omega
    have dc:¬(x.n:Int)=0:=by omega
    have lj:¬((x.gs.length:Int)<x.gates.length∧(x.gs.length:Int)<8):=by omega
    -- the guard of the loop's end is decided in either case
    have bh:∀F,F=[(1,AV.ptr 0 0 0),(2,.ptr 1 0 0),(3,.ptr 2 0 0),(5,.int .i64 x.k),(6,.int .i64 2),(8,.int .i64 x.gs.length)]→True:=λ_ _=>trivial;rcases g04 x.gs.length x.gates.length with g1|g1
    all_goals first
    |(have c1:(x.gs.length:Int)<x.gates.length:=(by omega);have c2:¬(x.gs.length:Int)<8:=(by omega);(repeat first|simp only[ww]|(apply xa;simp+decide only[go_sem,c1,c2,hm];rfl;kernel_rfl)))
    |(have c1:¬(x.gs.length:Int)<x.gates.length:=(by omega);(repeat first|simp only[ww]|(apply xa;simp+decide only[go_sem,c1,hm];rfl;kernel_rfl)))
    all_goals
     -- the flip-flops' data
     refine a29 (σ:=Nat) kp47_6 (λi=>[(1,.ptr 0 0 0),(2,.ptr 1 0 0),(3,.ptr 2 0 0),(5,.int .i64 x.k),(6,.int .i64 2),(9,.int .i64 x.n),(10,.int .i64 i)])
      (λi=>match i with|0=>[xh x,rh,some (.row 4 [[.slice 3 0 x.n none,.nilslice,.nilslice,.nilslice]]),some (.row 4 (List.replicate x.k a7i++[dR 4,dR 5]++gg.map Nd.enc))]++[one 0,one 0]|1=>[xh x,rh,some (.row 4 [[.slice 3 0 x.n none,.nilslice,.nilslice,.nilslice]]),some (.row 4 (List.replicate x.k a7i++[dR 4,dR 5]++gg.map Nd.enc))]++[one (x.d0%x.n),one 0]|_=>[xh x,rh,some (.row 4 [[.slice 3 0 x.n none,.nilslice,.nilslice,.nilslice]]),some (.row 4 (List.replicate x.k a7i++[dR 4,dR 5]++gg.map Nd.enc))]++[one (x.d0%x.n),one (x.d1%x.n)]) (λi=>2-i) (λi=>i≤2) 0 ?_ (f4m _) ?_ ?_
     ·(simp+decide only[go_sem,a02,a00,hm,a0s,a17,f4i]<;>rfl)
     ·intro i hi;by_cases dQ:i=0
      ·subst dQ
       (simp+decide only[go_sem,a02,a00,hm,a0s,a17,f4i]<;>rfl)
      by_cases gr:i=1
      ·subst gr
       (simp+decide only[go_sem,a02,a00,hm,a0s,a17,f4i]<;>rfl)
      obtain rfl:i=2:=by omega
      (simp+decide only[go_sem,a02,a00,hm,a0s,a17,f4i]<;>rfl)
     ·intro i hi;by_cases dQ:i=0
      ·subst dQ;have hw:=wI1 (n:=0) (by omega);have nS:IntKind.i64.wrap ((x.k:Int)+(((0:Nat)):Int))=((x.k+0:Nat):Int):=by rw[w64 (by omega) (by omega)];omega
       have jy:IntKind.i64.wrap ((x.k:Int)+0)=((x.k+0:Nat):Int):=by rw[w64 (by omega) (by omega)];omega
       have wd:=wI (n:=x.d0) (by omega);have dS:x.k+0<x.n:=by omega
       have gv:x.k<x.n:=by omega
       (repeat first|simp only[ww]|(apply xa;simp+decide only[go_sem,hm,hw,nS,jy,wd,dc,dS,gv,c63,c1a,c59,c05,f4i];rfl;kernel_rfl))
       refine a21 1 ?_ (by omega) (by omega)
       (simp+decide only[go_sem,a02,a00,hm,a0s,a17,f4i]<;>rfl)
      by_cases gr:i=1
      ·subst gr;have hw:=wI1 (n:=1) (by omega);have nS:IntKind.i64.wrap ((x.k:Int)+(((1:Nat)):Int))=((x.k+1:Nat):Int):=by rw[w64 (by omega) (by omega)];omega
       have jy:IntKind.i64.wrap ((x.k:Int)+1)=((x.k+1:Nat):Int):=by rw[w64 (by omega) (by omega)];omega
       have wd:=wI (n:=x.d1) (by omega);have dS:x.k+1<x.n:=by omega
       have gv:x.k<x.n:=by omega
       (repeat first|simp only[ww]|(apply xa;simp+decide only[go_sem,hm,hw,nS,jy,wd,dc,dS,gv,c63,c1a,c59,c05,f4i];rfl;kernel_rfl))
       refine a21 2 ?_ (by omega) (by omega)
       (simp+decide only[go_sem,a02,a00,hm,a0s,a17,f4i]<;>rfl)
      obtain rfl:i=2:=by omega
      (repeat first|simp only[ww]|(apply xa;simp+decide only[go_sem,hm];rfl;kernel_rfl))
      -- the names
      refine a29 (σ:=Nat) kp47_8 (λi=>[(1,.ptr 0 0 0),(2,.ptr 1 0 0),(3,.ptr 2 0 0),(9,.int .i64 x.n),(11,.int .i64 i)])
       (λi=>[xh x,rh,some (.row 4 [[.slice 3 0 x.n none,slN 6 i,.nilslice,.nilslice]]),some (.row 4 (List.replicate x.k a7i++[dR 4,dR 5]++gg.map Nd.enc))]++[one (x.d0%x.n),one (x.d1%x.n)]++nmH i) (λi=>x.n-i) (λi=>i≤x.n) 0 ?_ (f4m _) ?_ ?_
      ·(simp+decide only[go_sem,a02,a00,hm,b7u,d7d,a0s,a17,f4i]<;>rfl)
      ·intro i _;cases i with
       |zero=>(simp+decide only[go_sem,a02,a00,hm,b7u,d7d,a0s,a17,f4i]<;>rfl)
       |succ i=>(simp+decide only[go_sem,a02,a00,hm,b1h,d10,a0s,a17,a2y,a4m,f4i]<;>rfl)
      ·intro i hi;by_cases ah:i<x.n
       ·have c1:(i:Int)<x.n:=by omega
        have hw:=wI1 (n:=i) (by omega);have ak:=λH=>b62 (d:=true) H i (by omega);have aE:i+1≤1000000000:=by omega
        cases i with
        |zero=>
         (repeat first|simp only[ww]|(apply xa;simp+decide only[go_sem,hm,c1,hw,ak,b7u,d7d];rfl;kernel_rfl))
         refine a21 1 ?_ (by omega) (by omega)
         (simp+decide only[go_sem,a02,a00,hm,b1h,d10,a0s,a17,nm1,f4i]<;>rfl)
        |succ i=>
         have aE:i+1+1≤1000000000:=by omega
         (repeat first|simp only[ww]|(apply xa;simp+decide only[go_sem,hm,c1,hw,ak,b1h,d10,aE,f8g];rfl;kernel_rfl))
         refine a21 (i+1+1) ?_ (by omega) (by omega)
         (simp+decide only[go_sem,a02,a00,hm,b1h,d10,a0s,a17,a2y,a4m,c5l,f4i]<;>rfl)
       have cY:i=x.n:=by omega
       subst cY;have c1:¬(x.n:Int)<x.n:=by omega
       obtain⟨n',iy⟩:∃n',x.n=n'+1:=⟨x.n-1,by omega⟩
       have e1:slN 6 x.n = .slice 6 0 x.n none:=by rw[iy];rfl
       have e2:nmH x.n=[some (.row 1 ((List.range x.n).map nmR))]:=by rw[iy];rfl
       rw[e1,e2]
       (repeat first|simp only[ww]|(apply xa;simp+decide only[go_sem,hm,c1];rfl;kernel_rfl))
       -- the outputs
       refine a29 (σ:=Nat) kp47_10 (λi=>[(1,.ptr 0 0 0),(2,.ptr 1 0 0),(3,.ptr 2 0 0),(9,.int .i64 x.n),(12,.int .i64 i)])
        (λi=>[xh x,rh,some (.row 4 [[.slice 3 0 x.n none,.slice 6 0 x.n none,.nilslice,slN 7 i]]),some (.row 4 (List.replicate x.k a7i++[dR 4,dR 5]++gg.map Nd.enc))]++[one (x.d0%x.n),one (x.d1%x.n)]++[some (.row 1 ((List.range x.n).map nmR))]++otH x i) (λi=>3-i) (λi=>i≤3∧i≤x.outs.length) 0 ?_ ⟨by omega,by omega⟩ ?_ ?_
       ·(simp+decide only[go_sem,a02,a00,hm,b7u,d0y,a0s,a17,a2y,a4m,f4i]<;>rfl)
       ·intro i _;cases i with
        |zero=>(simp+decide only[go_sem,a02,a00,hm,b7u,d0y,a0s,a17,a2y,a4m,f4i]<;>rfl)
        |succ i=>(simp+decide only[go_sem,a02,a00,hm,b1h,c24,a0s,a17,a2y,a4m,b3h,b8i,f4i]<;>rfl)
       ·intro i hi;by_cases ah:i<3∧i<x.outs.length
        ·obtain⟨o,ho⟩:∃o,x.outs[i]?=some o:=⟨_,z9e ah.2⟩
         have bW:=x6 o (c11 ho);have wo:=wI (n:=o) (by omega);have c1:(i:Int)<x.outs.length:=by omega
         have iO:i<x.outs.length:=by omega
         have c2:(i:Int)<3:=by omega
         have hw:=wI1 (n:=i) (by omega);have ht:=a0v ho;have bJ:(x.outs.take i).length=i:=by rw[f9f];omega
         cases i with
         |zero=>
          (repeat first|simp only[ww]|(apply xa;simp+decide only[go_sem,hm,c1,iO,c2,hw,ho,wo,dc,b7u,d0y];rfl;kernel_rfl))
          refine a21 1 ?_ (by omega) ⟨by omega,by omega⟩
          (simp+decide only[go_sem,a02,a00,hm,b1h,c24,a0s,a17,a2y,a4m,ht,f6b,f4i]<;>rfl)
         |succ i=>
          have aE:i+1+1≤1000000000:=by omega
          (repeat first|simp only[ww]|(apply xa;simp+decide only[go_sem,hm,c1,iO,c2,hw,ho,wo,dc,b1h,c24,aE,bJ];rfl;kernel_rfl))
          refine a21 (i+1+1) ?_ (by omega) ⟨by omega,by omega⟩
          (simp+decide only[go_sem,a02,a00,hm,b1h,c24,a0s,a17,a2y,a4m,b3h,b8i,ht,f4i]<;>rfl)
        have oI:x.outs.take i=x.outs.take 3:=by
         by_cases h3:i=3
         ·rw[h3]
         ·rw[f4l (by omega),f4l (by omega)]
        have cM:(x.outs.take i).length=i:=by rw[f9f];omega
        have jx:IntKind.i64.wrap ((x.n:Int)-1)=((x.n-1:Nat):Int):=by rw[w64 (by omega) (by omega)];omega
        have e7:x.cir=⟨some none,List.replicate x.k c60++[b1c (x.d0%x.n),b1c (x.d1%x.n)]++gg,some none,(List.range x.n).map a4o,some none,(x.outs.take i).map (·% x.n)++[x.n-1]⟩:=by rw[oI,←hG];simp[CX.cir,CX.nodes,CX.dn,CX.names,CX.outN,hd]
        rw[e7];have go:x.n≤x.k+2+gg.length:=by omega
        have fa:x.k+2+gg.length≤x.n:=by omega
        cases i with
        |zero=>
         have c1:¬((0:Nat):Int)<x.outs.length:=by omega
         (repeat first|simp only[ww]|(apply xa;simp+decide only[go_sem,hm,c1,b7u,d0y,jx,cM];rfl;kernel_rfl))
         (apply fqb;simp+decide only[go_sem,hm,b3f,b9e,b9d,b9c,a5y,g1o,cM,c60,b1c,b8s,Cir.enc,b0a,go,fa,f8g,f6l,b8q,f6b]<;>rfl)
        |succ i=>
         have aE:i+1+1≤1000000000:=by omega
         rcases g04 (i+1) x.outs.length with g1|g1
         all_goals first
         |(have c1:((i+1:Nat):Int)<x.outs.length:=(by omega);have c2:¬((i+1:Nat):Int)<3:=(by omega);(repeat first|simp only[ww]|(apply xa;simp+decide only[go_sem,hm,c1,c2,b1h,c24,aE,jx,cM];rfl;kernel_rfl)))
         |(have c1:¬((i+1:Nat):Int)<x.outs.length:=(by omega);(repeat first|simp only[ww]|(apply xa;simp+decide only[go_sem,hm,c1,b1h,c24,aE,jx,cM];rfl;kernel_rfl)))
         all_goals (apply fqb;simp+decide only[go_sem,hm,b3f,b9e,b9d,b9c,a5y,g1o,cM,c60,b1c,b8s,Cir.enc,b0a,go,fa,f8g,f6l,b8q]<;>rfl)
theorem f4x(x:CX)(hx:x.ok)(hm:x.mem=false):sem L.env Mf 47 [.agg x.enc] []=some (.agg x.cir.enc,[]):=by
 have h3:x.d<3:=Nat.mod_lt _ (by omega);have h:x.d=0∨x.d=1∨x.d=2:=by omega
 rcases h with h|h|h
 ·exact e8r x hx hm h
 ·exact e8q x hx hm h
 ·exact e8p x hx hm h
theorem b4u(c:Cir):a0l c.enc=[]:=by simp only[go_sem,Cir.enc]
theorem e3h{d:Bool}(H:a03)(x:CX)(hx:x.ok)(hm:x.mem=false):a0b L.env d (sem L.env Mf) (.func (.func 47) [] []) [.agg x.enc] H=some (.agg x.cir.enc,H,[]):=a04 (by kernel_rfl) (by kernel_rfl) rfl (by simp only[go_sem]) (f4x x hx hm) (b4u _)
def b4m(x:CX):CX:={ x with mem:=false }
theorem d0h(x:CX)(hx:x.ok):sem L.env Mf 20 [.agg x.enc] []=some (.agg (b4m x).cir.enc,[]):=by
 have gW:(b4m x).ok:=⟨hx.1,hx.2,hx.3,hx.4,hx.5,hx.6⟩
 have hc:=λH=>e3h (d:=false) H (b4m x) gW rfl;generalize(b4m x).cir=c at hc;simp only[go_sem,b4m]at hc;simp only[Cir.enc]at hc;have bh:∀l:List AV,a0l l=[]→l.length=4→a1f false 0 (.agg l) []=some (.agg l,[]):=λl h _=>a7c h
 (refine sv Tryz.f20 ?_;simp only[Tryz.f20,gS])
 (repeat first|simp only[ww]|(apply xa;simp+decide only[go_sem,hc];rfl;kernel_rfl))
 (apply fqb;simp+decide only[go_sem,Cir.enc]<;>rfl)
theorem c4b{d:Bool}(H:a03)(x:CX)(hx:x.ok):a0b L.env d (sem L.env Mf) (.func (.func 20) [] []) [.agg x.enc] H=some (.agg (b4m x).cir.enc,H,[]):=a04 (by kernel_rfl) (by kernel_rfl) rfl (by simp only[go_sem]) (d0h x hx) (b4u _)
end Go.TInst
