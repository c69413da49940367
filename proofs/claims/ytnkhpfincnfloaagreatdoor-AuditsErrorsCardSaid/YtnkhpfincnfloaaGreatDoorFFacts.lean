/- The closed run of the chapter's examples (printed by mkfactsF.py). -/
import Derived.Test.YtnkhpfincnfloaaGreatDoorFFe0
import Derived.Test.YtnkhpfincnfloaaGreatDoorFFe1
import Derived.Test.YtnkhpfincnfloaaGreatDoorFFe2
import Derived.Test.YtnkhpfincnfloaaGreatDoorFFe3
import Derived.Test.YtnkhpfincnfloaaGreatDoorFFe4
set_option linter.unusedSimpArgs false
set_option linter.unusedVariables false
namespace Go.FInst
open Go.Proofs Go.Ax
set_option maxRecDepth 1000000
theorem h0:∀x∈M0,FactOk L.env x:=facts_nil
theorem h1:∀x∈M1,FactOk L.env x:=facts_cons (fact_of ok dr h0 60 e0) h0
theorem h2:∀x∈M2,FactOk L.env x:=facts_cons (fact_of ok dr h1 60 e1) h1
theorem h3:∀x∈M3,FactOk L.env x:=facts_cons (fact_of ok dr h2 60 e2) h2
theorem h4:∀x∈M4,FactOk L.env x:=facts_cons (fact_of ok dr h3 60 e3) h3
theorem h5:∀x∈M5,FactOk L.env x:=facts_cons (fact_of ok dr h4 60 e4) h4
theorem h6:∀x∈M6,FactOk L.env x:=facts_cons (fact_of ok dr h5 60 e5) h5
theorem h7:∀x∈M7,FactOk L.env x:=facts_cons (fact_of ok dr h6 60 e6) h6
theorem h8:∀x∈M8,FactOk L.env x:=facts_cons (fact_of ok dr h7 60 e7) h7
theorem h9:∀x∈M9,FactOk L.env x:=facts_cons (fact_of ok dr h8 60 e8) h8
theorem h10:∀x∈M10,FactOk L.env x:=facts_cons (fact_of ok dr h9 60 e9) h9
theorem h11:∀x∈M11,FactOk L.env x:=facts_cons (fact_of ok dr h10 60 e10) h10
theorem h12:∀x∈M12,FactOk L.env x:=facts_cons (fact_of ok dr h11 60 e11) h11
theorem h13:∀x∈M13,FactOk L.env x:=facts_cons (fact_of ok dr h12 60 e12) h12
theorem h14:∀x∈M14,FactOk L.env x:=facts_cons (fact_of ok dr h13 60 e13) h13
theorem h15:∀x∈M15,FactOk L.env x:=facts_cons (fact_of ok dr h14 60 e14) h14
theorem h16:∀x∈M16,FactOk L.env x:=facts_cons (fact_of ok dr h15 60 e15) h15
theorem h17:∀x∈M17,FactOk L.env x:=facts_cons (fact_of ok dr h16 60 e16) h16
theorem h18:∀x∈M18,FactOk L.env x:=facts_cons (fact_of ok dr h17 60 e17) h17
theorem h19:∀x∈M19,FactOk L.env x:=facts_cons (fact_of ok dr h18 60 e18) h18
theorem h20:∀x∈M20,FactOk L.env x:=facts_cons (fact_of ok dr h19 60 e19) h19
theorem h21:∀x∈M21,FactOk L.env x:=facts_cons (fact_of ok dr h20 60 e20) h20
theorem h22:∀x∈M22,FactOk L.env x:=facts_cons (fact_of ok dr h21 60 e21) h21
theorem h23:∀x∈M23,FactOk L.env x:=facts_cons (fact_of ok dr h22 60 e22) h22
theorem h24:∀x∈M24,FactOk L.env x:=facts_cons (fact_of ok dr h23 60 e23) h23
theorem h25:∀x∈M25,FactOk L.env x:=facts_cons (fact_of ok dr h24 60 e24) h24
theorem h26:∀x∈M26,FactOk L.env x:=facts_cons (fact_of ok dr h25 60 e25) h25
theorem h27:∀x∈M27,FactOk L.env x:=facts_cons (fact_of ok dr h26 60 e26) h26
theorem h28:∀x∈M28,FactOk L.env x:=facts_cons (fact_of ok dr h27 60 e27) h27
theorem h29:∀x∈M29,FactOk L.env x:=facts_cons (fact_of ok dr h28 60 e28) h28
theorem h30:∀x∈M30,FactOk L.env x:=facts_cons (fact_of ok dr h29 60 e29) h29
theorem h31:∀x∈M31,FactOk L.env x:=facts_cons (fact_of ok dr h30 60 e30) h30
theorem h32:∀x∈M32,FactOk L.env x:=facts_cons (fact_of ok dr h31 60 e31) h31
theorem h33:∀x∈M33,FactOk L.env x:=facts_cons (fact_of ok dr h32 60 e32) h32
theorem h34:∀x∈M34,FactOk L.env x:=facts_cons (fact_of ok dr h33 60 e33) h33
theorem h35:∀x∈M35,FactOk L.env x:=facts_cons (fact_of ok dr h34 60 e34) h34
theorem h36:∀x∈M36,FactOk L.env x:=facts_cons (fact_of ok dr h35 60 e35) h35
theorem h37:∀x∈M37,FactOk L.env x:=facts_cons (fact_of ok dr h36 60 e36) h36
theorem h38:∀x∈M38,FactOk L.env x:=facts_cons (fact_ofD h37 60 e37) h37
theorem h39:∀x∈M39,FactOk L.env x:=facts_cons (fact_of ok dr h38 60 e38) h38
theorem h40:∀x∈M40,FactOk L.env x:=facts_cons (fact_of ok dr h39 60 e39) h39
theorem h41:∀x∈M41,FactOk L.env x:=facts_cons (fact_of ok dr h40 60 e40) h40
theorem h42:∀x∈M42,FactOk L.env x:=facts_cons (fact_of ok dr h41 60 e41) h41
theorem h43:∀x∈M43,FactOk L.env x:=facts_cons (fact_of ok dr h42 60 e42) h42
theorem h44:∀x∈M44,FactOk L.env x:=facts_cons (fact_of ok dr h43 60 e43) h43
theorem h45:∀x∈M45,FactOk L.env x:=facts_cons (fact_of ok dr h44 60 e44) h44
theorem h46:∀x∈M46,FactOk L.env x:=facts_cons (fact_of ok dr h45 60 e45) h45
theorem h47:∀x∈M47,FactOk L.env x:=facts_cons (fact_of ok dr h46 60 e46) h46
theorem h48:∀x∈M48,FactOk L.env x:=facts_cons (fact_of ok dr h47 60 e47) h47
theorem h49:∀x∈M49,FactOk L.env x:=facts_cons (fact_of ok dr h48 60 e48) h48
theorem h50:∀x∈M50,FactOk L.env x:=facts_cons (fact_of ok dr h49 60 e49) h49
theorem h51:∀x∈M51,FactOk L.env x:=facts_cons (fact_of ok dr h50 60 e50) h50
theorem h52:∀x∈M52,FactOk L.env x:=facts_cons (fact_of ok dr h51 60 e51) h51
theorem h53:∀x∈M53,FactOk L.env x:=facts_cons (fact_of ok dr h52 60 e52) h52
theorem h54:∀x∈M54,FactOk L.env x:=facts_cons (fact_of ok dr h53 60 e53) h53
theorem h55:∀x∈M55,FactOk L.env x:=facts_cons (fact_of ok dr h54 60 e54) h54
theorem h56:∀x∈M56,FactOk L.env x:=facts_cons (fact_of ok dr h55 60 e55) h55
theorem h57:∀x∈M57,FactOk L.env x:=facts_cons (fact_of ok dr h56 60 e56) h56
theorem h58:∀x∈M58,FactOk L.env x:=facts_cons (fact_of ok dr h57 60 e57) h57
theorem h59:∀x∈M59,FactOk L.env x:=facts_cons (fact_of ok dr h58 60 e58) h58
theorem h60:∀x∈M60,FactOk L.env x:=facts_cons (fact_of ok dr h59 60 e59) h59
theorem h61:∀x∈M61,FactOk L.env x:=facts_cons (fact_of ok dr h60 60 e60) h60
theorem h62:∀x∈M62,FactOk L.env x:=facts_cons (fact_of ok dr h61 60 e61) h61
theorem h63:∀x∈M63,FactOk L.env x:=facts_cons (fact_of ok dr h62 60 e62) h62
theorem h64:∀x∈M64,FactOk L.env x:=facts_cons (fact_of ok dr h63 60 e63) h63
theorem h65:∀x∈M65,FactOk L.env x:=facts_cons (fact_ofD h64 60 e64) h64
theorem h66:∀x∈M66,FactOk L.env x:=facts_cons (fact_of ok dr h65 60 e65) h65
theorem h67:∀x∈M67,FactOk L.env x:=facts_cons (fact_of ok dr h66 60 e66) h66
theorem h68:∀x∈M68,FactOk L.env x:=facts_cons (fact_of ok dr h67 60 e67) h67
theorem h69:∀x∈M69,FactOk L.env x:=facts_cons (fact_of ok dr h68 60 e68) h68
theorem h70:∀x∈M70,FactOk L.env x:=facts_cons (fact_of ok dr h69 60 e69) h69
theorem h71:∀x∈M71,FactOk L.env x:=facts_cons (fact_of ok dr h70 60 e70) h70
theorem h72:∀x∈M72,FactOk L.env x:=facts_cons (fact_of ok dr h71 60 e71) h71
theorem h73:∀x∈M73,FactOk L.env x:=facts_cons (fact_of ok dr h72 60 e72) h72
theorem h74:∀x∈M74,FactOk L.env x:=facts_cons (fact_of ok dr h73 60 e73) h73
theorem h75:∀x∈M75,FactOk L.env x:=facts_cons (fact_of ok dr h74 60 e74) h74
theorem h76:∀x∈M76,FactOk L.env x:=facts_cons (fact_of ok dr h75 60 e75) h75
theorem h77:∀x∈M77,FactOk L.env x:=facts_cons (fact_of ok dr h76 60 e76) h76
theorem h78:∀x∈M78,FactOk L.env x:=facts_cons (fact_of ok dr h77 60 e77) h77
theorem h79:∀x∈M79,FactOk L.env x:=facts_cons (fact_of ok dr h78 60 e78) h78
theorem h80:∀x∈M80,FactOk L.env x:=facts_cons (fact_of ok dr h79 60 e79) h79
theorem h81:∀x∈M81,FactOk L.env x:=facts_cons (fact_ofD h80 60 e80) h80
theorem h82:∀x∈M82,FactOk L.env x:=facts_cons (fact_of ok dr h81 60 e81) h81
theorem h83:∀x∈M83,FactOk L.env x:=facts_cons (fact_of ok dr h82 60 e82) h82
theorem h84:∀x∈M84,FactOk L.env x:=facts_cons (fact_of ok dr h83 60 e83) h83
theorem h85:∀x∈M85,FactOk L.env x:=facts_cons (fact_of ok dr h84 60 e84) h84
theorem h86:∀x∈M86,FactOk L.env x:=facts_cons (fact_of ok dr h85 60 e85) h85
theorem h87:∀x∈M87,FactOk L.env x:=facts_cons (fact_of ok dr h86 60 e86) h86
theorem h88:∀x∈M88,FactOk L.env x:=facts_cons (fact_of ok dr h87 60 e87) h87
theorem h89:∀x∈M89,FactOk L.env x:=facts_cons (fact_of ok dr h88 60 e88) h88
theorem h90:∀x∈M90,FactOk L.env x:=facts_cons (fact_of ok dr h89 60 e89) h89
theorem h91:∀x∈M91,FactOk L.env x:=facts_cons (fact_of ok dr h90 60 e90) h90
theorem h92:∀x∈M92,FactOk L.env x:=facts_cons (fact_of ok dr h91 60 e91) h91
theorem h93:∀x∈M93,FactOk L.env x:=facts_cons (fact_of ok dr h92 60 e92) h92
theorem h94:∀x∈M94,FactOk L.env x:=facts_cons (fact_of ok dr h93 60 e93) h93
theorem h95:∀x∈M95,FactOk L.env x:=facts_cons (fact_of ok dr h94 60 e94) h94
theorem h96:∀x∈M96,FactOk L.env x:=facts_cons (fact_of ok dr h95 60 e95) h95
theorem h97:∀x∈M97,FactOk L.env x:=facts_cons (fact_of ok dr h96 60 e96) h96
theorem h98:∀x∈M98,FactOk L.env x:=facts_cons (fact_of ok dr h97 60 e97) h97
theorem h99:∀x∈M99,FactOk L.env x:=facts_cons (fact_of ok dr h98 60 e98) h98
theorem h100:∀x∈M100,FactOk L.env x:=facts_cons (fact_of ok dr h99 60 e99) h99
theorem h101:∀x∈M101,FactOk L.env x:=facts_cons (fact_of ok dr h100 60 e100) h100
theorem h102:∀x∈M102,FactOk L.env x:=facts_cons (fact_of ok dr h101 60 e101) h101
theorem h103:∀x∈M103,FactOk L.env x:=facts_cons (fact_of ok dr h102 60 e102) h102
theorem h104:∀x∈M104,FactOk L.env x:=facts_cons (fact_of ok dr h103 60 e103) h103
theorem h105:∀x∈M105,FactOk L.env x:=facts_cons (fact_of ok dr h104 60 e104) h104
theorem h106:∀x∈M106,FactOk L.env x:=facts_cons (fact_of ok dr h105 60 e105) h105
theorem h107:∀x∈M107,FactOk L.env x:=facts_cons (fact_of ok dr h106 60 e106) h106
theorem h108:∀x∈M108,FactOk L.env x:=facts_cons (fact_of ok dr h107 60 e107) h107
theorem h109:∀x∈M109,FactOk L.env x:=facts_cons (fact_of ok dr h108 60 e108) h108
theorem h110:∀x∈M110,FactOk L.env x:=facts_cons (fact_of ok dr h109 60 e109) h109
theorem h111:∀x∈M111,FactOk L.env x:=facts_cons (fact_of ok dr h110 60 e110) h110
theorem h112:∀x∈M112,FactOk L.env x:=facts_cons (fact_of ok dr h111 60 e111) h111
theorem h113:∀x∈M113,FactOk L.env x:=facts_cons (fact_of ok dr h112 60 e112) h112
theorem h114:∀x∈M114,FactOk L.env x:=facts_cons (fact_of ok dr h113 60 e113) h113
theorem h115:∀x∈M115,FactOk L.env x:=facts_cons (fact_of ok dr h114 60 e114) h114
theorem h116:∀x∈M116,FactOk L.env x:=facts_cons (fact_of ok dr h115 60 e115) h115
theorem h117:∀x∈M117,FactOk L.env x:=facts_cons (fact_of ok dr h116 60 e116) h116
theorem h118:∀x∈M118,FactOk L.env x:=facts_cons (fact_of ok dr h117 60 e117) h117
theorem h119:∀x∈M119,FactOk L.env x:=facts_cons (fact_of ok dr h118 60 e118) h118
theorem h120:∀x∈M120,FactOk L.env x:=facts_cons (fact_of ok dr h119 60 e119) h119
theorem h121:∀x∈M121,FactOk L.env x:=facts_cons (fact_of ok dr h120 60 e120) h120
theorem h122:∀x∈M122,FactOk L.env x:=facts_cons (fact_of ok dr h121 60 e121) h121
theorem h123:∀x∈M123,FactOk L.env x:=facts_cons (fact_of ok dr h122 60 e122) h122
theorem h124:∀x∈M124,FactOk L.env x:=facts_cons (fact_of ok dr h123 60 e123) h123
theorem h125:∀x∈M125,FactOk L.env x:=facts_cons (fact_of ok dr h124 60 e124) h124
theorem h126:∀x∈M126,FactOk L.env x:=facts_cons (fact_of ok dr h125 60 e125) h125
theorem h127:∀x∈M127,FactOk L.env x:=facts_cons (fact_of ok dr h126 60 e126) h126
theorem h128:∀x∈M128,FactOk L.env x:=facts_cons (fact_of ok dr h127 60 e127) h127
theorem h129:∀x∈M129,FactOk L.env x:=facts_cons (fact_of ok dr h128 60 e128) h128
theorem h130:∀x∈M130,FactOk L.env x:=facts_cons (fact_of ok dr h129 60 e129) h129
theorem h131:∀x∈M131,FactOk L.env x:=facts_cons (fact_of ok dr h130 60 e130) h130
theorem h132:∀x∈M132,FactOk L.env x:=facts_cons (fact_of ok dr h131 60 e131) h131
theorem h133:∀x∈M133,FactOk L.env x:=facts_cons (fact_of ok dr h132 60 e132) h132
theorem h134:∀x∈M134,FactOk L.env x:=facts_cons (fact_of ok dr h133 60 e133) h133
theorem h135:∀x∈M135,FactOk L.env x:=facts_cons (fact_of ok dr h134 60 e134) h134
theorem h136:∀x∈M136,FactOk L.env x:=facts_cons (fact_of ok dr h135 60 e135) h135
theorem h137:∀x∈M137,FactOk L.env x:=facts_cons (fact_of ok dr h136 60 e136) h136
theorem h138:∀x∈M138,FactOk L.env x:=facts_cons (fact_of ok dr h137 60 e137) h137
theorem h139:∀x∈M139,FactOk L.env x:=facts_cons (fact_of ok dr h138 60 e138) h138
theorem h140:∀x∈M140,FactOk L.env x:=facts_cons (fact_of ok dr h139 60 e139) h139
theorem h141:∀x∈M141,FactOk L.env x:=facts_cons (fact_of ok dr h140 60 e140) h140
theorem h142:∀x∈M142,FactOk L.env x:=facts_cons (fact_of ok dr h141 60 e141) h141
theorem h143:∀x∈M143,FactOk L.env x:=facts_cons (fact_of ok dr h142 60 e142) h142
theorem h144:∀x∈M144,FactOk L.env x:=facts_cons (fact_of ok dr h143 60 e143) h143
theorem h145:∀x∈M145,FactOk L.env x:=facts_cons (fact_of ok dr h144 60 e144) h144
theorem h146:∀x∈M146,FactOk L.env x:=facts_cons (fact_of ok dr h145 60 e145) h145
theorem h147:∀x∈M147,FactOk L.env x:=facts_cons (fact_of ok dr h146 60 e146) h146
theorem h148:∀x∈M148,FactOk L.env x:=facts_cons (fact_of ok dr h147 60 e147) h147
theorem h149:∀x∈M149,FactOk L.env x:=facts_cons (fact_of ok dr h148 60 e148) h148
theorem h150:∀x∈M150,FactOk L.env x:=facts_cons (fact_of ok dr h149 60 e149) h149
theorem h151:∀x∈M151,FactOk L.env x:=facts_cons (fact_of ok dr h150 60 e150) h150
theorem h152:∀x∈M152,FactOk L.env x:=facts_cons (fact_of ok dr h151 60 e151) h151
theorem h153:∀x∈M153,FactOk L.env x:=facts_cons (fact_of ok dr h152 60 e152) h152
theorem h154:∀x∈M154,FactOk L.env x:=facts_cons (fact_of ok dr h153 60 e153) h153
theorem h155:∀x∈M155,FactOk L.env x:=facts_cons (fact_of ok dr h154 60 e154) h154
theorem h156:∀x∈M156,FactOk L.env x:=facts_cons (fact_of ok dr h155 60 e155) h155
theorem h157:∀x∈M157,FactOk L.env x:=facts_cons (fact_of ok dr h156 60 e156) h156
theorem h158:∀x∈M158,FactOk L.env x:=facts_cons (fact_of ok dr h157 60 e157) h157
theorem h159:∀x∈M159,FactOk L.env x:=facts_cons (fact_of ok dr h158 60 e158) h158
theorem h160:∀x∈M160,FactOk L.env x:=facts_cons (fact_of ok dr h159 60 e159) h159
theorem h161:∀x∈M161,FactOk L.env x:=facts_cons (fact_of ok dr h160 60 e160) h160
theorem h162:∀x∈M162,FactOk L.env x:=facts_cons (fact_of ok dr h161 60 e161) h161
theorem h163:∀x∈M163,FactOk L.env x:=facts_cons (fact_of ok dr h162 60 e162) h162
theorem h164:∀x∈M164,FactOk L.env x:=facts_cons (fact_of ok dr h163 60 e163) h163
theorem h165:∀x∈M165,FactOk L.env x:=facts_cons (fact_of ok dr h164 60 e164) h164
theorem h166:∀x∈M166,FactOk L.env x:=facts_cons (fact_of ok dr h165 60 e165) h165
theorem h167:∀x∈M167,FactOk L.env x:=facts_cons (fact_of ok dr h166 60 e166) h166
theorem h168:∀x∈M168,FactOk L.env x:=facts_cons (fact_of ok dr h167 60 e167) h167
theorem h169:∀x∈M169,FactOk L.env x:=facts_cons (fact_of ok dr h168 60 e168) h168
theorem kn0:FactOk L.env ⟨219,[.str [110,48,48]],.bool true⟩:=fact_of ok dr h169 60 (by kernel_rfl)
theorem kn1:FactOk L.env ⟨219,[.str [110,48,49]],.bool true⟩:=fact_of ok dr h169 60 (by kernel_rfl)
theorem kn2:FactOk L.env ⟨219,[.str [110,48,50]],.bool true⟩:=fact_of ok dr h169 60 (by kernel_rfl)
theorem kn3:FactOk L.env ⟨219,[.str [110,48,51]],.bool true⟩:=fact_of ok dr h169 60 (by kernel_rfl)
theorem kn4:FactOk L.env ⟨219,[.str [110,48,52]],.bool true⟩:=fact_of ok dr h169 60 (by kernel_rfl)
theorem kn5:FactOk L.env ⟨219,[.str [110,48,53]],.bool true⟩:=fact_of ok dr h169 60 (by kernel_rfl)
theorem kn6:FactOk L.env ⟨219,[.str [110,48,54]],.bool true⟩:=fact_of ok dr h169 60 (by kernel_rfl)
theorem kn7:FactOk L.env ⟨219,[.str [110,48,55]],.bool true⟩:=fact_of ok dr h169 60 (by kernel_rfl)
theorem kn8:FactOk L.env ⟨219,[.str [110,48,56]],.bool true⟩:=fact_of ok dr h169 60 (by kernel_rfl)
theorem kn9:FactOk L.env ⟨219,[.str [110,48,57]],.bool true⟩:=fact_of ok dr h169 60 (by kernel_rfl)
theorem kn10:FactOk L.env ⟨219,[.str [110,49,48]],.bool true⟩:=fact_of ok dr h169 60 (by kernel_rfl)
theorem kn11:FactOk L.env ⟨219,[.str [110,49,49]],.bool true⟩:=fact_of ok dr h169 60 (by kernel_rfl)
theorem kn12:FactOk L.env ⟨219,[.str [110,49,50]],.bool true⟩:=fact_of ok dr h169 60 (by kernel_rfl)
theorem kn13:FactOk L.env ⟨219,[.str [110,49,51]],.bool true⟩:=fact_of ok dr h169 60 (by kernel_rfl)
theorem kn14:FactOk L.env ⟨219,[.str [110,49,52]],.bool true⟩:=fact_of ok dr h169 60 (by kernel_rfl)
theorem kn15:FactOk L.env ⟨219,[.str [110,49,53]],.bool true⟩:=fact_of ok dr h169 60 (by kernel_rfl)
theorem livesFacts:∀y∈Mf,FactOk L.env y:=by
 intro y hy;simp only[Mf,List.mem_cons,List.not_mem_nil,or_false]at hy;rcases hy with rfl|rfl|rfl|rfl|rfl|rfl|rfl|rfl|rfl|rfl|rfl|rfl|rfl|rfl|rfl|rfl|rfl
 ·exact h169 x168 (List.mem_cons_self ..)
 ·exact kn0
 ·exact kn1
 ·exact kn2
 ·exact kn3
 ·exact kn4
 ·exact kn5
 ·exact kn6
 ·exact kn7
 ·exact kn8
 ·exact kn9
 ·exact kn10
 ·exact kn11
 ·exact kn12
 ·exact kn13
 ·exact kn14
 ·exact kn15
end Go.FInst
