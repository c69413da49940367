/- The closed run of the chapter's examples, by the kernel: part 1 (printed by mkfactsF.py). -/
import Derived.Test.YtnkhpfincnfloaaGreatDoorFFd
import Derived.KernelRfl
set_option linter.unusedSimpArgs false
set_option linter.unusedVariables false
namespace Go.FInst
open Go.Proofs Go.Ax
set_option maxRecDepth 1000000
theorem e3:runFn L.env (mcall L.env M3 60) 60 x3.g x3.args []=some (x3.v,[]):=by kernel_rfl
theorem e12:runFn L.env (mcall L.env M12 60) 60 x12.g x12.args []=some (x12.v,[]):=by kernel_rfl
theorem e15:runFn L.env (mcall L.env M15 60) 60 x15.g x15.args []=some (x15.v,[]):=by kernel_rfl
theorem e18:runFn L.env (mcall L.env M18 60) 60 x18.g x18.args []=some (x18.v,[]):=by kernel_rfl
theorem e19:runFn L.env (mcall L.env M19 60) 60 x19.g x19.args []=some (x19.v,[]):=by kernel_rfl
theorem e23:runFn L.env (mcall L.env M23 60) 60 x23.g x23.args []=some (x23.v,[]):=by kernel_rfl
theorem e24:runFn L.env (mcall L.env M24 60) 60 x24.g x24.args []=some (x24.v,[]):=by kernel_rfl
theorem e25:runFn L.env (mcall L.env M25 60) 60 x25.g x25.args []=some (x25.v,[]):=by kernel_rfl
theorem e31:runFn L.env (mcall L.env M31 60) 60 x31.g x31.args []=some (x31.v,[]):=by kernel_rfl
theorem e35:runFn L.env (mcall L.env M35 60) 60 x35.g x35.args []=some (x35.v,[]):=by kernel_rfl
theorem e39:runFn L.env (mcall L.env M39 60) 60 x39.g x39.args []=some (x39.v,[]):=by kernel_rfl
theorem e44:runFn L.env (mcall L.env M44 60) 60 x44.g x44.args []=some (x44.v,[]):=by kernel_rfl
theorem e49:runFn L.env (mcall L.env M49 60) 60 x49.g x49.args []=some (x49.v,[]):=by kernel_rfl
theorem e60:runFn L.env (mcall L.env M60 60) 60 x60.g x60.args []=some (x60.v,[]):=by kernel_rfl
theorem e62:runFn L.env (mcall L.env M62 60) 60 x62.g x62.args []=some (x62.v,[]):=by kernel_rfl
theorem e63:runFn L.env (mcall L.env M63 60) 60 x63.g x63.args []=some (x63.v,[]):=by kernel_rfl
theorem e73:runFn L.env (mcall L.env M73 60) 60 x73.g x73.args []=some (x73.v,[]):=by kernel_rfl
theorem e76:runFn L.env (mcall L.env M76 60) 60 x76.g x76.args []=some (x76.v,[]):=by kernel_rfl
theorem e79:runFn L.env (mcall L.env M79 60) 60 x79.g x79.args []=some (x79.v,[]):=by kernel_rfl
theorem e81:runFn L.env (mcall L.env M81 60) 60 x81.g x81.args []=some (x81.v,[]):=by kernel_rfl
theorem e95:runFn L.env (mcall L.env M95 60) 60 x95.g x95.args []=some (x95.v,[]):=by kernel_rfl
theorem e96:runFn L.env (mcall L.env M96 60) 60 x96.g x96.args []=some (x96.v,[]):=by kernel_rfl
theorem e103:runFn L.env (mcall L.env M103 60) 60 x103.g x103.args []=some (x103.v,[]):=by kernel_rfl
theorem e109:runFn L.env (mcall L.env M109 60) 60 x109.g x109.args []=some (x109.v,[]):=by kernel_rfl
theorem e127:runFn L.env (mcall L.env M127 60) 60 x127.g x127.args []=some (x127.v,[]):=by kernel_rfl
theorem e135:runFn L.env (mcall L.env M135 60) 60 x135.g x135.args []=some (x135.v,[]):=by kernel_rfl
theorem e138:runFn L.env (mcall L.env M138 60) 60 x138.g x138.args []=some (x138.v,[]):=by kernel_rfl
theorem e141:runFn L.env (mcall L.env M141 60) 60 x141.g x141.args []=some (x141.v,[]):=by kernel_rfl
theorem e154:runFn L.env (mcall L.env M154 60) 60 x154.g x154.args []=some (x154.v,[]):=by kernel_rfl
theorem e157:runFn L.env (mcall L.env M157 60) 60 x157.g x157.args []=some (x157.v,[]):=by kernel_rfl
theorem e162:runFn L.env (mcall L.env M162 60) 60 x162.g x162.args []=some (x162.v,[]):=by kernel_rfl
theorem e163:runFn L.env (mcall L.env M163 60) 60 x163.g x163.args []=some (x163.v,[]):=by kernel_rfl
theorem e166:runFn L.env (mcall L.env M166 60) 60 x166.g x166.args []=some (x166.v,[]):=by kernel_rfl
theorem e168:runFn L.env (mcall L.env M168 60) 60 x168.g x168.args []=some (x168.v,[]):=by kernel_rfl
end Go.FInst
