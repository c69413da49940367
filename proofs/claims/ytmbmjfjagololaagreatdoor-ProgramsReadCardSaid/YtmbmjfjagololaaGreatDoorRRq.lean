/- Part of a proof. No condition. -/
import Derived.Test.YtmbmjfjagololaaGreatDoorRRp
import Derived.Test.YtmbmjfjagololaaGreatDoorRRn
import Derived.Test.YtmbmjfjagololaaGreatDoorRRs
import Derived.Test.YtmbmjfjagololaaGreatDoorRPg
set_option linter.unusedSectionVars false
set_option linter.unusedSimpArgs false
set_option linter.unusedVariables false
namespace Go.RInst
set_option maxHeartbeats 200000000
open Go.Proofs Go.Ax Go.Pc
variable [PR]
set_option maxRecDepth 100000
theorem e0k{H:a08}{k:Nat}{w:List UInt8}(hH:a03 H k=some (.map [.str a1o,.str a24,.str a34] [fS,fT,fV] [0,1,2] 3))(h1:w≠a1o)(h2:w≠a24)(h3:w≠a34):a28 L.env (a03 H) 114 (.map k) (.str w) true=some (.tuple [.nilfunc,.bool false]):=by
 have e1:L.env.und 114=some (.map 9 112):=by kernel_rfl
 have e2:L.env.zero 112=some [.nilfunc]:=by kernel_rfl
 have e3:(L.env.und 112).map a2l=some false:=by kernel_rfl
 obtain⟨d,e3,e4⟩:=e6g.1 e3;have e5:L.env.und 9=some .string:=by kernel_rfl
 have q:∀x,w≠x→aeq L.env 6 9 (.str w) (.str x)=some false:=λx hx=>by unfold aeq;rw[e5];simp[hx]
 have ky:(b8w L.env 9&&b5q L.env 9 (.str w))=true:=by
  have k1:b8w L.env 9=true:=by kernel_rfl
  have k2:b5q L.env 9 (.str w)=true:=by kernel_rfl
  rw[k1,k2];rfl
 unfold a28;simp only[e1,ky,e3e,b4i,hH,e2,e3,a3i,q _ h1,q _ h2,q _ h3,e3p,e4]
theorem c0o(A:a08)(x:Option AObj)(b:Nat)(o:AObj)(h:a03 (A++[none]) b=some o):a03 (A++[x]) b=some o:=by
 unfold a03 at *;by_cases hb:b<A.length
 ·rw[e3q hb]at *;exact h
 ·rw[e3l (by omega)]at h;cases hk:b-A.length with
  |zero=>rw[hk]at h;simp at h
  |succ j=>rw[hk]at h;simp at h
/- too long -/
theorem c56(al:DrOk L.env)(H:a08)(s:List UInt8)(hl:¬s.length≤4096):PanF L.env 41 [.ptr 0 0 0,.str s] H (a4m 3):=by
 have c:¬(s.length:Int)≤4096:=by omega
 refine pf Tryz.f41 ok al noF (by kernel_rfl) ?_;simp only[Tryz.f41,gS];refine PanG.seqL ?_;refine pcr 3 (by(simp+decide only[go_sem,c35,e28,c];rfl)) rfl rfl (a1z (g1:=62) (l:=[.bool false,.int .i64 3]) rfl (by simp only[go_sem]) (by simp only[go_sem]) rfl (a11 al 3))
theorem c55(al:DrOk L.env)(a0 a1 a2 a3:Option AObj)(s:List UInt8)(hl:s.length≤4096)(a:UInt8)(w:List UInt8)(tl:List (List UInt8))(br:a2i (a00 32 s)=(a::w)::tl)(jp:a≠35)(k1:(a::w)≠sigK0)(k2:(a::w)≠a3y)(k3:(a::w)≠vecK0):PanF L.env 41 [.ptr 0 0 0,.str s] [a0,a1,a2,a3] (a4m 4):=by
 have dE:(a00 32 s).length≤2000000:=by rw[a0r];have:=e3k (a:=(32:UInt8)) (l:=s);omega
 have dF:0<(a00 32 s).length:=by rw[a0r];omega
 have aN:(s.length:Int)≤4096:=by omega
 have aF:=λd H e=>a0i (d:=d) H e;obtain⟨rr,⟨R,ap,aM,aw,rfl⟩,hd⟩:=a3v (a00 32 s).length (a00 32 s) rfl dF dE;have aE:=a21 (a00 32 s);have cK:a0e L.env false (sem L.env Mf) (.func (.func 23) [] []) [.str s,.str [32]] [a0,a1,a2,a3]=some (.slice 4 0 (a00 32 s).length (some (a00 32 s).length),[a0,a1,a2,a3,some (.row 1 (sR (a00 32 s)))],[]):=a1f [a0,a1,a2,a3] s 32 (by omega);have bf:a0e L.env false (sem L.env Mf) (.func (.func 63) [] []) [.slice 4 0 (a00 32 s).length (some (a00 32 s).length),.func (.func 64) [] []] [a0,a1,a2,a3,some (.row 1 (sR (a00 32 s)))]=some (.slice 4 0 (a2i (a00 32 s)).length (some (a00 32 s).length),[a0,a1,a2,a3,some (.row 1 R)],[4]):=a0z (by kernel_rfl) (by kernel_rfl) rfl (b:=4) (o:=.row 1 (sR (a00 32 s))) (o':=.row 1 R) rfl (a0o (a0m _)) (FlatO.row (a0m _)) rfl rfl hd (FlatO.row aw) rfl;rw[br]at bf aM aE;have dw:R[0]?=some [.str (a::w)]:=sR0 aM rfl;simp only[b94]at bf aE aM;have t4:=e0k (H:=[a0,a1,a2,a3,some (.row 1 R),some (.map [.str a1o,.str a24,.str a34] [fS,fT,fV] [0,1,2] 3)]) (k:=5) (w:=a::w) rfl k1 k2 k3;generalize hk:tl.length+1=m at *;have m0:0<m:=by omega
 have m1:¬(m:Int)=0:=by omega
 generalize(a00 32 s).length=nW at *;generalize sR (a00 32 s)=RW at *;have m2:0<nW:=by omega
 have t1:a0c L.env (a03 [a0,a1,a2,a3,some (.row 1 R),some (.map [] [] [] 0)]) 114 (.map 5) (.str [115,105,103,110,97,108]) (.func (.func 65) [.ptr 0 0 0] [])=some (.set 5 (.map [.str a1o] [fS] [0] 1)):=by kernel_rfl
 have t2:a0c L.env (a03 [a0,a1,a2,a3,some (.row 1 R),some (.map [.str a1o] [fS] [0] 1)]) 114 (.map 5) (.str [116,105,109,105,110,103]) (.func (.func 66) [.ptr 0 0 0] [])=some (.set 5 (.map [.str a1o,.str a24] [fS,fT] [0,1] 2)):=by kernel_rfl
 have t3:a0c L.env (a03 [a0,a1,a2,a3,some (.row 1 R),some (.map [.str a1o,.str a24] [fS,fT] [0,1] 2)]) 114 (.map 5) (.str [118,101,99,116,111,114]) (.func (.func 67) [.ptr 0 0 0] [])=some (.set 5 (.map [.str a1o,.str a24,.str a34] [fS,fT,fV] [0,1,2] 3)):=by kernel_rfl
 have uq:¬(a.toNat:Int)=35:=λe=>jp (UInt8.toNat_inj.1 (by have:(35:UInt8).toNat=35:=rfl;omega));have m3:0<w.length+1:=by omega
 refine pf Tryz.f41 ok al noF (by kernel_rfl) ?_;simp only[Tryz.f41,gS];refine pcs ?_
 (repeat first|simp only[ww]|(apply xa;simp+decide only[go_sem,aF,aN];rfl;kernel_rfl))
 refine a1m ?_;refine pcs ?_
 (repeat first|simp only[ww]|(apply xa;simp+decide only[go_sem,cK,bf];rfl;kernel_rfl))
 refine a1m ?_;refine pcs ?_
 (repeat first|simp only[ww]|(apply xa;simp+decide only[go_sem,m0,m1,m2,m3,dw,ap,uq,e29,b94];rfl;kernel_rfl))
 refine a1m ?_;refine pcs ?_
 (repeat first|simp only[ww]|(apply xa;simp+decide only[go_sem,m0,m2,dw,ap,t1,t2,t3,t4];rfl;kernel_rfl))
 refine a1m ?_;refine PanG.seqL ?_;refine pcr 1 (by(simp+decide only[go_sem,c35,e28];rfl)) rfl rfl (a1z (g1:=62) (l:=[.bool false,.int .i64 4]) rfl (by simp only[go_sem]) (by simp only[go_sem]) rfl (a11 al 4))
theorem b8q(al:DrOk L.env)(a0 a1 a2 a3:Option AObj)(r:Rd)(he:a49 r=[a0,a1,a2,a3])(s:List UInt8)(hl:s.length≤4096)(tl:List (List UInt8))(br:a2i (a00 32 s)=[115,105,103,110,97,108]::tl)(aj:∀R,R.length=(a00 32 s).length→R.take (tl.length+1)=sR ([115,105,103,110,97,108]::tl)→FlatR R→tl.length+1≤(a00 32 s).length→a3z 65 (tl.length+1) (some (a00 32 s).length) R r):∃e:Int,e≠0∧PanF L.env 41 [.ptr 0 0 0,.str s] [a0,a1,a2,a3] (a4m e):=by
 have dE:(a00 32 s).length≤2000000:=by rw[a0r];have:=e3k (a:=(32:UInt8)) (l:=s);omega
 have dF:0<(a00 32 s).length:=by rw[a0r];omega
 have aN:(s.length:Int)≤4096:=by omega
 have aF:=λd H e=>a0i (d:=d) H e;obtain⟨rr,⟨R,ap,aM,aw,rfl⟩,hd⟩:=a3v (a00 32 s).length (a00 32 s) rfl dF dE;have aE:=a21 (a00 32 s);have cK:a0e L.env false (sem L.env Mf) (.func (.func 23) [] []) [.str s,.str [32]] [a0,a1,a2,a3]=some (.slice 4 0 (a00 32 s).length (some (a00 32 s).length),[a0,a1,a2,a3,some (.row 1 (sR (a00 32 s)))],[]):=a1f [a0,a1,a2,a3] s 32 (by omega);have bf:a0e L.env false (sem L.env Mf) (.func (.func 63) [] []) [.slice 4 0 (a00 32 s).length (some (a00 32 s).length),.func (.func 64) [] []] [a0,a1,a2,a3,some (.row 1 (sR (a00 32 s)))]=some (.slice 4 0 (a2i (a00 32 s)).length (some (a00 32 s).length),[a0,a1,a2,a3,some (.row 1 R)],[4]):=a0z (by kernel_rfl) (by kernel_rfl) rfl (b:=4) (o:=.row 1 (sR (a00 32 s))) (o':=.row 1 R) rfl (a0o (a0m _)) (FlatO.row (a0m _)) rfl rfl hd (FlatO.row aw) rfl;rw[br]at bf aM aE;have dw:R[0]?=some [.str [115,105,103,110,97,108]]:=sR0 aM rfl;simp only[b94]at bf aE aM;obtain⟨e,lZ,hp⟩:=aj R ap aM aw aE;rw[he]at hp;have lP:PanF L.env 65 [.ptr 0 0 0,.slice 4 0 (tl.length+1) (some (a00 32 s).length)] [a0,a1,a2,a3,some (.row 1 R),some (.map [.str a1o,.str a24,.str a34] [fS,fT,fV] [0,1,2] 3)] (a4m e):=PanF.fewer hp rfl (c0o [a0,a1,a2,a3,some (.row 1 R)] _);refine⟨e,lZ,?_⟩;generalize hk:tl.length+1=m at *;have m0:0<m:=by omega
 have m1:¬(m:Int)=0:=by omega
 generalize(a00 32 s).length=nW at *;generalize sR (a00 32 s)=RW at *;have m2:0<nW:=by omega
 have t1:a0c L.env (a03 [a0,a1,a2,a3,some (.row 1 R),some (.map [] [] [] 0)]) 114 (.map 5) (.str [115,105,103,110,97,108]) (.func (.func 65) [.ptr 0 0 0] [])=some (.set 5 (.map [.str a1o] [fS] [0] 1)):=by kernel_rfl
 have t2:a0c L.env (a03 [a0,a1,a2,a3,some (.row 1 R),some (.map [.str a1o] [fS] [0] 1)]) 114 (.map 5) (.str [116,105,109,105,110,103]) (.func (.func 66) [.ptr 0 0 0] [])=some (.set 5 (.map [.str a1o,.str a24] [fS,fT] [0,1] 2)):=by kernel_rfl
 have t3:a0c L.env (a03 [a0,a1,a2,a3,some (.row 1 R),some (.map [.str a1o,.str a24] [fS,fT] [0,1] 2)]) 114 (.map 5) (.str [118,101,99,116,111,114]) (.func (.func 67) [.ptr 0 0 0] [])=some (.set 5 (.map [.str a1o,.str a24,.str a34] [fS,fT,fV] [0,1,2] 3)):=by kernel_rfl
 have t4:a28 L.env (a03 [a0,a1,a2,a3,some (.row 1 R),some (.map [.str a1o,.str a24,.str a34] [fS,fT,fV] [0,1,2] 3)]) 114 (.map 5) (.str [115,105,103,110,97,108]) true=some (.tuple [.func (.func 65) [.ptr 0 0 0] [],.bool true]):=by kernel_rfl
 refine pf Tryz.f41 ok al noF (by kernel_rfl) ?_;simp only[Tryz.f41,gS];refine pcs ?_
 (repeat first|simp only[ww]|(apply xa;simp+decide only[go_sem,aF,aN];rfl;kernel_rfl))
 refine a1m ?_;refine pcs ?_
 (repeat first|simp only[ww]|(apply xa;simp+decide only[go_sem,cK,bf];rfl;kernel_rfl))
 refine a1m ?_;refine pcs ?_
 (repeat first|simp only[ww]|(apply xa;simp+decide only[go_sem,m0,m1,m2,dw,ap,e29];rfl;kernel_rfl))
 refine a1m ?_;refine pcs ?_
 (repeat first|simp only[ww]|(apply xa;simp+decide only[go_sem,m0,m2,dw,ap,t1,t2,t3,t4];rfl;kernel_rfl))
 refine a1m ?_;refine pcs ?_
 (repeat first|simp only[ww]|(apply xa;simp+decide only[go_sem,aF];rfl;kernel_rfl))
 refine a1m ?_;refine pcr 2 (by(simp+decide only[go_sem,c35,e28];rfl)) rfl rfl (c4u (g1:=65) (fs:=[.ptr 0 0 0]) (cs:=[]) (l:=[.ptr 0 0 0,.slice 4 0 m (some nW)]) rfl (by simp only[go_sem];rfl) (by simp only[go_sem]) lP)
theorem b8p(al:DrOk L.env)(a0 a1 a2 a3:Option AObj)(r:Rd)(he:a49 r=[a0,a1,a2,a3])(s:List UInt8)(hl:s.length≤4096)(tl:List (List UInt8))(br:a2i (a00 32 s)=[116,105,109,105,110,103]::tl)(aj:∀R,R.length=(a00 32 s).length→R.take (tl.length+1)=sR ([116,105,109,105,110,103]::tl)→FlatR R→tl.length+1≤(a00 32 s).length→a3z 66 (tl.length+1) (some (a00 32 s).length) R r):∃e:Int,e≠0∧PanF L.env 41 [.ptr 0 0 0,.str s] [a0,a1,a2,a3] (a4m e):=by
 have dE:(a00 32 s).length≤2000000:=by rw[a0r];have:=e3k (a:=(32:UInt8)) (l:=s);omega
 have dF:0<(a00 32 s).length:=by rw[a0r];omega
 have aN:(s.length:Int)≤4096:=by omega
 have aF:=λd H e=>a0i (d:=d) H e;obtain⟨rr,⟨R,ap,aM,aw,rfl⟩,hd⟩:=a3v (a00 32 s).length (a00 32 s) rfl dF dE;have aE:=a21 (a00 32 s);have cK:a0e L.env false (sem L.env Mf) (.func (.func 23) [] []) [.str s,.str [32]] [a0,a1,a2,a3]=some (.slice 4 0 (a00 32 s).length (some (a00 32 s).length),[a0,a1,a2,a3,some (.row 1 (sR (a00 32 s)))],[]):=a1f [a0,a1,a2,a3] s 32 (by omega);have bf:a0e L.env false (sem L.env Mf) (.func (.func 63) [] []) [.slice 4 0 (a00 32 s).length (some (a00 32 s).length),.func (.func 64) [] []] [a0,a1,a2,a3,some (.row 1 (sR (a00 32 s)))]=some (.slice 4 0 (a2i (a00 32 s)).length (some (a00 32 s).length),[a0,a1,a2,a3,some (.row 1 R)],[4]):=a0z (by kernel_rfl) (by kernel_rfl) rfl (b:=4) (o:=.row 1 (sR (a00 32 s))) (o':=.row 1 R) rfl (a0o (a0m _)) (FlatO.row (a0m _)) rfl rfl hd (FlatO.row aw) rfl;rw[br]at bf aM aE;have dw:R[0]?=some [.str [116,105,109,105,110,103]]:=sR0 aM rfl;simp only[b94]at bf aE aM;obtain⟨e,lZ,hp⟩:=aj R ap aM aw aE;rw[he]at hp;have lP:PanF L.env 66 [.ptr 0 0 0,.slice 4 0 (tl.length+1) (some (a00 32 s).length)] [a0,a1,a2,a3,some (.row 1 R),some (.map [.str a1o,.str a24,.str a34] [fS,fT,fV] [0,1,2] 3)] (a4m e):=PanF.fewer hp rfl (c0o [a0,a1,a2,a3,some (.row 1 R)] _);refine⟨e,lZ,?_⟩;generalize hk:tl.length+1=m at *;have m0:0<m:=by omega
 have m1:¬(m:Int)=0:=by omega
 generalize(a00 32 s).length=nW at *;generalize sR (a00 32 s)=RW at *;have m2:0<nW:=by omega
 have t1:a0c L.env (a03 [a0,a1,a2,a3,some (.row 1 R),some (.map [] [] [] 0)]) 114 (.map 5) (.str [115,105,103,110,97,108]) (.func (.func 65) [.ptr 0 0 0] [])=some (.set 5 (.map [.str a1o] [fS] [0] 1)):=by kernel_rfl
 have t2:a0c L.env (a03 [a0,a1,a2,a3,some (.row 1 R),some (.map [.str a1o] [fS] [0] 1)]) 114 (.map 5) (.str [116,105,109,105,110,103]) (.func (.func 66) [.ptr 0 0 0] [])=some (.set 5 (.map [.str a1o,.str a24] [fS,fT] [0,1] 2)):=by kernel_rfl
 have t3:a0c L.env (a03 [a0,a1,a2,a3,some (.row 1 R),some (.map [.str a1o,.str a24] [fS,fT] [0,1] 2)]) 114 (.map 5) (.str [118,101,99,116,111,114]) (.func (.func 67) [.ptr 0 0 0] [])=some (.set 5 (.map [.str a1o,.str a24,.str a34] [fS,fT,fV] [0,1,2] 3)):=by kernel_rfl
 have t4:a28 L.env (a03 [a0,a1,a2,a3,some (.row 1 R),some (.map [.str a1o,.str a24,.str a34] [fS,fT,fV] [0,1,2] 3)]) 114 (.map 5) (.str [116,105,109,105,110,103]) true=some (.tuple [.func (.func 66) [.ptr 0 0 0] [],.bool true]):=by kernel_rfl
 refine pf Tryz.f41 ok al noF (by kernel_rfl) ?_;simp only[Tryz.f41,gS];refine pcs ?_
 (repeat first|simp only[ww]|(apply xa;simp+decide only[go_sem,aF,aN];rfl;kernel_rfl))
 refine a1m ?_;refine pcs ?_
 (repeat first|simp only[ww]|(apply xa;simp+decide only[go_sem,cK,bf];rfl;kernel_rfl))
 refine a1m ?_;refine pcs ?_
 (repeat first|simp only[ww]|(apply xa;simp+decide only[go_sem,m0,m1,m2,dw,ap,e29];rfl;kernel_rfl))
 refine a1m ?_;refine pcs ?_
 (repeat first|simp only[ww]|(apply xa;simp+decide only[go_sem,m0,m2,dw,ap,t1,t2,t3,t4];rfl;kernel_rfl))
 refine a1m ?_;refine pcs ?_
 (repeat first|simp only[ww]|(apply xa;simp+decide only[go_sem,aF];rfl;kernel_rfl))
 refine a1m ?_;refine pcr 2 (by(simp+decide only[go_sem,c35,e28];rfl)) rfl rfl (c4u (g1:=66) (fs:=[.ptr 0 0 0]) (cs:=[]) (l:=[.ptr 0 0 0,.slice 4 0 m (some nW)]) rfl (by simp only[go_sem];rfl) (by simp only[go_sem]) lP)
theorem b8o(al:DrOk L.env)(a0 a1 a2 a3:Option AObj)(r:Rd)(he:a49 r=[a0,a1,a2,a3])(s:List UInt8)(hl:s.length≤4096)(tl:List (List UInt8))(br:a2i (a00 32 s)=[118,101,99,116,111,114]::tl)(aj:∀R,R.length=(a00 32 s).length→R.take (tl.length+1)=sR ([118,101,99,116,111,114]::tl)→FlatR R→tl.length+1≤(a00 32 s).length→a3z 67 (tl.length+1) (some (a00 32 s).length) R r):∃e:Int,e≠0∧PanF L.env 41 [.ptr 0 0 0,.str s] [a0,a1,a2,a3] (a4m e):=by
 have dE:(a00 32 s).length≤2000000:=by rw[a0r];have:=e3k (a:=(32:UInt8)) (l:=s);omega
 have dF:0<(a00 32 s).length:=by rw[a0r];omega
 have aN:(s.length:Int)≤4096:=by omega
 have aF:=λd H e=>a0i (d:=d) H e;obtain⟨rr,⟨R,ap,aM,aw,rfl⟩,hd⟩:=a3v (a00 32 s).length (a00 32 s) rfl dF dE;have aE:=a21 (a00 32 s);have cK:a0e L.env false (sem L.env Mf) (.func (.func 23) [] []) [.str s,.str [32]] [a0,a1,a2,a3]=some (.slice 4 0 (a00 32 s).length (some (a00 32 s).length),[a0,a1,a2,a3,some (.row 1 (sR (a00 32 s)))],[]):=a1f [a0,a1,a2,a3] s 32 (by omega);have bf:a0e L.env false (sem L.env Mf) (.func (.func 63) [] []) [.slice 4 0 (a00 32 s).length (some (a00 32 s).length),.func (.func 64) [] []] [a0,a1,a2,a3,some (.row 1 (sR (a00 32 s)))]=some (.slice 4 0 (a2i (a00 32 s)).length (some (a00 32 s).length),[a0,a1,a2,a3,some (.row 1 R)],[4]):=a0z (by kernel_rfl) (by kernel_rfl) rfl (b:=4) (o:=.row 1 (sR (a00 32 s))) (o':=.row 1 R) rfl (a0o (a0m _)) (FlatO.row (a0m _)) rfl rfl hd (FlatO.row aw) rfl;rw[br]at bf aM aE;have dw:R[0]?=some [.str [118,101,99,116,111,114]]:=sR0 aM rfl;simp only[b94]at bf aE aM;obtain⟨e,lZ,hp⟩:=aj R ap aM aw aE;rw[he]at hp;have lP:PanF L.env 67 [.ptr 0 0 0,.slice 4 0 (tl.length+1) (some (a00 32 s).length)] [a0,a1,a2,a3,some (.row 1 R),some (.map [.str a1o,.str a24,.str a34] [fS,fT,fV] [0,1,2] 3)] (a4m e):=PanF.fewer hp rfl (c0o [a0,a1,a2,a3,some (.row 1 R)] _);refine⟨e,lZ,?_⟩;generalize hk:tl.length+1=m at *;have m0:0<m:=by omega
 have m1:¬(m:Int)=0:=by omega
 generalize(a00 32 s).length=nW at *;generalize sR (a00 32 s)=RW at *;have m2:0<nW:=by omega
 have t1:a0c L.env (a03 [a0,a1,a2,a3,some (.row 1 R),some (.map [] [] [] 0)]) 114 (.map 5) (.str [115,105,103,110,97,108]) (.func (.func 65) [.ptr 0 0 0] [])=some (.set 5 (.map [.str a1o] [fS] [0] 1)):=by kernel_rfl
 have t2:a0c L.env (a03 [a0,a1,a2,a3,some (.row 1 R),some (.map [.str a1o] [fS] [0] 1)]) 114 (.map 5) (.str [116,105,109,105,110,103]) (.func (.func 66) [.ptr 0 0 0] [])=some (.set 5 (.map [.str a1o,.str a24] [fS,fT] [0,1] 2)):=by kernel_rfl
 have t3:a0c L.env (a03 [a0,a1,a2,a3,some (.row 1 R),some (.map [.str a1o,.str a24] [fS,fT] [0,1] 2)]) 114 (.map 5) (.str [118,101,99,116,111,114]) (.func (.func 67) [.ptr 0 0 0] [])=some (.set 5 (.map [.str a1o,.str a24,.str a34] [fS,fT,fV] [0,1,2] 3)):=by kernel_rfl
 have t4:a28 L.env (a03 [a0,a1,a2,a3,some (.row 1 R),some (.map [.str a1o,.str a24,.str a34] [fS,fT,fV] [0,1,2] 3)]) 114 (.map 5) (.str [118,101,99,116,111,114]) true=some (.tuple [.func (.func 67) [.ptr 0 0 0] [],.bool true]):=by kernel_rfl
 refine pf Tryz.f41 ok al noF (by kernel_rfl) ?_;simp only[Tryz.f41,gS];refine pcs ?_
 (repeat first|simp only[ww]|(apply xa;simp+decide only[go_sem,aF,aN];rfl;kernel_rfl))
 refine a1m ?_;refine pcs ?_
 (repeat first|simp only[ww]|(apply xa;simp+decide only[go_sem,cK,bf];rfl;kernel_rfl))
 refine a1m ?_;refine pcs ?_
 (repeat first|simp only[ww]|(apply xa;simp+decide only[go_sem,m0,m1,m2,dw,ap,e29];rfl;kernel_rfl))
 refine a1m ?_;refine pcs ?_
 (repeat first|simp only[ww]|(apply xa;simp+decide only[go_sem,m0,m2,dw,ap,t1,t2,t3,t4];rfl;kernel_rfl))
 refine a1m ?_;refine pcs ?_
 (repeat first|simp only[ww]|(apply xa;simp+decide only[go_sem,aF];rfl;kernel_rfl))
 refine a1m ?_;refine pcr 2 (by(simp+decide only[go_sem,c35,e28];rfl)) rfl rfl (c4u (g1:=67) (fs:=[.ptr 0 0 0]) (cs:=[]) (l:=[.ptr 0 0 0,.slice 4 0 m (some nW)]) rfl (by simp only[go_sem];rfl) (by simp only[go_sem]) lP)
end Go.RInst
namespace Go.RInst
open Go.Proofs Go.Ax Go.Pc
variable [PR]
set_option maxRecDepth 100000
theorem hfw{z a b c a' b' c' d e:Option AObj}(ha:a'=a∨a'=none:=by first|exact .inl rfl|exact .inr rfl)(hb:b'=b∨b'=none:=by first|exact .inl rfl|exact .inr rfl)(hc:c'=c∨c'=none:=by first|exact .inl rfl|exact .inr rfl):∀i o,a03 [z,a',b',c',d,e] i=some o→a03 [z,a,b,c,d,e] i=some o:=by intro i o h;rcases ha with rfl|rfl<;>rcases hb with rfl|rfl<;>rcases hc with rfl|rfl<;>rcases i with _|_|_|_|i<;>first|exact h|cases h
structure RdX(r:Rd):Prop where
 wf:RdWf r
 v:r.V.length≤65536
 le:r.sum≤1000000
 tv:r.V≠[]→r.T≠[]
theorem e13:RdX ⟨[],[],[],0⟩:=⟨d67,by simp,by decide,λh=>absurd rfl h⟩
theorem c9y{r r':Rd}{nm cl:List UInt8}{k:Nat}(h:b0h r nm cl k=some r')(hx:RdX r):r'.V.length≤65536∧r'.sum≤1000000∧(r'.V≠[]→r'.T≠[]):=by
 unfold b0h at h;split at h
 case isFalse=>cases h
 rename_i hc;cases h;obtain⟨h1,h2,h3⟩:=hc;refine⟨by simp only[e2f,e68];omega,h3,λ_ e=>?_⟩;have e:r.T=[]:=e;rw[e]at h1;simp only[a22,b46,e2d,e27]at h1;omega
theorem d68{r r':Rd}{ws:List (List UInt8)}(h:rdW r ws=some r')(hx:RdX r):RdX r':=by
 have hw:=c9z h hx.wf
 suffices h3:r'.V.length≤65536∧r'.sum≤1000000∧(r'.V≠[]→r'.T≠[])from⟨hw,h3.1,h3.2.1,h3.2.2⟩
 have h0:=And.intro hx.v (And.intro hx.le hx.tv);unfold rdW at h;split at h
 ·cases h;exact h0
 split at h
 ·cases h;exact h0
 split at h
 ·unfold rdS at h;split at h
  ·split at h
   ·cases h;exact h0
   ·cases h
  ·cases h
 split at h
 ·unfold rdT at h;split at h
  ·split at h
   ·cases h;exact⟨h0.1,h0.2.1,λ_=>by simp⟩
   ·cases h
  ·cases h
 split at h
 ·unfold rdV at h;split at h
  ·exact c9y h hx
  ·split at h
   ·exact c9y h hx
   ·cases h
  ·cases h
 ·cases h
theorem d1b(al:DrOk L.env)(r:Rd)(hx:RdX r)(R:List (List AV))(n:Nat)(tl:List (List UInt8))(ap:R.length=n)(aM:R.take (tl.length+1)=sR (sigK0::tl))(aw:FlatR R)(fH:tl.length+1≤n)(aQ:rdS r tl=none):a3z 65 (tl.length+1) (some n) R r:=by
 by_cases h2:tl.length=2
 case neg=>exact⟨4,by decide,c7s al _ _ _ _ R n (tl.length+1) (by omega)⟩
 obtain⟨nm,d,rfl⟩:∃nm d,tl=[nm,d]:=by
  match tl,h2 with
  | [a,b],_=>exact⟨a,b,rfl⟩
 have aI:R[1]?=some [.str nm]:=sR0 (ws:=[sigK0,nm,d]) aM rfl;have aC:R[2]?=some [.str d]:=sR0 (ws:=[sigK0,nm,d]) aM rfl;have fv:3≤n:=fH;by_cases hd:d=inK∨d=a9h
 case neg=>have d1:d≠inK:=λe=>hd (.inl e);have d2:d≠a9h:=λe=>hd (.inr e);exact⟨4,by decide,c7r al _ _ _ _ R n d ap fv aC d1 d2⟩
 have pH:=hx.v;have nA:=hx.wf.hS;have ny:=hx.wf.hT;have ik:=hx.tv;obtain⟨S,T,V,sum⟩:=r;simp only at pH nA ny ik;have ak:[nm,d].length+1=3:=rfl;rw[ak];by_cases hS:S=[]<;>by_cases hT:T=[]<;>by_cases hV:V=[]
 ·skip;subst hS;subst hT;subst hV
  have aj:a49 ⟨[],[],[],sum⟩=[some (.row 4 [[.nilslice,.nilslice,.nilslice,.int .i64 sum]]),none,none,none]:=by
   unfold a49
   skip
   try rfl
  unfold a3z;rw[aj];by_cases ba:a3s nm=true
  case neg=>exact⟨1,by decide,PanF.junk4 (.inr rfl) (.inl rfl) (.inl rfl) (PanF.fewer (c17 al sum R n nm d ap fv aw aI aC hd (by simpa using ba)) rfl hfw)⟩
  exfalso;rw[c0c _ nm d ⟨hd,rfl,rfl,ba,by simp,by simp⟩]at aQ;cases aQ
 ·skip;subst hS;subst hT
  exact absurd rfl (ik hV)
 ·skip;subst hS;subst hV
  have aj:a49 ⟨[],T,[],sum⟩=[some (.row 4 [[.nilslice,.slice 2 0 T.length none,.nilslice,.int .i64 sum]]),none,some (.row 6 (T.map Tm.enc)),none]:=by
   unfold a49;rw[a0h _ (a0f hT),a23 _ (a0f hT),b41]
   try rfl
  unfold a3z;rw[aj];exact⟨11,by decide,PanF.junk4 (.inr rfl) (.inl rfl) (.inl rfl) (PanF.fewer (b83 al sum T (by omega) R n d ap fv aC hd hT ) rfl hfw)⟩
 ·skip;subst hS
  have aj:a49 ⟨[],T,V,sum⟩=[some (.row 4 [[.nilslice,.slice 2 0 T.length none,.slice 3 0 V.length none,.int .i64 sum]]),none,some (.row 6 (T.map Tm.enc)),some (.row 3 (V.map Vc.enc))]:=by
   unfold a49;rw[a0h _ (a0f hT),a23 _ (a0f hT),b41,a0h _ (a0f hV),a23 _ (a0f hV),b41]
   try rfl
  unfold a3z;rw[aj];exact⟨11,by decide,PanF.junk4 (.inr rfl) (.inl rfl) (.inl rfl) (PanF.fewer (b81 al sum T (by omega) V R n d ap fv aC hd hT (by omega)) rfl hfw)⟩
 ·skip;subst hT;subst hV
  have aj:a49 ⟨S,[],[],sum⟩=[some (.row 4 [[.slice 1 0 S.length none,.nilslice,.nilslice,.int .i64 sum]]),some (.row 2 (S.map Sg.enc)),none,none]:=by
   unfold a49;rw[a0h _ (a0f hS),a23 _ (a0f hS),b41]
   try rfl
  unfold a3z;rw[aj];by_cases ba:a3s nm=true
  case neg=>exact⟨1,by decide,PanF.junk4 (.inr rfl) (.inl rfl) (.inl rfl) (PanF.fewer (c17 al sum R n nm d ap fv aw aI aC hd (by simpa using ba)) rfl hfw)⟩
  by_cases dC:nm∈S.map Sg.name
  ·exact⟨5,by decide,c16 al sum S R n nm d ap fv aw aI aC hd ba nA 5 (.inl ⟨dC,rfl⟩)⟩
  by_cases hl:S.length<256
  case neg=>exact⟨3,by decide,c16 al sum S R n nm d ap fv aw aI aC hd ba nA 3 (.inr ⟨by omega,dC,rfl⟩)⟩
  exfalso;rw[c0c _ nm d ⟨hd,rfl,rfl,ba,dC,hl⟩]at aQ;cases aQ
 ·skip;subst hT
  exact absurd rfl (ik hV)
 ·skip;subst hV
  have aj:a49 ⟨S,T,[],sum⟩=[some (.row 4 [[.slice 1 0 S.length none,.slice 2 0 T.length none,.nilslice,.int .i64 sum]]),some (.row 2 (S.map Sg.enc)),some (.row 6 (T.map Tm.enc)),none]:=by
   unfold a49;rw[a0h _ (a0f hS),a23 _ (a0f hS),b41,a0h _ (a0f hT),a23 _ (a0f hT),b41]
   try rfl
  unfold a3z;rw[aj];exact⟨11,by decide,PanF.junk4 (.inr rfl) (.inl rfl) (.inl rfl) (PanF.fewer (b83 al sum T (by omega) R n d ap fv aC hd hT ) rfl hfw)⟩
 ·skip
  have aj:a49 ⟨S,T,V,sum⟩=[some (.row 4 [[.slice 1 0 S.length none,.slice 2 0 T.length none,.slice 3 0 V.length none,.int .i64 sum]]),some (.row 2 (S.map Sg.enc)),some (.row 6 (T.map Tm.enc)),some (.row 3 (V.map Vc.enc))]:=by
   unfold a49;rw[a0h _ (a0f hS),a23 _ (a0f hS),b41,a0h _ (a0f hT),a23 _ (a0f hT),b41,a0h _ (a0f hV),a23 _ (a0f hV),b41]
   try rfl
  unfold a3z;rw[aj];exact⟨11,by decide,PanF.junk4 (.inr rfl) (.inl rfl) (.inl rfl) (PanF.fewer (b81 al sum T (by omega) V R n d ap fv aC hd hT (by omega)) rfl hfw)⟩
theorem d12(al:DrOk L.env)(r:Rd)(hx:RdX r)(R:List (List AV))(n:Nat)(tl:List (List UInt8))(ap:R.length=n)(aM:R.take (tl.length+1)=sR (a3y::tl))(aw:FlatR R)(fH:tl.length+1≤n)(aQ:rdT r tl=none):a3z 66 (tl.length+1) (some n) R r:=by
 by_cases h6:tl.length=6
 case neg=>exact⟨4,by decide,c7i al _ _ _ _ R n (tl.length+1) (by omega)⟩
 obtain⟨nm,w0,w1,w2,w3,w4,rfl⟩:∃nm w0 w1 w2 w3 w4,tl=[nm,w0,w1,w2,w3,w4]:=by
  match tl,h6 with
  | [a,b,c,d,e,f],_=>exact⟨a,b,c,d,e,f,rfl⟩
 have aI:R[1]?=some [.str nm]:=sR0 (ws:=[a3y,nm,w0,w1,w2,w3,w4]) aM rfl;have aC:∀j w,[w0,w1,w2,w3,w4][j]?=some w→R[2+j]?=some [.str w]:=λj w hj=>sR0 (ws:=[a3y,nm,w0,w1,w2,w3,w4]) aM (by rw[show 2+j=j+1+1 by omega];simpa using hj);have dY:7≤n:=fH;have ny:=hx.wf.hT;have ik:=hx.tv;obtain⟨S,T,V,sum⟩:=r;simp only at ny ik;have ak:[nm,w0,w1,w2,w3,w4].length+1=7:=rfl;rw[ak];by_cases hS:S=[]<;>by_cases hT:T=[]<;>by_cases hV:V=[]
 ·skip;subst hS;subst hT;subst hV
  have aj:a49 ⟨[],[],[],sum⟩=[some (.row 4 [[.nilslice,.nilslice,.nilslice,.int .i64 sum]]),none,none,none]:=by
   unfold a49
   skip
   try rfl
  unfold a3z;rw[aj];by_cases aU:∀w∈[w0,w1,w2,w3,w4],NumOk w
  case neg=>exact⟨4,by decide,PanF.junk4 (.inr rfl) (.inr rfl) (.inr rfl) (PanF.fewer (a8b al sum n R nm w0 w1 w2 w3 w4 ap dY aw aI aC aU) rfl hfw)⟩
  by_cases dM:a5l ⟨nm,a09 w0,a09 w1,a09 w2,a09 w3,a09 w4⟩=true
  case neg=>exact⟨1,by decide,PanF.junk4 (.inr rfl) (.inr rfl) (.inl rfl) (PanF.fewer (b24 al sum n R nm w0 w1 w2 w3 w4 ap dY aw aI aC aU (by simpa using dM)) rfl hfw)⟩
  exfalso;rw[b32 _ nm w0 w1 w2 w3 w4 ⟨rfl,aU,dM,by simp,by simp⟩]at aQ;cases aQ
 ·skip;subst hS;subst hT
  exact absurd rfl (ik hV)
 ·skip;subst hS;subst hV
  have aj:a49 ⟨[],T,[],sum⟩=[some (.row 4 [[.nilslice,.slice 2 0 T.length none,.nilslice,.int .i64 sum]]),none,some (.row 6 (T.map Tm.enc)),none]:=by
   unfold a49;rw[a0h _ (a0f hT),a23 _ (a0f hT),b41]
   try rfl
  unfold a3z;rw[aj];by_cases aU:∀w∈[w0,w1,w2,w3,w4],NumOk w
  case neg=>exact⟨4,by decide,PanF.junk4 (.inr rfl) (.inr rfl) (.inr rfl) (PanF.fewer (a8b al sum n R nm w0 w1 w2 w3 w4 ap dY aw aI aC aU) rfl hfw)⟩
  by_cases dM:a5l ⟨nm,a09 w0,a09 w1,a09 w2,a09 w3,a09 w4⟩=true
  case neg=>exact⟨1,by decide,PanF.junk4 (.inr rfl) (.inr rfl) (.inl rfl) (PanF.fewer (b24 al sum n R nm w0 w1 w2 w3 w4 ap dY aw aI aC aU (by simpa using dM)) rfl hfw)⟩
  by_cases dC:nm∈T.map Tm.name
  ·exact⟨5,by decide,PanF.junk4 (.inr rfl) (.inl rfl) (.inl rfl) (PanF.fewer (b23 al sum n R nm w0 w1 w2 w3 w4 T (by omega) ap dY aw aI aC aU dM 5 (.inl ⟨dC,rfl⟩)) rfl hfw)⟩
  by_cases hl:T.length<16
  case neg=>exact⟨3,by decide,PanF.junk4 (.inr rfl) (.inl rfl) (.inl rfl) (PanF.fewer (b23 al sum n R nm w0 w1 w2 w3 w4 T (by omega) ap dY aw aI aC aU dM 3 (.inr ⟨by omega,dC,rfl⟩)) rfl hfw)⟩
  exfalso;rw[b32 _ nm w0 w1 w2 w3 w4 ⟨rfl,aU,dM,dC,hl⟩]at aQ;cases aQ
 ·skip;subst hS
  have aj:a49 ⟨[],T,V,sum⟩=[some (.row 4 [[.nilslice,.slice 2 0 T.length none,.slice 3 0 V.length none,.int .i64 sum]]),none,some (.row 6 (T.map Tm.enc)),some (.row 3 (V.map Vc.enc))]:=by
   unfold a49;rw[a0h _ (a0f hT),a23 _ (a0f hT),b41,a0h _ (a0f hV),a23 _ (a0f hV),b41]
   try rfl
  unfold a3z;rw[aj];by_cases aU:∀w∈[w0,w1,w2,w3,w4],NumOk w
  case neg=>exact⟨4,by decide,PanF.junk4 (.inr rfl) (.inr rfl) (.inr rfl) (PanF.fewer (a8b al sum n R nm w0 w1 w2 w3 w4 ap dY aw aI aC aU) rfl hfw)⟩
  exact⟨11,by decide,PanF.junk4 (.inr rfl) (.inr rfl) (.inl rfl) (PanF.fewer (c15 al sum n R nm w0 w1 w2 w3 w4 V ap dY aw aI aC aU hV) rfl hfw)⟩
 ·skip;subst hT;subst hV
  have aj:a49 ⟨S,[],[],sum⟩=[some (.row 4 [[.slice 1 0 S.length none,.nilslice,.nilslice,.int .i64 sum]]),some (.row 2 (S.map Sg.enc)),none,none]:=by
   unfold a49;rw[a0h _ (a0f hS),a23 _ (a0f hS),b41]
   try rfl
  unfold a3z;rw[aj];by_cases aU:∀w∈[w0,w1,w2,w3,w4],NumOk w
  case neg=>exact⟨4,by decide,PanF.junk4 (.inr rfl) (.inr rfl) (.inr rfl) (PanF.fewer (a8b al sum n R nm w0 w1 w2 w3 w4 ap dY aw aI aC aU) rfl hfw)⟩
  by_cases dM:a5l ⟨nm,a09 w0,a09 w1,a09 w2,a09 w3,a09 w4⟩=true
  case neg=>exact⟨1,by decide,PanF.junk4 (.inr rfl) (.inr rfl) (.inl rfl) (PanF.fewer (b24 al sum n R nm w0 w1 w2 w3 w4 ap dY aw aI aC aU (by simpa using dM)) rfl hfw)⟩
  exfalso;rw[b32 _ nm w0 w1 w2 w3 w4 ⟨rfl,aU,dM,by simp,by simp⟩]at aQ;cases aQ
 ·skip;subst hT
  exact absurd rfl (ik hV)
 ·skip;subst hV
  have aj:a49 ⟨S,T,[],sum⟩=[some (.row 4 [[.slice 1 0 S.length none,.slice 2 0 T.length none,.nilslice,.int .i64 sum]]),some (.row 2 (S.map Sg.enc)),some (.row 6 (T.map Tm.enc)),none]:=by
   unfold a49;rw[a0h _ (a0f hS),a23 _ (a0f hS),b41,a0h _ (a0f hT),a23 _ (a0f hT),b41]
   try rfl
  unfold a3z;rw[aj];by_cases aU:∀w∈[w0,w1,w2,w3,w4],NumOk w
  case neg=>exact⟨4,by decide,PanF.junk4 (.inr rfl) (.inr rfl) (.inr rfl) (PanF.fewer (a8b al sum n R nm w0 w1 w2 w3 w4 ap dY aw aI aC aU) rfl hfw)⟩
  by_cases dM:a5l ⟨nm,a09 w0,a09 w1,a09 w2,a09 w3,a09 w4⟩=true
  case neg=>exact⟨1,by decide,PanF.junk4 (.inr rfl) (.inr rfl) (.inl rfl) (PanF.fewer (b24 al sum n R nm w0 w1 w2 w3 w4 ap dY aw aI aC aU (by simpa using dM)) rfl hfw)⟩
  by_cases dC:nm∈T.map Tm.name
  ·exact⟨5,by decide,PanF.junk4 (.inr rfl) (.inl rfl) (.inl rfl) (PanF.fewer (b23 al sum n R nm w0 w1 w2 w3 w4 T (by omega) ap dY aw aI aC aU dM 5 (.inl ⟨dC,rfl⟩)) rfl hfw)⟩
  by_cases hl:T.length<16
  case neg=>exact⟨3,by decide,PanF.junk4 (.inr rfl) (.inl rfl) (.inl rfl) (PanF.fewer (b23 al sum n R nm w0 w1 w2 w3 w4 T (by omega) ap dY aw aI aC aU dM 3 (.inr ⟨by omega,dC,rfl⟩)) rfl hfw)⟩
  exfalso;rw[b32 _ nm w0 w1 w2 w3 w4 ⟨rfl,aU,dM,dC,hl⟩]at aQ;cases aQ
 ·skip
  have aj:a49 ⟨S,T,V,sum⟩=[some (.row 4 [[.slice 1 0 S.length none,.slice 2 0 T.length none,.slice 3 0 V.length none,.int .i64 sum]]),some (.row 2 (S.map Sg.enc)),some (.row 6 (T.map Tm.enc)),some (.row 3 (V.map Vc.enc))]:=by
   unfold a49;rw[a0h _ (a0f hS),a23 _ (a0f hS),b41,a0h _ (a0f hT),a23 _ (a0f hT),b41,a0h _ (a0f hV),a23 _ (a0f hV),b41]
   try rfl
  unfold a3z;rw[aj];by_cases aU:∀w∈[w0,w1,w2,w3,w4],NumOk w
  case neg=>exact⟨4,by decide,PanF.junk4 (.inr rfl) (.inr rfl) (.inr rfl) (PanF.fewer (a8b al sum n R nm w0 w1 w2 w3 w4 ap dY aw aI aC aU) rfl hfw)⟩
  exact⟨11,by decide,PanF.junk4 (.inr rfl) (.inr rfl) (.inl rfl) (PanF.fewer (c15 al sum n R nm w0 w1 w2 w3 w4 V ap dY aw aI aC aU hV) rfl hfw)⟩
theorem a4p{r:Rd}{nm cl:List UInt8}{k:Nat}(h:b0h r nm cl k=none):¬(a22 (b4m r nm cl k) r.S r.T.length=true∧r.V.length<65536∧r.sum+k≤1000000):=by intro hc;unfold b0h at h;rw[e3g hc]at h;cases h
theorem d0v(al:DrOk L.env)(r:Rd)(hx:RdX r)(R:List (List AV))(n:Nat)(tl:List (List UInt8))(ap:R.length=n)(aM:R.take (tl.length+1)=sR (vecK0::tl))(aw:FlatR R)(fH:tl.length+1≤n)(aQ:rdV r tl=none):a3z 67 (tl.length+1) (some n) R r:=by
 by_cases un:tl.length=2∨tl.length=3
 case neg=>exact⟨4,by decide,c7c al _ _ _ _ R n (tl.length+1) (by omega) (by omega)⟩
 have pH:=hx.v;have nA:=hx.wf.hS;have ny:=hx.wf.hT;have bL:=hx.wf.s0;have cF:=hx.le;have ik:=hx.tv;obtain⟨S,T,V,sum⟩:=r;simp only at pH nA ny bL cF ik;rcases un with h2|h3
 ·obtain⟨nm,cl,rfl⟩:∃nm cl,tl=[nm,cl]:=by
   match tl,h2 with
   | [a,b],_=>exact⟨a,b,rfl⟩
  have ak:[nm,cl].length+1=3:=rfl;rw[ak];have bH:3≤n:=fH;have aI:R[1]?=some [.str nm]:=sR0 (ws:=[vecK0,nm,cl]) aM rfl;have aC:R[2]?=some [.str cl]:=sR0 (ws:=[vecK0,nm,cl]) aM rfl;by_cases hS:S=[]<;>by_cases hT:T=[]<;>by_cases hV:V=[]
  ·skip;subst hS;subst hT;subst hV
   have aj:a49 ⟨[],[],[],sum⟩=[some (.row 4 [[.nilslice,.nilslice,.nilslice,.int .i64 sum]]),none,none,none]:=by
    unfold a49
    skip
    try rfl
   unfold a3z;rw[aj];have aQ:b0h ⟨[],[],[],sum⟩ nm cl 1=none:=aQ;exact⟨1,by decide,PanF.junk4 (.inr rfl) (.inl rfl) (.inr rfl) (PanF.fewer (c9k al sum n R nm cl ap bH aw aI aC ) rfl hfw)⟩
  ·skip;subst hS;subst hT
   exact absurd rfl (ik hV)
  ·skip;subst hS;subst hV
   have aj:a49 ⟨[],T,[],sum⟩=[some (.row 4 [[.nilslice,.slice 2 0 T.length none,.nilslice,.int .i64 sum]]),none,some (.row 6 (T.map Tm.enc)),none]:=by
    unfold a49;rw[a0h _ (a0f hT),a23 _ (a0f hT),b41]
    try rfl
   unfold a3z;rw[aj];have aQ:b0h ⟨[],T,[],sum⟩ nm cl 1=none:=aQ;have bP:=a4p aQ;by_cases cg:a22 (b4m ⟨[],T,[],sum⟩ nm cl (1:Nat)) ([]:List Sg) T.length=true
   case neg=>exact⟨1,by decide,c01 al sum n R nm cl T (by omega) ap bH aw aI aC bL cF 1 (.inl ⟨e6t.2 cg,rfl⟩)⟩
   by_cases hl:([]:List Vc).length<65536
   case neg=>exact⟨3,by decide,c01 al sum n R nm cl T (by omega) ap bH aw aI aC bL cF 3 (.inr (.inl ⟨cg,by omega,rfl⟩))⟩
   by_cases hs:sum+(1:Nat)≤1000000
   case neg=>exact⟨3,by decide,c01 al sum n R nm cl T (by omega) ap bH aw aI aC bL cF 3 (.inr (.inr ⟨cg,hl,by omega,rfl⟩))⟩
   exact absurd ⟨cg,hl,hs⟩ bP
  ·skip;subst hS
   have aj:a49 ⟨[],T,V,sum⟩=[some (.row 4 [[.nilslice,.slice 2 0 T.length none,.slice 3 0 V.length none,.int .i64 sum]]),none,some (.row 6 (T.map Tm.enc)),some (.row 3 (V.map Vc.enc))]:=by
    unfold a49;rw[a0h _ (a0f hT),a23 _ (a0f hT),b41,a0h _ (a0f hV),a23 _ (a0f hV),b41]
    try rfl
   unfold a3z;rw[aj];have aQ:b0h ⟨[],T,V,sum⟩ nm cl 1=none:=aQ;have bP:=a4p aQ;by_cases cg:a22 (b4m ⟨[],T,V,sum⟩ nm cl (1:Nat)) ([]:List Sg) T.length=true
   case neg=>exact⟨1,by decide,c00 al sum n R nm cl T (by omega) V ap bH aw aI aC bL cF 1 (.inl ⟨e6t.2 cg,rfl⟩)⟩
   by_cases hl:V.length<65536
   case neg=>exact⟨3,by decide,c00 al sum n R nm cl T (by omega) V ap bH aw aI aC bL cF 3 (.inr (.inl ⟨cg,by omega,rfl⟩))⟩
   by_cases hs:sum+(1:Nat)≤1000000
   case neg=>exact⟨3,by decide,c00 al sum n R nm cl T (by omega) V ap bH aw aI aC bL cF 3 (.inr (.inr ⟨cg,hl,by omega,rfl⟩))⟩
   exact absurd ⟨cg,hl,hs⟩ bP
  ·skip;subst hT;subst hV
   have aj:a49 ⟨S,[],[],sum⟩=[some (.row 4 [[.slice 1 0 S.length none,.nilslice,.nilslice,.int .i64 sum]]),some (.row 2 (S.map Sg.enc)),none,none]:=by
    unfold a49;rw[a0h _ (a0f hS),a23 _ (a0f hS),b41]
    try rfl
   unfold a3z;rw[aj];have aQ:b0h ⟨S,[],[],sum⟩ nm cl 1=none:=aQ;exact⟨1,by decide,PanF.junk4 (.inr rfl) (.inl rfl) (.inr rfl) (PanF.fewer (c9k al sum n R nm cl ap bH aw aI aC ) rfl hfw)⟩
  ·skip;subst hT
   exact absurd rfl (ik hV)
  ·skip;subst hV
   have aj:a49 ⟨S,T,[],sum⟩=[some (.row 4 [[.slice 1 0 S.length none,.slice 2 0 T.length none,.nilslice,.int .i64 sum]]),some (.row 2 (S.map Sg.enc)),some (.row 6 (T.map Tm.enc)),none]:=by
    unfold a49;rw[a0h _ (a0f hS),a23 _ (a0f hS),b41,a0h _ (a0f hT),a23 _ (a0f hT),b41]
    try rfl
   unfold a3z;rw[aj];have aQ:b0h ⟨S,T,[],sum⟩ nm cl 1=none:=aQ;have bP:=a4p aQ;by_cases cg:a22 (b4m ⟨S,T,[],sum⟩ nm cl (1:Nat)) S T.length=true
   case neg=>exact⟨1,by decide,b9z al sum n R nm cl S T (by omega) (by omega) ap bH aw aI aC bL cF 1 (.inl ⟨e6t.2 cg,rfl⟩)⟩
   by_cases hl:([]:List Vc).length<65536
   case neg=>exact⟨3,by decide,b9z al sum n R nm cl S T (by omega) (by omega) ap bH aw aI aC bL cF 3 (.inr (.inl ⟨cg,by omega,rfl⟩))⟩
   by_cases hs:sum+(1:Nat)≤1000000
   case neg=>exact⟨3,by decide,b9z al sum n R nm cl S T (by omega) (by omega) ap bH aw aI aC bL cF 3 (.inr (.inr ⟨cg,hl,by omega,rfl⟩))⟩
   exact absurd ⟨cg,hl,hs⟩ bP
  ·skip
   have aj:a49 ⟨S,T,V,sum⟩=[some (.row 4 [[.slice 1 0 S.length none,.slice 2 0 T.length none,.slice 3 0 V.length none,.int .i64 sum]]),some (.row 2 (S.map Sg.enc)),some (.row 6 (T.map Tm.enc)),some (.row 3 (V.map Vc.enc))]:=by
    unfold a49;rw[a0h _ (a0f hS),a23 _ (a0f hS),b41,a0h _ (a0f hT),a23 _ (a0f hT),b41,a0h _ (a0f hV),a23 _ (a0f hV),b41]
    try rfl
   unfold a3z;rw[aj];have aQ:b0h ⟨S,T,V,sum⟩ nm cl 1=none:=aQ;have bP:=a4p aQ;by_cases cg:a22 (b4m ⟨S,T,V,sum⟩ nm cl (1:Nat)) S T.length=true
   case neg=>exact⟨1,by decide,b9y al sum n R nm cl S T (by omega) V (by omega) ap bH aw aI aC bL cF 1 (.inl ⟨e6t.2 cg,rfl⟩)⟩
   by_cases hl:V.length<65536
   case neg=>exact⟨3,by decide,b9y al sum n R nm cl S T (by omega) V (by omega) ap bH aw aI aC bL cF 3 (.inr (.inl ⟨cg,by omega,rfl⟩))⟩
   by_cases hs:sum+(1:Nat)≤1000000
   case neg=>exact⟨3,by decide,b9y al sum n R nm cl S T (by omega) V (by omega) ap bH aw aI aC bL cF 3 (.inr (.inr ⟨cg,hl,by omega,rfl⟩))⟩
   exact absurd ⟨cg,hl,hs⟩ bP
 ·obtain⟨nm,cl,rp,rfl⟩:∃nm cl rp,tl=[nm,cl,rp]:=by
   match tl,h3 with
   | [a,b,c],_=>exact⟨a,b,c,rfl⟩
  have ak:[nm,cl,rp].length+1=4:=rfl;rw[ak];have bH:4≤n:=fH;have cM:R[3]?=some [.str rp]:=sR0 (ws:=[vecK0,nm,cl,rp]) aM rfl;have aI:R[1]?=some [.str nm]:=sR0 (ws:=[vecK0,nm,cl,rp]) aM rfl;have aC:R[2]?=some [.str cl]:=sR0 (ws:=[vecK0,nm,cl,rp]) aM rfl;by_cases hS:S=[]<;>by_cases hT:T=[]<;>by_cases hV:V=[]
  ·skip;subst hS;subst hT;subst hV
   have aj:a49 ⟨[],[],[],sum⟩=[some (.row 4 [[.nilslice,.nilslice,.nilslice,.int .i64 sum]]),none,none,none]:=by
    unfold a49
    skip
    try rfl
   unfold a3z;rw[aj];by_cases bB:NumOk rp
   case neg=>exact⟨4,by decide,PanF.junk4 (.inr rfl) (.inl rfl) (.inr rfl) (PanF.fewer (c14 al sum n R nm cl rp cM ap bH aw aI aC 4 (.inl ⟨bB,rfl⟩)) rfl hfw)⟩
   have aQ:b0h ⟨[],[],[],sum⟩ nm cl (a09 rp)=none:=by unfold rdV at aQ;simp only[e3g bB]at aQ;exact aQ
   exact⟨1,by decide,PanF.junk4 (.inr rfl) (.inl rfl) (.inr rfl) (PanF.fewer (c14 al sum n R nm cl rp cM ap bH aw aI aC 1 (.inr ⟨bB,rfl⟩)) rfl hfw)⟩
  ·skip;subst hS;subst hT
   exact absurd rfl (ik hV)
  ·skip;subst hS;subst hV
   have aj:a49 ⟨[],T,[],sum⟩=[some (.row 4 [[.nilslice,.slice 2 0 T.length none,.nilslice,.int .i64 sum]]),none,some (.row 6 (T.map Tm.enc)),none]:=by
    unfold a49;rw[a0h _ (a0f hT),a23 _ (a0f hT),b41]
    try rfl
   unfold a3z;rw[aj];by_cases bB:NumOk rp
   case neg=>exact⟨4,by decide,b6h al sum n R nm cl rp cM T (by omega) ap bH aw aI aC bL cF 4 (.inl ⟨bB,rfl⟩)⟩
   have aQ:b0h ⟨[],T,[],sum⟩ nm cl (a09 rp)=none:=by unfold rdV at aQ;simp only[e3g bB]at aQ;exact aQ
   have bP:=a4p aQ;by_cases cg:a22 (b4m ⟨[],T,[],sum⟩ nm cl (a09 rp:Nat)) ([]:List Sg) T.length=true
   case neg=>exact⟨1,by decide,b6h al sum n R nm cl rp cM T (by omega) ap bH aw aI aC bL cF 1 (.inr ⟨bB,.inl ⟨e6t.2 cg,rfl⟩⟩)⟩
   by_cases hl:([]:List Vc).length<65536
   case neg=>exact⟨3,by decide,b6h al sum n R nm cl rp cM T (by omega) ap bH aw aI aC bL cF 3 (.inr ⟨bB,.inr (.inl ⟨cg,by omega,rfl⟩)⟩)⟩
   by_cases hs:sum+(a09 rp:Nat)≤1000000
   case neg=>exact⟨3,by decide,b6h al sum n R nm cl rp cM T (by omega) ap bH aw aI aC bL cF 3 (.inr ⟨bB,.inr (.inr ⟨cg,hl,by omega,rfl⟩)⟩)⟩
   exact absurd ⟨cg,hl,hs⟩ bP
  ·skip;subst hS
   have aj:a49 ⟨[],T,V,sum⟩=[some (.row 4 [[.nilslice,.slice 2 0 T.length none,.slice 3 0 V.length none,.int .i64 sum]]),none,some (.row 6 (T.map Tm.enc)),some (.row 3 (V.map Vc.enc))]:=by
    unfold a49;rw[a0h _ (a0f hT),a23 _ (a0f hT),b41,a0h _ (a0f hV),a23 _ (a0f hV),b41]
    try rfl
   unfold a3z;rw[aj];by_cases bB:NumOk rp
   case neg=>exact⟨4,by decide,b6g al sum n R nm cl rp cM T (by omega) V ap bH aw aI aC bL cF 4 (.inl ⟨bB,rfl⟩)⟩
   have aQ:b0h ⟨[],T,V,sum⟩ nm cl (a09 rp)=none:=by unfold rdV at aQ;simp only[e3g bB]at aQ;exact aQ
   have bP:=a4p aQ;by_cases cg:a22 (b4m ⟨[],T,V,sum⟩ nm cl (a09 rp:Nat)) ([]:List Sg) T.length=true
   case neg=>exact⟨1,by decide,b6g al sum n R nm cl rp cM T (by omega) V ap bH aw aI aC bL cF 1 (.inr ⟨bB,.inl ⟨e6t.2 cg,rfl⟩⟩)⟩
   by_cases hl:V.length<65536
   case neg=>exact⟨3,by decide,b6g al sum n R nm cl rp cM T (by omega) V ap bH aw aI aC bL cF 3 (.inr ⟨bB,.inr (.inl ⟨cg,by omega,rfl⟩)⟩)⟩
   by_cases hs:sum+(a09 rp:Nat)≤1000000
   case neg=>exact⟨3,by decide,b6g al sum n R nm cl rp cM T (by omega) V ap bH aw aI aC bL cF 3 (.inr ⟨bB,.inr (.inr ⟨cg,hl,by omega,rfl⟩)⟩)⟩
   exact absurd ⟨cg,hl,hs⟩ bP
  ·skip;subst hT;subst hV
   have aj:a49 ⟨S,[],[],sum⟩=[some (.row 4 [[.slice 1 0 S.length none,.nilslice,.nilslice,.int .i64 sum]]),some (.row 2 (S.map Sg.enc)),none,none]:=by
    unfold a49;rw[a0h _ (a0f hS),a23 _ (a0f hS),b41]
    try rfl
   unfold a3z;rw[aj];by_cases bB:NumOk rp
   case neg=>exact⟨4,by decide,PanF.junk4 (.inr rfl) (.inl rfl) (.inr rfl) (PanF.fewer (c14 al sum n R nm cl rp cM ap bH aw aI aC 4 (.inl ⟨bB,rfl⟩)) rfl hfw)⟩
   have aQ:b0h ⟨S,[],[],sum⟩ nm cl (a09 rp)=none:=by unfold rdV at aQ;simp only[e3g bB]at aQ;exact aQ
   exact⟨1,by decide,PanF.junk4 (.inr rfl) (.inl rfl) (.inr rfl) (PanF.fewer (c14 al sum n R nm cl rp cM ap bH aw aI aC 1 (.inr ⟨bB,rfl⟩)) rfl hfw)⟩
  ·skip;subst hT
   exact absurd rfl (ik hV)
  ·skip;subst hV
   have aj:a49 ⟨S,T,[],sum⟩=[some (.row 4 [[.slice 1 0 S.length none,.slice 2 0 T.length none,.nilslice,.int .i64 sum]]),some (.row 2 (S.map Sg.enc)),some (.row 6 (T.map Tm.enc)),none]:=by
    unfold a49;rw[a0h _ (a0f hS),a23 _ (a0f hS),b41,a0h _ (a0f hT),a23 _ (a0f hT),b41]
    try rfl
   unfold a3z;rw[aj];by_cases bB:NumOk rp
   case neg=>exact⟨4,by decide,b6f al sum n R nm cl rp cM S T (by omega) (by omega) ap bH aw aI aC bL cF 4 (.inl ⟨bB,rfl⟩)⟩
   have aQ:b0h ⟨S,T,[],sum⟩ nm cl (a09 rp)=none:=by unfold rdV at aQ;simp only[e3g bB]at aQ;exact aQ
   have bP:=a4p aQ;by_cases cg:a22 (b4m ⟨S,T,[],sum⟩ nm cl (a09 rp:Nat)) S T.length=true
   case neg=>exact⟨1,by decide,b6f al sum n R nm cl rp cM S T (by omega) (by omega) ap bH aw aI aC bL cF 1 (.inr ⟨bB,.inl ⟨e6t.2 cg,rfl⟩⟩)⟩
   by_cases hl:([]:List Vc).length<65536
   case neg=>exact⟨3,by decide,b6f al sum n R nm cl rp cM S T (by omega) (by omega) ap bH aw aI aC bL cF 3 (.inr ⟨bB,.inr (.inl ⟨cg,by omega,rfl⟩)⟩)⟩
   by_cases hs:sum+(a09 rp:Nat)≤1000000
   case neg=>exact⟨3,by decide,b6f al sum n R nm cl rp cM S T (by omega) (by omega) ap bH aw aI aC bL cF 3 (.inr ⟨bB,.inr (.inr ⟨cg,hl,by omega,rfl⟩)⟩)⟩
   exact absurd ⟨cg,hl,hs⟩ bP
  ·skip
   have aj:a49 ⟨S,T,V,sum⟩=[some (.row 4 [[.slice 1 0 S.length none,.slice 2 0 T.length none,.slice 3 0 V.length none,.int .i64 sum]]),some (.row 2 (S.map Sg.enc)),some (.row 6 (T.map Tm.enc)),some (.row 3 (V.map Vc.enc))]:=by
    unfold a49;rw[a0h _ (a0f hS),a23 _ (a0f hS),b41,a0h _ (a0f hT),a23 _ (a0f hT),b41,a0h _ (a0f hV),a23 _ (a0f hV),b41]
    try rfl
   unfold a3z;rw[aj];by_cases bB:NumOk rp
   case neg=>exact⟨4,by decide,b6e al sum n R nm cl rp cM S T (by omega) V (by omega) ap bH aw aI aC bL cF 4 (.inl ⟨bB,rfl⟩)⟩
   have aQ:b0h ⟨S,T,V,sum⟩ nm cl (a09 rp)=none:=by unfold rdV at aQ;simp only[e3g bB]at aQ;exact aQ
   have bP:=a4p aQ;by_cases cg:a22 (b4m ⟨S,T,V,sum⟩ nm cl (a09 rp:Nat)) S T.length=true
   case neg=>exact⟨1,by decide,b6e al sum n R nm cl rp cM S T (by omega) V (by omega) ap bH aw aI aC bL cF 1 (.inr ⟨bB,.inl ⟨e6t.2 cg,rfl⟩⟩)⟩
   by_cases hl:V.length<65536
   case neg=>exact⟨3,by decide,b6e al sum n R nm cl rp cM S T (by omega) V (by omega) ap bH aw aI aC bL cF 3 (.inr ⟨bB,.inr (.inl ⟨cg,by omega,rfl⟩)⟩)⟩
   by_cases hs:sum+(a09 rp:Nat)≤1000000
   case neg=>exact⟨3,by decide,b6e al sum n R nm cl rp cM S T (by omega) V (by omega) ap bH aw aI aC bL cF 3 (.inr ⟨bB,.inr (.inr ⟨cg,hl,by omega,rfl⟩)⟩)⟩
   exact absurd ⟨cg,hl,hs⟩ bP
theorem c89(al:DrOk L.env)(r:Rd)(hx:RdX r)(s:List UInt8)(h:a2v r s=none):∃e:Int,e≠0∧PanF L.env 41 [.ptr 0 0 0,.str s] (a2k r) (a4m e):=by
 suffices hP:∃e:Int,e≠0∧PanF L.env 41 [.ptr 0 0 0,.str s] (a49 r) (a4m e) by obtain⟨e,h1,h2⟩:=hP;exact⟨e,h1,c8t r h2⟩
 by_cases hl:s.length≤4096
 case neg=>exact⟨3,by decide,c56 al (a49 r) s hl⟩
 unfold a2v at h;rw[e3g hl]at h;have aK:∀w∈a2i (a00 32 s),w≠[]:=c63;cases br:a2i (a00 32 s)with
 |nil=>rw[br]at h;cases h
 |cons w0 tl=>
  rw[br,a6t]at h;split at h
  ·cases h
  rename_i jp;split at h
  ·rename_i hk;subst hk;exact b8q al _ _ _ _ r rfl s hl tl br λR ap aM aw fH=>d1b al r hx R (a00 32 s).length tl ap aM aw fH h
  split at h
  ·rename_i hk;subst hk;exact b8p al _ _ _ _ r rfl s hl tl br λR ap aM aw fH=>d12 al r hx R (a00 32 s).length tl ap aM aw fH h
  split at h
  ·rename_i hk;subst hk;exact b8o al _ _ _ _ r rfl s hl tl br λR ap aM aw fH=>d0v al r hx R (a00 32 s).length tl ap aM aw fH h
  rename_i k1 k2 k3;obtain⟨a,w,rfl⟩:∃a w,w0=a::w:=by
   cases w0 with
   |nil=>exact absurd rfl (aK [] (by rw[br];simp))
   |cons a w=>exact⟨a,w,rfl⟩
  have jp:a≠35:=by simpa using jp
  exact⟨4,by decide,c55 al _ _ _ _ s hl a w tl br jp k1 k2 k3⟩
end Go.RInst
namespace Go.RInst
set_option maxHeartbeats 200000000
open Go.Proofs Go.Ax Go.Pc
variable [PR]
set_option maxRecDepth 100000
theorem c4b(r:Rd)(a b c d:Option AObj):a0q ([a,b,c]++a1s r++[d]) (List.range' 3 (a1s r).length) (a2w (List.range' 3 (a1s r).length))=a2k r:=by
 have S1:=λπ=>a02 π (a0s r.S);have T1:=λπ=>a02 π (a0a r.T);have V1:=λπ=>a02 π (a13 r.V);unfold a1s a2k;generalize r.S.map Sg.enc=RS at *;generalize r.T.map Tm.enc=RT at *;generalize r.V.map Vc.enc=RV at *;rcases RS with _|⟨x,RS⟩<;>rcases RT with _|⟨y,RT⟩<;>rcases RV with _|⟨z,RV⟩ <;>
  simp only[a0p,a0u,a1t,a1q,b43,e2h,b82,b94,e27,List.range',a0q,e2b,e3a] <;>
  simp only[a03,e29,e51,e63,e2a,a0t,S1,T1,V1] <;>
  simp[ren,a47,a2w,e2g]
theorem c7w(al:DrOk L.env)(s:List UInt8)(hl:s.length≤1048576)(k:Nat)(u:List UInt8)(rk:Rd)(hu:(a00 10 s)[k]?=some u)(io:a2a ⟨[],[],[],0⟩ ((a00 10 s).take k)=some rk)(e:Int)(hp:PanF L.env 41 [.ptr 0 0 0,.str u] (a2k rk) (a4m e)) :
 ∃R,PanG (cx L.env Mf 3 49 19 0) b5e (rdF s) [clO,some (.row 2 [[.int .i64 0,.int .i64 0]]),clN 0] (a4m e) [(2,.ptr 0 0 0),(3,.ptr 1 0 0)] (some (.row 3 [[.nilslice,.nilslice,.nilslice]])::some (.row 2 [[.int .i64 0,.int .i64 0]])::clN ((k+1:Nat):Int)::R):=by
 have cX:(a00 10 s).length≤2000000:=by rw[a0r];have:=e3k (a:=(10:UInt8)) (l:=s);omega
 have cK:a0e L.env false (sem L.env Mf) (.func (.func 23) [] []) [.str s,.str [10]] [clO,some (.row 2 [[.int .i64 0,.int .i64 0]]),clN 0,some (.row 4 [[.nilslice,.nilslice,.nilslice,.int .i64 0]])]=some (.slice 4 0 (a00 10 s).length (some (a00 10 s).length),[clO,some (.row 2 [[.int .i64 0,.int .i64 0]]),clN 0,some (.row 4 [[.nilslice,.nilslice,.nilslice,.int .i64 0]]),some (.row 1 (sR (a00 10 s)))],[]):=a1f [clO,some (.row 2 [[.int .i64 0,.int .i64 0]]),clN 0,some (.row 4 [[.nilslice,.nilslice,.nilslice,.int .i64 0]])] s 10 hl;have gX:=a0m (a00 10 s);have gN:=a7c (a00 10 s);have kH:=λπ=>a02 π gX;have kG:=a01 gX;have cW:∀i w,(a00 10 s)[i]?=some w→(sR (a00 10 s))[i]?=some [AV.str w]:=λi w h=>a8t h;generalize hlines:a00 10 s=lines at *;generalize sR lines=LR at *;generalize fm:lines.length=nl at *;have qh:k<nl:=by rw[←fm];exact(e26.1 hu).1
 refine⟨List.replicate (a1s rk).length none++[some (.row 1 LR)],?_⟩;unfold b5e rdF;simp only[Tryz.f19,gS];refine pcs ?_
 (repeat first|simp only[ww]|(apply xa;simp+decide only[go_sem];rfl;kernel_rfl))
 refine a1m ?_;refine PanG.seqL ?_;refine pcs ?_
 (repeat first|simp only[ww]|(apply xa;simp+decide only[go_sem,cK];rfl;kernel_rfl))
 refine a1m ?_;refine a52 ?_;refine c0f (σ:=Nat×Rd) kp19_0 (λq=>[(2,.ptr 0 0 0),(3,.ptr 1 0 0),(4,.ptr 2 0 0),(5,.ptr 3 0 0),(17,.slice (3+(a1s q.2).length) 0 nl (some nl)),(18,.int .i64 nl),(19,.int .i64 (q.1:Nat))]) (λq=>[clO,some (.row 2 [[.int .i64 0,.int .i64 0]]),clN (q.1:Nat)]++a1s q.2++[some (.row 1 LR)]) (λq=>nl-q.1) (λq=>q.1≤k∧RdX q.2∧a2a q.2 ((lines.take k).drop q.1)=some rk) (0,⟨[],[],[],0⟩) ?_ ⟨e3h _,e13,io⟩ ?_
 ·(simp+decide only[go_sem,a0d,a07,kH,kG]<;>rfl)
 ·rintro⟨i,r⟩ ⟨hi,hw,aH⟩
  simp only at hi hw aH⊢;have aq:i<nl:=by omega
  have l1:(i:Int)<nl:=by omega
  by_cases kP:i=k
  ·left;subst kP;have pU:r=rk:=by
    rw[List.drop_of_length_le (by rw[e4z];omega)]at aH;unfold a2a at aH;exact z9o aH
   subst pU;have hg:=cW i u hu;have cZ:IntKind.i64.wrap ((i:Int)+1)=((i+1:Nat):Int):=by rw[w64 (by omega) (by omega)];omega
   have jI:=c4b r clO (some (.row 2 [[.int .i64 0,.int .i64 0]])) (clN ((i+1:Nat):Int)) (some (.row 1 LR));rcases a9c r with ⟨o0,e1⟩|⟨o0,o1,e1⟩|⟨o0,o1,o2,e1⟩|⟨o0,o1,o2,o3,e1⟩
   ·rw[e1]at jI⊢;simp only[b82,b43,b94,e27]at jI⊢;refine pcs ?_
    (repeat first|simp only[ww]|(apply xa;simp+decide only[go_sem];rfl;kernel_rfl))
    refine a1m ?_;refine pcs ?_
    (repeat first|simp only[ww]|(apply xa;simp+decide only[go_sem,l1];rfl;kernel_rfl))
    refine a1m ?_;refine PanG.seqL (a52 ?_);refine pcs ?_
    (repeat first|simp only[ww]|(apply xa;simp+decide only[go_sem,aq,hg,gN];rfl;kernel_rfl))
    refine a1m ?_;refine pcs ?_
    (repeat first|simp only[ww]|(apply xa;simp+decide only[go_sem,cZ];rfl;kernel_rfl))
    refine a1m ?_;refine d92 2 (by(simp+decide only[go_sem,c35,e28];rfl)) rfl rfl (PanOG.two (b6y (g1:=41) (l:=[.ptr 3 0 0,.str u]) (l1:=[.ptr 0 0 0,.str u]) (fs:=[]) (cs:=[]) (Hs:=a2k r) rfl (by simp only[go_sem]) (by simp only[go_sem];rfl) [3] (by rfl) rfl jI hp (by rfl)) (by rfl) (by rfl))
   ·rw[e1]at jI⊢;simp only[b82,b43,b94,e27]at jI⊢;refine pcs ?_
    (repeat first|simp only[ww]|(apply xa;simp+decide only[go_sem];rfl;kernel_rfl))
    refine a1m ?_;refine pcs ?_
    (repeat first|simp only[ww]|(apply xa;simp+decide only[go_sem,l1];rfl;kernel_rfl))
    refine a1m ?_;refine PanG.seqL (a52 ?_);refine pcs ?_
    (repeat first|simp only[ww]|(apply xa;simp+decide only[go_sem,aq,hg,gN];rfl;kernel_rfl))
    refine a1m ?_;refine pcs ?_
    (repeat first|simp only[ww]|(apply xa;simp+decide only[go_sem,cZ];rfl;kernel_rfl))
    refine a1m ?_;refine d92 2 (by(simp+decide only[go_sem,c35,e28];rfl)) rfl rfl (PanOG.two (b6y (g1:=41) (l:=[.ptr 3 0 0,.str u]) (l1:=[.ptr 0 0 0,.str u]) (fs:=[]) (cs:=[]) (Hs:=a2k r) rfl (by simp only[go_sem]) (by simp only[go_sem];rfl) [3,4] (by rfl) rfl jI hp (by rfl)) (by rfl) (by rfl))
   ·rw[e1]at jI⊢;simp only[b82,b43,b94,e27]at jI⊢;refine pcs ?_
    (repeat first|simp only[ww]|(apply xa;simp+decide only[go_sem];rfl;kernel_rfl))
    refine a1m ?_;refine pcs ?_
    (repeat first|simp only[ww]|(apply xa;simp+decide only[go_sem,l1];rfl;kernel_rfl))
    refine a1m ?_;refine PanG.seqL (a52 ?_);refine pcs ?_
    (repeat first|simp only[ww]|(apply xa;simp+decide only[go_sem,aq,hg,gN];rfl;kernel_rfl))
    refine a1m ?_;refine pcs ?_
    (repeat first|simp only[ww]|(apply xa;simp+decide only[go_sem,cZ];rfl;kernel_rfl))
    refine a1m ?_;refine d92 2 (by(simp+decide only[go_sem,c35,e28];rfl)) rfl rfl (PanOG.two (b6y (g1:=41) (l:=[.ptr 3 0 0,.str u]) (l1:=[.ptr 0 0 0,.str u]) (fs:=[]) (cs:=[]) (Hs:=a2k r) rfl (by simp only[go_sem]) (by simp only[go_sem];rfl) [3,4,5] (by rfl) rfl jI hp (by rfl)) (by rfl) (by rfl))
   ·rw[e1]at jI⊢;simp only[b82,b43,b94,e27]at jI⊢;refine pcs ?_
    (repeat first|simp only[ww]|(apply xa;simp+decide only[go_sem];rfl;kernel_rfl))
    refine a1m ?_;refine pcs ?_
    (repeat first|simp only[ww]|(apply xa;simp+decide only[go_sem,l1];rfl;kernel_rfl))
    refine a1m ?_;refine PanG.seqL (a52 ?_);refine pcs ?_
    (repeat first|simp only[ww]|(apply xa;simp+decide only[go_sem,aq,hg,gN];rfl;kernel_rfl))
    refine a1m ?_;refine pcs ?_
    (repeat first|simp only[ww]|(apply xa;simp+decide only[go_sem,cZ];rfl;kernel_rfl))
    refine a1m ?_;refine d92 2 (by(simp+decide only[go_sem,c35,e28];rfl)) rfl rfl (PanOG.two (b6y (g1:=41) (l:=[.ptr 3 0 0,.str u]) (l1:=[.ptr 0 0 0,.str u]) (fs:=[]) (cs:=[]) (Hs:=a2k r) rfl (by simp only[go_sem]) (by simp only[go_sem];rfl) [3,4,5,6] (by rfl) rfl jI hp (by rfl)) (by rfl) (by rfl))
  ·right;obtain⟨si,nI⟩:∃si,lines[i]?=some si:=⟨_,z9e (by omega)⟩
   have hg:=cW i si nI;have qu:(lines.take k).drop i=si::(lines.take k).drop (i+1):=by
    have h0:(lines.take k)[i]?=some si:=by rw[e5g,e3g (by omega),nI]
    obtain⟨hh,he⟩:=e26.1 h0;rw[←he];exact e6o hh
   rw[qu]at aH;unfold a2a at aH;split at aH
   case h_2=>cases aH
   rename_i r1 eo;have cZ:IntKind.i64.wrap ((i:Int)+1)=((i+1:Nat):Int):=by rw[w64 (by omega) (by omega)];omega
   obtain⟨H',σ,c1,c2,c3,c4,c5⟩:=c54 3 ([clO,some (.row 2 [[.int .i64 0,.int .i64 0]]),clN ((i+1:Nat):Int)]++a1s r++[some (.row 1 LR)]) 3 r r1 si hw.wf eo (c4p r _ _ _ _) (by decide);have p0:a03 H' 0=clO:=c4 0 (by simp<;>omega) (by decide);have p1:a03 H' 1=some (.row 2 [[.int .i64 0,.int .i64 0]]):=c4 1 (by simp<;>omega) (by decide);have p2:a03 H' 2=clN ((i+1:Nat):Int):=c4 2 (by simp<;>omega) (by decide);have pl:a03 H' (3+(a1s r).length)=some (.row 1 LR):=by
    have hx:a03 ([clO,some (.row 2 [[.int .i64 0,.int .i64 0]]),clN ((i+1:Nat):Int)]++a1s r++[some (.row 1 LR)]) (3+(a1s r).length)=some (.row 1 LR):=by unfold a03;rw[e3l (by simp;omega)];simp[show 3+(a1s r).length-((a1s r).length+1+1+1)=0 by omega]
    exact(c5 _ LR hx).trans hx
   have fy:=λ(F0:Frm) kW=>d73 H' r1 (3+(a1s r).length) nl (i+1) ((i+1:Nat):Int) LR gX p0 p1 p2 c2 pl (by omega) (F0:=F0) kW;have jG:RdX r1:=by
    unfold a2v at eo;split at eo
    ·exact d68 eo hw
    ·cases eo
   have h9:(i+1,r1).1≤k∧RdX (i+1,r1).2∧a2a (i+1,r1).2 ((lines.take k).drop (i+1,r1).1)=some rk:=⟨by simp only;omega,jG,aH⟩
   rcases a9c r with ⟨o0,e1⟩|⟨o0,o1,e1⟩|⟨o0,o1,o2,e1⟩|⟨o0,o1,o2,o3,e1⟩
   ·rw[e1]at c1 fy⊢;simp only[b82,b43,b94,e27]at c1 fy⊢
    (repeat first|simp only[ww]|(apply xa;simp+decide only[go_sem,l1,aq,hg,gN,cZ,c1];rfl;kernel_rfl))
    refine a2p (i+1,r1) ?_ (by simp only;omega) h9;rw[a0d];exact fy _ rfl
   ·rw[e1]at c1 fy⊢;simp only[b82,b43,b94,e27]at c1 fy⊢
    (repeat first|simp only[ww]|(apply xa;simp+decide only[go_sem,l1,aq,hg,gN,cZ,c1];rfl;kernel_rfl))
    refine a2p (i+1,r1) ?_ (by simp only;omega) h9;rw[a0d];exact fy _ rfl
   ·rw[e1]at c1 fy⊢;simp only[b82,b43,b94,e27]at c1 fy⊢
    (repeat first|simp only[ww]|(apply xa;simp+decide only[go_sem,l1,aq,hg,gN,cZ,c1];rfl;kernel_rfl))
    refine a2p (i+1,r1) ?_ (by simp only;omega) h9;rw[a0d];exact fy _ rfl
   ·rw[e1]at c1 fy⊢;simp only[b82,b43,b94,e27]at c1 fy⊢
    (repeat first|simp only[ww]|(apply xa;simp+decide only[go_sem,l1,aq,hg,gN,cZ,c1];rfl;kernel_rfl))
    refine a2p (i+1,r1) ?_ (by simp only;omega) h9;rw[a0d];exact fy _ rfl
def c8x(e:Int)(n:Nat):AV:=.tuple [.agg [.nilslice,.nilslice,.nilslice],.agg [.int .i64 e,.int .i64 (n:Nat)]]
theorem c7z(al:DrOk L.env)(s:List UInt8)(hl:s.length≤1048576)(k:Nat)(u:List UInt8)(rk:Rd)(hu:(a00 10 s)[k]?=some u)(io:a2a ⟨[],[],[],0⟩ ((a00 10 s).take k)=some rk)(e:Int)(hp:PanF L.env 41 [.ptr 0 0 0,.str u] (a2k rk) (a4m e))
 {I K:Nat→Prop}{ρ:PMap}{w:World}{ah:List Value}(rel:HRel L.env.G I K ρ (a03 []) w)(hn:NRel ρ 0)(ha:VRels I w ρ [.str s] ah) :
 XOf L.env 19 ah w λen w'=>∃c I' ρ',en = .returned c∧Ret L.env I K ρ 0 w I' ρ' [] w'∧VRel I' w' ρ' (c8x e (k+1)) c:=by
 obtain⟨R,cj⟩:=c7w al s hl k u rk hu io e hp;exact c7y al s hl e ((k+1:Nat):Int) _ _ _ _ _ R _ rfl rfl cj rfl rfl rel hn ha
end Go.RInst
namespace Go.RInst
set_option maxHeartbeats 200000000
open Go.Proofs Go.Ax Go.Pc
/-! ### what Read answers, for a3t b4l -/
open Classical in
noncomputable def b99(r:Rd)(u:List UInt8):Int:=
 if PanF (@L PR0).env 41 [.ptr 0 0 0,.str u] (a2k r) (a4m 4)then 4
 else if h:∃e:Int,e≠0∧PanF (@L PR0).env 41 [.ptr 0 0 0,.str u] (a2k r) (a4m e)then h.choose else 1
theorem c1x{r:Rd}{u:List UInt8}(hx:RdX r)(h:a2v r u=none):b99 r u≠0∧PanF (@L PR0).env 41 [.ptr 0 0 0,.str u] (a2k r) (a4m (b99 r u)):=by
 have hl:=@c89 PR0 dr0 r hx u h;unfold b99;split
 ·rename_i h4;exact⟨by decide,h4⟩
 ·exact hl.choose_spec
noncomputable def b33:Rd→Nat→List (List UInt8)→AV
 |r,_,[]=>c2i r
 |r,k,u::l=>match a2v r u with
  |some r'=>b33 r' (k+1) l
  |none=>c8x (b99 r u) (k+1)
theorem b0u:∀(L:List (List UInt8)) (r:Rd) (k:Nat) (r':Rd),a2a r L=some r'→b33 r k L=c2i r'
 | [],r,k,r',h=>by unfold a2a at h;cases h;rfl
 |u::L,r,k,r',h=>by
  unfold a2a at h;unfold b33;split at h
  ·rename_i r1 h1;rw[h1];exact b0u L r1 (k+1) r' h
  ·cases h
theorem a7r:∀(L:List (List UInt8)) (r:Rd) (k i:Nat) (u:List UInt8) (ri:Rd),L[i]?=some u→a2a r (L.take i)=some ri→a2v ri u=none→b33 r k L=c8x (b99 ri u) (k+i+1)
 | [],r,k,i,u,ri,h,_,_=>by simp at h
 |v::L,r,k,0,u,ri,h,h1,h2=>by
  have hv:v=u:=by simpa using h
  subst hv;simp only[e28]at h1;unfold a2a at h1;cases h1;unfold b33;rw[h2]
 |v::L,r,k,i+1,u,ri,h,h1,h2=>by
  rw[c35]at h1;unfold a2a at h1;unfold b33;split at h1
  ·rename_i r1 hr;rw[hr];have:=a7r L r1 (k+1) i u ri (by simpa using h) h1 h2;rw[show k+(i+1)+1=k+1+i+1 by omega];exact this
  ·cases h1
theorem a92:∀(L:List (List UInt8)) (r:Rd),(∃r',a2a r L=some r')∨∃i u ri,L[i]?=some u∧a2a r (L.take i)=some ri∧a2v ri u=none
 | [],r=>.inl ⟨r,by unfold a2a;rfl⟩
 |v::L,r=>by
  cases h:a2v r v with
  |none=>exact .inr ⟨0,v,r,rfl,by simp only[e28];unfold a2a;rfl,h⟩
  |some r1=>
   rcases a92 L r1 with ⟨r',h1⟩|⟨i,u,ri,h1,h2,h3⟩
   ·exact .inl ⟨r',by unfold a2a;rw[h];exact h1⟩
   ·exact .inr ⟨i+1,u,ri,by simpa using h1,by rw[c35];unfold a2a;rw[h];exact h2,h3⟩
theorem c0d:∀(L:List (List UInt8)) (r r':Rd),a2a r L=some r'→RdX r→RdX r'
 | [],r,r',h,hx=>by unfold a2a at h;cases h;exact hx
 |u::L,r,r',h,hx=>by
  unfold a2a at h;split at h
  ·rename_i r1 h1;refine c0d L r1 r' h ?_;unfold a2v at h1;split at h1
   ·exact @d68 PR0 _ _ _ h1 hx
   ·cases h1
  ·cases h
noncomputable def prC:List AV→Option (AV×a08)
 | [.str s]=>bif decide (s.length≤1048576)then some (b33 ⟨[],[],[],0⟩ 0 (a00 10 s),[])else none
 |_=>none
@[reducible] noncomputable def PR3:PR:=⟨prC⟩
theorem c80(s:List UInt8)(hl:s.length≤1048576){I K:Nat→Prop}{ρ:PMap}{w:World}{ah:List Value}(rel:HRel (@L PR0).env.G I K ρ (a03 []) w)(hn:NRel ρ 0)(ha:VRels I w ρ [.str s] ah) :
 XOf (@L PR0).env 19 ah w λen w'=>∃c I' ρ',en = .returned c∧Ret (@L PR0).env I K ρ 0 w I' ρ' [] w'∧VRel I' w' ρ' (b33 ⟨[],[],[],0⟩ 0 (a00 10 s)) c:=by
 rcases a92 (a00 10 s) ⟨[],[],[],0⟩with ⟨r,h⟩|⟨i,u,ri,h1,h2,h3⟩
 ·rw[b0u _ _ _ _ h];exact @c4o PR0 dr0 s hl (c2i r) (@c4m PR0 s hl r h) I K ρ w ah rel hn ha
 ·rw[a7r _ _ _ _ _ _ h1 h2 h3,e55];exact @c7z PR0 dr0 s hl i u ri h1 h2 _ (c1x (c0d _ _ _ h2 (@e13 PR0)) h3).2 I K ρ w ah rel hn ha
theorem dr3:DrOk (@L PR3).env:=@dr PR3 (@c1r PR3 (λa r h0=>by
 have h:prC a=some r:=h0;clear h0;unfold prC at h;split at h
 ·rename_i s;rw[cond_eq_ite]at h;split at h
  ·rename_i hl;have hl:s.length≤1048576:=by simpa using hl
   cases h;refine⟨rfl,λI K ρ w ah rel hn ha=>?_⟩;have h0:=c80 s hl rel hn ha;rw[a3l (E:=(@L PR0).env) (by decide)]at h0;rw[a3l (E:=(@L PR3).env) (by decide)];refine Calls.mono h0 ?_
   rintro en w' ⟨c,I',ρ',h1,h2,h3⟩
   exact⟨c,I',ρ',h1,⟨h2.imm,h2.map,h2.ext,h2.rel,h2.nrel,h2.low⟩,h3⟩
  ·cases h
 ·cases h))
theorem pr3_at(s:List UInt8)(hl:s.length≤1048576):PR3.pr [.str s]=some (b33 ⟨[],[],[],0⟩ 0 (a00 10 s),[]):=by show(bif decide (s.length≤1048576)then some (b33 ⟨[],[],[],0⟩ 0 (a00 10 s),[])else none)=_;rw[e3d hl];rfl
theorem pr3_so:PR3.pr [.str soT]=some (soV,[]):=by
 rw[pr3_at soT (by decide)];have hs:a00 10 soT=[soT]:=@b7x PR0 10 soT (by decide);have hb:a2v ⟨[],[],[],0⟩ soT=none:=by
  have h:=@d18 PR0 ⟨[],[],[],0⟩;rw[hs]at h;unfold a2a at h;split at h
  ·cases h
  ·assumption
 have h4:b99 ⟨[],[],[],0⟩ soT=4:=by unfold b99;exact e3g (@d19 PR0 dr0)
 rw[hs,a7r [soT] _ 0 0 soT ⟨[],[],[],0⟩ rfl rfl hb,h4];rfl
end Go.RInst
namespace Go.RInst
open Go.Proofs Go.Ax Go.Pc
variable [PR]
set_option maxRecDepth 100000
theorem b7w(c:UInt8)(t:List UInt8):∀(w:List UInt8) (ws:List (List UInt8)),(∀x∈w::ws,∀b∈x,b≠c)→a00 c (Lib.join (w::ws) [c]++c::t)=(w::ws)++a00 c t
 |w,[],h=>by rw[Lib.join_one,a69 c w t (h w (by simp))];rfl
 |w,v::ws,h=>by
  have ih:=b7w c t v ws λx hx=>h x (by simp[e3b.1 hx]);have e:Lib.join (w::v::ws) [c]=w++c::Lib.join (v::ws) [c]:=by rw[Lib.join_cons,Lib.join_cons];simp[Lib.joinTail]
  rw[e,e5j,b82,a69 c w _ (h w (by simp)),ih];rfl
theorem c0l:∀(w:List UInt8) (ws:List (List UInt8)),(Lib.join (w::ws) [10]).length+1=wl (w::ws)
 |w,[]=>by simp[Lib.join_one,wl]
 |w,v::ws=>by
  have ih:=c0l v ws;have e:Lib.join (w::v::ws) [10]=w++10::Lib.join (v::ws) [10]:=by rw[Lib.join_cons,Lib.join_cons];simp[Lib.joinTail]
  rw[a38,←ih,e,e2f,b94];omega
theorem d06:∀l:List (List UInt8),l.length≤wl l
 | []=>e3h _
 |w::l=>by rw[a38,b94];have:=d06 l;omega
theorem c67(R:List (List AV)):∃a,clA R=sl a R:=by
 cases R with
 |nil=>exact⟨none,rfl⟩
 |cons x l=>exact⟨some (some (x::l).length),by rw[c4c];rfl⟩
theorem d2h(e n:Int)(z:Bool):b1i L.env .eql 56 (.agg [.int .i64 e,.int .i64 n]) (.agg [.int .i64 e,.int .i64 n]) z=some (.bool true):=by
 have h:b1i L.env .eql 56 (.agg [.int .i64 e,.int .i64 n]) (.agg [.int .i64 e,.int .i64 n]) z=some (.bool ((e==e)&&((n==n)&&true))):=by kernel_rfl
 rw[h];simp
theorem e1b(c:Option Nat)(l:List (List UInt8)):sem L.env Mf 24 [.slice 0 0 0 c,.str [10]] [some (.row 1 (sR l))]=some (.str [],[some (.row 1 (sR l))]):=by
 have bY:=λπ=>a02 π (a0m l);have cL:=a01 (a0m l);have mQ:=λq d=>a2n q d (a0m l)
 (refine sv Tryz.f24 ?_;simp only[Tryz.f24,gS])
 (repeat first|simp only[ww]|(apply xa;simp+decide only[go_sem];rfl;kernel_rfl))
 (apply fqb;simp+decide only[go_sem,bY,cL,mQ]<;>rfl)
theorem read_law(mw:PR.pr [.str soT]=some (soV,[]))(nN:∀s:List UInt8,s.length≤1048576→PR.pr [.str s]=some (b33 ⟨[],[],[],0⟩ 0 (a00 10 s),[]))(s t:List UInt8) :
 sem L.env Mf 5 [.str s,.str t] []=some (.bool true,[]):=by
 have oY:=λd H=>c2o mw (d:=d) H;by_cases hs:s.length≤2000
 case neg=>
  have c1:(2000:Int)<s.length:=by omega
  (refine sv Tryz.f5 ?_;simp only[Tryz.f5,gS])
  (repeat first|simp only[ww]|(apply xa;simp+decide only[go_sem,c1,oY];rfl;kernel_rfl))
  (apply fqb;simp+decide only[go_sem]<;>rfl)
 have c1:¬(2000:Int)<s.length:=by omega
 by_cases ht:t.length≤2000
 case neg=>
  have c2:(2000:Int)<t.length:=by omega
  (refine sv Tryz.f5 ?_;simp only[Tryz.f5,gS])
  (repeat first|simp only[ww]|(apply xa;simp+decide only[go_sem,c1,c2,oY];rfl;kernel_rfl))
  (apply fqb;simp+decide only[go_sem]<;>rfl)
 have c2:¬(2000:Int)<t.length:=by omega
 -- a b4l that is read
 have good:∀(u:List UInt8) (r:Rd),u.length≤1048576→a2a ⟨[],[],[],0⟩ (a00 10 u)=some r→∃a b c:Option (Option Nat),∀d H,a0e L.env d (sem L.env Mf) (.func (.func 19) [] []) [.str u] H=some (.tuple [.agg [sl a (r.S.map Sg.enc),sl b (r.T.map Tm.enc),sl c (r.V.map Vc.enc)],.agg [.int .i64 0,.int .i64 0]],H,[]):=by intro u r hu h;obtain⟨a,ea⟩:=c67 (r.S.map Sg.enc);obtain⟨b,eb⟩:=c67 (r.T.map Tm.enc);obtain⟨c,ec⟩:=c67 (r.V.map Vc.enc);have hp:=nN u hu;rw[b0u _ _ _ _ h]at hp;unfold c2i at hp;simp only[ea,eb,ec]at hp;exact⟨a,b,c,λd H=>a0l (by kernel_rfl) (by kernel_rfl) rfl rfl (b2a hp) (by simp+decide only[go_sem])⟩
 have fJ:=d2h;rcases a92 (a00 10 s) ⟨[],[],[],0⟩with ⟨r,h⟩|⟨k,u,ri,h1,h2,h3⟩
 ·obtain⟨hv,hn⟩:=c2g hs h;have bP:=b88 h;have fm:=c4y s;obtain⟨a,b,c,hR⟩:=good s r (by omega) h;obtain⟨a2,b2,so,aC⟩:=good (nrm s) r (by omega) hn;have hw:=c7a a b c r.S r.T r.V hv;rw[bP]at hw;have hW:=λd H=>a0l (E:=L.env) (ai:=d) (call:=sem L.env Mf) (g:=18) (fs:=[]) (cs:=[]) (ar:=[.agg [sl a (r.S.map Sg.enc),sl b (r.T.map Tm.enc),sl c (r.V.map Vc.enc)]]) (H:=H) (by kernel_rfl) (by kernel_rfl) rfl (by simp+decide only[go_sem]<;>rfl) hw rfl;have aO:=hv.hS;have az:=hv.hT;have aZ:=hv.hV;have hN:=λd H=>a0l (E:=L.env) (ai:=d) (call:=sem L.env Mf) (g:=22) (fs:=[]) (cs:=[]) (ar:=[.str s]) (H:=H) (by kernel_rfl) (by kernel_rfl) rfl rfl (c50 s hs) rfl;have ud:=λd H=>a0l (E:=L.env) (ai:=d) (call:=sem L.env Mf) (g:=20) (fs:=[]) (cs:=[]) (ar:=[.agg [sl a (r.S.map Sg.enc),sl b (r.T.map Tm.enc),sl c (r.V.map Vc.enc)],.agg [sl a2 (r.S.map Sg.enc),sl b2 (r.T.map Tm.enc),sl so (r.V.map Vc.enc)]]) (H:=H) (by kernel_rfl) (by kernel_rfl) rfl (by simp+decide only[go_sem]<;>rfl) (d1g a a2 b b2 c so r.S r.T r.V (by omega) (by omega) (by omega)) rfl;generalize nrm s=ns at *
  (refine sv Tryz.f5 ?_;simp only[Tryz.f5,gS])
  (repeat first|simp only[ww]|(apply xa;simp+decide only[go_sem,c1,c2,hR,hW,hN,aC,fJ,ud,oY];rfl;kernel_rfl))
  (apply fqb;simp+decide only[go_sem]<;>rfl)
 ·obtain⟨he,_⟩:=c1x (c0d _ _ _ h2 e13) h3;have hp:=nN s (by omega);rw[a7r _ _ _ _ _ _ h1 h2 h3,e55]at hp;have jN:=b58 10 s;have pK:=a8a 10 s;have cK:=λH=>a1f H s 10 (by omega);have qh:k<(a00 10 s).length:=(e26.1 h1).1;generalize hLL:a00 10 s=LL at *;obtain⟨n,hn⟩:∃n,n=LL.length:=⟨_,rfl⟩
  rw[←hn]at qh;simp only[←hn]at cK;have dz:=a0m LL;have oX:∀j,∀x∈LL.take j,∀b∈x,b≠10:=λj x hx=>jN x (e6f hx);have rA:=d06 LL;have sI:=b2o LL k;have sH:=b2o LL (k+1);have nF:(LL.take (k+1)).length=k+1:=by rw[e4z];omega
  have nG:(LL.take k).length=k:=by rw[e4z];omega
  -- the lines cE
  have qQ:∃P,P.length≤2001∧(∃r1,a2a ⟨[],[],[],0⟩ (a00 10 P)=some r1)∧∀o0 o1,a0e L.env false (sem L.env Mf) (.func (.func 24) [] []) [.slice 2 0 k (some n),.str [10]] [o0,o1,some (.row 1 (sR LL))]=some (.str P,[o0,o1,some (.row 1 (sR LL))],[2]):=by
   by_cases eR:k=0
   ·subst eR;exact⟨[],by simp,⟨_,b8a _⟩,λo0 o1=>a2f (by kernel_rfl) (by kernel_rfl) rfl (b:=2) (o:=.row 1 (sR LL)) rfl (a0o dz) (FlatO.row dz) rfl (by rfl) (e1b (some n) LL) rfl⟩
   ·obtain⟨w,ws,hw⟩:∃w ws,LL.take k=w::ws:=by
     cases hc:LL.take k with
     |nil=>rw[hc]at nG;simp at nG;omega
     |cons w ws=>exact⟨w,ws,rfl⟩
    have dq:=c0l w ws;rw[←hw]at dq;have hj:=c2v [10] 0 k (some n) LL (by omega) (by omega) (by omega) (by rw[e5b];omega);rw[e5b]at hj;refine⟨Lib.join (LL.take k) [10],by omega,⟨ri,?_⟩,λo0 o1=>a2f (by kernel_rfl) (by kernel_rfl) rfl (b:=2) (o:=.row 1 (sR LL)) rfl (a0o dz) (FlatO.row dz) rfl (by rfl) hj rfl⟩;rw[c06 10 (LL.take k) (by rw[hw];simp) (oX k)];exact h2
  obtain⟨P1,uI,⟨r1,eo⟩,qQ⟩:=qQ;obtain⟨a,b,c,aI⟩:=good P1 r1 (by omega) eo
  -- with the line that is refused,and more
  obtain⟨w,ws,hw⟩:∃w ws,LL.take (k+1)=w::ws:=by
   cases hc:LL.take (k+1)with
   |nil=>rw[hc]at nF;simp at nF
   |cons w ws=>exact⟨w,ws,rfl⟩
  have dq:=c0l w ws;rw[←hw]at dq;have hj:=c2v [10] 0 (k+1) (some n) LL (by omega) (by omega) (by omega) (by rw[e5b];omega);rw[e5b]at hj;have uj:∀o0 o1 o3 o4,a0e L.env false (sem L.env Mf) (.func (.func 24) [] []) [.slice 2 0 (k+1) (some n),.str [10]] [o0,o1,some (.row 1 (sR LL)),o3,o4]=some (.str (Lib.join (LL.take (k+1)) [10]),[o0,o1,some (.row 1 (sR LL)),o3,o4],[2]):=λo0 o1 o3 o4=>a2f (by kernel_rfl) (by kernel_rfl) rfl (b:=2) (o:=.row 1 (sR LL)) rfl (a0o dz) (FlatO.row dz) rfl (by rfl) hj rfl;have pX:=nN (Lib.join (LL.take (k+1)) [10]++[10]++t) (by simp only[e2f,e68];omega);have sZ:a00 10 (Lib.join (LL.take (k+1)) [10]++[10]++t)=LL.take (k+1)++a00 10 t:=by have nZ:=oX (k+1);rw[hw]at nZ⊢;rw[e5j];exact b7w 10 t w ws nZ
  rw[sZ,a7r (LL.take (k+1)++a00 10 t) _ 0 k u ri (by rw[e3q (by omega),e5g,e3g (by omega)];exact h1) (by rw[List.take_append_of_le_length (by omega),List.take_take,Nat.min_eq_left (by omega)];exact h2) h3,e55]at pX;unfold c8x at hp pX;have hR:=λd H=>a0l (E:=L.env) (ai:=d) (call:=sem L.env Mf) (g:=19) (fs:=[]) (cs:=[]) (ar:=[.str s]) (H:=H) (by kernel_rfl) (by kernel_rfl) rfl rfl (b2a hp) rfl;have cM:=λd H=>a0l (E:=L.env) (ai:=d) (call:=sem L.env Mf) (g:=19) (fs:=[]) (cs:=[]) (ar:=[.str (Lib.join (LL.take (k+1)) [10]++[10]++t)]) (H:=H) (by kernel_rfl) (by kernel_rfl) rfl rfl (b2a pX) rfl;generalize b99 ri u=e at *;generalize Lib.join (LL.take (k+1)) [10]=P2 at *;have fE:=a7c LL;rw[←hn]at fE;have c3:¬((k+1:Nat):Int)<1:=by omega
  have c4:¬(n:Int)<((k+1:Nat):Int):=by omega
  have jG:IntKind.i64.wrap (((k+1:Nat):Int)-1)=((k:Nat):Int):=by rw[w64 (by omega) (by omega)];omega
  have dC:k≤n:=by omega
  have qm:k+1≤n:=by omega
  have du:P2.length+1≤4611686018427387904:=by omega
  have d7:P2.length+1+t.length≤4611686018427387904:=by omega
  (refine sv Tryz.f5 ?_;simp only[Tryz.f5,gS])
  (repeat first|simp only[ww]|(apply xa;simp+decide only[go_sem,c1,c2,hR,he,cK,c3,c4,jG,dC,qm,fE,qQ,aI,uj,du,d7,cM,fJ,oY];rfl;kernel_rfl))
  (apply fqb;simp+decide only[go_sem]<;>rfl)
end Go.RInst
