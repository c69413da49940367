/- Part of a proof. No condition. -/
import Derived.Test.YtmbmjfjagololaaGreatDoorRPh
import Derived.Test.YtmbmjfjagololaaGreatDoorRPg
import Derived.Test.YtmbmjfjagololaaGreatDoorRPe
import Derived.Test.YtmbmjfjagololaaGreatDoorRRd
set_option linter.unusedSectionVars false
set_option linter.unusedSimpArgs false
set_option linter.unusedVariables false
namespace Go.RInst
open Go.Proofs Go.Ax Go.Pc
variable [PR]
set_option maxRecDepth 100000
/-- A program without an error is valid. -/
theorem chk_valid(S:List Sg)(T:List Tm)(V:List Vc)(hS:S.length≤100)(hV:V.length≤100)(h:chkP S T V=0):Valid S T V:=by
 unfold chkP at h;split at h
 ·cases h
 rename_i h1;split at h
 ·cases h
 rename_i h2;split at h
 ·cases h
 rename_i h3;split at h
 ·cases h
 rename_i h4;have h2:(S.all sgOk&&T.all tmOk&&V.all λv=>vcOk v S T.length)=true:=by
  cases hb:(S.all sgOk&&T.all tmOk&&V.all λv=>vcOk v S T.length)
  ·exact absurd hb h2
  ·rfl
 simp only[Bool.and_eq_true,List.all_eq_true]at h2;simp only[Bool.or_eq_true,Bool.not_eq_true',decide_eq_false_iff_not,not_or,Classical.not_not]at h3;exact⟨hS,by omega,hV,h2.1.1,h2.1.2,h2.2,h3.1,h3.2,by omega⟩
section
variable (rs rt rv:Option (Option Nat))(S:List Sg)(T:List Tm)(V:List Vc)(hS:S.length≤100)(hT:T.length≤100)(hV:V.length≤100)
include hS hT hV
theorem ck_call{d:Bool}(H:Heap):callV L.env d (sem L.env Mf) (.func (.func 21) [] []) [.agg [sl rs (S.map Sg.enc),sl rt (T.map Tm.enc),sl rv (V.map Vc.enc)]] H=some (.int .i64 (chkP S T V),H,[]):=callV_flat (by kernel_rfl) (by kernel_rfl) rfl (by simp+decide only[go_sem]<;>rfl) (check_gen rs rt rv S T V hS hT hV) rfl
variable (he:chkP S T V≠0)
include he
theorem cycles_bad:sem L.env Mf 10 [.agg [sl rs (S.map Sg.enc),sl rt (T.map Tm.enc),sl rv (V.map Vc.enc)]] []=some (.tuple [.int .i64 0,.int .i64 (chkP S T V)],[]):=by
 have hck:=λd H=>ck_call rs rt rv S T V hS hT hV (d:=d) H;generalize chkP S T V=e at hck he⊢;have c0:¬e=0:=he
 (refine sv Tryz.f10 ?_;simp only[Tryz.f10,gS])
 (repeat first|simp only[ww]|(apply xa;simp+decide only[go_sem,hck,c0];rfl;kernel_rfl))
 (apply fqb;simp+decide only[go_sem]<;>rfl)
theorem cycb_call{d:Bool}(H:Heap):callV L.env d (sem L.env Mf) (.func (.func 10) [] []) [.agg [sl rs (S.map Sg.enc),sl rt (T.map Tm.enc),sl rv (V.map Vc.enc)]] H=some (.tuple [.int .i64 0,.int .i64 (chkP S T V)],H,[]):=callV_flat (by kernel_rfl) (by kernel_rfl) rfl (by simp+decide only[go_sem]<;>rfl) (cycles_bad rs rt rv S T V hS hT hV he) rfl
theorem flat_bad(m:Int):sem L.env Mf 11 [.agg [sl rs (S.map Sg.enc),sl rt (T.map Tm.enc),sl rv (V.map Vc.enc)],.int .i64 m] []=some (.tuple [.nilslice,.int .i64 (chkP S T V)],[]):=by
 have hck:=λd H=>cycb_call rs rt rv S T V hS hT hV he (d:=d) H;generalize chkP S T V=e at hck he⊢;have c0:¬e=0:=he
 (refine sv Tryz.f11 ?_;simp only[Tryz.f11,gS])
 (repeat first|simp only[ww]|(apply xa;simp+decide only[go_sem,hck,c0];rfl;kernel_rfl))
 (apply fqb;simp+decide only[go_sem]<;>rfl)
theorem pack_bad:sem L.env Mf 26 [.agg [sl rs (S.map Sg.enc),sl rt (T.map Tm.enc),sl rv (V.map Vc.enc)]] []=some (.tuple [.agg [.nilslice,.nilslice,.nilslice],.int .i64 (chkP S T V)],[]):=by
 have hck:=λd H=>ck_call rs rt rv S T V hS hT hV (d:=d) H;generalize chkP S T V=e at hck he⊢;have c0:¬e=0:=he;have b29:Nat.beq 29 82=false:=by decide
 (refine sv Tryz.f26 ?_;simp only[Tryz.f26,gS])
 (repeat first|simp only[ww]|(apply xa;simp+decide only[go_sem,hck,c0,b29];rfl;kernel_rfl))
 (apply fqb;simp+decide only[go_sem]<;>rfl)
theorem write_bad:sem L.env Mf 18 [.agg [sl rs (S.map Sg.enc),sl rt (T.map Tm.enc),sl rv (V.map Vc.enc)]] []=some (.tuple [.str [],.int .i64 (chkP S T V)],[]):=by
 have hck:=λd H=>ck_call rs rt rv S T V hS hT hV (d:=d) H;generalize chkP S T V=e at hck he⊢;have c0:¬e=0:=he
 (refine sv Tryz.f18 ?_;simp only[Tryz.f18,gS])
 (repeat first|simp only[ww]|(apply xa;simp+decide only[go_sem,hck,c0];rfl;kernel_rfl))
 (apply fqb;simp+decide only[go_sem]<;>rfl)
theorem sig_bad(i:Nat)(m:Int)(d:Nat):sem L.env Mf 31 [.agg [sl rs (S.map Sg.enc),sl rt (T.map Tm.enc),sl rv (V.map Vc.enc)],.int .i64 i,.int .i64 m,.int .u8 d] []=some (.tuple [.nilslice,.int .i64 (chkP S T V)],[]):=by
 have hck:=λd H=>ck_call rs rt rv S T V hS hT hV (d:=d) H;generalize chkP S T V=e at hck he⊢;have c0:¬e=0:=he
 (refine sv Tryz.f31 ?_;simp only[Tryz.f31,gS])
 (repeat first|simp only[ww]|(apply xa;simp+decide only[go_sem,hck,c0];rfl;kernel_rfl))
 (apply fqb;simp+decide only[go_sem]<;>rfl)
end
/-- The signals of raw data. -/
def ofS(N:List (List UInt8)):Nat→List Sg
 |0=>[]
 |j+1=>match N[j]? with
  |some s=>ofS N j++[⟨s,j%2⟩]
  |none=>ofS N j
theorem ofS_s{N:List (List UInt8)}{j:Nat}{s:List UInt8}(h:N[j]?=some s):ofS N (j+1)=ofS N j++[⟨s,j%2⟩]:=by simp only[ofS,h]
theorem ofS_len(N:List (List UInt8)):∀j,j≤N.length→(ofS N j).length=j
 |0,_=>rfl
 |j+1,h=>by
  obtain⟨t,ht⟩:∃t,N[j]?=some t:=⟨_,List.getElem?_eq_getElem (by omega)⟩
  rw[ofS_s ht,List.length_append,ofS_len N j (by omega)];rfl
set_option maxHeartbeats 1000000 in
theorem rawof_ok(r0 r1 r2:Option (Option Nat))(N:List (List UInt8))(X:List Tm)(Y:List Vc)(hN:N.length≤20):sem L.env Mf 17 [.agg [sl r0 (N.map stR),sl r1 (X.map Tm.enc),sl r2 (Y.map Vc.enc)]] []=some (.agg [sl none ((ofS N N.length).map Sg.enc),sl r1 (X.map Tm.enc),sl r2 (Y.map Vc.enc)],[]):=by
 have b29:Nat.beq 29 82=false:=by decide
 (refine sv Tryz.f17 ?_;simp only[Tryz.f17,gS])
 (repeat first|simp only[ww]|(apply xa;simp+decide only[go_sem,b29];rfl;kernel_rfl))
 refine xp_loop3 (σ:=Nat) kp17_0 (λi=>[(1,.ptr 0 0 0),(2,.ptr 1 0 0),(3,.ptr 2 0 0),(4,.int .i64 (i:Nat))]) (λi=>some (.row 3 [[sl r0 (N.map stR),sl r1 (X.map Tm.enc),sl r2 (Y.map Vc.enc)]])::some (.row 3 [[.nilslice,.nilslice,.nilslice]])::some (.row 3 [[grV 3 ((ofS N i).map Sg.enc),sl r1 (X.map Tm.enc),sl r2 (Y.map Vc.enc)]])::grH 2 ((ofS N i).map Sg.enc)) (λi=>N.length-i) (λi=>i≤N.length) 0 ?_ (Nat.zero_le _) ?_
 ·have e0:ofS N 0=[]:=rfl
  (simp+decide only[go_sem,gcD_eq,gcIds_eq,e0,List.map_nil,grV_nil,grH_nil,b29]<;>rfl)
 ·intro i hi;by_cases hlt:i<N.length
  ·have l1:(i:Int)<N.length:=by omega
   obtain⟨s,hs⟩:∃s,N[i]?=some s:=⟨_,List.getElem?_eq_getElem hlt⟩
   have hsm:(N.map stR)[i]?=some (stR s):=by rw[List.getElem?_map,hs];rfl
   have hsm':stR s=[.str s]:=rfl;have hw:IntKind.i64.wrap ((i:Int)+1)=((i+1:Nat):Int):=by rw[w64 (by omega) (by omega)];omega
   have hmod:(i:Int).tmod 2=((i%2:Nat):Int):=by rw[Int.tmod_eq_emod_of_nonneg (by omega)];omega
   have hu:=u8m2 i;have hsr:(ofS N (i+1)).map Sg.enc=(ofS N i).map Sg.enc++[[.str s,.int .u8 (i%2:Nat)]]:=by rw[ofS_s hs,List.map_append];rfl
   have h5:=refs_flatR (sgE_flat (ofS N (i+1)));have h6:=λπ=>renR_flat π (sgE_flat (ofS N (i+1)));have hlen:((ofS N i).map Sg.enc).length=i:=by rw[List.length_map,ofS_len N i hi]
   have hrm:i+1≤1000000000:=by omega
   rw[hsm']at hsm;by_cases hk:i=0
   ·subst hk;have e1:(ofS N 0).map Sg.enc=[]:=rfl;rw[e1]at hsr⊢;simp only[List.nil_append]at hsr
    (repeat first|simp only[ww]|(apply xa;simp+decide only[go_sem,l1,hlt,hsm,hw,hmod,hu,List.length_map,grV_nil,grH_nil];rfl;kernel_rfl))
    refine lp_n (0+1) ?_ (by omega) (by omega)
    (simp+decide only[go_sem,gcD_eq,gcIds_eq,hsr,grV_cons,grH_cons,List.length_nil]<;>rfl)
   ·have hne:(ofS N i).map Sg.enc≠[]:=by intro e;rw[e]at hlen;simp at hlen;omega
    rw[grV_ne 3 hne,grH_ne 2 hne,hlen];rw[hsr]at h5 h6;generalize(ofS N i).map Sg.enc=R at hsr hlen h5 h6 hne⊢
    (repeat first|simp only[ww]|(apply xa;simp+decide only[go_sem,l1,hlt,hsm,hw,hlen,hrm,hmod,hu,List.length_map];rfl;kernel_rfl))
    refine lp_n (i+1) ?_ (by omega) (by omega)
    (simp+decide only[go_sem,gcD_eq,gcIds_eq,hsr,grV_snoc,grH_snoc,hlen,h5,h6]<;>rfl)
  ·obtain rfl:i=N.length:=by omega
   have l1:¬(N.length:Int)<N.length:=by omega
   by_cases hk:N=[]
   ·have e1:(ofS N N.length).map Sg.enc=[]:=by rw[hk];rfl
    rw[e1];simp only[grV_nil,grH_nil]
    (repeat first|simp only[ww]|(apply xa;simp+decide only[go_sem,l1,List.length_map];rfl;kernel_rfl))
    (apply fqb;simp+decide only[go_sem,sl_none_nil]<;>rfl)
   ·have hlen:((ofS N N.length).map Sg.enc).length=N.length:=by rw[List.length_map,ofS_len N _ (Nat.le_refl _)]
    have hne:(ofS N N.length).map Sg.enc≠[]:=by intro e;rw[e]at hlen;simp at hlen;exact hk (List.eq_nil_of_length_eq_zero hlen.symm)
    have e9:=λq d=>frzR_flat q d (sgE_flat (ofS N N.length));rw[sl_none_ne hne,grV_ne 3 hne,grH_ne 2 hne,hlen];generalize(ofS N N.length).map Sg.enc=R at hlen e9 hne⊢;have e11:R.take N.length=R:=List.take_of_length_le (by omega)
    (repeat first|simp only[ww]|(apply xa;simp+decide only[go_sem,l1,List.length_map];rfl;kernel_rfl))
    (apply fqb;simp+decide only[go_sem,e9,hlen,e11]<;>rfl)
set_option maxHeartbeats 4000000 in
/-- The law. -/
theorem checks_law(hso:PR.pr [.str soT]=some (soV,[]))(r0 r1 r2:Option (Option Nat))(N:List (List UInt8))(X:List Tm)(Y:List Vc)(hN:N.length<9223372036854775808)(hX:X.length<9223372036854775808)(hY:Y.length<9223372036854775808)(z:List UInt8) :
 sem L.env Mf 6 [.agg [sl r0 (N.map stR),sl r1 (X.map Tm.enc),sl r2 (Y.map Vc.enc)],.str z] []=some (.bool true,[]):=by
 have hlv:=λd H=>lives_call hso (d:=d) H;have hgr:∀d H,callV L.env d (sem L.env Mf) (.func (.func 16) [] []) [.agg [sl r0 (N.map stR),sl r1 (X.map Tm.enc),sl r2 (Y.map Vc.enc)]] H=some (.int .i64 (if 20<N.length∨20<X.length∨30<Y.length then 1 else 0),H,[]):=by
  intro d H;refine callV_flat (by kernel_rfl) (by kernel_rfl) rfl (by simp+decide only[go_sem]<;>rfl) ?_ rfl;by_cases h1:20<N.length
  ·have d1:(20:Int)<N.length:=by omega
   rw[if_pos (.inl h1)]
   (refine sv Tryz.f16 ?_;simp only[Tryz.f16,gS])
   (repeat first|simp only[ww]|(apply xa;simp+decide only[go_sem,d1,List.length_map];rfl;kernel_rfl))
   (apply fqb;simp+decide only[go_sem]<;>rfl)
  have d1:¬(20:Int)<N.length:=by omega
  by_cases h2:20<X.length
  ·have d2:(20:Int)<X.length:=by omega
   rw[if_pos (.inr (.inl h2))]
   (refine sv Tryz.f16 ?_;simp only[Tryz.f16,gS])
   (repeat first|simp only[ww]|(apply xa;simp+decide only[go_sem,d1,d2,List.length_map];rfl;kernel_rfl))
   (apply fqb;simp+decide only[go_sem]<;>rfl)
  have d2:¬(20:Int)<X.length:=by omega
  by_cases h3:30<Y.length
  ·have d3:(30:Int)<Y.length:=by omega
   rw[if_pos (.inr (.inr h3))]
   (refine sv Tryz.f16 ?_;simp only[Tryz.f16,gS])
   (repeat first|simp only[ww]|(apply xa;simp+decide only[go_sem,d1,d2,d3,List.length_map];rfl;kernel_rfl))
   (apply fqb;simp+decide only[go_sem]<;>rfl)
  have d3:¬(30:Int)<Y.length:=by omega
  rw[if_neg (by omega)]
  (refine sv Tryz.f16 ?_;simp only[Tryz.f16,gS])
  (repeat first|simp only[ww]|(apply xa;simp+decide only[go_sem,d1,d2,d3,List.length_map];rfl;kernel_rfl))
  (apply fqb;simp+decide only[go_sem]<;>rfl)
 by_cases hg:20<N.length∨20<X.length∨30<Y.length
 ·rw[if_pos hg]at hgr
  (refine sv Tryz.f6 ?_;simp only[Tryz.f6,gS])
  (repeat first|simp only[ww]|(apply xa;simp+decide only[go_sem,hgr,hlv];rfl;kernel_rfl))
  (apply fqb;simp+decide only[go_sem]<;>rfl)
 rw[if_neg hg]at hgr;have hof:=λd H=>callV_flat (E:=L.env) (draw:=d) (call:=sem L.env Mf) (g:=17) (fs:=[]) (cs:=[]) (ar:=[.agg [sl r0 (N.map stR),sl r1 (X.map Tm.enc),sl r2 (Y.map Vc.enc)]]) (H:=H) (by kernel_rfl) (by kernel_rfl) rfl (by simp+decide only[go_sem]<;>rfl) (rawof_ok r0 r1 r2 N X Y (by omega)) (by simp+decide only[go_sem]);have hSl:(ofS N N.length).length=N.length:=ofS_len N _ (Nat.le_refl _);generalize ofS N N.length=S at hof hSl;have kS:S.length≤100:=by omega
 have kT:X.length≤100:=by omega
 have kV:Y.length≤100:=by omega
 have h1:=λd H=>callV_flat (E:=L.env) (draw:=d) (call:=sem L.env Mf) (g:=25) (fs:=[]) (cs:=[]) (ar:=[.agg [sl none (S.map Sg.enc),sl r1 (X.map Tm.enc),sl r2 (Y.map Vc.enc)]]) (H:=H) (by kernel_rfl) (by kernel_rfl) rfl (by simp+decide only[go_sem]<;>rfl) (lcheck_ok none r1 r2 S X Y kS kT kV) rfl;have h2:=λd H=>ck_call none r1 r2 S X Y kS kT kV (d:=d) H;by_cases he:chkP S X Y=0
 case neg=>
  have h3:=λd H=>callV_flat (E:=L.env) (draw:=d) (call:=sem L.env Mf) (g:=18) (fs:=[]) (cs:=[]) (ar:=[.agg [sl none (S.map Sg.enc),sl r1 (X.map Tm.enc),sl r2 (Y.map Vc.enc)]]) (H:=H) (by kernel_rfl) (by kernel_rfl) rfl (by simp+decide only[go_sem]<;>rfl) (write_bad none r1 r2 S X Y kS kT kV he) rfl;have h4:=λd H=>cycb_call none r1 r2 S X Y kS kT kV he (d:=d) H;have h5:=λd H=>callV_flat (E:=L.env) (draw:=d) (call:=sem L.env Mf) (g:=11) (fs:=[]) (cs:=[]) (ar:=[.agg [sl none (S.map Sg.enc),sl r1 (X.map Tm.enc),sl r2 (Y.map Vc.enc)],.int .i64 1000000]) (H:=H) (by kernel_rfl) (by kernel_rfl) rfl (by simp+decide only[go_sem]<;>rfl) (flat_bad none r1 r2 S X Y kS kT kV he 1000000) rfl;have h6:=λd H=>callV_flat (E:=L.env) (draw:=d) (call:=sem L.env Mf) (g:=26) (fs:=[]) (cs:=[]) (ar:=[.agg [sl none (S.map Sg.enc),sl r1 (X.map Tm.enc),sl r2 (Y.map Vc.enc)]]) (H:=H) (by kernel_rfl) (by kernel_rfl) rfl (by simp+decide only[go_sem]<;>rfl) (pack_bad none r1 r2 S X Y kS kT kV he) rfl;have hs:=λ(i:Nat) (m:Int) (k:Nat) d H=>callV_flat (E:=L.env) (draw:=d) (call:=sem L.env Mf) (g:=31) (fs:=[]) (cs:=[]) (ar:=[.agg [sl none (S.map Sg.enc),sl r1 (X.map Tm.enc),sl r2 (Y.map Vc.enc)],.int .i64 i,.int .i64 m,.int .u8 k]) (H:=H) (by kernel_rfl) (by kernel_rfl) rfl (by simp+decide only[go_sem]<;>rfl) (sig_bad none r1 r2 S X Y kS kT kV he i m k) rfl;have h7:=λd H=>callV_flat (E:=L.env) (draw:=d) (call:=sem L.env Mf) (g:=12) (fs:=[]) (cs:=[]) (ar:=[.agg [sl none (S.map Sg.enc),sl r1 (X.map Tm.enc),sl r2 (Y.map Vc.enc)],.int .i64 0,.int .i64 1000000]) (H:=H) (by kernel_rfl) (by kernel_rfl) rfl (by simp+decide only[go_sem]<;>rfl) (wave_err _ he none r1 r2 S X Y 0 1000000 (hs 0 1000000 0)) rfl;have h8:=λd H=>callV_flat (E:=L.env) (draw:=d) (call:=sem L.env Mf) (g:=13) (fs:=[]) (cs:=[]) (ar:=[.agg [sl none (S.map Sg.enc),sl r1 (X.map Tm.enc),sl r2 (Y.map Vc.enc)],.int .i64 1,.int .i64 1000000]) (H:=H) (by kernel_rfl) (by kernel_rfl) rfl (by simp+decide only[go_sem]<;>rfl) (strobes_err _ he none r1 r2 S X Y 1 1000000 (hs 1 1000000 1)) rfl;generalize chkP S X Y=e at *;have c0:¬e=0:=he
  (refine sv Tryz.f6 ?_;simp only[Tryz.f6,gS])
  (repeat first|simp only[ww]|(apply xa;simp+decide only[go_sem,hgr,hof,h1,h2,h3,h4,h5,h6,h7,h8,hlv,c0];rfl;kernel_rfl))
  (apply fqb;simp+decide only[go_sem]<;>rfl)
 have hv:=chk_valid S X Y kS kV he;rw[he]at h1 h2;have h3:=λd H=>callV_flat (E:=L.env) (draw:=d) (call:=sem L.env Mf) (g:=18) (fs:=[]) (cs:=[]) (ar:=[.agg [sl none (S.map Sg.enc),sl r1 (X.map Tm.enc),sl r2 (Y.map Vc.enc)]]) (H:=H) (by kernel_rfl) (by kernel_rfl) rfl (by simp+decide only[go_sem]<;>rfl) (write_ok none r1 r2 S X Y hv) rfl;have h4:=λd H=>cycles_call (d:=d) H none r1 r2 S X Y hv;have h5:=λd H=>flat_call (d:=d) H none r1 r2 S X Y hv 1000000 hv.sum;obtain⟨r,⟨a,b,c,rfl⟩,hpk⟩:=pack_ok none r1 r2 S X Y hv;have h6:=λd H=>callV_flat (E:=L.env) (draw:=d) (call:=sem L.env Mf) (g:=26) (fs:=[]) (cs:=[]) (ar:=[.agg [sl none (S.map Sg.enc),sl r1 (X.map Tm.enc),sl r2 (Y.map Vc.enc)]]) (H:=H) (by kernel_rfl) (by kernel_rfl) rfl (by simp+decide only[go_sem]<;>rfl) hpk (by simp+decide only[go_sem]);have h7:=λd H=>isname_call (d:=d) H z;have h8:=λd H=>lname_call (d:=d) H z
 (refine sv Tryz.f6 ?_;simp only[Tryz.f6,gS])
 (repeat first|simp only[ww]|(apply xa;simp+decide only[go_sem,hgr,hof,h1,h2,h3,h4,h5,h6,h7,h8,hlv,beq_self_eq_true];rfl;kernel_rfl))
 (apply fqb;simp+decide only[go_sem]<;>rfl)
end Go.RInst
