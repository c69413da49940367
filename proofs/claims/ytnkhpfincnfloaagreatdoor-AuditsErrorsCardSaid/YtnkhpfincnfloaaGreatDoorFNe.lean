/- Part of a proof. No condition. -/
import Derived.Test.YtnkhpfincnfloaaGreatDoorFWo
import Derived.Test.YtnkhpfincnfloaaGreatDoorPcB
import Derived.Test.YtnkhpfincnfloaaGreatDoorAxD
set_option linter.unusedSimpArgs false
set_option linter.unusedVariables false
namespace Go.FInst
open Go.Proofs Go.Ax Go.Pc
set_option maxRecDepth 100000
theorem idxk_ok(k v:Nat):sem L.env Mf 127 [.slice 0 0 1 (some 1),.int .u8 v] [some (.row 1 [[.int .u8 k]])]=some (.int .i64 (if v=k then 0 else -1),[some (.row 1 [[.int .u8 k]])]):=by
 (refine sv Tryz.f127 ?_;simp only[Tryz.f127,gS])
 (repeat first|simp only[ww]|(apply xa;simp+decide only[go_sem];rfl;kernel_rfl))
 refine xp_loop3 (σ:=Nat) kp127_0 (λi=>[(0,.slice 0 0 1 (some 1)),(1,.int .u8 v),(7,.int .i64 1),(8,.int .i64 i)])
  (λ_=>[some (.row 1 [[.int .u8 k]])]) (λi=>1-i) (λi=>i≤1∧(i=1→v≠k)) 0 ?_ (by simp) ?_
 ·(simp+decide only[go_sem,gcD_eq,gcIds_eq]<;>rfl)
 ·rintro i ⟨hi,hne⟩
  have hh:i=0∨i=1:=by omega
  rcases hh with rfl|rfl
  ·by_cases h:v=k
   ·subst h
    (repeat first|simp only[ww]|(apply xa;simp+decide only[go_sem,if_pos];rfl;kernel_rfl))
    (apply fqb;simp+decide only[go_sem,if_pos]<;>rfl)
   ·have c:¬(v:Int)=k:=by omega
    (repeat first|simp only[ww]|(apply xa;simp+decide only[go_sem,c];rfl;kernel_rfl))
    refine lp_n 1 ?_ (by omega) (by simp[h])
    (simp+decide only[go_sem,gcD_eq,gcIds_eq]<;>rfl)
  ·have h:=hne rfl;have c:¬(v:Int)=k:=by omega
   rw[if_neg h]
   (repeat first|simp only[ww]|(apply xa;simp+decide only[go_sem,c];rfl;kernel_rfl))
   (apply fqb;simp+decide only[go_sem]<;>rfl)
theorem contk_ok(k v:Nat):sem L.env Mf 87 [.slice 0 0 1 (some 1),.int .u8 v] [some (.row 1 [[.int .u8 k]])]=some (.bool (decide (v=k)),[some (.row 1 [[.int .u8 k]])]):=by
 have hc:callV L.env false (sem L.env Mf) (.func (.func 127) [] []) [.slice 0 0 1 (some 1),.int .u8 v] [some (.row 1 [[.int .u8 k]])]=some (.int .i64 (if v=k then 0 else -1),[some (.row 1 [[.int .u8 k]])],[0]):=callV_one (by kernel_rfl) (by kernel_rfl) rfl rfl rfl (FlatO.row (FlatR.cons rfl FlatR.nil)) rfl rfl (idxk_ok k v) rfl;by_cases h:v=k
 ·rw[if_pos h]at hc
  (refine sv Tryz.f87 ?_;simp only[Tryz.f87,gS])
  (repeat first|simp only[ww]|(apply xa;simp+decide only[go_sem,hc];rfl;kernel_rfl))
  (apply fqb;simp+decide only[go_sem,h]<;>rfl)
 ·rw[if_neg h]at hc
  (refine sv Tryz.f87 ?_;simp only[Tryz.f87,gS])
  (repeat first|simp only[ww]|(apply xa;simp+decide only[go_sem,hc];rfl;kernel_rfl))
  (apply fqb;simp+decide only[go_sem,h]<;>rfl)
theorem contk_call{d:Bool}(k v:Nat)(X:Heap):callV L.env d (sem L.env Mf) (.func (.func 87) [] []) [.slice 0 0 1 (some 1),.int .u8 v] (some (.row 1 [[.int .u8 k]])::X)=some (.bool (decide (v=k)),some (.row 1 [[.int .u8 k]])::X,[0]):=callV_one (by kernel_rfl) (by kernel_rfl) rfl rfl rfl (FlatO.row (FlatR.cons rfl FlatR.nil)) rfl rfl (contk_ok k v) rfl
/-- The nodes of a kind among the first i. -/
def kindTo(nodes:List Nd)(k i:Nat):List Nat:=(List.range i).filter λj=>decide (kindAt nodes j=k)
theorem kindTo_succ(nodes:List Nd)(k i:Nat):kindTo nodes k (i+1)=if kindAt nodes i=k then kindTo nodes k i++[i]else kindTo nodes k i:=by unfold kindTo;rw[List.range_succ,List.filter_append];by_cases h:kindAt nodes i=k<;>simp[h]
theorem kindTo_le(nodes:List Nd)(k i:Nat):(kindTo nodes k i).length≤i:=Nat.le_trans (List.length_filter_le _ _) (by simp)
def kinds(nodes:List Nd)(k:Nat):List Nat:=kindTo nodes k nodes.length
/-- A list without spare room, nil if it is empty. -/
def idxV(l:List Nat):AV:=sl (match l with|[]=>none|a::r=>some (some (r.length+1))) (l.map intR)
theorem idxV_nil:idxV [] = .nilslice:=by rfl
theorem idxV_cons(a:Nat)(r:List Nat):idxV (a::r) = .islice ((a::r).map intR) (some (r.length+1)):=by rfl
theorem kindAt_get{nodes:List Nd}{i:Nat}{x:Nd}(h:nodes[i]?=some x):kindAt nodes i=x.kind:=by simp[kindAt,h]
theorem flat_i(l:List Nat):(l.map intR).flatMap refsL=[]:=refs_flatR (FlatR.map λ_=>rfl)
theorem ren_i(π:Nat→Option Nat)(l:List Nat):(l.map intR).map (λr=>r.map (ren π))=l.map intR:=renR_flat π (FlatR.map λ_=>rfl)
theorem flatInt'(l:List Nat):FlatR (l.map intR):=FlatR.map λ_=>rfl
theorem frz_i{m:Nat}{d:AV→Option AV}(l:List Nat):frzR m d (l.map intR)=some (l.map intR):=frzR_flat m d (FlatR.map λ_=>rfl)
theorem clip_nil:sem L.env Mf 25 [.nilslice] []=some (.nilslice,[]):=by
 (refine sv Tryz.f25 ?_;simp only[Tryz.f25,gS])
 (repeat first|simp only[ww]|(apply xa;simp+decide only[go_sem];rfl;kernel_rfl))
 (apply fqb;simp+decide only[go_sem]<;>rfl)
theorem clip_ok(n:Nat)(rows:List (List AV))(hf:FlatR rows):sem L.env Mf 25 [.slice 0 0 n none] [some (.row 1 rows)]=some (.slice 0 0 n (some n),[some (.row 1 rows)]):=by
 have h1:=λπ=>renR_flat π hf
 (refine sv Tryz.f25 ?_;simp only[Tryz.f25,gS])
 (repeat first|simp only[ww]|(apply xa;simp+decide only[go_sem];rfl;kernel_rfl))
 (apply fqb;simp+decide only[go_sem,h1]<;>rfl)
theorem clip_call{d:Bool}{H:Heap}{b n:Nat}{rows:List (List AV)}(hf:FlatR rows)(hb:HeapF H b=some (.row 1 rows)):callV L.env d (sem L.env Mf) (.func (.func 25) [] []) [.slice b 0 n none] H=some (.slice b 0 n (some n),H,[b]):=by have h:=callV_one' (E:=L.env) (draw:=d) (call:=sem L.env Mf) (g:=25) (fs:=[]) (cs:=[]) (ar:=[.slice b 0 n none]) (H:=H) (b:=b) (by kernel_rfl) (by kernel_rfl) rfl hb (refsO_flat hf) (FlatO.row hf) rfl (args':=[AV.slice 0 0 n none]) (by simp only[List.nil_append,List.append_nil,List.map_cons,List.map_nil,ren_slice1]) (clip_ok n rows hf) (FlatO.row hf) (back_slice1 b 0 _ n _);rw[set_same hb]at h;exact h
theorem nof_ok(c:Cir)(k:Nat)(hl:c.nodes.length<1000000):sem L.env Mf 44 [.agg c.enc,.slice 0 0 1 (some 1)] [some (.row 1 [[.int .u8 k]])]=some (idxV (kinds c.nodes k),[some (.row 1 [[.int .u8 k]])]):=by
 have hck:=λv X=>contk_call (d:=false) k v X
 (refine sv Tryz.f44 ?_;simp only[Tryz.f44,gS])
 (repeat first|simp only[ww]|(apply xa;simp+decide only[go_sem,Cir.enc];rfl;kernel_rfl))
 refine xp_loop3 (σ:=Nat) kp44_0 (λi=>[(1,.slice 0 0 1 (some 1)),(5,grV 1 ((kindTo c.nodes k i).map intR)),(9,sl c.nc (c.nodes.map Nd.enc)),(10,.int .i64 c.nodes.length),(11,.int .i64 i)])
  (λi=>some (.row 1 [[.int .u8 k]])::grH 1 ((kindTo c.nodes k i).map intR)) (λi=>c.nodes.length-i) (λi=>i≤c.nodes.length) 0 ?_ (Nat.zero_le _) ?_
 ·have e:kindTo c.nodes k 0=[]:=rfl
  (simp+decide only[go_sem,gcD_eq,gcIds_eq,e,List.map_nil,grV_nil,grH_nil]<;>rfl)
 ·intro i hi;by_cases hlt:i<c.nodes.length
  ·obtain⟨x,hx⟩:∃x,c.nodes[i]?=some x:=⟨_,List.getElem?_eq_getElem hlt⟩
   have c1:(i:Int)<c.nodes.length:=by omega
   have hw:=wI1 (n:=i) (by omega);have hs:=kindTo_succ c.nodes k i;rw[kindAt_get hx]at hs;have hle:=kindTo_le c.nodes k i;have hrm:(kindTo c.nodes k i).length+1≤1000000000:=by omega
   by_cases hk:x.kind=k
   ·rw[if_pos hk]at hs;generalize kindTo c.nodes k i=l at hs hle hrm;cases l with
    |nil=>
     (repeat first|simp only[ww]|(apply xa;simp+decide only[go_sem,c1,hlt,hx,hw,hck,hk,List.map_nil,grV_nil,grH_nil];rfl;kernel_rfl))
     refine lp_n (i+1) ?_ (by omega) (by omega);rw[hs]
     (simp+decide only[go_sem,gcD_eq,gcIds_eq,List.map_nil,List.nil_append,List.map_cons,grV_cons,grH_cons,List.length_nil]<;>rfl)
    |cons a r=>
     simp only[List.length_cons]at hrm
     (repeat first|simp only[ww]|(apply xa;simp+decide only[go_sem,c1,hlt,hx,hw,hck,hk,List.map_cons,grV_cons,grH_cons,hrm,List.length_cons];rfl;kernel_rfl))
     refine lp_n (i+1) ?_ (by omega) (by omega);rw[hs]
     (simp+decide only[go_sem,gcD_eq,gcIds_eq,List.cons_append,List.map_cons,grV_cons,grH_cons,flat_i,ren_i,List.length_cons]<;>rfl)
   ·rw[if_neg hk]at hs;have hk':¬(x.kind:Int)=k:=by omega
    generalize kindTo c.nodes k i=l at hs hle hrm;cases l with
    |nil=>
     (repeat first|simp only[ww]|(apply xa;simp+decide only[go_sem,c1,hlt,hx,hw,hck,hk,List.map_nil,grV_nil,grH_nil];rfl;kernel_rfl))
     refine lp_n (i+1) ?_ (by omega) (by omega);rw[hs]
     (simp+decide only[go_sem,gcD_eq,gcIds_eq,List.map_nil,grV_nil,grH_nil]<;>rfl)
    |cons a r=>
     (repeat first|simp only[ww]|(apply xa;simp+decide only[go_sem,c1,hlt,hx,hw,hck,hk,List.map_cons,grV_cons,grH_cons];rfl;kernel_rfl))
     refine lp_n (i+1) ?_ (by omega) (by omega);rw[hs]
     (simp+decide only[go_sem,gcD_eq,gcIds_eq,List.map_cons,grV_cons,grH_cons,flat_i,ren_i]<;>rfl)
  ·obtain rfl:i=c.nodes.length:=by omega
   have c1:¬(c.nodes.length:Int)<c.nodes.length:=by omega
   unfold kinds;generalize kindTo c.nodes k c.nodes.length=l;cases l with
   |nil=>
    have hcl:=λH=>callV_flat (E:=L.env) (draw:=false) (call:=sem L.env Mf) (g:=25) (fs:=[]) (cs:=[]) (ar:=[.nilslice]) (H:=H) (by kernel_rfl) (by kernel_rfl) rfl rfl clip_nil rfl
    (repeat first|simp only[ww]|(apply xa;simp+decide only[go_sem,c1,List.map_nil,grV_nil,grH_nil,hcl];rfl;kernel_rfl))
    (apply fqb;simp+decide only[go_sem,idxV_nil]<;>rfl)
   |cons a r=>
    have hcl:=clip_call (d:=false) (H:=[some (.row 1 [[.int .u8 k]]),some (.row 1 ((a::r).map intR))]) (b:=1) (n:=r.length+1) (flatInt' _) rfl;simp only[List.map_cons,go_sem]at hcl
    (repeat first|simp only[ww]|(apply xa;simp+decide only[go_sem,c1,List.map_cons,grV_cons,grH_cons,List.length_map,hcl];rfl;kernel_rfl))
    (apply fqb;simp+decide only[go_sem,idxV_cons,List.map_cons,frz_i,List.length_cons]<;>rfl)
theorem ren_cir(π:Nat→Option Nat)(c:Cir):ren π (.agg c.enc) = .agg c.enc:=ren_flat π _ (by simp only[refs_agg,Cir.enc,go_sem])
theorem refs_idxV(l:List Nat):refs (idxV l)=[]:=refs_sl _ _
theorem nof_call{d:Bool}{H:Heap}{b:Nat}(c:Cir){k:Nat}{n:Int}(hn:n=k)(hl:c.nodes.length<1000000)(hb:HeapF H b=some (.row 1 [[.int .u8 n]])) :
 callV L.env d (sem L.env Mf) (.func (.func 44) [] []) [.agg c.enc,.slice b 0 1 (some 1)] H=some (idxV (kinds c.nodes k),H,[b]):=by
 subst hn;exact callV_one (E:=L.env) (draw:=d) (call:=sem L.env Mf) (g:=44) (fs:=[]) (cs:=[]) (ar:=[.agg c.enc,.slice b 0 1 (some 1)]) (H:=H) (b:=b) (by kernel_rfl) (by kernel_rfl) rfl hb rfl (FlatO.row (FlatR.cons rfl FlatR.nil)) (by simp only[List.nil_append,List.append_nil,refsL_cons,refs_agg,Cir.enc,go_sem]) (args':=[.agg c.enc,.slice 0 0 1 (some 1)]) (by simp only[List.nil_append,List.append_nil,List.map_cons,List.map_nil,ren_slice1,ren_cir]) (nof_ok c k hl) (refs_idxV _)
theorem idxV_sl(l:List Nat):∃r,idxV l=sl r (l.map intR):=⟨_,rfl⟩
theorem states_ok(c:Cir)(hl:c.nodes.length<1000000):sem L.env Mf 13 [.agg c.enc] []=some (idxV (kinds c.nodes 14),[]):=by
 have hc:=λX=>nof_call (d:=false) (H:=[X,some (.row 1 [[.int .u8 14]])]) (b:=1) c (k:=14) rfl hl rfl;obtain⟨r,hr⟩:=idxV_sl (kinds c.nodes 14);rw[hr]at hc⊢;simp only[Cir.enc]at hc⊢
 (refine sv Tryz.f13 ?_;simp only[Tryz.f13,gS])
 (repeat first|simp only[ww]|(apply xa;simp+decide only[go_sem,hc];rfl;kernel_rfl))
 (apply fqb;simp+decide only[go_sem]<;>rfl)
theorem states_call{d:Bool}(H:Heap)(c:Cir)(hl:c.nodes.length<1000000):callV L.env d (sem L.env Mf) (.func (.func 13) [] []) [.agg c.enc] H=some (idxV (kinds c.nodes 14),H,[]):=callV_flat (by kernel_rfl) (by kernel_rfl) rfl (by simp only[refsL_cons,refs_agg,Cir.enc,go_sem]) (states_ok c hl) (refs_idxV _)
/-- The function that tells indexes outside of a circuit. -/
def outV(c:Cir):AV:=.func (.func 222) [] [.iptr c.enc]
theorem refs_outV(c:Cir):refs (outV c)=[]:=by rfl
theorem outside_ok(c:Cir):sem L.env Mf 166 [.agg c.enc] []=some (outV c,[]):=by
 unfold outV;simp only[Cir.enc]
 (refine sv Tryz.f166 ?_;simp only[Tryz.f166,gS])
 (repeat first|simp only[ww]|(apply xa;simp+decide only[go_sem];rfl;kernel_rfl))
 (apply fqb;simp+decide only[go_sem]<;>rfl)
theorem outside_call{d:Bool}(H:Heap)(c:Cir):callV L.env d (sem L.env Mf) (.func (.func 166) [] []) [.agg c.enc] H=some (outV c,H,[]):=callV_flat (by kernel_rfl) (by kernel_rfl) rfl (by simp only[refsL_cons,refs_agg,Cir.enc,go_sem]) (outside_ok c) rfl
theorem out1_ok(c:Cir)(m:Nat)(hm:m<c.nodes.length):sem L.env Mf 222 [.int .i64 m,.iptr c.enc] []=some (.bool false,[]):=by
 have c1:¬(m:Int)<0:=by omega
 have c2:¬(c.nodes.length:Int)≤m:=by omega
 simp only[Cir.enc]
 (refine sv Tryz.f222 ?_;simp only[Tryz.f222,gS])
 (repeat first|simp only[ww]|(apply xa;simp+decide only[go_sem,c1,c2];rfl;kernel_rfl))
 (apply fqb;simp+decide only[go_sem]<;>rfl)
theorem out1_call{d:Bool}(H:Heap)(c:Cir)(m:Nat)(hm:m<c.nodes.length):callV L.env d (sem L.env Mf) (outV c) [.int .i64 m] H=some (.bool false,H,[]):=callV_flat (by kernel_rfl) (by kernel_rfl) rfl (by simp only[refsL_cons,Cir.enc,go_sem]) (out1_ok c m hm) rfl
theorem idxf_none(r:Rep)(l:List Nat)(f:AV)(hf:refs f=[])(hl:l.length<1000000)(hc:∀m∈l,callV L.env false (sem L.env Mf) f [.int .i64 m] []=some (.bool false,[],[])) :
 sem L.env Mf 221 [sl r (l.map intR),f] []=some (.int .i64 (-1),[]):=by
 have hr:∀π,ren π f=f:=λπ=>ren_flat π f hf
 (refine sv Tryz.f221 ?_;simp only[Tryz.f221,gS])
 (repeat first|simp only[ww]|(apply xa;simp+decide only[go_sem];rfl;kernel_rfl))
 refine xp_loop3 (σ:=Nat) kp221_0 (λi=>[(0,sl r (l.map intR)),(1,f),(7,.int .i64 l.length),(8,.int .i64 i)])
  (λ_=>[]) (λi=>l.length-i) (λi=>i≤l.length) 0 ?_ (Nat.zero_le _) ?_
 ·(simp+decide only[go_sem,gcD_eq,gcIds_eq,hf,hr]<;>rfl)
 ·intro i hi;by_cases hlt:i<l.length
  ·obtain⟨x,hx⟩:∃x,l[i]?=some x:=⟨_,List.getElem?_eq_getElem hlt⟩
   have c1:(i:Int)<l.length:=by omega
   have hw:=wI1 (n:=i) (by omega);have hcx:=hc x (List.mem_of_getElem? hx)
   (repeat first|simp only[ww]|(apply xa;simp+decide only[go_sem,c1,hlt,hx,hw,hcx];rfl;kernel_rfl))
   refine lp_n (i+1) ?_ (by omega) (by omega)
   (simp+decide only[go_sem,gcD_eq,gcIds_eq,hf,hr]<;>rfl)
  ·obtain rfl:i=l.length:=by omega
   have c1:¬(l.length:Int)<l.length:=by omega
   (repeat first|simp only[ww]|(apply xa;simp+decide only[go_sem,c1];rfl;kernel_rfl))
   (apply fqb;simp+decide only[go_sem]<;>rfl)
theorem contf_none(r:Rep)(l:List Nat)(f:AV)(hf:refs f=[])(hl:l.length<1000000)(hc:∀m∈l,callV L.env false (sem L.env Mf) f [.int .i64 m] []=some (.bool false,[],[])) :
 sem L.env Mf 165 [sl r (l.map intR),f] []=some (.bool false,[]):=by
 have h:=λH=>callV_flat (E:=L.env) (draw:=false) (call:=sem L.env Mf) (g:=221) (fs:=[]) (cs:=[]) (ar:=[sl r (l.map intR),f]) (H:=H) (by kernel_rfl) (by kernel_rfl) rfl (by simp only[List.nil_append,List.append_nil,refsL_cons,hf,go_sem]) (idxf_none r l f hf hl hc) rfl;have c1:¬(0:Int)≤ -1:=by omega
 (refine sv Tryz.f165 ?_;simp only[Tryz.f165,gS])
 (repeat first|simp only[ww]|(apply xa;simp+decide only[go_sem,h,c1];rfl;kernel_rfl))
 (apply fqb;simp+decide only[go_sem]<;>rfl)
theorem contf_out{d:Bool}(H:Heap)(c:Cir)(r:Rep)(l:List Nat)(hl:l.length<1000000)(h:∀m∈l,m<c.nodes.length) :
 callV L.env d (sem L.env Mf) (.func (.func 165) [] []) [sl r (l.map intR),outV c] H=some (.bool false,H,[]):=
 callV_flat (by kernel_rfl) (by kernel_rfl) rfl (by simp only[List.nil_append,List.append_nil,refsL_cons,refs_outV,go_sem]) (contf_none r l (outV c) rfl hl (λm hm=>out1_call [] c m (h m hm))) rfl
/- the drivers of a bus -/
theorem other_ok(c:Cir)(m:Nat)(hm:m<c.nodes.length)(hk:kindAt c.nodes m=12):sem L.env Mf 217 [.int .i64 m,.ptr 0 0 0] [some (.row 4 [c.enc])]=some (.bool false,[some (.row 4 [c.enc])]):=by
 obtain⟨x,hx⟩:∃x,c.nodes[m]?=some x:=⟨_,List.getElem?_eq_getElem hm⟩
 rw[kindAt_get hx]at hk;simp only[Cir.enc]
 (refine sv Tryz.f217 ?_;simp only[Tryz.f217,gS])
 (repeat first|simp only[ww]|(apply xa;simp+decide only[go_sem,hx,hk,hm];rfl;kernel_rfl))
 (apply fqb;simp+decide only[go_sem]<;>rfl)
theorem flat_cirO(c:Cir):FlatR [c.enc]:=FlatR.cons (by simp only[Cir.enc,go_sem]) FlatR.nil
theorem other_call{d:Bool}(H:Heap)(c:Cir)(b m:Nat)(hb:HeapF H b=some (.row 4 [c.enc]))(hm:m<c.nodes.length)(hk:kindAt c.nodes m=12):callV L.env d (sem L.env Mf) (.func (.func 217) [] [.ptr b 0 0]) [.int .i64 m] H=some (.bool false,H,[b]):=callV_one (fs:=[]) (cs:=[.ptr b 0 0]) (ar:=[.int .i64 m]) (by kernel_rfl) (by kernel_rfl) rfl hb (refsO_flat (flat_cirO c)) (FlatO.row (flat_cirO c)) rfl (args':=[.int .i64 m,.ptr 0 0 0]) (by simp[ren,piOf]) (other_ok c m hm hk) rfl
theorem idxf_other(r:Rep)(l:List Nat)(c:Cir)(hl:l.length<1000000)(hc:∀m∈l,m<c.nodes.length∧kindAt c.nodes m=12) :
 sem L.env Mf 221 [sl r (l.map intR),.func (.func 217) [] [.ptr 0 0 0]] [some (.row 4 [c.enc])]=some (.int .i64 (-1),[some (.row 4 [c.enc])]):=by
 have hfl:refsL c.enc=[]:=by simp only[Cir.enc,go_sem]
 have hrn:∀π,c.enc.map (ren π)=c.enc:=λπ=>renM_flat π hfl;have hcall:=λm h1 h2=>other_call (d:=false) [some (.row 4 [c.enc])] c 0 m rfl h1 h2;generalize he:c.enc=E at hfl hrn hcall
 (refine sv Tryz.f221 ?_;simp only[Tryz.f221,gS])
 (repeat first|simp only[ww]|(apply xa;simp+decide only[go_sem];rfl;kernel_rfl))
 refine xp_loop3 (σ:=Nat) kp221_0 (λi=>[(0,sl r (l.map intR)),(1,.func (.func 217) [] [.ptr 0 0 0]),(7,.int .i64 l.length),(8,.int .i64 i)])
  (λ_=>[some (.row 4 [E])]) (λi=>l.length-i) (λi=>i≤l.length) 0 ?_ (Nat.zero_le _) ?_
 ·(simp+decide only[go_sem,gcD_eq,gcIds_eq,hfl,hrn]<;>rfl)
 ·intro i hi;by_cases hlt:i<l.length
  ·obtain⟨x,hx⟩:∃x,l[i]?=some x:=⟨_,List.getElem?_eq_getElem hlt⟩
   have c1:(i:Int)<l.length:=by omega
   have hw:=wI1 (n:=i) (by omega);have hcx:=hcall x (hc x (List.mem_of_getElem? hx)).1 (hc x (List.mem_of_getElem? hx)).2
   (repeat first|simp only[ww]|(apply xa;simp+decide only[go_sem,c1,hlt,hx,hw,hcx];rfl;kernel_rfl))
   refine lp_n (i+1) ?_ (by omega) (by omega)
   (simp+decide only[go_sem,gcD_eq,gcIds_eq,hfl,hrn]<;>rfl)
  ·obtain rfl:i=l.length:=by omega
   have c1:¬(l.length:Int)<l.length:=by omega
   (repeat first|simp only[ww]|(apply xa;simp+decide only[go_sem,c1];rfl;kernel_rfl))
   (apply fqb;simp+decide only[go_sem,hrn]<;>rfl)
theorem contf_other0(r:Rep)(l:List Nat)(c:Cir)(hl:l.length<1000000)(hc:∀m∈l,m<c.nodes.length∧kindAt c.nodes m=12) :
 sem L.env Mf 165 [sl r (l.map intR),.func (.func 217) [] [.ptr 0 0 0]] [some (.row 4 [c.enc])]=some (.bool false,[some (.row 4 [c.enc])]):=by
 have h:=callV_one (E:=L.env) (draw:=false) (call:=sem L.env Mf) (g:=221) (fs:=[]) (cs:=[]) (ar:=[sl r (l.map intR),.func (.func 217) [] [.ptr 0 0 0]]) (H:=[some (.row 4 [c.enc])]) (b:=0) (by kernel_rfl) (by kernel_rfl) rfl rfl (refsO_flat (flat_cirO c)) (FlatO.row (flat_cirO c)) (by simp only[List.nil_append,List.append_nil,refsL_cons,go_sem]) (by simp only[List.nil_append,List.append_nil,List.map_cons,List.map_nil,ren_sl];simp[ren,renL,piOf]) (idxf_other r l c hl hc) rfl;have c1:¬(0:Int)≤ -1:=by omega
 have hfl:refsL c.enc=[]:=by simp only[Cir.enc,go_sem]
 have hrn:∀π,c.enc.map (ren π)=c.enc:=λπ=>renM_flat π hfl;generalize he:c.enc=E at hfl hrn h
 (refine sv Tryz.f165 ?_;simp only[Tryz.f165,gS])
 (repeat first|simp only[ww]|(apply xa;simp+decide only[go_sem,h,c1];rfl;kernel_rfl))
 (apply fqb;simp+decide only[go_sem,hrn]<;>rfl)
theorem contf_other{d:Bool}{H:Heap}{b:Nat}(c:Cir)(r:Rep)(l:List Nat)(hl:l.length<1000000)(hc:∀m∈l,m<c.nodes.length∧kindAt c.nodes m=12)(hb:HeapF H b=some (.row 4 [c.enc])) :
 callV L.env d (sem L.env Mf) (.func (.func 165) [] []) [sl r (l.map intR),.func (.func 217) [] [.ptr b 0 0]] H=some (.bool false,H,[b]):=
 callV_one (fs:=[]) (cs:=[]) (ar:=[sl r (l.map intR),.func (.func 217) [] [.ptr b 0 0]]) (by kernel_rfl) (by kernel_rfl) rfl hb (refsO_flat (flat_cirO c)) (FlatO.row (flat_cirO c)) (by simp only[List.nil_append,List.append_nil,refsL_cons,go_sem]) (by simp only[List.nil_append,List.append_nil,List.map_cons,List.map_nil,ren_sl];simp[ren,renL,piOf]) (contf_other0 r l c hl hc) rfl
theorem bit_ok(c:Cir)(x:Nd)(hm:x.mem=0∧x.bit=0)(hk:x.kind≤14):sem L.env Mf 218 [.agg c.enc,.agg x.enc] []=some (.bool true,[]):=by
 have c1:¬(x.kind:Int)=15:=by omega
 obtain⟨m1,m2⟩:=hm;simp only[Cir.enc,Nd.enc,m1,m2]
 (refine sv Tryz.f218 ?_;simp only[Tryz.f218,gS])
 (repeat first|simp only[ww]|(apply xa;simp+decide only[go_sem,c1];rfl;kernel_rfl))
 (apply fqb;simp+decide only[go_sem]<;>rfl)
theorem bit_call{d:Bool}(H:Heap)(c:Cir)(x:Nd)(hm:x.mem=0∧x.bit=0)(hk:x.kind≤14):callV L.env d (sem L.env Mf) (.func (.func 218) [] []) [.agg c.enc,.agg x.enc] H=some (.bool true,H,[]):=callV_flat (by kernel_rfl) (by kernel_rfl) rfl (by simp only[refsL_cons,refs_agg,Cir.enc,go_sem]) (bit_ok c x hm hk) rfl
theorem node_ok(c:Cir)(h:c.wf)(x:Nd)(hx:x∈c.nodes):sem L.env Mf 162 [.agg c.enc,.agg x.enc] []=some (.int .i64 0,[]):=by
 have k14:=h.kind x hx;have hlo:=h.lo x hx;have hhi:=h.hi x hx;have hlen:x.ins.length<1000000:=by
  have:faninHi x.kind≤16:=by
   have hk:x.kind=0∨x.kind=1∨x.kind=2∨x.kind=3∨x.kind=4∨x.kind=5∨x.kind=6∨x.kind=7∨x.kind=8∨x.kind=9∨x.kind=10∨x.kind=11∨x.kind=12∨x.kind=13∨x.kind=14:=by omega
   rcases hk with e|e|e|e|e|e|e|e|e|e|e|e|e|e|e<;>rw[e]<;>decide
  omega
 have hf:=λH=>fanin_call (d:=false) H x.kind (by omega);have ho:=λH=>outside_call (d:=true) H c;have hc:=λH=>contf_out (d:=true) H c x.c x.ins hlen (h.ins x hx);have hb:=λH=>bit_call (d:=false) H c x (h.mem x hx) k14;have c1:¬(15:Int)<x.kind:=by omega
 have c2:¬(x.ins.length:Int)<faninLo x.kind:=by omega
 have c3:¬(faninHi x.kind:Int)<x.ins.length:=by omega
 have hfl:refsL c.enc=[]:=by simp only[Cir.enc,go_sem]
 by_cases hk:x.kind=13
 ·have hoth:=λ(X:Option AObj)=>contf_other (d:=false) (H:=[some (.row 4 [c.enc]),X]) (b:=0) c x.c x.ins hlen (λm hm=>⟨h.ins x hx m hm,h.bus x hx hk m hm⟩) rfl;have ck:decide ((x.kind:Int)=13)=true:=decide_eq_true (by omega);simp only[Cir.enc,Nd.enc]at ho hc hb hoth⊢
  (refine sv Tryz.f162 ?_;simp only[Tryz.f162,gS])
  (repeat first|simp only[ww]|(apply xa;simp+decide only[go_sem,hf,c1,c2,c3,ho,hc,hb,hoth,ck];rfl;kernel_rfl))
  (apply fqb;simp+decide only[go_sem]<;>rfl)
 ·have ck:¬(x.kind:Int)=13:=by omega
  simp only[Cir.enc,Nd.enc]at ho hc hb⊢
  (refine sv Tryz.f162 ?_;simp only[Tryz.f162,gS])
  (repeat first|simp only[ww]|(apply xa;simp+decide only[go_sem,hf,c1,c2,c3,ho,hc,hb,ck];rfl;kernel_rfl))
  (apply fqb;simp+decide only[go_sem]<;>rfl)
theorem node_call{d:Bool}(H:Heap)(c:Cir)(h:c.wf)(x:Nd)(hx:x∈c.nodes):callV L.env d (sem L.env Mf) (.func (.func 162) [] []) [.agg c.enc,.agg x.enc] H=some (.int .i64 0,H,[]):=callV_flat (by kernel_rfl) (by kernel_rfl) rfl (by simp only[refsL_cons,refs_agg,Cir.enc,go_sem]) (node_ok c h x hx) rfl
theorem isname_ok(i:Nat)(hi:i<14):sem L.env Mf 219 [.str (nameS i)] []=some (.bool true,[]):=by
 have h:i=0∨i=1∨i=2∨i=3∨i=4∨i=5∨i=6∨i=7∨i=8∨i=9∨i=10∨i=11∨i=12∨i=13:=by omega
 rcases h with rfl|rfl|rfl|rfl|rfl|rfl|rfl|rfl|rfl|rfl|rfl|rfl|rfl|rfl
 ·exact isname_0
 ·exact isname_1
 ·exact isname_2
 ·exact isname_3
 ·exact isname_4
 ·exact isname_5
 ·exact isname_6
 ·exact isname_7
 ·exact isname_8
 ·exact isname_9
 ·exact isname_10
 ·exact isname_11
 ·exact isname_12
 ·exact isname_13
theorem isname_call{d:Bool}(H:Heap)(i:Nat)(hi:i<14):callV L.env d (sem L.env Mf) (.func (.func 219) [] []) [.str (nameS i)] H=some (.bool true,H,[]):=callV_flat (by kernel_rfl) (by kernel_rfl) rfl rfl (isname_ok i hi) rfl
def nmKeys(i:Nat):List AV:=(List.range i).map λj=>.str (nameS j)
theorem nmKeys_succ(i:Nat):nmKeys (i+1)=nmKeys i++[.str (nameS i)]:=by unfold nmKeys;rw[List.range_succ,List.map_append];rfl
theorem eqS(a b:List UInt8):aeq L.env 6 9 (.str a) (.str b)=some (a==b):=by kernel_rfl
theorem nameS_inj{i j:Nat}(hi:i<14)(hj:j<14)(h:nameS i=nameS j):i=j:=by unfold nameS at h;simp only[List.cons.injEq,and_true,true_and]at h;have h1:=congrArg UInt8.toNat h.1;have h2:=congrArg UInt8.toNat h.2;simp only[UInt8.toNat_ofNat']at h1 h2;omega
theorem find_nm(s:Nat)(hs:s<14):∀(l:List Nat) (b:Nat),(∀j∈l,j<s)→afindKey (aeq L.env 6 9) (.str (nameS s)) (l.map λj=>.str (nameS j)) b=some none
 | [],b,_=>rfl
 |j::l,b,h=>by
  have hne:(nameS s==nameS j)=false:=by rw[beq_eq_false_iff_ne];intro e;have:=nameS_inj hs (by have:=h j (by simp);omega) e;have:=h j (by simp);omega
  simp only[List.map_cons,afindKey,eqS,hne,cond_false];exact find_nm s hs l (b+1) (λj hj=>h j (by simp[hj]))
theorem nm_find(i:Nat)(hi:i<14):afindKey (aeq L.env 6 9) (.str (nameS i)) (nmKeys i) 0=some none:=find_nm i hi _ 0 (λj hj=>by simpa using hj)
def nmO(i:Nat):AObj:=.map (nmKeys i) (List.replicate i (.bool true)) (List.range i) i
theorem nm_lookup(i:Nat)(hi:i<14):alookup L.env (HeapF [some (nmO i)]) 91 (.map 0) (.str (nameS i)) false=some (.bool false):=by
 have h:=nm_find i hi;have e:alookup L.env (HeapF [some (nmO i)]) 91 (.map 0) (.str (nameS i)) false=match afindKey (aeq L.env 6 9) (.str (nameS i)) (nmKeys i) 0 with
  |some (some j)=>match(List.replicate i (AV.bool true))[j]? with
   |some v=>some (bif false then .tuple [v,.bool true]else v)
   |none=>none
  |some none=>some (.bool false)
  |none=>none:=by kernel_rfl
 rw[e,h]
theorem nm_update(i:Nat)(hi:i<14):amapUpdate L.env (HeapF [some (nmO i)]) 91 (.map 0) (.str (nameS i)) (.bool true)=some (.set 0 (nmO (i+1))):=by
 have h:=nm_find i hi;unfold amapUpdate;have e:apairs L.env (HeapF [some (nmO i)]) 91 (.map 0) (.str (nameS i))=match afindKey (aeq L.env 6 9) (.str (nameS i)) (nmKeys i) 0 with
  |some (some j)=>match(nmKeys i)[j]? with
   |some k0=>bif asame k0 (.str (nameS i))then some (0,nmKeys i,List.replicate i (AV.bool true),List.range i,i,some j)else none
   |none=>none
  |some none=>some (0,nmKeys i,List.replicate i (AV.bool true),List.range i,i,none)
  |none=>none:=by kernel_rfl
 rw[e,h];simp only[nmO,nmKeys_succ,List.range_succ,List.replicate_succ']
theorem nm_flat(i:Nat):refsO (some (nmO i))=[]:=by
 simp only[nmO,refsO,nmKeys];have h1:∀l:List Nat,refsL (l.map λj=>AV.str (nameS j))=[]:=by intro l;induction l with|nil=>rfl|cons a l ih=>simp[refsL,refs,ih]
 have h2:∀n,refsL (List.replicate n (AV.bool true))=[]:=by intro n;induction n with|zero=>rfl|succ n ih=>simp[List.replicate_succ,refsL,refs,ih]
 rw[h1,h2];rfl
theorem nm_ren(π:Nat→Option Nat)(i:Nat):renObj π (nmO i)=nmO i:=by have h:=nm_flat i;simp only[nmO,refsO,List.append_eq_nil_iff]at h;simp only[nmO,renObj,renM_flat π h.1,renM_flat π h.2]
theorem names_ok(c:Cir)(h:c.wf):sem L.env Mf 163 [.agg c.enc] []=some (.int .i64 0,[]):=by
 have hn:=h.len;have hnm:c.names.length=c.nodes.length:=by rw[h.names];simp
 simp only[Cir.enc]
 (refine sv Tryz.f163 ?_;simp only[Tryz.f163,gS])
 (repeat first|simp only[ww]|(apply xa;simp+decide only[go_sem];rfl;kernel_rfl))
 have e0:AObj.map [] [] [] 0=nmO 0:=by rfl
 refine xp_loop3 (σ:=Nat) kp163_0 (λi=>[(3,.map 0),(8,sl c.mc (c.names.map strR)),(9,.int .i64 c.names.length),(10,.int .i64 i)])
  (λi=>[some (nmO i)]) (λi=>c.names.length-i) (λi=>i≤c.names.length) 0 ?_ (Nat.zero_le _) ?_
 ·rw[e0]
  (simp+decide only[go_sem,gcD_eq,gcIds_eq,nm_flat,nm_ren]<;>rfl)
 ·intro i hi;by_cases hlt:i<c.names.length
  ·have hx:c.names[i]?=some (nameS i):=by rw[h.names,List.getElem?_map,List.getElem?_range (by omega)];rfl
   have c1:(i:Int)<c.names.length:=by omega
   have hw:=wI1 (n:=i) (by omega);have hcn:=λH=>isname_call (d:=false) H i (by omega);have hlk:=nm_lookup i (by omega);have hup:=nm_update i (by omega)
   (repeat first|simp only[ww]|(apply xa;simp+decide only[go_sem,c1,hlt,hx,hw,hcn,hlk,hup];rfl;kernel_rfl))
   refine lp_n (i+1) ?_ (by omega) (by omega)
   (simp+decide only[go_sem,gcD_eq,gcIds_eq,nm_flat,nm_ren]<;>rfl)
  ·obtain rfl:i=c.names.length:=by omega
   have c1:¬(c.names.length:Int)<c.names.length:=by omega
   (repeat first|simp only[ww]|(apply xa;simp+decide only[go_sem,c1];rfl;kernel_rfl))
   (apply fqb;simp+decide only[go_sem]<;>rfl)
theorem refs_cirA(c:Cir):refsL [.agg c.enc]=[]:=by simp only[refsL_cons,refs_agg,Cir.enc,go_sem]
theorem names_call{d:Bool}(H:Heap)(c:Cir)(h:c.wf):callV L.env d (sem L.env Mf) (.func (.func 163) [] []) [.agg c.enc] H=some (.int .i64 0,H,[]):=callV_flat (by kernel_rfl) (by kernel_rfl) rfl (refs_cirA c) (names_ok c h) rfl
theorem shape_ok(c:Cir)(h:c.wf):sem L.env Mf 109 [.agg c.enc] []=some (.int .i64 0,[]):=by
 have hn:=h.len;have hnm:c.names.length=c.nodes.length:=by rw[h.names];simp
 have hol:=h.outl;have c1:¬(16384:Int)<c.nodes.length:=by omega
 have c2:¬(16384:Int)<c.outs.length:=by omega
 have hno:=λH x hx=>node_call (d:=false) H c h x hx;have hna:=λH=>names_call (d:=false) H c h;have hou:=λH=>outside_call (d:=true) H c;have hcf:=λH=>contf_out (d:=true) H c c.oc c.outs (by omega) h.outs;have hlen:c.enc.length=4:=rfl;simp only[Cir.enc]at hno hna hou hcf⊢
 (refine sv Tryz.f109 ?_;simp only[Tryz.f109,gS])
 (repeat first|simp only[ww]|(apply xa;simp+decide only[go_sem,c1,c2,hnm];rfl;kernel_rfl))
 refine xp_loop3 (σ:=Nat) kp109_1 (λi=>[(1,.ptr 0 0 0),(36,sl c.nc (c.nodes.map Nd.enc)),(37,.int .i64 c.nodes.length),(38,.int .i64 i)])
  (λi=>[some (.row 4 [[sl c.nc (c.nodes.map Nd.enc),sl c.mc (c.names.map strR),.nilslice,sl c.oc (c.outs.map intR)]])]) (λi=>c.nodes.length-i) (λi=>i≤c.nodes.length) 0 ?_ (Nat.zero_le _) ?_
 ·(simp+decide only[go_sem,gcD_eq,gcIds_eq]<;>rfl)
 ·intro i hi;by_cases hlt:i<c.nodes.length
  ·obtain⟨x,hx⟩:∃x,c.nodes[i]?=some x:=⟨_,List.getElem?_eq_getElem hlt⟩
   have c1:(i:Int)<c.nodes.length:=by omega
   have hw:=wI1 (n:=i) (by omega);have hcx:=λH=>hno H x (List.mem_of_getElem? hx);simp only[Nd.enc]at hcx
   (repeat first|simp only[ww]|(apply xa;simp+decide only[go_sem,c1,hlt,hx,hw,hcx];rfl;kernel_rfl))
   refine lp_n (i+1) ?_ (by omega) (by omega)
   (simp+decide only[go_sem,gcD_eq,gcIds_eq]<;>rfl)
  ·obtain rfl:i=c.nodes.length:=by omega
   have c1:¬(c.nodes.length:Int)<c.nodes.length:=by omega
   (repeat first|simp only[ww]|(apply xa;simp+decide only[go_sem,c1,hna];rfl;kernel_rfl))
   refine xp_loop3 (σ:=Nat) kp109_3 (λi=>[(1,.ptr 0 0 0),(55,.nilslice),(56,.int .i64 0),(57,.int .i64 0)])
    (λi=>[some (.row 4 [[sl c.nc (c.nodes.map Nd.enc),sl c.mc (c.names.map strR),.nilslice,sl c.oc (c.outs.map intR)]])]) (λi=>0) (λi=>True) 0 ?_ trivial ?_
   ·(simp+decide only[go_sem,gcD_eq,gcIds_eq]<;>rfl)
   ·intro i _
    (repeat first|simp only[ww]|(apply xa;simp+decide only[go_sem,hou,hcf];rfl;kernel_rfl))
    (apply fqb;simp+decide only[go_sem]<;>rfl)
theorem shape_call{d:Bool}(H:Heap)(c:Cir)(h:c.wf):callV L.env d (sem L.env Mf) (.func (.func 109) [] []) [.agg c.enc] H=some (.int .i64 0,H,[]):=callV_flat (by kernel_rfl) (by kernel_rfl) rfl (refs_cirA c) (shape_ok c h) rfl
theorem comb_call{d:Bool}(H:Heap)(k:Nat)(hk:k<256):callV L.env d (sem L.env Mf) (.func (.func 110) [] []) [.int .u8 k] H=some (.bool (isComb k),H,[]):=callV_flat (by kernel_rfl) (by kernel_rfl) rfl rfl (comb_ok k hk) rfl
def foE(fo:List (List (Nat×Nat))):List (List (List AV)):=fo.map (·.map lineR)
theorem foE_len(fo:List (List (Nat×Nat))):(foE fo).length=fo.length:=by unfold foE;simp
theorem foE_get{fo:List (List (Nat×Nat))}{j:Nat}{L:List (Nat×Nat)}(h:fo[j]?=some L):(foE fo)[j]?=some (L.map lineR):=by unfold foE;rw[List.getElem?_map,h];rfl
theorem foE_set(fo:List (List (Nat×Nat)))(j:Nat)(L:List (Nat×Nat))(i k:Nat):(foE fo).set j (L.map lineR++[lineR (i,k)])=foE (fo.set j (L++[(i,k)])):=by unfold foE;rw[List.map_set,List.map_append];rfl
/-- At the head of the outer loop. -/
def J0(c:Cir)(n:Nat)(F:Frm)(H:Heap):Prop:=∃i b ids fo,n=c.nodes.length-i∧i≤c.nodes.length∧
 F=[(3,.slice b 0 c.nodes.length (some c.nodes.length)),(4,outV c),(18,sl c.nc (c.nodes.map Nd.enc)),(19,.int .i64 c.nodes.length),(20,.int .i64 i)]∧Two H b 2 ids (λ_=>none) (foE fo)∧FoOk c.nodes i 0 fo
/-- At the head of the inner loop. -/
def J2(c:Cir)(i:Nat)(x:Nd)(n:Nat)(F:Frm)(H:Heap):Prop:=∃k b ids fo,n=x.ins.length-k∧k≤x.ins.length∧
 F=[(3,.slice b 0 c.nodes.length (some c.nodes.length)),(4,outV c),(5,.int .i64 i),(18,sl c.nc (c.nodes.map Nd.enc)),(19,.int .i64 c.nodes.length),(20,.int .i64 i),(26,sl x.c (x.ins.map intR)),(27,.int .i64 x.ins.length),(28,.int .i64 k)]∧Two H b 2 ids (λ_=>none) (foE fo)∧FoOk c.nodes i k fo
def cpT(fo:List (List (Nat×Nat)))(t:Nat):Nat→Option Nat:=λj=>if j<t then(fo[j]?).map List.length else none
/-- At the head of the last loop. -/
def J4(c:Cir)(fo:List (List (Nat×Nat)))(n:Nat)(F:Frm)(H:Heap):Prop:=∃t b ids,n=c.nodes.length-t∧t≤c.nodes.length∧
 F=[(3,.slice b 0 c.nodes.length (some c.nodes.length)),(51,.slice b 0 c.nodes.length (some c.nodes.length)),(52,.int .i64 c.nodes.length),(53,.int .i64 t)]∧Two H b 2 ids (cpT fo t) (foE fo)
theorem two_init(H:Heap)(n:Nat)(b:Nat)(h:HeapF H b=some (.row 1 (List.replicate n [.nilslice]))):Two H b 2 (λ_=>0) (λ_=>none) (foE (List.replicate n [])):=by
 have hfo:foE (List.replicate n [])=List.replicate n []:=by unfold foE;rw[List.map_replicate];rfl
 rw[hfo];have hno:∀(j:Nat) (f:List (List AV)),(List.replicate n ([]:List (List AV)))[j]?=some f→f=[]:=by
  intro j f hf;rw[List.getElem?_replicate]at hf;split at hf
  ·cases hf;rfl
  ·cases hf
 refine⟨?_,λj f hf hne=>absurd (hno j f hf) hne,λi j f g hf _ hne=>absurd (hno i f hf) hne,λf hf=>?_⟩
 ·rw[h]
  congr 2
  apply List.ext_getElem?;intro j;unfold rows2;rw[List.getElem?_mapIdx,List.getElem?_replicate,List.getElem?_replicate];split<;>rfl
 ·rw[(List.mem_replicate.1 hf).2];exact FlatR.nil
theorem cpT_zero(fo:List (List (Nat×Nat))):cpT fo 0=λ_=>none:=by funext j;simp[cpT]
theorem cpT_succ{fo:List (List (Nat×Nat))}{t:Nat}{L:List (Nat×Nat)}(h:fo[t]?=some L):(λi=>if i=t then some L.length else cpT fo t i)=cpT fo (t+1):=by
 funext j
 unfold cpT;by_cases h1:j=t
 ·subst h1;simp[h]
 ·by_cases h2:j<t
  ·simp[h1,h2,show j<t+1 by omega]
  ·simp[h1,h2,show ¬j<t+1 by omega]
theorem clipL_nil:sem L.env Mf 96 [.nilslice] []=some (.nilslice,[]):=by
 (refine sv Tryz.f96 ?_;simp only[Tryz.f96,gS])
 (repeat first|simp only[ww]|(apply xa;simp+decide only[go_sem];rfl;kernel_rfl))
 (apply fqb;simp+decide only[go_sem]<;>rfl)
theorem clipL_ok(n:Nat)(rows:List (List AV))(hf:FlatR rows):sem L.env Mf 96 [.slice 0 0 n none] [some (.row 2 rows)]=some (.slice 0 0 n (some n),[some (.row 2 rows)]):=by
 have h1:=λπ=>renR_flat π hf
 (refine sv Tryz.f96 ?_;simp only[Tryz.f96,gS])
 (repeat first|simp only[ww]|(apply xa;simp+decide only[go_sem];rfl;kernel_rfl))
 (apply fqb;simp+decide only[go_sem,h1]<;>rfl)
theorem clipL_callN{d:Bool}(H:Heap):callV L.env d (sem L.env Mf) (.func (.func 96) [] []) [.nilslice] H=some (.nilslice,H,[]):=callV_flat (by kernel_rfl) (by kernel_rfl) rfl rfl clipL_nil rfl
theorem clipL_call{d:Bool}{H:Heap}{b n:Nat}{rows:List (List AV)}(hf:FlatR rows)(hb:HeapF H b=some (.row 2 rows)):callV L.env d (sem L.env Mf) (.func (.func 96) [] []) [.slice b 0 n none] H=some (.slice b 0 n (some n),H,[b]):=by have h:=callV_one' (E:=L.env) (draw:=d) (call:=sem L.env Mf) (g:=96) (fs:=[]) (cs:=[]) (ar:=[.slice b 0 n none]) (H:=H) (b:=b) (by kernel_rfl) (by kernel_rfl) rfl hb (refsO_flat hf) (FlatO.row hf) rfl (args':=[AV.slice 0 0 n none]) (by simp only[List.nil_append,List.append_nil,List.map_cons,List.map_nil,ren_slice1]) (clipL_ok n rows hf) (FlatO.row hf) (back_slice1 b 0 _ n _);rw[set_same hb]at h;exact h
theorem fanout_ok(c:Cir)(h:c.wf):∃r:AV×Heap,(∃fo,FoOk c.nodes c.nodes.length 0 fo∧r=(AV.islice ((foE fo).mapIdx λj f=>[slF (cpT fo c.nodes.length j) f]) (some c.nodes.length),[]))∧sem L.env Mf 111 [.agg c.enc] []=some r:=by
 have hn:=h.len;have hou:=λH=>outside_call (d:=false) H c;have hrm:c.nodes.length≤1000000000:=by omega
 have hov:refs (outV c)=[]:=rfl;have hor:∀π,ren π (outV c)=outV c:=λπ=>ren_flat π _ rfl;have ho1:=λH m hm=>out1_call (d:=false) H c m hm;generalize hO:outV c=O at hou hov hor ho1;simp only[Cir.enc]at hou⊢
 (refine svE Tryz.f111 ?_;simp only[Tryz.f111,gS])
 (repeat first|simp only[ww]|(apply xa;simp+decide only[go_sem,hou,hrm];rfl;kernel_rfl))
 refine xp_lp kp111_0 (J0 c) (c.nodes.length-0) ?_ ?_
 ·refine two_head (two_init _ c.nodes.length 1 rfl) ?_ (by rw[foE_len];simp;omega) ?_
  ·exact .inl (by simp+decide only[go_sem,hov])
  ·intro π b' ids' H1 hb hT;refine⟨0,b',ids',_,rfl,Nat.zero_le _,?_,hT,FoOk.zero _⟩;simp+decide only[go_sem,hb,hor,hO]<;>rfl
 ·rintro n F H ⟨i,b,ids,fo,rfl,hi,rfl,hT,hF⟩
  by_cases hlt:i<c.nodes.length
  ·obtain⟨x,hx⟩:∃x,c.nodes[i]?=some x:=⟨_,List.getElem?_eq_getElem hlt⟩
   have c1:(i:Int)<c.nodes.length:=by omega
   have hw:=wI1 (n:=i) (by omega);have hbl:=heapF_lt hT.top;have hxi:=insAt_get hx;rw[hO]
   (repeat first|simp only[ww]|(apply xa;simp+decide only[go_sem,c1,hlt,hx,hw,heapF_hi0,heapF_hi,set_hi0,set_hi,lt_add1];rfl;kernel_rfl))
   refine xp_lp kp111_2 (J2 c i x) (x.ins.length-0) ?_ ?_
   ·refine two_head (hT.more) ?_ (by rw[foE_len,hF.len];omega) ?_
    ·exact .inl (by simp+decide only[go_sem,hov])
    ·intro π b' ids' H1 hb hT;refine⟨0,b',ids',_,rfl,Nat.zero_le _,?_,hT,hF⟩;simp+decide only[go_sem,hb,hor,hO]<;>rfl
   ·rintro n F H ⟨k,b,ids,fo,rfl,hk,rfl,hT,hF⟩
    rw[hO];by_cases hkl:k<x.ins.length
    ·obtain⟨m,hm⟩:∃m,x.ins[k]?=some m:=⟨_,List.getElem?_eq_getElem hkl⟩
     have hmn:=h.ins x (List.mem_of_getElem? hx) m (List.mem_of_getElem? hm);have hom:=λH=>ho1 H m hmn;have c2:(k:Int)<x.ins.length:=by omega
     have hil:=h.insl (List.mem_of_getElem? hx);have hw2:=wI1 (n:=k) (by omega);have hbl:=heapF_lt hT.top;have htop:=hT.top;have hmf:m<fo.length:=by rw[hF.len];exact hmn
     obtain⟨L,hL⟩:∃L,fo[m]?=some L:=⟨_,List.getElem?_eq_getElem hmf⟩
     have hget:=rows2_get (ids:=ids) (cp:=λ_=>none) (foE_get hL);have hstep:=hF.step (by rw[hxi];exact hm) hL;have hrl:(rows2 ids (λ_=>none) (foE fo)).length=c.nodes.length:=by rw[rows2_len,foE_len,hF.len]
     cases L with
     |nil=>
      simp only[List.map_nil,slV]at hget
      (repeat first|simp only[ww]|(apply xa;simp+decide only[go_sem,c2,hkl,hm,hw2,hom,hbl,htop,hmn,hget,heapF_hi0,heapF_hi,heapF_lo,set_hi0,set_hi,set_lo,lt_add1,lt_add_s,List.append_assoc,List.cons_append,List.nil_append,hrl];rfl;kernel_rfl))
      refine lpJ_n (x.ins.length-(k+1)) (by omega) ?_;have hT2:=hT.app1 (o:=some (.row 2 [lineR (i,k)])) (x:=lineR (i,k)) (foE_get hL) rfl rfl;have e2:(foE fo).set m [lineR (i,k)]=foE (fo.set m ([]++[(i,k)])):=foE_set fo m [] i k;rw[e2]at hT2;refine two_head hT2 ?_ (by rw[foE_len,List.length_set,hF.len];omega) ?_
      ·exact .inl (by simp+decide only[go_sem,hov])
      ·intro π b' ids' H1 hb hT;refine⟨k+1,b',ids',_,rfl,hkl,?_,hT,hstep⟩;simp+decide only[go_sem,hb,hor,hO]<;>rfl
     |cons a r=>
      simp only[List.map_cons,slV]at hget;have hsub:=hT.sub m _ (foE_get hL) (by simp);obtain⟨s1,s2⟩:=hsub;have s3:=heapF_lt s1;simp only[List.map_cons]at s1;have hLl:r.length+1+1≤1000000000:=by have:=hF.total hL (h.len) (λy hy=>h.insl hy);simp only[List.length_cons]at this;omega
      (repeat first|simp only[ww]|(apply xa;simp+decide only[go_sem,c2,hkl,hm,hw2,hom,hbl,htop,hmn,hget,heapF_hi0,heapF_hi,heapF_lo,heapF_setF,List.length_set,s1,s2,s3,hLl,set_hi0,set_hi,set_lo,lt_add1,lt_add_s,List.append_assoc,List.cons_append,List.nil_append,hrl];rfl;kernel_rfl))
      refine lpJ_n (x.ins.length-(k+1)) (by omega) ?_;have hT2:=hT.app2 (o:=some (.row 2 [lineR (i,k)])) (x:=lineR (i,k)) (foE_get hL) rfl rfl;have e2:(foE fo).set m (lineR a::List.map lineR r++[lineR (i,k)])=foE (fo.set m (a::r++[(i,k)])):=foE_set fo m (a::r) i k;rw[e2]at hT2;rw[List.length_map]at hT2;refine two_head hT2 ?_ (by rw[foE_len,List.length_set,hF.len];omega) ?_
      ·exact .inl (by simp+decide only[go_sem,hov])
      ·intro π b' ids' H1 hb hT;refine⟨k+1,b',ids',_,rfl,hkl,?_,hT,hstep⟩;simp+decide only[go_sem,hb,hor,hO]<;>rfl
    ·obtain rfl:k=x.ins.length:=by omega
     have c2:¬(x.ins.length:Int)<x.ins.length:=by omega
     (repeat first|simp only[ww]|(apply xa;simp+decide only[go_sem,c2,hw];rfl;kernel_rfl))
     refine lpJ_n (c.nodes.length-(i+1)) (by omega) ?_;refine two_head hT ?_ (by rw[foE_len,hF.len];omega) ?_
     ·exact .inl (by simp+decide only[go_sem,hov])
     ·intro π b' ids' H1 hb hT;refine⟨i+1,b',ids',_,rfl,by omega,?_,hT,hF.next (by rw[hxi])⟩;simp+decide only[go_sem,hb,hor,hO]<;>rfl
  ·obtain rfl:i=c.nodes.length:=by omega
   have c1:¬(c.nodes.length:Int)<c.nodes.length:=by omega
   rw[hO]
   (repeat first|simp only[ww]|(apply xa;simp+decide only[go_sem,c1];rfl;kernel_rfl))
   refine xp_lp kp111_4 (J4 c fo) (c.nodes.length-0) ?_ ?_
   ·refine two_head hT ?_ (by rw[foE_len,hF.len];omega) ?_
    ·exact .inr (by simp+decide only[go_sem,hov])
    ·intro π b' ids' H1 hb hT;refine⟨0,b',ids',rfl,Nat.zero_le _,?_,by rw[cpT_zero];exact hT⟩;simp+decide only[go_sem,hb,hor,hO]<;>rfl
   ·rintro n F H ⟨t,b,ids,rfl,ht,rfl,hT⟩
    by_cases htl:t<c.nodes.length
    ·have c2:(t:Int)<c.nodes.length:=by omega
     have hw2:=wI1 (n:=t) (by omega);have hbl:=heapF_lt hT.top;have htop:=hT.top;obtain⟨L,hL⟩:∃L,fo[t]?=some L:=⟨_,List.getElem?_eq_getElem (by rw[hF.len];exact htl)⟩
     have hget:=rows2_get (ids:=ids) (cp:=cpT fo t) (foE_get hL);have hct:cpT fo t t=none:=by simp[cpT]
     have hrl:(rows2 ids (cpT fo t) (foE fo)).length=c.nodes.length:=by rw[rows2_len,foE_len,hF.len]
     rw[hct]at hget;have hfin:∀H1,H1=H.set b (some (.row 1 ((rows2 ids (cpT fo t) (foE fo)).set t [slV (ids t) (some L.length) (L.map lineR)])))→Two H1 b 2 ids (cpT fo (t+1)) (foE fo):=by
      intro H1 hH1;have:=hT.clip (H1:=H1) (foE_get hL) (by rw[hH1,heapF_set_eq hbl]) (λc hc=>by rw[hH1,heapF_set_ne (Ne.symm hc)])
      rwa [cpT_succ hL]at this
     cases L with
     |nil=>
      simp only[List.map_nil,slV]at hget;have hcl:=λH=>clipL_callN (d:=false) H
      (repeat first|simp only[ww]|(apply xa;simp+decide only[go_sem,c2,htl,hw2,hbl,htop,hget,hcl,hrl,List.length_set];rfl;kernel_rfl))
      refine lpJ_n (c.nodes.length-(t+1)) (by omega) ?_;refine two_head (hfin _ rfl) ?_ (by rw[foE_len,hF.len];omega) ?_
      ·exact .inr (by simp+decide only[go_sem,hov])
      ·intro π b' ids' H1 hb hT;refine⟨t+1,b',ids',rfl,by omega,?_,hT⟩;simp+decide only[go_sem,hb,hor,hO]<;>rfl
     |cons a r=>
      simp only[List.map_cons,slV]at hget;obtain⟨s1,s2⟩:=hT.sub t _ (foE_get hL) (by simp);have hcl:=clipL_call (d:=false) (H:=H) (b:=ids t) (n:=r.length+1) (hT.flat _ (List.mem_of_getElem? (foE_get hL))) s1
      (repeat first|simp only[ww]|(apply xa;simp+decide only[go_sem,c2,htl,hw2,hbl,htop,hget,hcl,hrl,List.length_set];rfl;kernel_rfl))
      refine lpJ_n (c.nodes.length-(t+1)) (by omega) ?_;refine two_head (hfin _ (by simp only[List.map_cons,slV,List.length_map,List.length_cons])) ?_ (by rw[foE_len,hF.len];omega) ?_
      ·exact .inr (by simp+decide only[go_sem,hov])
      ·intro π b' ids' H1 hb hT;refine⟨t+1,b',ids',rfl,by omega,?_,hT⟩;simp+decide only[go_sem,hb,hor,hO]<;>rfl
    ·obtain rfl:t=c.nodes.length:=by omega
     have c2:¬(c.nodes.length:Int)<c.nodes.length:=by omega
     have hz:=hT.frz (some c.nodes.length);rw[foE_len,hF.len]at hz
     (repeat first|simp only[ww]|(apply xa;simp+decide only[go_sem,c2];rfl;kernel_rfl))
     refine fqE_n (vs:=[.slice b 0 c.nodes.length (some c.nodes.length)]) (r:=(_,[])) (by simp+decide only[go_sem]) ?_ ⟨fo,hF,rfl⟩;show finish false 0 (.slice b 0 c.nodes.length (some c.nodes.length)) H=_;rw[finish_eq,hz];rfl
def foR(c:Cir)(fo:List (List (Nat×Nat))):List (List AV):=(foE fo).mapIdx λj f=>[slF (cpT fo c.nodes.length j) f]
theorem foR_get{c:Cir}{fo:List (List (Nat×Nat))}{j:Nat}{L:List (Nat×Nat)}(h:fo[j]?=some L)(hj:j<c.nodes.length):(foR c fo)[j]?=some [slF (some L.length) (L.map lineR)]:=by unfold foR;rw[List.getElem?_mapIdx,foE_get h];simp[cpT,hj,h]
theorem fanout_call(c:Cir)(h:c.wf):∃fo,FoOk c.nodes c.nodes.length 0 fo∧∀(d:Bool) (H:Heap),callV L.env d (sem L.env Mf) (.func (.func 111) [] []) [.agg c.enc] H=some (.islice (foR c fo) (some c.nodes.length),H,[]):=by obtain⟨r,⟨fo,h1,rfl⟩,h2⟩:=fanout_ok c h;exact⟨fo,h1,λd H=>callV_flat (by kernel_rfl) (by kernel_rfl) rfl (refs_cirA c) h2 rfl⟩
def kcb(c:Cir):Option AObj:=some (.row 4 [[sl c.nc (c.nodes.map Nd.enc),sl c.mc (c.names.map strR),.nilslice,sl c.oc (c.outs.map intR)]])
attribute [go_sem] kcb
def JL2(c:Cir)(fo:List (List (Nat×Nat)))(n:Nat)(F:Frm)(H:Heap):Prop:=∃(out left ready:List Nat) (done:Nat),n=c.nodes.length-done∧
 F=[(1,.ptr 0 0 0),(5,.slice 1 0 c.nodes.length (some c.nodes.length)),(6,.slice 2 0 c.nodes.length (some c.nodes.length)),(7,grV 3 (ready.map intR)),(10,.islice (foR c fo) (some c.nodes.length)),(11,.int .i64 done)]∧
 H=[kcb c,some (.row 1 (out.map intR)),some (.row 1 (left.map intR))]++grH 1 (ready.map intR)∧Kahn c.nodes left ready done []∧out.length=c.nodes.length∧(∀v∈out,v≤300*done)∧Lev c.nodes out ready done []
def JL4(c:Cir)(fo:List (List (Nat×Nat)))(done x:Nat)(L:List (Nat×Nat))(n:Nat)(F:Frm)(H:Heap):Prop:=∃(out left ready:List Nat) (q:Nat),n=L.length-q∧q≤L.length∧
 F=[(1,.ptr 0 0 0),(5,.slice 1 0 c.nodes.length (some c.nodes.length)),(6,.slice 2 0 c.nodes.length (some c.nodes.length)),(7,grV 3 (ready.map intR)),(10,.islice (foR c fo) (some c.nodes.length)),(11,.int .i64 (done+1:Nat)),(12,.int .i64 x),(76,.islice (L.map lineR) (some L.length)),(77,.int .i64 L.length),(78,.int .i64 q)]∧
 H=[kcb c,some (.row 1 (out.map intR)),some (.row 1 (left.map intR))]++grH 1 (ready.map intR)∧Kahn c.nodes left ready done (L.take q)∧ready[done]?=some x∧out.length=c.nodes.length∧(∀v∈out,v≤300*done+q)∧Lev c.nodes out ready done (L.take q)
theorem rep0(n:Nat):List.replicate n [AV.int .i64 0]=(List.replicate n 0).map intR:=by rw[List.map_replicate];rfl
theorem amax_nat(a b:Nat):amax (.int .i64 a) [.int .i64 (b:Int)]=some (.int .i64 ((max a b:Nat):Int)):=by
 simp only[amax];by_cases h:(b:Int)>a
 ·rw[if_pos h];congr 2;omega
 ·rw[if_neg h];congr 2;omega
theorem levels_ok(c:Cir)(h:c.wf):∃r:AV×Heap,(∃lv:List Nat,lv.length=c.nodes.length∧(∀v∈lv,v≤100000)∧Rises c.nodes lv∧r=(.tuple [.islice (lv.map intR) (some c.nodes.length),.int .i64 0],[]))∧sem L.env Mf 65 [.agg c.enc] []=some r:=by
 have hn:=h.len;obtain⟨fo,hfo,hfc⟩:=fanout_call c h;have hfc:=hfc false;have hsh:=λH=>shape_call (d:=false) H c h;have hrm:c.nodes.length≤1000000000:=by omega
 have hko:refsO (kcb c)=[]:=by simp only[go_sem]
 simp only[Cir.enc]at hfc hsh⊢
 (refine svE Tryz.f65 ?_;simp only[Tryz.f65,gS])
 (repeat first|simp only[ww]|(apply xa;simp+decide only[go_sem,hsh,hrm];rfl;kernel_rfl))
 refine xp_loop3 (σ:=Nat) kp65_0 (λi=>[(1,.ptr 0 0 0),(5,.slice 1 0 c.nodes.length (some c.nodes.length)),(6,.slice 2 0 c.nodes.length (some c.nodes.length)),(7,grV 3 ((readyTo c.nodes i).map intR)),(29,sl c.nc (c.nodes.map Nd.enc)),(30,.int .i64 c.nodes.length),(31,.int .i64 i)])
  (λi=>[kcb c,some (.row 1 ((List.replicate c.nodes.length 0).map intR)),some (.row 1 ((leftTo c.nodes i).map intR))]++grH 1 ((readyTo c.nodes i).map intR)) (λi=>c.nodes.length-i) (λi=>i≤c.nodes.length) 0 ?_ (Nat.zero_le _) ?_
 ·rw[leftTo_zero,show readyTo c.nodes 0=[]from rfl]
  (simp+decide only[go_sem,gcD_eq,gcIds_eq,rep0,List.map_nil,grV_nil,grH_nil,flat_i,ren_i]<;>rfl)
 ·intro i hi;by_cases hlt:i<c.nodes.length
  ·obtain⟨x,hx⟩:∃x,c.nodes[i]?=some x:=⟨_,List.getElem?_eq_getElem hlt⟩
   have c1:(i:Int)<c.nodes.length:=by omega
   have hw:=wI1 (n:=i) (by omega);have k14:=h.kind x (List.mem_of_getElem? hx);have hcb:=λH=>comb_call (d:=false) H x.kind (by omega);have hll:(leftTo c.nodes i).length=c.nodes.length:=by simp[leftTo]
   have hgl:(leftTo c.nodes i)[i]?=some 0:=by rw[leftTo_get hlt];simp
   have hrl:=readyTo_le c.nodes i;have hrs:=readyTo_succ c.nodes i;have hset:=leftTo_succ hlt;have hgl2:(leftTo c.nodes (i+1))[i]?=some (need c.nodes i):=by rw[leftTo_get hlt];simp
   have hnd:need c.nodes i=if isComb x.kind=true then x.ins.length else 0:=by unfold need;rw[kindAt_get hx,insAt_get hx]
   have hsetR:((leftTo c.nodes i).map intR).set i [AV.int .i64 (need c.nodes i)]=(leftTo c.nodes (i+1)).map intR:=by rw[←hset,List.map_set];rfl
   by_cases hcm:isComb x.kind=true
   ·rw[if_pos hcm]at hnd;rw[hnd]at hsetR hgl2 hrs;by_cases hz:x.ins.length=0
    ·rw[if_pos hz]at hrs;have hz':(x.ins.length:Int)=0:=by omega
     rw[hz]at hsetR hgl2;generalize readyTo c.nodes i=l at hrl hrs;cases l with
     |nil=>
      (repeat first|simp only[ww]|(apply xa;simp+decide only[go_sem,c1,hlt,hx,hw,hcb,hcm,hll,hgl,hsetR,hgl2,hz,List.map_nil,grV_nil,grH_nil];rfl;kernel_rfl))
      refine lp_n (i+1) ?_ (by omega) (by omega);rw[hrs]
      (simp+decide only[go_sem,gcD_eq,gcIds_eq,List.map_nil,List.nil_append,List.map_cons,grV_cons,grH_cons,List.length_nil,flat_i,ren_i]<;>rfl)
     |cons a r=>
      simp only[List.length_cons]at hrl;have hrm2:r.length+1+1≤1000000000:=by omega
      (repeat first|simp only[ww]|(apply xa;simp+decide only[go_sem,c1,hlt,hx,hw,hcb,hcm,hll,hgl,hsetR,hgl2,hz,List.map_cons,grV_cons,grH_cons,hrm2,List.length_cons];rfl;kernel_rfl))
      refine lp_n (i+1) ?_ (by omega) (by omega);rw[hrs]
      (simp+decide only[go_sem,gcD_eq,gcIds_eq,List.cons_append,List.map_cons,grV_cons,grH_cons,flat_i,ren_i,List.length_cons]<;>rfl)
    ·rw[if_neg hz]at hrs;have hz':¬(x.ins.length:Int)=0:=by omega
     generalize readyTo c.nodes i=l at hrl hrs;cases l with
     |nil=>
      (repeat first|simp only[ww]|(apply xa;simp+decide only[go_sem,c1,hlt,hx,hw,hcb,hcm,hll,hgl,hsetR,hgl2,hz',List.map_nil,grV_nil,grH_nil];rfl;kernel_rfl))
      refine lp_n (i+1) ?_ (by omega) (by omega);rw[hrs]
      (simp+decide only[go_sem,gcD_eq,gcIds_eq,List.map_nil,grV_nil,grH_nil,flat_i,ren_i]<;>rfl)
     |cons a r=>
      (repeat first|simp only[ww]|(apply xa;simp+decide only[go_sem,c1,hlt,hx,hw,hcb,hcm,hll,hgl,hsetR,hgl2,hz',List.map_cons,grV_cons,grH_cons];rfl;kernel_rfl))
      refine lp_n (i+1) ?_ (by omega) (by omega);rw[hrs]
      (simp+decide only[go_sem,gcD_eq,gcIds_eq,List.map_cons,grV_cons,grH_cons,flat_i,ren_i]<;>rfl)
   ·have hcm:isComb x.kind=false:=by simpa using hcm
    rw[hcm]at hnd;have hnd:need c.nodes i=0:=hnd;rw[hnd,if_pos rfl]at hrs;have hsame:=leftTo_same hlt hnd
    ·
     generalize readyTo c.nodes i=l at hrl hrs;cases l with
     |nil=>
      (repeat first|simp only[ww]|(apply xa;simp+decide only[go_sem,c1,hlt,hx,hw,hcb,hcm,hll,hgl,List.map_nil,grV_nil,grH_nil];rfl;kernel_rfl))
      refine lp_n (i+1) ?_ (by omega) (by omega);rw[hrs,←hsame]
      (simp+decide only[go_sem,gcD_eq,gcIds_eq,List.map_nil,List.nil_append,List.map_cons,grV_cons,grH_cons,List.length_nil,flat_i,ren_i]<;>rfl)
     |cons a r=>
      simp only[List.length_cons]at hrl;have hrm2:r.length+1+1≤1000000000:=by omega
      (repeat first|simp only[ww]|(apply xa;simp+decide only[go_sem,c1,hlt,hx,hw,hcb,hcm,hll,hgl,List.map_cons,grV_cons,grH_cons,hrm2,List.length_cons];rfl;kernel_rfl))
      refine lp_n (i+1) ?_ (by omega) (by omega);rw[hrs,←hsame]
      (simp+decide only[go_sem,gcD_eq,gcIds_eq,List.cons_append,List.map_cons,grV_cons,grH_cons,flat_i,ren_i,List.length_cons]<;>rfl)
  ·obtain rfl:i=c.nodes.length:=by omega
   have c1:¬(c.nodes.length:Int)<c.nodes.length:=by omega
   have hK:=Kahn.start c.nodes;generalize readyTo c.nodes c.nodes.length=ready at hK;generalize leftTo c.nodes c.nodes.length=left at hK
   (repeat first|simp only[ww]|(apply xa;simp+decide only[go_sem,c1,hfc];rfl;kernel_rfl))
   refine xp_lp kp65_2 (JL2 c fo) (c.nodes.length-0) ?_ ?_
   ·refine⟨_,_,?_,List.replicate c.nodes.length 0,left,ready,0,rfl,rfl,rfl,hK,by simp,by simp,Lev.start _ _ _⟩;cases ready with
    |nil=>(simp+decide only[go_sem,gcD_eq,gcIds_eq,List.map_nil,grV_nil,grH_nil,flat_i,ren_i]<;>rfl)
    |cons a r=>(simp+decide only[go_sem,gcD_eq,gcIds_eq,List.map_cons,grV_cons,grH_cons,flat_i,ren_i]<;>rfl)
   ·rintro n F H ⟨out,left,ready,done,rfl,rfl,rfl,hK,hol,hob,hV⟩
    have hne:ready≠[]:=by
     rintro rfl
     have hd0:done=0:=by have:=hK.dle;simpa using this
     subst hd0;have h1:c.nodes.length≤0:=hK.all h.acyc;have h2:=h.pos;omega
    have hbd:=hK.bound;have hdl:=hK.dle;have hneE:ready.map intR≠[]:=by simpa using hne
    rw[grV_ne 3 hneE,grH_ne 1 hneE,List.length_map];have hwd:=wI1 (n:=done) (by omega);have hll:=hK.ll;by_cases hlt:done<ready.length
    ·obtain⟨x,hx⟩:∃x,ready[done]?=some x:=⟨_,List.getElem?_eq_getElem hlt⟩
     have hxn:=hK.rn x (List.mem_of_getElem? hx);have c1:(done:Int)<ready.length:=by omega
     obtain⟨L,hL⟩:∃L,fo[x]?=some L:=⟨_,List.getElem?_eq_getElem (by rw[hfo.len];exact hxn)⟩
     have hLn:=hfo.node hL (Nat.le_refl _);have hLt:=hfo.total hL hn (λy hy=>h.insl hy);have hLc:∀a,a<c.nodes.length→cnt L a=(insAt c.nodes a).count x:=λa ha=>by rw[hfo.num x L hL a,if_pos ha]
     have hg:=foR_get hL hxn;cases hLL:L with
     |nil=>
      subst hLL;simp only[List.map_nil,slF]at hg
      (repeat first|simp only[ww]|(apply xa;simp+decide only[go_sem,c1,hlt,hx,hwd,hg];rfl;kernel_rfl))
      refine lpJ_n (c.nodes.length-(done+1)) (by omega) ⟨_,_,?_,out,left,ready,done+1,rfl,rfl,rfl,hK.next hx hLc,hol,λv hv=>by have:=hob v hv;omega,hV.next hx hLc⟩;rw[grV_ne 3 hneE,grH_ne 1 hneE]
      (simp+decide only[go_sem,gcD_eq,gcIds_eq,flat_i,ren_i]<;>rfl)
     |cons l0 lr=>
      rw[hLL]at hg;simp only[List.map_cons,slF]at hg;rw[←List.map_cons,←hLL]at hg;have hLp:L.length≠0:=by rw[hLL];simp
      have hLi:¬(L.length:Int)=0:=by omega
      have hLl:(L.map lineR).length=L.length:=List.length_map ..
      (repeat first|simp only[ww]|(apply xa;simp+decide only[go_sem,c1,hlt,hx,hwd,hg,hLi,hLl];rfl;kernel_rfl))
      refine xp_lp kp65_4 (JL4 c fo done x L) (L.length-0) ?_ ?_
      ·refine⟨_,_,?_,out,left,ready,0,rfl,Nat.zero_le _,rfl,rfl,by rw[List.take_zero];exact hK,hx,hol,λv hv=>by have:=hob v hv;omega,by rw[List.take_zero];exact hV⟩;rw[grV_ne 3 hneE,grH_ne 1 hneE]
       (simp+decide only[go_sem,gcD_eq,gcIds_eq,flat_i,ren_i]<;>rfl)<;>rfl
      ·clear hK hbd hdl hneE hll hob hol hx hlt c1 hne hV
       rintro n F H ⟨out,left,ready,q,rfl,hq,rfl,rfl,hK,hx,hol,hob,hV⟩
       have hbd:=hK.bound;have hdlt:=(List.getElem?_eq_some_iff.1 hx).1;have hne:ready≠[]:=by rintro rfl;simp at hdlt
       have hneE:ready.map intR≠[]:=by simpa using hne
       rw[grV_ne 3 hneE,grH_ne 1 hneE,List.length_map];have hll:=hK.ll;have hwq:=wI1 (n:=q) (by omega);by_cases hql:q<L.length
       ·obtain⟨l,hl⟩:∃l,L[q]?=some l:=⟨_,List.getElem?_eq_getElem hql⟩
        obtain⟨a,p⟩:=l;have han:a<c.nodes.length:=hLn (a,p) (List.mem_of_getElem? hl);obtain⟨y,hy⟩:∃y,c.nodes[a]?=some y:=⟨_,List.getElem?_eq_getElem han⟩
        have c2:(q:Int)<L.length:=by omega
        have k14:=h.kind y (List.mem_of_getElem? hy);have hcb:=λH=>comb_call (d:=false) H y.kind (by omega);have ht:=take_snoc hl;have hlR:(L.map lineR)[q]?=some [.int .i64 a,.int .i64 p]:=by rw[List.getElem?_map,hl];rfl
        by_cases hcm:isComb y.kind=true
        ·have hkc:isComb (kindAt c.nodes a)=true:=by rw[kindAt_get hy];exact hcm
         have hcn:Pc.cnt (L.take q++[(a,p)]) a≤pend c.nodes ready done a:=by refine Nat.le_trans ?_ (pend_ge hK.nd hx);rw[←hLc a han,←ht];unfold Pc.cnt;exact List.Sublist.count_le _ ((List.take_sublist _ _).map _)
         have hps:=hK.pos han hkc hcn;have hna:a∉ready:=λhm=>by have:=(hK.zero a han).1 hm;omega
         have hdc:=hK.dec han hkc hcn;rw[←ht]at hdc;obtain⟨va,hva⟩:∃v,out[a]?=some v:=⟨_,List.getElem?_eq_getElem (by omega)⟩
         obtain⟨vx,hvx⟩:∃v,out[x]?=some v:=⟨_,List.getElem?_eq_getElem (by omega)⟩
         obtain⟨w,hw⟩:∃v,left[a]?=some v:=⟨_,List.getElem?_eq_getElem (by omega)⟩
         have hwD:left.getD a 0=w:=by rw[List.getD,hw];rfl
         rw[hwD]at hps hdc;have bx:=hob vx (List.mem_of_getElem? hvx);have ba:=hob va (List.mem_of_getElem? hva);have hw1:=wI1 (n:=vx) (by omega);have hw2:IntKind.i64.wrap ((w:Int)-1)=((w-1:Nat):Int):=by
          have hwl:w≤100000:=by have h1:=hK.eq a han hkc;rw[hwD]at h1;have h2:pend c.nodes ready done a≤(insAt c.nodes a).length:=List.length_filter_le _ _;rw[insAt_get hy]at h2;have h3:=h.insl (List.mem_of_getElem? hy);omega
          rw[w64 (by omega) (by omega)];omega
         have hmx:amax (.int .i64 va) [.int .i64 ((vx+1:Nat):Int)]=some (.int .i64 ((max va (vx+1):Nat):Int)):=amax_nat _ _;have hsO:(out.map intR).set a [AV.int .i64 ((max va (vx+1):Nat):Int)]=(out.set a (max va (vx+1))).map intR:=by rw[List.map_set];rfl
         have hsL:(left.map intR).set a [AV.int .i64 ((w-1:Nat):Int)]=(left.set a (w-1)).map intR:=by rw[List.map_set];rfl
         have hgw:(left.set a (w-1))[a]?=some (w-1):=by rw[List.getElem?_set];simp;omega
         have hlo:(left.set a (w-1)).length=c.nodes.length:=by rw[List.length_set];exact hll
         have hoO:(out.set a (max va (vx+1))).length=c.nodes.length:=by rw[List.length_set];exact hol
         have hob2:∀v∈out.set a (max va (vx+1)),v≤300*done+(q+1):=by
          intro v hv;rcases List.mem_or_eq_of_mem_set hv with hv|rfl
          ·have:=hob v hv;omega
          ·omega
         have hdn:done<c.nodes.length:=by omega
         have han':a<left.length:=by omega
         have hxl:x<out.length:=by omega
         by_cases hz:w-1=0
         ·rw[if_pos hz]at hdc;have hz':decide (((w-1:Nat):Int)=0)=true:=decide_eq_true (by omega);have hrm2:ready.length+1≤1000000000:=by omega
          have hx':(ready++[a])[done]?=some x:=by rw[List.getElem?_append_left hdlt];exact hx
          (repeat first|simp only[ww]|(apply xa;simp+decide only[go_sem,c2,hql,hlR,hy,hcb,hcm,hwq,han,hva,hvx,hw,hol,hll,hxn,hw1,hw2,hmx,hsO,hsL,hgw,hlo,hoO,hz',hrm2];rfl;kernel_rfl))
          refine lpJ_n (L.length-(q+1)) (by omega) ⟨_,_,?_,out.set a (max va (vx+1)),left.set a (w-1),ready++[a],q+1,rfl,hql,rfl,rfl,hdc,hx',hoO,hob2,by rw[ht];exact hV.dec hx hna hva hvx (.inr rfl)⟩
          (simp+decide only[go_sem,gcD_eq,gcIds_eq,grV_snoc,grH_snoc,flat_i,ren_i]<;>rfl)<;>rfl
         ·rw[if_neg hz]at hdc;have hz':¬((w-1:Nat):Int)=0:=by omega
          (repeat first|simp only[ww]|(apply xa;simp+decide only[go_sem,c2,hql,hlR,hy,hcb,hcm,hwq,han,hva,hvx,hw,hol,hll,hxn,hw1,hw2,hmx,hsO,hsL,hgw,hlo,hoO,hz'];rfl;kernel_rfl))
          refine lpJ_n (L.length-(q+1)) (by omega) ⟨_,_,?_,out.set a (max va (vx+1)),left.set a (w-1),ready,q+1,rfl,hql,rfl,rfl,hdc,hx,hoO,hob2,by rw[ht];exact hV.dec hx hna hva hvx (.inl rfl)⟩;rw[grV_ne 3 hneE,grH_ne 1 hneE]
          (simp+decide only[go_sem,gcD_eq,gcIds_eq,flat_i,ren_i]<;>rfl)<;>rfl
        ·have hcm:isComb y.kind=false:=by simpa using hcm
         (repeat first|simp only[ww]|(apply xa;simp+decide only[go_sem,c2,hql,hlR,hy,hcb,hcm,hwq,han];rfl;kernel_rfl))
         refine lpJ_n (L.length-(q+1)) (by omega) ⟨_,_,?_,out,left,ready,q+1,rfl,hql,rfl,rfl,by rw[ht];exact hK.skip (by rw[kindAt_get hy];exact hcm),hx,hol,λv hv=>by have:=hob v hv;omega,by rw[ht];exact hV.skip (by rw[kindAt_get hy];exact hcm)⟩;rw[grV_ne 3 hneE,grH_ne 1 hneE]
         (simp+decide only[go_sem,gcD_eq,gcIds_eq,flat_i,ren_i]<;>rfl)<;>rfl
       ·obtain rfl:q=L.length:=by omega
        have c2:¬(L.length:Int)<L.length:=by omega
        rw[List.take_length]at hK hV
        (repeat first|simp only[ww]|(apply xa;simp+decide only[go_sem,c2];rfl;kernel_rfl))
        refine lpJ_n (c.nodes.length-(done+1)) (by omega) ⟨_,_,?_,out,left,ready,done+1,rfl,rfl,rfl,hK.next hx hLc,hol,λv hv=>by have:=hob v hv;omega,hV.next hx hLc⟩;rw[grV_ne 3 hneE,grH_ne 1 hneE]
        (simp+decide only[go_sem,gcD_eq,gcIds_eq,flat_i,ren_i]<;>rfl)<;>rfl
    ·obtain rfl:done=ready.length:=by omega
     have c1:¬(ready.length:Int)<ready.length:=by omega
     have hall:=hK.all h.acyc;have c2:¬(ready.length:Int)<c.nodes.length:=by omega
     (repeat first|simp only[ww]|(apply xa;simp+decide only[go_sem,c1,c2];rfl;kernel_rfl))
     refine fqE_r (vs:=[.slice 1 0 c.nodes.length (some c.nodes.length),.int .i64 0]) (r:=(_,[])) (by simp+decide only[go_sem]) ?_ ⟨out,hol,λv hv=>by have:=hob v hv;omega,hV.all hK hall,rfl⟩;show finish false 0 (.tuple [.slice 1 0 c.nodes.length (some c.nodes.length),.int .i64 0]) _=_;rw[←hol];simp+decide only[go_sem,frz_i]
theorem levels_call(c:Cir)(h:c.wf):∃lv:List Nat,lv.length=c.nodes.length∧(∀v∈lv,v≤100000)∧Rises c.nodes lv∧∀(d:Bool) (H:Heap),callV L.env d (sem L.env Mf) (.func (.func 65) [] []) [.agg c.enc] H=some (.tuple [.islice (lv.map intR) (some c.nodes.length),.int .i64 0],H,[]):=by obtain⟨r,⟨lv,h1,h2,hR,rfl⟩,h3⟩:=levels_ok c h;exact⟨lv,h1,h2,hR,λd H=>callV_flat (by kernel_rfl) (by kernel_rfl) rfl (refs_cirA c) h3 rfl⟩
theorem ncheck_ok(c:Cir)(h:c.wf):sem L.env Mf 19 [.agg c.enc] []=some (.int .i64 0,[]):=by
 obtain⟨lv,_,_,_,hc⟩:=levels_call c h;have hc:=hc false;simp only[Cir.enc]at hc⊢
 (refine sv Tryz.f19 ?_;simp only[Tryz.f19,gS])
 (repeat first|simp only[ww]|(apply xa;simp+decide only[go_sem,hc];rfl;kernel_rfl))
 (apply fqb;simp+decide only[go_sem]<;>rfl)
theorem ncheck_call{d:Bool}(H:Heap)(c:Cir)(h:c.wf):callV L.env d (sem L.env Mf) (.func (.func 19) [] []) [.agg c.enc] H=some (.int .i64 0,H,[]):=callV_flat (by kernel_rfl) (by kernel_rfl) rfl (refs_cirA c) (ncheck_ok c h) rfl
end Go.FInst
