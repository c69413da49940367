/- Part of a proof. No condition. -/
import Derived.Test.YtnkhpfincnfloaaGreatDoorFNe
import Derived.Test.YtnkhpfincnfloaaGreatDoorAxD
import Derived.Test.YtnkhpfincnfloaaGreatDoorPcB
set_option linter.unusedSimpArgs false
set_option linter.unusedVariables false
namespace Go.FInst
open Go.Proofs Go.Ax Go.Pc
set_option maxRecDepth 100000
/-- The function that tells indexes outside of a circuit. -/
def outVM(c:Cir)(mm:Mm):AV:=.func (.func 222) [] [.iptr (encM c mm)]
theorem refs_outVM(c:Cir)(mm:Mm):refs (outVM c mm)=[]:=by rfl
theorem outside_okM(c:Cir)(mm:Mm):sem L.env Mf 166 [.agg (encM c mm)] []=some (outVM c mm,[]):=by
 unfold outVM;simp only[encM,memV]
 (refine sv Tryz.f166 ?_;simp only[Tryz.f166,gS])
 (repeat first|simp only[ww]|(apply xa;simp+decide only[go_sem];rfl;kernel_rfl))
 (apply fqb;simp+decide only[go_sem]<;>rfl)
theorem outside_callM{d:Bool}(H:Heap)(c:Cir)(mm:Mm):callV L.env d (sem L.env Mf) (.func (.func 166) [] []) [.agg (encM c mm)] H=some (outVM c mm,H,[]):=callV_flat (by kernel_rfl) (by kernel_rfl) rfl (by simp only[refsL_cons,refs_agg,encM,memV,go_sem]) (outside_okM c mm) rfl
theorem out1_okM(c:Cir)(mm:Mm)(m:Nat)(hm:m<c.nodes.length):sem L.env Mf 222 [.int .i64 m,.iptr (encM c mm)] []=some (.bool false,[]):=by
 have c1:¬(m:Int)<0:=by omega
 have c2:¬(c.nodes.length:Int)≤m:=by omega
 simp only[encM,memV]
 (refine sv Tryz.f222 ?_;simp only[Tryz.f222,gS])
 (repeat first|simp only[ww]|(apply xa;simp+decide only[go_sem,c1,c2];rfl;kernel_rfl))
 (apply fqb;simp+decide only[go_sem]<;>rfl)
theorem out1_callM{d:Bool}(H:Heap)(c:Cir)(mm:Mm)(m:Nat)(hm:m<c.nodes.length):callV L.env d (sem L.env Mf) (outVM c mm) [.int .i64 m] H=some (.bool false,H,[]):=callV_flat (by kernel_rfl) (by kernel_rfl) rfl (by simp only[refsL_cons,encM,memV,go_sem]) (out1_okM c mm m hm) rfl
theorem contf_outM{d:Bool}(H:Heap)(c:Cir)(mm:Mm)(r:Rep)(l:List Nat)(hl:l.length<1000000)(h:∀m∈l,m<c.nodes.length) :
 callV L.env d (sem L.env Mf) (.func (.func 165) [] []) [sl r (l.map intR),outVM c mm] H=some (.bool false,H,[]):=
 callV_flat (by kernel_rfl) (by kernel_rfl) rfl (by simp only[List.nil_append,List.append_nil,refsL_cons,refs_outVM,go_sem]) (contf_none r l (outVM c mm) rfl hl (λm hm=>out1_callM [] c mm m (h m hm))) rfl
/- the drivers of a bus -/
theorem other_okM(c:Cir)(mm:Mm)(m:Nat)(hm:m<c.nodes.length)(hk:kindAt c.nodes m=12):sem L.env Mf 217 [.int .i64 m,.ptr 0 0 0] [some (.row 4 [(encM c mm)])]=some (.bool false,[some (.row 4 [(encM c mm)])]):=by
 obtain⟨x,hx⟩:∃x,c.nodes[m]?=some x:=⟨_,List.getElem?_eq_getElem hm⟩
 rw[kindAt_get hx]at hk;simp only[encM,memV]
 (refine sv Tryz.f217 ?_;simp only[Tryz.f217,gS])
 (repeat first|simp only[ww]|(apply xa;simp+decide only[go_sem,hx,hk,hm];rfl;kernel_rfl))
 (apply fqb;simp+decide only[go_sem]<;>rfl)
theorem flat_cirOM(c:Cir)(mm:Mm):FlatR [(encM c mm)]:=FlatR.cons (by simp only[encM,memV,go_sem]) FlatR.nil
theorem other_callM{d:Bool}(H:Heap)(c:Cir)(mm:Mm)(b m:Nat)(hb:HeapF H b=some (.row 4 [(encM c mm)]))(hm:m<c.nodes.length)(hk:kindAt c.nodes m=12):callV L.env d (sem L.env Mf) (.func (.func 217) [] [.ptr b 0 0]) [.int .i64 m] H=some (.bool false,H,[b]):=callV_one (fs:=[]) (cs:=[.ptr b 0 0]) (ar:=[.int .i64 m]) (by kernel_rfl) (by kernel_rfl) rfl hb (refsO_flat (flat_cirOM c mm)) (FlatO.row (flat_cirOM c mm)) rfl (args':=[.int .i64 m,.ptr 0 0 0]) (by simp[ren,piOf]) (other_okM c mm m hm hk) rfl
theorem idxf_otherM(r:Rep)(l:List Nat)(c:Cir)(mm:Mm)(hl:l.length<1000000)(hc:∀m∈l,m<c.nodes.length∧kindAt c.nodes m=12) :
 sem L.env Mf 221 [sl r (l.map intR),.func (.func 217) [] [.ptr 0 0 0]] [some (.row 4 [(encM c mm)])]=some (.int .i64 (-1),[some (.row 4 [(encM c mm)])]):=by
 have hfl:refsL (encM c mm)=[]:=by simp only[encM,memV,go_sem]
 have hrn:∀π,(encM c mm).map (ren π)=(encM c mm):=λπ=>renM_flat π hfl;have hcall:=λm h1 h2=>other_callM (d:=false) [some (.row 4 [(encM c mm)])] c mm 0 m rfl h1 h2;generalize he:(encM c mm)=E at hfl hrn hcall
 (refine sv Tryz.f221 ?_;simp only[Tryz.f221,gS])
 (repeat first|simp only[ww]|(apply xa;simp+decide only[go_sem];rfl;kernel_rfl))
 refine xp_loop3 (σ:=Nat) kp221_0 (λi=>[(0,sl r (l.map intR)),(1,.func (.func 217) [] [.ptr 0 0 0]),(7,.int .i64 l.length),(8,.int .i64 i)])
  (λ_=>[some (.row 4 [E])]) (λi=>l.length-i) (λi=>i≤l.length) 0 ?_ (Nat.zero_le _) ?_
 ·(simp+decide only[go_sem,gcD_eq,gcIds_eq,hfl,hrn]<;>rfl)
 ·intro i hi;by_cases hlt:i<l.length
  ·obtain⟨x,hx⟩:∃x,l[i]?=some x:=⟨_,List.getElem?_eq_getElem hlt⟩
   have c1:(i:Int)<l.length:=by omega
   have hw:=wI1 (n:=i) (by omega);have hcx:=hcall x (hc x (List.mem_of_getElem? hx)).1 (hc x (List.mem_of_getElem? hx)).2
   (repeat first|simp only[ww]|(apply xa;simp+decide only[go_sem,c1,hlt,hx,hw,hcx];rfl;kernel_rfl))
   refine lp_n (i+1) ?_ (by omega) (by omega)
   (simp+decide only[go_sem,gcD_eq,gcIds_eq,hfl,hrn]<;>rfl)
  ·obtain rfl:i=l.length:=by omega
   have c1:¬(l.length:Int)<l.length:=by omega
   (repeat first|simp only[ww]|(apply xa;simp+decide only[go_sem,c1];rfl;kernel_rfl))
   (apply fqb;simp+decide only[go_sem,hrn]<;>rfl)
theorem contf_other0M(r:Rep)(l:List Nat)(c:Cir)(mm:Mm)(hl:l.length<1000000)(hc:∀m∈l,m<c.nodes.length∧kindAt c.nodes m=12) :
 sem L.env Mf 165 [sl r (l.map intR),.func (.func 217) [] [.ptr 0 0 0]] [some (.row 4 [(encM c mm)])]=some (.bool false,[some (.row 4 [(encM c mm)])]):=by
 have h:=callV_one (E:=L.env) (draw:=false) (call:=sem L.env Mf) (g:=221) (fs:=[]) (cs:=[]) (ar:=[sl r (l.map intR),.func (.func 217) [] [.ptr 0 0 0]]) (H:=[some (.row 4 [(encM c mm)])]) (b:=0) (by kernel_rfl) (by kernel_rfl) rfl rfl (refsO_flat (flat_cirOM c mm)) (FlatO.row (flat_cirOM c mm)) (by simp only[List.nil_append,List.append_nil,refsL_cons,go_sem]) (by simp only[List.nil_append,List.append_nil,List.map_cons,List.map_nil,ren_sl];simp[ren,renL,piOf]) (idxf_otherM r l c mm hl hc) rfl;have c1:¬(0:Int)≤ -1:=by omega
 have hfl:refsL (encM c mm)=[]:=by simp only[encM,memV,go_sem]
 have hrn:∀π,(encM c mm).map (ren π)=(encM c mm):=λπ=>renM_flat π hfl;generalize he:(encM c mm)=E at hfl hrn h
 (refine sv Tryz.f165 ?_;simp only[Tryz.f165,gS])
 (repeat first|simp only[ww]|(apply xa;simp+decide only[go_sem,h,c1];rfl;kernel_rfl))
 (apply fqb;simp+decide only[go_sem,hrn]<;>rfl)
theorem contf_otherM{d:Bool}{H:Heap}{b:Nat}(c:Cir)(mm:Mm)(r:Rep)(l:List Nat)(hl:l.length<1000000)(hc:∀m∈l,m<c.nodes.length∧kindAt c.nodes m=12)(hb:HeapF H b=some (.row 4 [(encM c mm)])) :
 callV L.env d (sem L.env Mf) (.func (.func 165) [] []) [sl r (l.map intR),.func (.func 217) [] [.ptr b 0 0]] H=some (.bool false,H,[b]):=
 callV_one (fs:=[]) (cs:=[]) (ar:=[sl r (l.map intR),.func (.func 217) [] [.ptr b 0 0]]) (by kernel_rfl) (by kernel_rfl) rfl hb (refsO_flat (flat_cirOM c mm)) (FlatO.row (flat_cirOM c mm)) (by simp only[List.nil_append,List.append_nil,refsL_cons,go_sem]) (by simp only[List.nil_append,List.append_nil,List.map_cons,List.map_nil,ren_sl];simp[ren,renL,piOf]) (contf_other0M r l c mm hl hc) rfl
theorem bit_okM(c:Cir)(mm:Mm)(x:Nd)(hm:(x.kind≤14∧x.mem=0∧x.bit=0)∨(x.kind=15∧x.mem=0∧x.bit≤1)):sem L.env Mf 218 [.agg (encM c mm),.agg x.enc] []=some (.bool true,[]):=by
 rcases hm with ⟨hk,m1,m2⟩|⟨hk,m1,m2⟩
 ·have c1:¬(x.kind:Int)=15:=by omega
  simp only[encM,memV,Nd.enc,m1,m2]
  (refine sv Tryz.f218 ?_;simp only[Tryz.f218,gS])
  (repeat first|simp only[ww]|(apply xa;simp+decide only[go_sem,c1];rfl;kernel_rfl))
  (apply fqb;simp+decide only[go_sem]<;>rfl)
 ·have h01:x.bit=0∨x.bit=1:=by omega
  simp only[encM,memV,Nd.enc,m1,hk];rcases h01 with m2|m2
  ·rw[m2]
   (refine sv Tryz.f218 ?_;simp only[Tryz.f218,gS])
   (repeat first|simp only[ww]|(apply xa;simp+decide only[go_sem];rfl;kernel_rfl))
   (apply fqb;simp+decide only[go_sem]<;>rfl)
  ·rw[m2]
   (refine sv Tryz.f218 ?_;simp only[Tryz.f218,gS])
   (repeat first|simp only[ww]|(apply xa;simp+decide only[go_sem];rfl;kernel_rfl))
   (apply fqb;simp+decide only[go_sem]<;>rfl)
theorem bit_callM{d:Bool}(H:Heap)(c:Cir)(mm:Mm)(x:Nd)(hm:(x.kind≤14∧x.mem=0∧x.bit=0)∨(x.kind=15∧x.mem=0∧x.bit≤1)):callV L.env d (sem L.env Mf) (.func (.func 218) [] []) [.agg (encM c mm),.agg x.enc] H=some (.bool true,H,[]):=callV_flat (by kernel_rfl) (by kernel_rfl) rfl (by simp only[refsL_cons,refs_agg,encM,memV,go_sem]) (bit_okM c mm x hm) rfl
theorem node_okM(c:Cir)(mm:Mm)(h:wfM c mm)(x:Nd)(hx:x∈c.nodes):sem L.env Mf 162 [.agg (encM c mm),.agg x.enc] []=some (.int .i64 0,[]):=by
 have k14:=h.kind x hx;have hlo:=h.lo x hx;have hhi:=h.hi x hx;have hlen:x.ins.length<1000000:=by
  have:faninHi x.kind≤16:=by
   have hk:x.kind=0∨x.kind=1∨x.kind=2∨x.kind=3∨x.kind=4∨x.kind=5∨x.kind=6∨x.kind=7∨x.kind=8∨x.kind=9∨x.kind=10∨x.kind=11∨x.kind=12∨x.kind=13∨x.kind=14∨x.kind=15:=by omega
   rcases hk with e|e|e|e|e|e|e|e|e|e|e|e|e|e|e|e<;>rw[e]<;>decide
  omega
 have hf:=λH=>fanin_call (d:=false) H x.kind (by omega);have ho:=λH=>outside_callM (d:=true) H c mm;have hc:=λH=>contf_outM (d:=true) H c mm x.c x.ins hlen (h.ins x hx);have hb:=λH=>bit_callM (d:=false) H c mm x (h.mem x hx);have c1:¬(15:Int)<x.kind:=by omega
 have c2:¬(x.ins.length:Int)<faninLo x.kind:=by omega
 have c3:¬(faninHi x.kind:Int)<x.ins.length:=by omega
 have hfl:refsL (encM c mm)=[]:=by simp only[encM,memV,go_sem]
 by_cases hk:x.kind=13
 ·have hoth:=λ(X:Option AObj)=>contf_otherM (d:=false) (H:=[some (.row 4 [(encM c mm)]),X]) (b:=0) c mm x.c x.ins hlen (λm hm=>⟨h.ins x hx m hm,h.bus x hx hk m hm⟩) rfl;have ck:decide ((x.kind:Int)=13)=true:=decide_eq_true (by omega);simp only[encM,memV,Nd.enc]at ho hc hb hoth⊢
  (refine sv Tryz.f162 ?_;simp only[Tryz.f162,gS])
  (repeat first|simp only[ww]|(apply xa;simp+decide only[go_sem,hf,c1,c2,c3,ho,hc,hb,hoth,ck];rfl;kernel_rfl))
  (apply fqb;simp+decide only[go_sem]<;>rfl)
 ·have ck:¬(x.kind:Int)=13:=by omega
  simp only[encM,memV,Nd.enc]at ho hc hb⊢
  (refine sv Tryz.f162 ?_;simp only[Tryz.f162,gS])
  (repeat first|simp only[ww]|(apply xa;simp+decide only[go_sem,hf,c1,c2,c3,ho,hc,hb,ck];rfl;kernel_rfl))
  (apply fqb;simp+decide only[go_sem]<;>rfl)
theorem node_callM{d:Bool}(H:Heap)(c:Cir)(mm:Mm)(h:wfM c mm)(x:Nd)(hx:x∈c.nodes):callV L.env d (sem L.env Mf) (.func (.func 162) [] []) [.agg (encM c mm),.agg x.enc] H=some (.int .i64 0,H,[]):=callV_flat (by kernel_rfl) (by kernel_rfl) rfl (by simp only[refsL_cons,refs_agg,encM,memV,go_sem]) (node_okM c mm h x hx) rfl
theorem isname_okM(i:Nat)(hi:i<16):sem L.env Mf 219 [.str (nameS i)] []=some (.bool true,[]):=by
 have h:i=0∨i=1∨i=2∨i=3∨i=4∨i=5∨i=6∨i=7∨i=8∨i=9∨i=10∨i=11∨i=12∨i=13∨i=14∨i=15:=by omega
 rcases h with rfl|rfl|rfl|rfl|rfl|rfl|rfl|rfl|rfl|rfl|rfl|rfl|rfl|rfl|rfl|rfl
 ·exact isname_0
 ·exact isname_1
 ·exact isname_2
 ·exact isname_3
 ·exact isname_4
 ·exact isname_5
 ·exact isname_6
 ·exact isname_7
 ·exact isname_8
 ·exact isname_9
 ·exact isname_10
 ·exact isname_11
 ·exact isname_12
 ·exact isname_13
 ·exact isname_14
 ·exact isname_15
theorem isname_callM{d:Bool}(H:Heap)(i:Nat)(hi:i<16):callV L.env d (sem L.env Mf) (.func (.func 219) [] []) [.str (nameS i)] H=some (.bool true,H,[]):=callV_flat (by kernel_rfl) (by kernel_rfl) rfl rfl (isname_okM i hi) rfl
theorem nameS_injM{i j:Nat}(hi:i<16)(hj:j<16)(h:nameS i=nameS j):i=j:=by unfold nameS at h;simp only[List.cons.injEq,and_true,true_and]at h;have h1:=congrArg UInt8.toNat h.1;have h2:=congrArg UInt8.toNat h.2;simp only[UInt8.toNat_ofNat']at h1 h2;omega
theorem find_nmM(s:Nat)(hs:s<16):∀(l:List Nat) (b:Nat),(∀j∈l,j<s)→afindKey (aeq L.env 6 9) (.str (nameS s)) (l.map λj=>.str (nameS j)) b=some none
 | [],b,_=>rfl
 |j::l,b,h=>by
  have hne:(nameS s==nameS j)=false:=by rw[beq_eq_false_iff_ne];intro e;have:=nameS_injM hs (by have:=h j (by simp);omega) e;have:=h j (by simp);omega
  simp only[List.map_cons,afindKey,eqS,hne,cond_false];exact find_nmM s hs l (b+1) (λj hj=>h j (by simp[hj]))
theorem nm_findM(i:Nat)(hi:i<16):afindKey (aeq L.env 6 9) (.str (nameS i)) (nmKeys i) 0=some none:=find_nmM i hi _ 0 (λj hj=>by simpa using hj)
theorem nm_lookupM(i:Nat)(hi:i<16):alookup L.env (HeapF [some (nmO i)]) 91 (.map 0) (.str (nameS i)) false=some (.bool false):=by
 have h:=nm_findM i hi;have e:alookup L.env (HeapF [some (nmO i)]) 91 (.map 0) (.str (nameS i)) false=match afindKey (aeq L.env 6 9) (.str (nameS i)) (nmKeys i) 0 with
  |some (some j)=>match(List.replicate i (AV.bool true))[j]? with
   |some v=>some (bif false then .tuple [v,.bool true]else v)
   |none=>none
  |some none=>some (.bool false)
  |none=>none:=by kernel_rfl
 rw[e,h]
theorem nm_updateM(i:Nat)(hi:i<16):amapUpdate L.env (HeapF [some (nmO i)]) 91 (.map 0) (.str (nameS i)) (.bool true)=some (.set 0 (nmO (i+1))):=by
 have h:=nm_findM i hi;unfold amapUpdate;have e:apairs L.env (HeapF [some (nmO i)]) 91 (.map 0) (.str (nameS i))=match afindKey (aeq L.env 6 9) (.str (nameS i)) (nmKeys i) 0 with
  |some (some j)=>match(nmKeys i)[j]? with
   |some k0=>bif asame k0 (.str (nameS i))then some (0,nmKeys i,List.replicate i (AV.bool true),List.range i,i,some j)else none
   |none=>none
  |some none=>some (0,nmKeys i,List.replicate i (AV.bool true),List.range i,i,none)
  |none=>none:=by kernel_rfl
 rw[e,h];simp only[nmO,nmKeys_succ,List.range_succ,List.replicate_succ']
theorem names_okM(c:Cir)(mm:Mm)(h:wfM c mm):sem L.env Mf 163 [.agg (encM c mm)] []=some (.int .i64 0,[]):=by
 have hn:=h.len;have hnm:c.names.length=c.nodes.length:=by rw[h.names];simp
 simp only[encM,memV]
 (refine sv Tryz.f163 ?_;simp only[Tryz.f163,gS])
 (repeat first|simp only[ww]|(apply xa;simp+decide only[go_sem];rfl;kernel_rfl))
 have e0:AObj.map [] [] [] 0=nmO 0:=by rfl
 refine xp_loop3 (σ:=Nat) kp163_0 (λi=>[(3,.map 0),(8,sl c.mc (c.names.map strR)),(9,.int .i64 c.names.length),(10,.int .i64 i)])
  (λi=>[some (nmO i)]) (λi=>c.names.length-i) (λi=>i≤c.names.length) 0 ?_ (Nat.zero_le _) ?_
 ·rw[e0]
  (simp+decide only[go_sem,gcD_eq,gcIds_eq,nm_flat,nm_ren]<;>rfl)
 ·intro i hi;by_cases hlt:i<c.names.length
  ·have hx:c.names[i]?=some (nameS i):=by rw[h.names,List.getElem?_map,List.getElem?_range (by omega)];rfl
   have c1:(i:Int)<c.names.length:=by omega
   have hw:=wI1 (n:=i) (by omega);have hcn:=λH=>isname_callM (d:=false) H i (by omega);have hlk:=nm_lookupM i (by omega);have hup:=nm_updateM i (by omega)
   (repeat first|simp only[ww]|(apply xa;simp+decide only[go_sem,c1,hlt,hx,hw,hcn,hlk,hup];rfl;kernel_rfl))
   refine lp_n (i+1) ?_ (by omega) (by omega)
   (simp+decide only[go_sem,gcD_eq,gcIds_eq,nm_flat,nm_ren]<;>rfl)
  ·obtain rfl:i=c.names.length:=by omega
   have c1:¬(c.names.length:Int)<c.names.length:=by omega
   (repeat first|simp only[ww]|(apply xa;simp+decide only[go_sem,c1];rfl;kernel_rfl))
   (apply fqb;simp+decide only[go_sem]<;>rfl)
theorem wrong_ok(r:List AV)(rs:List (List AV))(c:Option Nat)(n:Nat)(h:rs.length+1≤n):sem L.env Mf 220 [.islice (r::rs) c,.int .i64 n] []=some (.bool false,[]):=by
 have c1:¬((rs.length+1:Nat):Int)=0:=by omega
 have c2:¬(n:Int)<((rs.length+1:Nat):Int):=by omega
 (refine sv Tryz.f220 ?_;simp only[Tryz.f220,gS])
 (repeat first|simp only[ww]|(apply xa;simp+decide only[go_sem,c1,c2,List.length_cons];rfl;kernel_rfl))
 (apply fqb;simp+decide only[go_sem]<;>rfl)
theorem memory_ok(c:Cir)(mm:Mm)(h:wfM c mm):sem L.env Mf 164 [.agg (encM c mm),.agg [.islice [[.int .i64 mm.a]] (some 1),.islice [[.int .i64 mm.d0],[.int .i64 mm.d1]] (some 2),.int .i64 mm.w]] []=some (.int .i64 0,[]):=by
 obtain⟨p0,p1,p2,p3⟩:=h.port;have ho:=λH=>outside_callM (d:=false) H c mm;have hc1:=λ(d:Bool) H=>contf_outM (d:=d) H c mm (some (some 1)) [mm.a] (by simp) (by simp;exact p0);have hc2:=λ(d:Bool) H=>contf_outM (d:=d) H c mm (some (some 2)) [mm.d0,mm.d1] (by simp) (by simp;exact⟨p1,p2⟩);have hc3:=λ(d:Bool) H=>out1_callM (d:=d) H c mm mm.w p3;have hw1:=λ(d:Bool) (H:Heap)=>callV_flat (E:=L.env) (draw:=d) (call:=sem L.env Mf) (H:=H) (g:=220) (fs:=[]) (cs:=[]) (ar:=[.islice [[.int .i64 mm.a]] (some 1),.int .i64 8]) (by kernel_rfl) (by kernel_rfl) rfl rfl (wrong_ok _ [] _ 8 (by simp)) rfl;have hw2:=λ(d:Bool) (H:Heap)=>callV_flat (E:=L.env) (draw:=d) (call:=sem L.env Mf) (H:=H) (g:=220) (fs:=[]) (cs:=[]) (ar:=[.islice [[.int .i64 mm.d0],[.int .i64 mm.d1]] (some 2),.int .i64 32]) (by kernel_rfl) (by kernel_rfl) rfl rfl (wrong_ok _ [[.int .i64 mm.d1]] _ 32 (by simp)) rfl;have hov:refs (outVM c mm)=[]:=rfl;have hst:(outVM c mm).storable=true:=rfl;have hnn:anilCheck (outVM c mm)=some (outVM c mm):=rfl;simp only[sl_some,List.map_cons,List.map_nil,intR]at hc1 hc2;generalize outVM c mm=O at ho hc1 hc2 hc3 hov hst hnn;simp only[encM,memV]at ho⊢
 (refine sv Tryz.f164 ?_;simp only[Tryz.f164,gS])
 (repeat first|simp only[ww]|(apply xa;simp+decide only[go_sem,ho,hc1,hc2,hc3,hw1,hw2,hst,hnn];rfl;kernel_rfl))
 (apply fqb;simp+decide only[go_sem]<;>rfl)
theorem memory_call{d:Bool}(H:Heap)(c:Cir)(mm:Mm)(h:wfM c mm):callV L.env d (sem L.env Mf) (.func (.func 164) [] []) [.agg (encM c mm),.agg [.islice [[.int .i64 mm.a]] (some 1),.islice [[.int .i64 mm.d0],[.int .i64 mm.d1]] (some 2),.int .i64 mm.w]] H=some (.int .i64 0,H,[]):=callV_flat (by kernel_rfl) (by kernel_rfl) rfl (by simp only[refsL_cons,refs_agg,encM,memV,go_sem]) (memory_ok c mm h) rfl
theorem refs_cirAM(c:Cir)(mm:Mm):refsL [.agg (encM c mm)]=[]:=by simp only[refsL_cons,refs_agg,encM,memV,go_sem]
theorem names_callM{d:Bool}(H:Heap)(c:Cir)(mm:Mm)(h:wfM c mm):callV L.env d (sem L.env Mf) (.func (.func 163) [] []) [.agg (encM c mm)] H=some (.int .i64 0,H,[]):=callV_flat (by kernel_rfl) (by kernel_rfl) rfl (refs_cirAM c mm) (names_okM c mm h) rfl
theorem shape_okM(c:Cir)(mm:Mm)(h:wfM c mm):sem L.env Mf 109 [.agg (encM c mm)] []=some (.int .i64 0,[]):=by
 have hn:=h.len;have hnm:c.names.length=c.nodes.length:=by rw[h.names];simp
 have hol:=h.outl;have c1:¬(16384:Int)<c.nodes.length:=by omega
 have c2:¬(16384:Int)<c.outs.length:=by omega
 have hno:=λH x hx=>node_callM (d:=false) H c mm h x hx;have hna:=λH=>names_callM (d:=false) H c mm h;have hou:=λH=>outside_callM (d:=true) H c mm;have hcf:=λH=>contf_outM (d:=true) H c mm c.oc c.outs (by omega) h.outs;have hlen:(encM c mm).length=4:=rfl;simp only[encM,memV]at hno hna hou hcf⊢
 (refine sv Tryz.f109 ?_;simp only[Tryz.f109,gS])
 (repeat first|simp only[ww]|(apply xa;simp+decide only[go_sem,c1,c2,hnm];rfl;kernel_rfl))
 refine xp_loop3 (σ:=Nat) kp109_1 (λi=>[(1,.ptr 0 0 0),(36,sl c.nc (c.nodes.map Nd.enc)),(37,.int .i64 c.nodes.length),(38,.int .i64 i)])
  (λi=>[some (.row 4 [[sl c.nc (c.nodes.map Nd.enc),sl c.mc (c.names.map strR),.islice [[.islice [[.int .i64 mm.a]] (some 1),.islice [[.int .i64 mm.d0],[.int .i64 mm.d1]] (some 2),.int .i64 mm.w]] (some 1),sl c.oc (c.outs.map intR)]])]) (λi=>c.nodes.length-i) (λi=>i≤c.nodes.length) 0 ?_ (Nat.zero_le _) ?_
 ·(simp+decide only[go_sem,gcD_eq,gcIds_eq]<;>rfl)
 ·intro i hi;by_cases hlt:i<c.nodes.length
  ·obtain⟨x,hx⟩:∃x,c.nodes[i]?=some x:=⟨_,List.getElem?_eq_getElem hlt⟩
   have c1:(i:Int)<c.nodes.length:=by omega
   have hw:=wI1 (n:=i) (by omega);have hcx:=λH=>hno H x (List.mem_of_getElem? hx);simp only[Nd.enc]at hcx
   (repeat first|simp only[ww]|(apply xa;simp+decide only[go_sem,c1,hlt,hx,hw,hcx];rfl;kernel_rfl))
   refine lp_n (i+1) ?_ (by omega) (by omega)
   (simp+decide only[go_sem,gcD_eq,gcIds_eq]<;>rfl)
  ·obtain rfl:i=c.nodes.length:=by omega
   have c1:¬(c.nodes.length:Int)<c.nodes.length:=by omega
   (repeat first|simp only[ww]|(apply xa;simp+decide only[go_sem,c1,hna];rfl;kernel_rfl))
   refine xp_loop3 (σ:=Nat) kp109_3 (λi=>[(1,.ptr 0 0 0),(55,.islice [[.islice [[.int .i64 mm.a]] (some 1),.islice [[.int .i64 mm.d0],[.int .i64 mm.d1]] (some 2),.int .i64 mm.w]] (some 1)),(56,.int .i64 1),(57,.int .i64 i)])
    (λi=>[some (.row 4 [[sl c.nc (c.nodes.map Nd.enc),sl c.mc (c.names.map strR),.islice [[.islice [[.int .i64 mm.a]] (some 1),.islice [[.int .i64 mm.d0],[.int .i64 mm.d1]] (some 2),.int .i64 mm.w]] (some 1),sl c.oc (c.outs.map intR)]])]) (λi=>1-i) (λi=>i≤1) 0 ?_ (Nat.zero_le _) ?_
   ·(simp+decide only[go_sem,gcD_eq,gcIds_eq]<;>rfl)
   ·intro i hi;by_cases hi0:i=0
    ·subst hi0;have hme:=λ(d:Bool) H=>memory_call (d:=d) H c mm h;simp only[encM,memV]at hme
     (repeat first|simp only[ww]|(apply xa;simp+decide only[go_sem,hme];rfl;kernel_rfl))
     refine lp_n 1 ?_ (by omega) (by omega)
     (simp+decide only[go_sem,gcD_eq,gcIds_eq]<;>rfl)
    ·obtain rfl:i=1:=by omega
     (repeat first|simp only[ww]|(apply xa;simp+decide only[go_sem,hou,hcf];rfl;kernel_rfl))
     (apply fqb;simp+decide only[go_sem]<;>rfl)
theorem shape_callM{d:Bool}(H:Heap)(c:Cir)(mm:Mm)(h:wfM c mm):callV L.env d (sem L.env Mf) (.func (.func 109) [] []) [.agg (encM c mm)] H=some (.int .i64 0,H,[]):=callV_flat (by kernel_rfl) (by kernel_rfl) rfl (refs_cirAM c mm) (shape_okM c mm h) rfl
/-- At the head of the outer loop. -/
def J0M(c:Cir)(mm:Mm)(n:Nat)(F:Frm)(H:Heap):Prop:=∃i b ids fo,n=c.nodes.length-i∧i≤c.nodes.length∧
 F=[(3,.slice b 0 c.nodes.length (some c.nodes.length)),(4,outVM c mm),(18,sl c.nc (c.nodes.map Nd.enc)),(19,.int .i64 c.nodes.length),(20,.int .i64 i)]∧Two H b 2 ids (λ_=>none) (foE fo)∧FoOk c.nodes i 0 fo
/-- At the head of the inner loop. -/
def J2M(c:Cir)(mm:Mm)(i:Nat)(x:Nd)(n:Nat)(F:Frm)(H:Heap):Prop:=∃k b ids fo,n=x.ins.length-k∧k≤x.ins.length∧
 F=[(3,.slice b 0 c.nodes.length (some c.nodes.length)),(4,outVM c mm),(5,.int .i64 i),(18,sl c.nc (c.nodes.map Nd.enc)),(19,.int .i64 c.nodes.length),(20,.int .i64 i),(26,sl x.c (x.ins.map intR)),(27,.int .i64 x.ins.length),(28,.int .i64 k)]∧Two H b 2 ids (λ_=>none) (foE fo)∧FoOk c.nodes i k fo
theorem fanout_okM(c:Cir)(mm:Mm)(h:wfM c mm):∃r:AV×Heap,(∃fo,FoOk c.nodes c.nodes.length 0 fo∧r=(AV.islice ((foE fo).mapIdx λj f=>[slF (cpT fo c.nodes.length j) f]) (some c.nodes.length),[]))∧sem L.env Mf 111 [.agg (encM c mm)] []=some r:=by
 have hn:=h.len;have hou:=λH=>outside_callM (d:=false) H c mm;have hrm:c.nodes.length≤1000000000:=by omega
 have hov:refs (outVM c mm)=[]:=rfl;have hor:∀π,ren π (outVM c mm)=outVM c mm:=λπ=>ren_flat π _ rfl;have ho1:=λH m hm=>out1_callM (d:=false) H c mm m hm;generalize hO:outVM c mm=O at hou hov hor ho1;simp only[encM,memV]at hou⊢
 (refine svE Tryz.f111 ?_;simp only[Tryz.f111,gS])
 (repeat first|simp only[ww]|(apply xa;simp+decide only[go_sem,hou,hrm];rfl;kernel_rfl))
 refine xp_lp kp111_0 (J0M c mm) (c.nodes.length-0) ?_ ?_
 ·refine two_head (two_init _ c.nodes.length 1 rfl) ?_ (by rw[foE_len];simp;omega) ?_
  ·exact .inl (by simp+decide only[go_sem,hov])
  ·intro π b' ids' H1 hb hT;refine⟨0,b',ids',_,rfl,Nat.zero_le _,?_,hT,FoOk.zero _⟩;simp+decide only[go_sem,hb,hor,hO]<;>rfl
 ·rintro n F H ⟨i,b,ids,fo,rfl,hi,rfl,hT,hF⟩
  by_cases hlt:i<c.nodes.length
  ·obtain⟨x,hx⟩:∃x,c.nodes[i]?=some x:=⟨_,List.getElem?_eq_getElem hlt⟩
   have c1:(i:Int)<c.nodes.length:=by omega
   have hw:=wI1 (n:=i) (by omega);have hbl:=heapF_lt hT.top;have hxi:=insAt_get hx;rw[hO]
   (repeat first|simp only[ww]|(apply xa;simp+decide only[go_sem,c1,hlt,hx,hw,heapF_hi0,heapF_hi,set_hi0,set_hi,lt_add1];rfl;kernel_rfl))
   refine xp_lp kp111_2 (J2M c mm i x) (x.ins.length-0) ?_ ?_
   ·refine two_head (hT.more) ?_ (by rw[foE_len,hF.len];omega) ?_
    ·exact .inl (by simp+decide only[go_sem,hov])
    ·intro π b' ids' H1 hb hT;refine⟨0,b',ids',_,rfl,Nat.zero_le _,?_,hT,hF⟩;simp+decide only[go_sem,hb,hor,hO]<;>rfl
   ·rintro n F H ⟨k,b,ids,fo,rfl,hk,rfl,hT,hF⟩
    rw[hO];by_cases hkl:k<x.ins.length
    ·obtain⟨m,hm⟩:∃m,x.ins[k]?=some m:=⟨_,List.getElem?_eq_getElem hkl⟩
     have hmn:=h.ins x (List.mem_of_getElem? hx) m (List.mem_of_getElem? hm);have hom:=λH=>ho1 H m hmn;have c2:(k:Int)<x.ins.length:=by omega
     have hil:=h.insl (List.mem_of_getElem? hx);have hw2:=wI1 (n:=k) (by omega);have hbl:=heapF_lt hT.top;have htop:=hT.top;have hmf:m<fo.length:=by rw[hF.len];exact hmn
     obtain⟨L,hL⟩:∃L,fo[m]?=some L:=⟨_,List.getElem?_eq_getElem hmf⟩
     have hget:=rows2_get (ids:=ids) (cp:=λ_=>none) (foE_get hL);have hstep:=hF.step (by rw[hxi];exact hm) hL;have hrl:(rows2 ids (λ_=>none) (foE fo)).length=c.nodes.length:=by rw[rows2_len,foE_len,hF.len]
     cases L with
     |nil=>
      simp only[List.map_nil,slV]at hget
      (repeat first|simp only[ww]|(apply xa;simp+decide only[go_sem,c2,hkl,hm,hw2,hom,hbl,htop,hmn,hget,heapF_hi0,heapF_hi,heapF_lo,set_hi0,set_hi,set_lo,lt_add1,lt_add_s,List.append_assoc,List.cons_append,List.nil_append,hrl];rfl;kernel_rfl))
      refine lpJ_n (x.ins.length-(k+1)) (by omega) ?_;have hT2:=hT.app1 (o:=some (.row 2 [lineR (i,k)])) (x:=lineR (i,k)) (foE_get hL) rfl rfl;have e2:(foE fo).set m [lineR (i,k)]=foE (fo.set m ([]++[(i,k)])):=foE_set fo m [] i k;rw[e2]at hT2;refine two_head hT2 ?_ (by rw[foE_len,List.length_set,hF.len];omega) ?_
      ·exact .inl (by simp+decide only[go_sem,hov])
      ·intro π b' ids' H1 hb hT;refine⟨k+1,b',ids',_,rfl,hkl,?_,hT,hstep⟩;simp+decide only[go_sem,hb,hor,hO]<;>rfl
     |cons a r=>
      simp only[List.map_cons,slV]at hget;have hsub:=hT.sub m _ (foE_get hL) (by simp);obtain⟨s1,s2⟩:=hsub;have s3:=heapF_lt s1;simp only[List.map_cons]at s1;have hLl:r.length+1+1≤1000000000:=by have:=hF.totalM hL (h.len) (λy hy=>h.insl hy);simp only[List.length_cons]at this;omega
      (repeat first|simp only[ww]|(apply xa;simp+decide only[go_sem,c2,hkl,hm,hw2,hom,hbl,htop,hmn,hget,heapF_hi0,heapF_hi,heapF_lo,heapF_setF,List.length_set,s1,s2,s3,hLl,set_hi0,set_hi,set_lo,lt_add1,lt_add_s,List.append_assoc,List.cons_append,List.nil_append,hrl];rfl;kernel_rfl))
      refine lpJ_n (x.ins.length-(k+1)) (by omega) ?_;have hT2:=hT.app2 (o:=some (.row 2 [lineR (i,k)])) (x:=lineR (i,k)) (foE_get hL) rfl rfl;have e2:(foE fo).set m (lineR a::List.map lineR r++[lineR (i,k)])=foE (fo.set m (a::r++[(i,k)])):=foE_set fo m (a::r) i k;rw[e2]at hT2;rw[List.length_map]at hT2;refine two_head hT2 ?_ (by rw[foE_len,List.length_set,hF.len];omega) ?_
      ·exact .inl (by simp+decide only[go_sem,hov])
      ·intro π b' ids' H1 hb hT;refine⟨k+1,b',ids',_,rfl,hkl,?_,hT,hstep⟩;simp+decide only[go_sem,hb,hor,hO]<;>rfl
    ·obtain rfl:k=x.ins.length:=by omega
     have c2:¬(x.ins.length:Int)<x.ins.length:=by omega
     (repeat first|simp only[ww]|(apply xa;simp+decide only[go_sem,c2,hw];rfl;kernel_rfl))
     refine lpJ_n (c.nodes.length-(i+1)) (by omega) ?_;refine two_head hT ?_ (by rw[foE_len,hF.len];omega) ?_
     ·exact .inl (by simp+decide only[go_sem,hov])
     ·intro π b' ids' H1 hb hT;refine⟨i+1,b',ids',_,rfl,by omega,?_,hT,hF.next (by rw[hxi])⟩;simp+decide only[go_sem,hb,hor,hO]<;>rfl
  ·obtain rfl:i=c.nodes.length:=by omega
   have c1:¬(c.nodes.length:Int)<c.nodes.length:=by omega
   rw[hO]
   (repeat first|simp only[ww]|(apply xa;simp+decide only[go_sem,c1];rfl;kernel_rfl))
   refine xp_lp kp111_4 (J4 c fo) (c.nodes.length-0) ?_ ?_
   ·refine two_head hT ?_ (by rw[foE_len,hF.len];omega) ?_
    ·exact .inr (by simp+decide only[go_sem,hov])
    ·intro π b' ids' H1 hb hT;refine⟨0,b',ids',rfl,Nat.zero_le _,?_,by rw[cpT_zero];exact hT⟩;simp+decide only[go_sem,hb,hor,hO]<;>rfl
   ·rintro n F H ⟨t,b,ids,rfl,ht,rfl,hT⟩
    by_cases htl:t<c.nodes.length
    ·have c2:(t:Int)<c.nodes.length:=by omega
     have hw2:=wI1 (n:=t) (by omega);have hbl:=heapF_lt hT.top;have htop:=hT.top;obtain⟨L,hL⟩:∃L,fo[t]?=some L:=⟨_,List.getElem?_eq_getElem (by rw[hF.len];exact htl)⟩
     have hget:=rows2_get (ids:=ids) (cp:=cpT fo t) (foE_get hL);have hct:cpT fo t t=none:=by simp[cpT]
     have hrl:(rows2 ids (cpT fo t) (foE fo)).length=c.nodes.length:=by rw[rows2_len,foE_len,hF.len]
     rw[hct]at hget;have hfin:∀H1,H1=H.set b (some (.row 1 ((rows2 ids (cpT fo t) (foE fo)).set t [slV (ids t) (some L.length) (L.map lineR)])))→Two H1 b 2 ids (cpT fo (t+1)) (foE fo):=by
      intro H1 hH1;have:=hT.clip (H1:=H1) (foE_get hL) (by rw[hH1,heapF_set_eq hbl]) (λc hc=>by rw[hH1,heapF_set_ne (Ne.symm hc)])
      rwa [cpT_succ hL]at this
     cases L with
     |nil=>
      simp only[List.map_nil,slV]at hget;have hcl:=λH=>clipL_callN (d:=false) H
      (repeat first|simp only[ww]|(apply xa;simp+decide only[go_sem,c2,htl,hw2,hbl,htop,hget,hcl,hrl,List.length_set];rfl;kernel_rfl))
      refine lpJ_n (c.nodes.length-(t+1)) (by omega) ?_;refine two_head (hfin _ rfl) ?_ (by rw[foE_len,hF.len];omega) ?_
      ·exact .inr (by simp+decide only[go_sem,hov])
      ·intro π b' ids' H1 hb hT;refine⟨t+1,b',ids',rfl,by omega,?_,hT⟩;simp+decide only[go_sem,hb,hor,hO]<;>rfl
     |cons a r=>
      simp only[List.map_cons,slV]at hget;obtain⟨s1,s2⟩:=hT.sub t _ (foE_get hL) (by simp);have hcl:=clipL_call (d:=false) (H:=H) (b:=ids t) (n:=r.length+1) (hT.flat _ (List.mem_of_getElem? (foE_get hL))) s1
      (repeat first|simp only[ww]|(apply xa;simp+decide only[go_sem,c2,htl,hw2,hbl,htop,hget,hcl,hrl,List.length_set];rfl;kernel_rfl))
      refine lpJ_n (c.nodes.length-(t+1)) (by omega) ?_;refine two_head (hfin _ (by simp only[List.map_cons,slV,List.length_map,List.length_cons])) ?_ (by rw[foE_len,hF.len];omega) ?_
      ·exact .inr (by simp+decide only[go_sem,hov])
      ·intro π b' ids' H1 hb hT;refine⟨t+1,b',ids',rfl,by omega,?_,hT⟩;simp+decide only[go_sem,hb,hor,hO]<;>rfl
    ·obtain rfl:t=c.nodes.length:=by omega
     have c2:¬(c.nodes.length:Int)<c.nodes.length:=by omega
     have hz:=hT.frz (some c.nodes.length);rw[foE_len,hF.len]at hz
     (repeat first|simp only[ww]|(apply xa;simp+decide only[go_sem,c2];rfl;kernel_rfl))
     refine fqE_n (vs:=[.slice b 0 c.nodes.length (some c.nodes.length)]) (r:=(_,[])) (by simp+decide only[go_sem]) ?_ ⟨fo,hF,rfl⟩;show finish false 0 (.slice b 0 c.nodes.length (some c.nodes.length)) H=_;rw[finish_eq,hz];rfl
theorem fanout_callM(c:Cir)(mm:Mm)(h:wfM c mm):∃fo,FoOk c.nodes c.nodes.length 0 fo∧∀(d:Bool) (H:Heap),callV L.env d (sem L.env Mf) (.func (.func 111) [] []) [.agg (encM c mm)] H=some (.islice (foR c fo) (some c.nodes.length),H,[]):=by obtain⟨r,⟨fo,h1,rfl⟩,h2⟩:=fanout_okM c mm h;exact⟨fo,h1,λd H=>callV_flat (by kernel_rfl) (by kernel_rfl) rfl (refs_cirAM c mm) h2 rfl⟩
def kcbM(c:Cir)(mm:Mm):Option AObj:=some (.row 4 [[sl c.nc (c.nodes.map Nd.enc),sl c.mc (c.names.map strR),.islice [[.islice [[.int .i64 mm.a]] (some 1),.islice [[.int .i64 mm.d0],[.int .i64 mm.d1]] (some 2),.int .i64 mm.w]] (some 1),sl c.oc (c.outs.map intR)]])
attribute [go_sem] kcbM
def JL2M(c:Cir)(mm:Mm)(fo:List (List (Nat×Nat)))(n:Nat)(F:Frm)(H:Heap):Prop:=∃(out left ready:List Nat) (done:Nat),n=c.nodes.length-done∧
 F=[(1,.ptr 0 0 0),(5,.slice 1 0 c.nodes.length (some c.nodes.length)),(6,.slice 2 0 c.nodes.length (some c.nodes.length)),(7,grV 3 (ready.map intR)),(10,.islice (foR c fo) (some c.nodes.length)),(11,.int .i64 done)]∧
 H=[kcbM c mm,some (.row 1 (out.map intR)),some (.row 1 (left.map intR))]++grH 1 (ready.map intR)∧Kahn c.nodes left ready done []∧out.length=c.nodes.length∧(∀v∈out,v≤300*done)∧Lev c.nodes out ready done []
def JL4M(c:Cir)(mm:Mm)(fo:List (List (Nat×Nat)))(done x:Nat)(L:List (Nat×Nat))(n:Nat)(F:Frm)(H:Heap):Prop:=∃(out left ready:List Nat) (q:Nat),n=L.length-q∧q≤L.length∧
 F=[(1,.ptr 0 0 0),(5,.slice 1 0 c.nodes.length (some c.nodes.length)),(6,.slice 2 0 c.nodes.length (some c.nodes.length)),(7,grV 3 (ready.map intR)),(10,.islice (foR c fo) (some c.nodes.length)),(11,.int .i64 (done+1:Nat)),(12,.int .i64 x),(76,.islice (L.map lineR) (some L.length)),(77,.int .i64 L.length),(78,.int .i64 q)]∧
 H=[kcbM c mm,some (.row 1 (out.map intR)),some (.row 1 (left.map intR))]++grH 1 (ready.map intR)∧Kahn c.nodes left ready done (L.take q)∧ready[done]?=some x∧out.length=c.nodes.length∧(∀v∈out,v≤300*done+q)∧Lev c.nodes out ready done (L.take q)
theorem levels_okM(c:Cir)(mm:Mm)(h:wfM c mm):∃r:AV×Heap,(∃lv:List Nat,lv.length=c.nodes.length∧(∀v∈lv,v≤100000)∧Rises c.nodes lv∧r=(.tuple [.islice (lv.map intR) (some c.nodes.length),.int .i64 0],[]))∧sem L.env Mf 65 [.agg (encM c mm)] []=some r:=by
 have hn:=h.len;obtain⟨fo,hfo,hfc⟩:=fanout_callM c mm h;have hfc:=hfc false;have hsh:=λH=>shape_callM (d:=false) H c mm h;have hrm:c.nodes.length≤1000000000:=by omega
 have hko:refsO (kcbM c mm)=[]:=by simp only[go_sem]
 simp only[encM,memV]at hfc hsh⊢
 (refine svE Tryz.f65 ?_;simp only[Tryz.f65,gS])
 (repeat first|simp only[ww]|(apply xa;simp+decide only[go_sem,hsh,hrm];rfl;kernel_rfl))
 refine xp_loop3 (σ:=Nat) kp65_0 (λi=>[(1,.ptr 0 0 0),(5,.slice 1 0 c.nodes.length (some c.nodes.length)),(6,.slice 2 0 c.nodes.length (some c.nodes.length)),(7,grV 3 ((readyTo c.nodes i).map intR)),(29,sl c.nc (c.nodes.map Nd.enc)),(30,.int .i64 c.nodes.length),(31,.int .i64 i)])
  (λi=>[kcbM c mm,some (.row 1 ((List.replicate c.nodes.length 0).map intR)),some (.row 1 ((leftTo c.nodes i).map intR))]++grH 1 ((readyTo c.nodes i).map intR)) (λi=>c.nodes.length-i) (λi=>i≤c.nodes.length) 0 ?_ (Nat.zero_le _) ?_
 ·rw[leftTo_zero,show readyTo c.nodes 0=[]from rfl]
  (simp+decide only[go_sem,gcD_eq,gcIds_eq,rep0,List.map_nil,grV_nil,grH_nil,flat_i,ren_i]<;>rfl)
 ·intro i hi;by_cases hlt:i<c.nodes.length
  ·obtain⟨x,hx⟩:∃x,c.nodes[i]?=some x:=⟨_,List.getElem?_eq_getElem hlt⟩
   have c1:(i:Int)<c.nodes.length:=by omega
   have hw:=wI1 (n:=i) (by omega);have k14:=h.kind x (List.mem_of_getElem? hx);have hcb:=λH=>comb_call (d:=false) H x.kind (by omega);have hll:(leftTo c.nodes i).length=c.nodes.length:=by simp[leftTo]
   have hgl:(leftTo c.nodes i)[i]?=some 0:=by rw[leftTo_get hlt];simp
   have hrl:=readyTo_le c.nodes i;have hrs:=readyTo_succ c.nodes i;have hset:=leftTo_succ hlt;have hgl2:(leftTo c.nodes (i+1))[i]?=some (need c.nodes i):=by rw[leftTo_get hlt];simp
   have hnd:need c.nodes i=if isComb x.kind=true then x.ins.length else 0:=by unfold need;rw[kindAt_get hx,insAt_get hx]
   have hsetR:((leftTo c.nodes i).map intR).set i [AV.int .i64 (need c.nodes i)]=(leftTo c.nodes (i+1)).map intR:=by rw[←hset,List.map_set];rfl
   by_cases hcm:isComb x.kind=true
   ·rw[if_pos hcm]at hnd;rw[hnd]at hsetR hgl2 hrs;by_cases hz:x.ins.length=0
    ·rw[if_pos hz]at hrs;have hz':(x.ins.length:Int)=0:=by omega
     rw[hz]at hsetR hgl2;generalize readyTo c.nodes i=l at hrl hrs;cases l with
     |nil=>
      (repeat first|simp only[ww]|(apply xa;simp+decide only[go_sem,c1,hlt,hx,hw,hcb,hcm,hll,hgl,hsetR,hgl2,hz,List.map_nil,grV_nil,grH_nil];rfl;kernel_rfl))
      refine lp_n (i+1) ?_ (by omega) (by omega);rw[hrs]
      (simp+decide only[go_sem,gcD_eq,gcIds_eq,List.map_nil,List.nil_append,List.map_cons,grV_cons,grH_cons,List.length_nil,flat_i,ren_i]<;>rfl)
     |cons a r=>
      simp only[List.length_cons]at hrl;have hrm2:r.length+1+1≤1000000000:=by omega
      (repeat first|simp only[ww]|(apply xa;simp+decide only[go_sem,c1,hlt,hx,hw,hcb,hcm,hll,hgl,hsetR,hgl2,hz,List.map_cons,grV_cons,grH_cons,hrm2,List.length_cons];rfl;kernel_rfl))
      refine lp_n (i+1) ?_ (by omega) (by omega);rw[hrs]
      (simp+decide only[go_sem,gcD_eq,gcIds_eq,List.cons_append,List.map_cons,grV_cons,grH_cons,flat_i,ren_i,List.length_cons]<;>rfl)
    ·rw[if_neg hz]at hrs;have hz':¬(x.ins.length:Int)=0:=by omega
     generalize readyTo c.nodes i=l at hrl hrs;cases l with
     |nil=>
      (repeat first|simp only[ww]|(apply xa;simp+decide only[go_sem,c1,hlt,hx,hw,hcb,hcm,hll,hgl,hsetR,hgl2,hz',List.map_nil,grV_nil,grH_nil];rfl;kernel_rfl))
      refine lp_n (i+1) ?_ (by omega) (by omega);rw[hrs]
      (simp+decide only[go_sem,gcD_eq,gcIds_eq,List.map_nil,grV_nil,grH_nil,flat_i,ren_i]<;>rfl)
     |cons a r=>
      (repeat first|simp only[ww]|(apply xa;simp+decide only[go_sem,c1,hlt,hx,hw,hcb,hcm,hll,hgl,hsetR,hgl2,hz',List.map_cons,grV_cons,grH_cons];rfl;kernel_rfl))
      refine lp_n (i+1) ?_ (by omega) (by omega);rw[hrs]
      (simp+decide only[go_sem,gcD_eq,gcIds_eq,List.map_cons,grV_cons,grH_cons,flat_i,ren_i]<;>rfl)
   ·have hcm:isComb x.kind=false:=by simpa using hcm
    rw[hcm]at hnd;have hnd:need c.nodes i=0:=hnd;rw[hnd,if_pos rfl]at hrs;have hsame:=leftTo_same hlt hnd
    ·
     generalize readyTo c.nodes i=l at hrl hrs;cases l with
     |nil=>
      (repeat first|simp only[ww]|(apply xa;simp+decide only[go_sem,c1,hlt,hx,hw,hcb,hcm,hll,hgl,List.map_nil,grV_nil,grH_nil];rfl;kernel_rfl))
      refine lp_n (i+1) ?_ (by omega) (by omega);rw[hrs,←hsame]
      (simp+decide only[go_sem,gcD_eq,gcIds_eq,List.map_nil,List.nil_append,List.map_cons,grV_cons,grH_cons,List.length_nil,flat_i,ren_i]<;>rfl)
     |cons a r=>
      simp only[List.length_cons]at hrl;have hrm2:r.length+1+1≤1000000000:=by omega
      (repeat first|simp only[ww]|(apply xa;simp+decide only[go_sem,c1,hlt,hx,hw,hcb,hcm,hll,hgl,List.map_cons,grV_cons,grH_cons,hrm2,List.length_cons];rfl;kernel_rfl))
      refine lp_n (i+1) ?_ (by omega) (by omega);rw[hrs,←hsame]
      (simp+decide only[go_sem,gcD_eq,gcIds_eq,List.cons_append,List.map_cons,grV_cons,grH_cons,flat_i,ren_i,List.length_cons]<;>rfl)
  ·obtain rfl:i=c.nodes.length:=by omega
   have c1:¬(c.nodes.length:Int)<c.nodes.length:=by omega
   have hK:=Kahn.start c.nodes;generalize readyTo c.nodes c.nodes.length=ready at hK;generalize leftTo c.nodes c.nodes.length=left at hK
   (repeat first|simp only[ww]|(apply xa;simp+decide only[go_sem,c1,hfc];rfl;kernel_rfl))
   refine xp_lp kp65_2 (JL2M c mm fo) (c.nodes.length-0) ?_ ?_
   ·refine⟨_,_,?_,List.replicate c.nodes.length 0,left,ready,0,rfl,rfl,rfl,hK,by simp,by simp,Lev.start _ _ _⟩;cases ready with
    |nil=>(simp+decide only[go_sem,gcD_eq,gcIds_eq,List.map_nil,grV_nil,grH_nil,flat_i,ren_i]<;>rfl)
    |cons a r=>(simp+decide only[go_sem,gcD_eq,gcIds_eq,List.map_cons,grV_cons,grH_cons,flat_i,ren_i]<;>rfl)
   ·rintro n F H ⟨out,left,ready,done,rfl,rfl,rfl,hK,hol,hob,hV⟩
    have hne:ready≠[]:=by
     rintro rfl
     have hd0:done=0:=by have:=hK.dle;simpa using this
     subst hd0;have h1:c.nodes.length≤0:=hK.all h.acyc;have h2:=h.pos;omega
    have hbd:=hK.bound;have hdl:=hK.dle;have hneE:ready.map intR≠[]:=by simpa using hne
    rw[grV_ne 3 hneE,grH_ne 1 hneE,List.length_map];have hwd:=wI1 (n:=done) (by omega);have hll:=hK.ll;by_cases hlt:done<ready.length
    ·obtain⟨x,hx⟩:∃x,ready[done]?=some x:=⟨_,List.getElem?_eq_getElem hlt⟩
     have hxn:=hK.rn x (List.mem_of_getElem? hx);have c1:(done:Int)<ready.length:=by omega
     obtain⟨L,hL⟩:∃L,fo[x]?=some L:=⟨_,List.getElem?_eq_getElem (by rw[hfo.len];exact hxn)⟩
     have hLn:=hfo.node hL (Nat.le_refl _);have hLt:=hfo.totalM hL hn (λy hy=>h.insl hy);have hLc:∀a,a<c.nodes.length→cnt L a=(insAt c.nodes a).count x:=λa ha=>by rw[hfo.num x L hL a,if_pos ha]
     have hg:=foR_get hL hxn;cases hLL:L with
     |nil=>
      subst hLL;simp only[List.map_nil,slF]at hg
      (repeat first|simp only[ww]|(apply xa;simp+decide only[go_sem,c1,hlt,hx,hwd,hg];rfl;kernel_rfl))
      refine lpJ_n (c.nodes.length-(done+1)) (by omega) ⟨_,_,?_,out,left,ready,done+1,rfl,rfl,rfl,hK.next hx hLc,hol,λv hv=>by have:=hob v hv;omega,hV.next hx hLc⟩;rw[grV_ne 3 hneE,grH_ne 1 hneE]
      (simp+decide only[go_sem,gcD_eq,gcIds_eq,flat_i,ren_i]<;>rfl)
     |cons l0 lr=>
      rw[hLL]at hg;simp only[List.map_cons,slF]at hg;rw[←List.map_cons,←hLL]at hg;have hLp:L.length≠0:=by rw[hLL];simp
      have hLi:¬(L.length:Int)=0:=by omega
      have hLl:(L.map lineR).length=L.length:=List.length_map ..
      (repeat first|simp only[ww]|(apply xa;simp+decide only[go_sem,c1,hlt,hx,hwd,hg,hLi,hLl];rfl;kernel_rfl))
      refine xp_lp kp65_4 (JL4M c mm fo done x L) (L.length-0) ?_ ?_
      ·refine⟨_,_,?_,out,left,ready,0,rfl,Nat.zero_le _,rfl,rfl,by rw[List.take_zero];exact hK,hx,hol,λv hv=>by have:=hob v hv;omega,by rw[List.take_zero];exact hV⟩;rw[grV_ne 3 hneE,grH_ne 1 hneE]
       (simp+decide only[go_sem,gcD_eq,gcIds_eq,flat_i,ren_i]<;>rfl)<;>rfl
      ·clear hK hbd hdl hneE hll hob hol hx hlt c1 hne hV
       rintro n F H ⟨out,left,ready,q,rfl,hq,rfl,rfl,hK,hx,hol,hob,hV⟩
       have hbd:=hK.bound;have hdlt:=(List.getElem?_eq_some_iff.1 hx).1;have hne:ready≠[]:=by rintro rfl;simp at hdlt
       have hneE:ready.map intR≠[]:=by simpa using hne
       rw[grV_ne 3 hneE,grH_ne 1 hneE,List.length_map];have hll:=hK.ll;have hwq:=wI1 (n:=q) (by omega);by_cases hql:q<L.length
       ·obtain⟨l,hl⟩:∃l,L[q]?=some l:=⟨_,List.getElem?_eq_getElem hql⟩
        obtain⟨a,p⟩:=l;have han:a<c.nodes.length:=hLn (a,p) (List.mem_of_getElem? hl);obtain⟨y,hy⟩:∃y,c.nodes[a]?=some y:=⟨_,List.getElem?_eq_getElem han⟩
        have c2:(q:Int)<L.length:=by omega
        have k14:=h.kind y (List.mem_of_getElem? hy);have hcb:=λH=>comb_call (d:=false) H y.kind (by omega);have ht:=take_snoc hl;have hlR:(L.map lineR)[q]?=some [.int .i64 a,.int .i64 p]:=by rw[List.getElem?_map,hl];rfl
        by_cases hcm:isComb y.kind=true
        ·have hkc:isComb (kindAt c.nodes a)=true:=by rw[kindAt_get hy];exact hcm
         have hcn:Pc.cnt (L.take q++[(a,p)]) a≤pend c.nodes ready done a:=by refine Nat.le_trans ?_ (pend_ge hK.nd hx);rw[←hLc a han,←ht];unfold Pc.cnt;exact List.Sublist.count_le _ ((List.take_sublist _ _).map _)
         have hps:=hK.pos han hkc hcn;have hna:a∉ready:=λhm=>by have:=(hK.zero a han).1 hm;omega
         have hdc:=hK.dec han hkc hcn;rw[←ht]at hdc;obtain⟨va,hva⟩:∃v,out[a]?=some v:=⟨_,List.getElem?_eq_getElem (by omega)⟩
         obtain⟨vx,hvx⟩:∃v,out[x]?=some v:=⟨_,List.getElem?_eq_getElem (by omega)⟩
         obtain⟨w,hw⟩:∃v,left[a]?=some v:=⟨_,List.getElem?_eq_getElem (by omega)⟩
         have hwD:left.getD a 0=w:=by rw[List.getD,hw];rfl
         rw[hwD]at hps hdc;have bx:=hob vx (List.mem_of_getElem? hvx);have ba:=hob va (List.mem_of_getElem? hva);have hw1:=wI1 (n:=vx) (by omega);have hw2:IntKind.i64.wrap ((w:Int)-1)=((w-1:Nat):Int):=by
          have hwl:w≤100000:=by have h1:=hK.eq a han hkc;rw[hwD]at h1;have h2:pend c.nodes ready done a≤(insAt c.nodes a).length:=List.length_filter_le _ _;rw[insAt_get hy]at h2;have h3:=h.insl (List.mem_of_getElem? hy);omega
          rw[w64 (by omega) (by omega)];omega
         have hmx:amax (.int .i64 va) [.int .i64 ((vx+1:Nat):Int)]=some (.int .i64 ((max va (vx+1):Nat):Int)):=amax_nat _ _;have hsO:(out.map intR).set a [AV.int .i64 ((max va (vx+1):Nat):Int)]=(out.set a (max va (vx+1))).map intR:=by rw[List.map_set];rfl
         have hsL:(left.map intR).set a [AV.int .i64 ((w-1:Nat):Int)]=(left.set a (w-1)).map intR:=by rw[List.map_set];rfl
         have hgw:(left.set a (w-1))[a]?=some (w-1):=by rw[List.getElem?_set];simp;omega
         have hlo:(left.set a (w-1)).length=c.nodes.length:=by rw[List.length_set];exact hll
         have hoO:(out.set a (max va (vx+1))).length=c.nodes.length:=by rw[List.length_set];exact hol
         have hob2:∀v∈out.set a (max va (vx+1)),v≤300*done+(q+1):=by
          intro v hv;rcases List.mem_or_eq_of_mem_set hv with hv|rfl
          ·have:=hob v hv;omega
          ·omega
         have hdn:done<c.nodes.length:=by omega
         have han':a<left.length:=by omega
         have hxl:x<out.length:=by omega
         by_cases hz:w-1=0
         ·rw[if_pos hz]at hdc;have hz':decide (((w-1:Nat):Int)=0)=true:=decide_eq_true (by omega);have hrm2:ready.length+1≤1000000000:=by omega
          have hx':(ready++[a])[done]?=some x:=by rw[List.getElem?_append_left hdlt];exact hx
          (repeat first|simp only[ww]|(apply xa;simp+decide only[go_sem,c2,hql,hlR,hy,hcb,hcm,hwq,han,hva,hvx,hw,hol,hll,hxn,hw1,hw2,hmx,hsO,hsL,hgw,hlo,hoO,hz',hrm2];rfl;kernel_rfl))
          refine lpJ_n (L.length-(q+1)) (by omega) ⟨_,_,?_,out.set a (max va (vx+1)),left.set a (w-1),ready++[a],q+1,rfl,hql,rfl,rfl,hdc,hx',hoO,hob2,by rw[ht];exact hV.dec hx hna hva hvx (.inr rfl)⟩
          (simp+decide only[go_sem,gcD_eq,gcIds_eq,grV_snoc,grH_snoc,flat_i,ren_i]<;>rfl)<;>rfl
         ·rw[if_neg hz]at hdc;have hz':¬((w-1:Nat):Int)=0:=by omega
          (repeat first|simp only[ww]|(apply xa;simp+decide only[go_sem,c2,hql,hlR,hy,hcb,hcm,hwq,han,hva,hvx,hw,hol,hll,hxn,hw1,hw2,hmx,hsO,hsL,hgw,hlo,hoO,hz'];rfl;kernel_rfl))
          refine lpJ_n (L.length-(q+1)) (by omega) ⟨_,_,?_,out.set a (max va (vx+1)),left.set a (w-1),ready,q+1,rfl,hql,rfl,rfl,hdc,hx,hoO,hob2,by rw[ht];exact hV.dec hx hna hva hvx (.inl rfl)⟩;rw[grV_ne 3 hneE,grH_ne 1 hneE]
          (simp+decide only[go_sem,gcD_eq,gcIds_eq,flat_i,ren_i]<;>rfl)<;>rfl
        ·have hcm:isComb y.kind=false:=by simpa using hcm
         (repeat first|simp only[ww]|(apply xa;simp+decide only[go_sem,c2,hql,hlR,hy,hcb,hcm,hwq,han];rfl;kernel_rfl))
         refine lpJ_n (L.length-(q+1)) (by omega) ⟨_,_,?_,out,left,ready,q+1,rfl,hql,rfl,rfl,by rw[ht];exact hK.skip (by rw[kindAt_get hy];exact hcm),hx,hol,λv hv=>by have:=hob v hv;omega,by rw[ht];exact hV.skip (by rw[kindAt_get hy];exact hcm)⟩;rw[grV_ne 3 hneE,grH_ne 1 hneE]
         (simp+decide only[go_sem,gcD_eq,gcIds_eq,flat_i,ren_i]<;>rfl)<;>rfl
       ·obtain rfl:q=L.length:=by omega
        have c2:¬(L.length:Int)<L.length:=by omega
        rw[List.take_length]at hK hV
        (repeat first|simp only[ww]|(apply xa;simp+decide only[go_sem,c2];rfl;kernel_rfl))
        refine lpJ_n (c.nodes.length-(done+1)) (by omega) ⟨_,_,?_,out,left,ready,done+1,rfl,rfl,rfl,hK.next hx hLc,hol,λv hv=>by have:=hob v hv;omega,hV.next hx hLc⟩;rw[grV_ne 3 hneE,grH_ne 1 hneE]
        (simp+decide only[go_sem,gcD_eq,gcIds_eq,flat_i,ren_i]<;>rfl)<;>rfl
    ·obtain rfl:done=ready.length:=by omega
     have c1:¬(ready.length:Int)<ready.length:=by omega
     have hall:=hK.all h.acyc;have c2:¬(ready.length:Int)<c.nodes.length:=by omega
     (repeat first|simp only[ww]|(apply xa;simp+decide only[go_sem,c1,c2];rfl;kernel_rfl))
     refine fqE_r (vs:=[.slice 1 0 c.nodes.length (some c.nodes.length),.int .i64 0]) (r:=(_,[])) (by simp+decide only[go_sem]) ?_ ⟨out,hol,λv hv=>by have:=hob v hv;omega,hV.all hK hall,rfl⟩;show finish false 0 (.tuple [.slice 1 0 c.nodes.length (some c.nodes.length),.int .i64 0]) _=_;rw[←hol];simp+decide only[go_sem,frz_i]
theorem levels_callM(c:Cir)(mm:Mm)(h:wfM c mm):∃lv:List Nat,lv.length=c.nodes.length∧(∀v∈lv,v≤100000)∧Rises c.nodes lv∧∀(d:Bool) (H:Heap),callV L.env d (sem L.env Mf) (.func (.func 65) [] []) [.agg (encM c mm)] H=some (.tuple [.islice (lv.map intR) (some c.nodes.length),.int .i64 0],H,[]):=by obtain⟨r,⟨lv,h1,h2,hR,rfl⟩,h3⟩:=levels_okM c mm h;exact⟨lv,h1,h2,hR,λd H=>callV_flat (by kernel_rfl) (by kernel_rfl) rfl (refs_cirAM c mm) h3 rfl⟩
theorem ncheck_okM(c:Cir)(mm:Mm)(h:wfM c mm):sem L.env Mf 19 [.agg (encM c mm)] []=some (.int .i64 0,[]):=by
 obtain⟨lv,_,_,_,hc⟩:=levels_callM c mm h;have hc:=hc false;simp only[encM,memV]at hc⊢
 (refine sv Tryz.f19 ?_;simp only[Tryz.f19,gS])
 (repeat first|simp only[ww]|(apply xa;simp+decide only[go_sem,hc];rfl;kernel_rfl))
 (apply fqb;simp+decide only[go_sem]<;>rfl)
theorem ncheck_callM{d:Bool}(H:Heap)(c:Cir)(mm:Mm)(h:wfM c mm):callV L.env d (sem L.env Mf) (.func (.func 19) [] []) [.agg (encM c mm)] H=some (.int .i64 0,H,[]):=callV_flat (by kernel_rfl) (by kernel_rfl) rfl (refs_cirAM c mm) (ncheck_okM c mm h) rfl
end Go.FInst
